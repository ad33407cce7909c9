import PyProof.Rows.All
import Wide.All
import OpenK.AllK
import Wide.FinOn
import HandS.ForMost
import HandS.ForExc
import HandS.ExcCtx
import HandS.HotCalls
import HandS.Defaults
import HandS.DictTup
import HandS.CallSlots
import HandS.Style
import HandS.TupLe
import HandS.IsInst
import HandS.ExcIs
import HandS.Deep
import HandS.Head0
import HandS.Head1
import HandS.Head2
import HandS.HeadEnd
import HandS.HeadHook1
import HandS.HeadHook2
import HandS.Rev
import HandS.Text
import HandS.Codes
import PySem.Challenge.RW_lampyard_k17_unread
set_option Elab.async false
set_option maxRecDepth 100000
set_option linter.all false
set_option maxHeartbeats 1000000
/-! A small program logic over the hand layer: what a value is, by a predicate over the part of the heap that stands still (Pr); the lists and dicts that change, by address (Del); judgements EE (an expression's value), ET (a test), EA (arguments), ES (a list that is read), EM (an expression with effects), Go (a block). -/
namespace Yb
open PySem PySem.Spec PyProof.Rows L2

/-! ### predicates of values -/
/-- h: the heap at the block's entry (what is new is told by it); B: what stands still -/
structure Pr where
  p : Hp → Hp → V → Prop
  mono : ∀ {h B B' : Hp} {v : V}, Same B B' → p h B v → p h B' v
  anti : ∀ {h h' B : Hp} {v : V}, (∀ a, h' a ≠ none → h a ≠ none) → p h B v → p h' B v
def All (h B : Hp) : List Pr → List V → Prop
  | [], [] => True
  | P :: ps, v :: vs => P.p h B v ∧ All h B ps vs
  | _, _ => False
theorem All.mono {h B B' : Hp} (e : Same B B') : ∀ {ps : List Pr} {vs : List V}, All h B ps vs → All h B' ps vs
  | [], [], _ => trivial
  | P :: _, _ :: _, h => ⟨P.mono e h.1, All.mono e h.2⟩
  | [], _ :: _, h => h.elim
  | _ :: _, [], h => h.elim
theorem All.len {h B : Hp} : ∀ {ps : List Pr} {vs : List V}, All h B ps vs → ps.length = vs.length
  | [], [], _ => rfl
  | _ :: _, _ :: _, h => congrArg (· + 1) (All.len h.2)
  | [], _ :: _, h => h.elim
  | _ :: _, [], h => h.elim
theorem All.get {h B : Hp} : ∀ {ps : List Pr} {vs : List V} {i : Nat} {P : Pr}, All h B ps vs → ps[i]? = some P → ∃ v, vs[i]? = some v ∧ P.p h B v
  | _ :: _, v :: _, 0, _, h, e => ⟨v, rfl, by rw [List.getElem?_cons_zero] at e; cases e; exact h.1⟩
  | _ :: _, _ :: _, i + 1, P, h, e => by
    rw [List.getElem?_cons_succ] at e ⊢
    exact All.get h.2 e
  | [], _, _, _, _, e => by simp at e
  | _ :: _, [], _, _, h, _ => h.elim
theorem All.set {h B : Hp} {P : Pr} {v : V} (h0 : P.p h B v) : ∀ {ps : List Pr} {vs : List V} (i : Nat), All h B ps vs → All h B (ps.set i P) (vs.set i v)
  | [], [], _, _ => trivial
  | _ :: _, _ :: _, 0, h => ⟨h0, h.2⟩
  | _ :: _, _ :: _, i + 1, h => ⟨h.1, All.set h0 i h.2⟩
  | [], _ :: _, _, h => h.elim
  | _ :: _, [], _, h => h.elim
theorem All.app {h B : Hp} {qs : List Pr} {us : List V} (h2 : All h B qs us) : ∀ {ps : List Pr} {vs : List V}, All h B ps vs → All h B (ps ++ qs) (vs ++ us)
  | [], [], _ => h2
  | _ :: _, _ :: _, h => ⟨h.1, All.app h2 h.2⟩
  | [], _ :: _, h => h.elim
  | _ :: _, [], h => h.elim
theorem All.take {h B : Hp} : ∀ {ps : List Pr} {vs : List V} (n : Nat), All h B ps vs → All h B (ps.take n) (vs.take n)
  | _, _, 0, _ => by rw [List.take_zero, List.take_zero]; trivial
  | [], [], _ + 1, _ => trivial
  | _ :: _, _ :: _, n + 1, h => ⟨h.1, All.take n h.2⟩
  | [], _ :: _, _ + 1, h => h.elim
  | _ :: _, [], _ + 1, h => h.elim
theorem All.drop {h B : Hp} : ∀ {ps : List Pr} {vs : List V} (n : Nat), All h B ps vs → All h B (ps.drop n) (vs.drop n)
  | _, _, 0, h => h
  | [], [], _ + 1, _ => trivial
  | _ :: _, _ :: _, n + 1, h => All.drop n h.2
  | [], _ :: _, _ + 1, h => h.elim
  | _ :: _, [], _ + 1, h => h.elim
theorem All.one {h B : Hp} {P : Pr} {vs : List V} (q : All h B [P] vs) : ∃ v, vs = [v] ∧ P.p h B v := by
  match vs, q with
  | [v], q => exact ⟨v, rfl, q.1⟩
theorem All.two {h B : Hp} {P P' : Pr} {vs : List V} (q : All h B [P, P'] vs) : ∃ v u, vs = [v, u] ∧ P.p h B v ∧ P'.p h B u := by
  match vs, q with
  | [v, u], q => exact ⟨v, u, rfl, q.1, q.2.1⟩
theorem All.dropLast {h B : Hp} {ps : List Pr} {vs : List V} (q : All h B ps vs) : All h B ps.dropLast vs.dropLast := by
  rw [List.dropLast_eq_take, List.dropLast_eq_take, q.len]
  exact q.take _
theorem All.rev {h B : Hp} : ∀ {ps : List Pr} {vs : List V}, All h B ps vs → All h B ps.reverse vs.reverse
  | [], [], _ => trivial
  | P :: _, v :: _, h => by
    rw [List.reverse_cons, List.reverse_cons]
    exact All.app (qs := [P]) (us := [v]) ⟨h.1, trivial⟩ (All.rev h.2)
  | [], _ :: _, h => h.elim
  | _ :: _, [], h => h.elim
theorem All.erase {h B : Hp} : ∀ {ps : List Pr} {vs : List V} (i : Nat), All h B ps vs → All h B (ps.eraseIdx i) (vs.eraseIdx i)
  | [], [], _, _ => trivial
  | _ :: _, _ :: _, 0, h => h.2
  | _ :: _, _ :: _, i + 1, h => ⟨h.1, All.erase i h.2⟩
  | [], _ :: _, _, h => h.elim
  | _ :: _, [], _, h => h.elim

theorem All.anti {h h' B : Hp} (e : ∀ a, h' a ≠ none → h a ≠ none) : ∀ {ps : List Pr} {vs : List V}, All h B ps vs → All h' B ps vs
  | [], [], _ => trivial
  | P :: _, _ :: _, q => ⟨P.anti e q.1, All.anti e q.2⟩
  | [], _ :: _, q => q.elim
  | _ :: _, [], q => q.elim
def I (i : Int) : Pr := ⟨fun _ _ v => v = .int i, fun _ q => q, fun _ q => q⟩
def Bo (b : Bool) : Pr := ⟨fun _ _ v => v = .bl b, fun _ q => q, fun _ q => q⟩
def Sx (s : Str) : Pr := ⟨fun _ _ v => v = .str s, fun _ q => q, fun _ q => q⟩
def No : Pr := ⟨fun _ _ v => v = .non, fun _ q => q, fun _ q => q⟩
def Ty (n : String) : Pr := ⟨fun _ _ v => v = .ty n, fun _ q => q, fun _ q => q⟩
/-- just that object -/
def Ref (a : Addr) : Pr := ⟨fun _ _ v => v = .ref a, fun _ q => q, fun _ q => q⟩
def L (ps : List Pr) : Pr := ⟨fun h B v => ∃ a xs, v = .ref a ∧ B a = some (.lst xs) ∧ All h B ps xs, fun e ⟨a, xs, h1, h2, h3⟩ => ⟨a, xs, h1, e _ _ h2, h3.mono e⟩, fun e ⟨a, xs, h1, h2, h3⟩ => ⟨a, xs, h1, h2, h3.anti e⟩⟩
def T (ps : List Pr) : Pr := ⟨fun h B v => ∃ a xs, v = .ref a ∧ B a = some (.tup xs) ∧ All h B ps xs, fun e ⟨a, xs, h1, h2, h3⟩ => ⟨a, xs, h1, e _ _ h2, h3.mono e⟩, fun e ⟨a, xs, h1, h2, h3⟩ => ⟨a, xs, h1, h2, h3.anti e⟩⟩
/-- .. made behind the entry -/
def N (P : Pr) : Pr := ⟨fun h B v => P.p h B v ∧ ∀ a, v = .ref a → h a = none, fun e q => ⟨P.mono e q.1, q.2⟩, fun {h h' B v} e q => ⟨P.anti e q.1, fun a z => by
  cases r : h' a with
  | none => rfl
  | some o => exact absurd (q.2 a z) (e a (by rw [r]; intro w; cases w))⟩⟩
/-- a list of ints that is read only, perhaps known to the object (the script) -/
def Scr (K : PySem.W.Frag) (ns : List Int) : Pr := ⟨fun _ B v => ∃ a, v = .ref a ∧ SqL K B a (ns.map V.int), fun e ⟨a, h1, h2⟩ => ⟨a, h1, e.seq h2⟩, fun _ q => q⟩

theorem all_map {α : Type} {R : α → Pr} {f : α → V} {h B : Hp} (hf : ∀ x v, (R x).p h B v → v = f x) : ∀ {l : List α} {vs : List V}, All h B (l.map R) vs → vs = l.map f
  | [], [], _ => rfl
  | x :: l, v :: vs, q => by
    rw [List.map_cons, hf x v q.1, all_map hf q.2]
  | [], _ :: _, q => q.elim
  | _ :: _, [], q => q.elim
theorem map_all {α : Type} {R : α → Pr} {f : α → V} {h B : Hp} (hf : ∀ x, (R x).p h B (f x)) : ∀ l : List α, All h B (l.map R) (l.map f)
  | [] => trivial
  | x :: l => ⟨hf x, map_all hf l⟩
theorem all_ints {h B : Hp} {l : List Int} {vs : List V} (q : All h B (l.map I) vs) : vs = l.map V.int := all_map (fun _ _ q => q) q
theorem all_bools {h B : Hp} {l : List Bool} {vs : List V} (q : All h B (l.map Bo) vs) : vs = l.map V.bl := all_map (fun _ _ q => q) q
theorem all_strs {h B : Hp} {l : List Str} {vs : List V} (q : All h B (l.map Sx) vs) : vs = l.map V.str := all_map (fun _ _ q => q) q
theorem ints_all {h B : Hp} (l : List Int) : All h B (l.map I) (l.map V.int) := map_all (fun _ => rfl) l
theorem bools_all {h B : Hp} (l : List Bool) : All h B (l.map Bo) (l.map V.bl) := map_all (fun _ => rfl) l
theorem strs_all {h B : Hp} (l : List Str) : All h B (l.map Sx) (l.map V.str) := map_all (fun _ => rfl) l

/-! ### what changes -/
structure Ob where
  p : Hp → Hp → HO → Prop
  mono : ∀ {h B B' : Hp} {o : HO}, Same B B' → p h B o → p h B' o
  anti : ∀ {h h' B : Hp} {o : HO}, (∀ a, h' a ≠ none → h a ≠ none) → p h B o → p h' B o
def ML (ps : List Pr) : Ob := ⟨fun h B o => ∃ xs, o = .lst xs ∧ All h B ps xs, fun e ⟨xs, h1, h2⟩ => ⟨xs, h1, h2.mono e⟩, fun e ⟨xs, h1, h2⟩ => ⟨xs, h1, h2.anti e⟩⟩
abbrev Ent := Addr × Ob
abbrev Del := List Ent
abbrev Gam := List (Option Pr)

/-! ### heaps that grow -/
structure Ext (B H B' H' : Hp) : Prop where
  bb : Same B B'
  hh : Same H H'
  bh : Same B' H'
  fr : ∀ a, B a = none → H a ≠ none → B' a = none
theorem Ext.refl {B H : Hp} (e : Same B H) : Ext B H B H := ⟨Same.refl _, Same.refl _, e, fun _ h _ => h⟩
theorem Ext.trans {B H B1 H1 B2 H2 : Hp} (a : Ext B H B1 H1) (b : Ext B1 H1 B2 H2) : Ext B H B2 H2 :=
  ⟨a.bb.trans b.bb, a.hh.trans b.hh, b.bh, fun x h1 h2 => b.fr x (a.fr x h1 h2) fun z => h2 (a.hh.free z)⟩
theorem same_new {H : Hp} {q : Addr} {o : HO} (h : H q = none) : Same H (upd H q o) := fun b u e => by
  rw [upd_ne (ne_of_none e h)]
  exact e
theorem same_upd {B H : Hp} {q : Addr} {o : HO} (e : Same B H) : Same (upd B q o) (upd H q o) := fun b u h => by
  by_cases hb : b = q
  · subst hb
    rw [upd_same] at h ⊢
    exact h
  · rw [upd_ne hb] at h ⊢
    exact e b u h
theorem Ext.new {B H : Hp} {q : Addr} {o : HO} (e : Same B H) (h : H q = none) : Ext B H (upd B q o) (upd H q o) :=
  ⟨same_new (e.free h), same_new h, same_upd e, fun a h1 h2 => by
    have n : a ≠ q := fun z => h2 (by rw [z]; exact h)
    rw [upd_ne n]
    exact h1⟩
theorem Ext.newH {B H : Hp} {q : Addr} {o : HO} (e : Same B H) (h : H q = none) : Ext B H B (upd H q o) :=
  ⟨Same.refl _, same_new h, e.trans (same_new h), fun _ h1 _ => h1⟩

/-! ### the state between two steps -/
structure Ws where
  B : Hp
  H : Hp
  ms : List Addr
structure Stb (W : Ws) (Δ : Del) (B H : Hp) : Prop where
  ex : Same B H
  mu : ∀ e ∈ Δ, B e.1 = none ∧ ∃ o, H e.1 = some o ∧ e.2.p W.H B o
  nd : (Δ.map (·.1)).Nodup
  bb : Same W.B B
  hh : ∀ a o, W.H a = some o → a ∉ W.ms → H a = some o
  dm : ∀ a, W.H a ≠ none → H a ≠ none
  fr : ∀ a, W.B a = none → W.H a ≠ none → B a = none
  ow : ∀ e ∈ Δ, e.1 ∈ W.ms ∨ W.H e.1 = none
  msd : ∀ a ∈ W.ms, W.H a ≠ none
def Sl (Γ : Gam) (h B : Hp) (σ : L2.St) : Prop := Γ.length = σ.length ∧ ∀ (i : Nat) (P : Pr), Γ[i]? = some (some P) → ∃ v, σ[i]? = some (some v) ∧ P.p h B v
theorem Sl.mono {Γ : Gam} {h0 B B' : Hp} {σ : L2.St} (e : Same B B') (h : Sl Γ h0 B σ) : Sl Γ h0 B' σ := ⟨h.1, fun i P q => let ⟨v, h1, h2⟩ := h.2 i P q; ⟨v, h1, P.mono e h2⟩⟩
theorem Sl.set {Γ : Gam} {h0 B : Hp} {σ : L2.St} {P : Pr} {v : V} (j : Nat) (h : Sl Γ h0 B σ) (hp : P.p h0 B v) : Sl (Γ.set j (some P)) h0 B (σ.set j (some v)) := by
  refine ⟨by rw [List.length_set, List.length_set]; exact h.1, fun i P' q => ?_⟩
  by_cases hj : j = i
  · subst hj
    have hl : j < Γ.length := by
      have := (List.getElem?_eq_some_iff.mp q).1
      rw [List.length_set] at this
      exact this
    rw [List.getElem?_set_self hl] at q
    cases q
    exact ⟨v, List.getElem?_set_self (by rw [← h.1]; exact hl), hp⟩
  · rw [List.getElem?_set_ne hj] at q
    obtain ⟨u, h1, h2⟩ := h.2 i P' q
    exact ⟨u, by rw [List.getElem?_set_ne hj]; exact h1, h2⟩
/-- some slots forgotten -/
def Wk : Gam → Gam → Prop
  | [], [] => True
  | g :: r, g' :: r' => (g' = none ∨ g = g') ∧ Wk r r'
  | _, _ => False
theorem Wk.refl : ∀ Γ : Gam, Wk Γ Γ
  | [] => trivial
  | _ :: r => ⟨.inr rfl, Wk.refl r⟩
theorem Wk.get : ∀ {Γ Γ' : Gam}, Wk Γ Γ' → Γ.length = Γ'.length ∧ ∀ (i : Nat) (P : Pr), Γ'[i]? = some (some P) → Γ[i]? = some (some P)
  | [], [], _ => ⟨rfl, fun _ _ h => by simp at h⟩
  | g :: r, g' :: r', h => ⟨congrArg (· + 1) (Wk.get h.2).1, fun i P q => by
    cases i with
    | zero =>
      rw [List.getElem?_cons_zero] at q ⊢
      rcases h.1 with z | z
      · rw [z] at q; cases q
      · rw [z]; exact q
    | succ i =>
      rw [List.getElem?_cons_succ] at q ⊢
      exact (Wk.get h.2).2 i P q⟩
  | [], _ :: _, h => h.elim
  | _ :: _, [], h => h.elim
theorem Sl.wk {Γ Γ' : Gam} {h0 B : Hp} {σ : L2.St} (h : Sl Γ h0 B σ) (w : Wk Γ Γ') : Sl Γ' h0 B σ := ⟨w.get.1.symm.trans h.1, fun i P q => h.2 i P (w.get.2 i P q)⟩

section
variable {W : Ws} {Γ : Gam} {Δ : Del} {B H B' H' : Hp} {σ : L2.St}
theorem Stb.ext (S : Stb W Δ B H) (e : Ext B H B' H') : Stb W Δ B' H' where
  ex := e.bh
  mu := fun x hx => by
    obtain ⟨h1, o, h2, h3⟩ := S.mu x hx
    exact ⟨e.fr _ h1 (by rw [h2]; intro z; cases z), o, e.hh _ _ h2, x.2.mono e.bb h3⟩
  nd := S.nd
  bb := S.bb.trans e.bb
  hh := fun a o h n => e.hh _ _ (S.hh a o h n)
  dm := fun a h z => S.dm a h (e.hh.free z)
  fr := fun a h n => e.fr a (S.fr a h n) (S.dm a n)
  ow := S.ow
  msd := S.msd
theorem Stb.fresh (S : Stb W Δ B H) {a : Addr} (h : H a = none) : W.H a = none := by
  cases e : W.H a with
  | none => rfl
  | some u => exact absurd h (S.dm a (by rw [e]; intro z; cases z))
theorem Stb.frV (S : Stb W Δ B H) {r : Addr} (h : H r = none) : ∀ a, V.ref r = V.ref a → W.H a = none := fun a z => by
  injection z with z
  exact z ▸ S.fresh h
theorem Stb.refl (e : Same W.B W.H) (hΔ : ∀ x ∈ Δ, x.1 ∈ W.ms ∧ W.B x.1 = none ∧ ∃ o, W.H x.1 = some o ∧ x.2.p W.H W.B o) (nd : (Δ.map (·.1)).Nodup) (hm : ∀ a ∈ W.ms, W.H a ≠ none) : Stb W Δ W.B W.H :=
  ⟨e, fun x hx => (hΔ x hx).2, nd, Same.refl _, fun _ _ h _ => h, fun _ h => h, fun _ h _ => h, fun x hx => .inl (hΔ x hx).1, hm⟩
theorem Stb.sub {Δ' : Del} (S : Stb W Δ B H) (h : List.Sublist Δ' Δ) : Stb W Δ' B H :=
  ⟨S.ex, fun x hx => S.mu x (h.subset hx), S.nd.sublist (h.map _), S.bb, S.hh, S.dm, S.fr, fun x hx => S.ow x (h.subset hx), S.msd⟩
theorem Stb.perm {Δ' : Del} (S : Stb W Δ B H) (h : List.Perm Δ Δ') : Stb W Δ' B H :=
  ⟨S.ex, fun x hx => S.mu x (h.mem_iff.mpr hx), ((h.map _).nodup_iff).mp S.nd, S.bb, S.hh, S.dm, S.fr, fun x hx => S.ow x (h.mem_iff.mpr hx), S.msd⟩
theorem Stb.at (S : Stb W Δ B H) {k : Nat} {a : Addr} {ob : Ob} (h : Δ[k]? = some (a, ob)) : B a = none ∧ ∃ o, H a = some o ∧ ob.p W.H B o := S.mu (a, ob) (List.mem_of_getElem? h)
/-- an entry is written -/
theorem Stb.put (S : Stb W Δ B H) {k : Nat} {a : Addr} {ob ob' : Ob} {o' : HO} (h : Δ[k]? = some (a, ob)) (hp : ob'.p W.H B o') : Stb W (Δ.set k (a, ob')) B (upd H a o') := by
  obtain ⟨ba, o, ha, _⟩ := S.at h
  have hk : k < Δ.length := (List.getElem?_eq_some_iff.mp h).1
  have hke : Δ[k] = (a, ob) := (List.getElem?_eq_some_iff.mp h).2
  have em : (Δ.set k (a, ob')).map (·.1) = Δ.map (·.1) := by
    rw [List.map_set]
    apply List.ext_getElem?
    intro i
    by_cases hi : k = i
    · subst hi
      rw [List.getElem?_set_self (by rw [List.length_map]; exact hk), List.getElem?_map, h]
      rfl
    · rw [List.getElem?_set_ne hi]
  have hm : ∀ x ∈ Δ.set k (a, ob'), x = (a, ob') ∨ (x ∈ Δ ∧ x.1 ≠ a) := fun x hx => by
    obtain ⟨i, hi, e⟩ := List.mem_iff_getElem.mp hx
    rw [List.length_set] at hi
    by_cases hik : k = i
    · subst hik
      rw [List.getElem_set_self] at e
      exact .inl e.symm
    · rw [List.getElem_set_ne hik] at e
      refine .inr ⟨e ▸ List.getElem_mem hi, fun z => hik ?_⟩
      have nd := S.nd
      have e1 : (Δ.map (·.1))[k]'(by rw [List.length_map]; exact hk) = (Δ.map (·.1))[i]'(by rw [List.length_map]; exact hi) := by
        rw [List.getElem_map, List.getElem_map, hke, e, z]
      exact (List.getElem_inj nd).mp e1
  refine ⟨fun b u hb => ?_, fun x hx => ?_, by rw [em]; exact S.nd, S.bb, fun b u hb hn => ?_, fun b hb => ?_, S.fr, fun x hx => ?_, S.msd⟩
  · rw [upd_ne (ne_of_none hb ba)]
    exact S.ex b u hb
  · rcases hm x hx with rfl | ⟨h1, h2⟩
    · exact ⟨ba, o', upd_same, hp⟩
    · obtain ⟨q1, o2, q2, q3⟩ := S.mu x h1
      exact ⟨q1, o2, by rw [upd_ne h2]; exact q2, q3⟩
  · have hba : b ≠ a := fun z => by
      rcases S.ow (a, ob) (List.mem_of_getElem? h) with q | q
      · exact hn (z ▸ q)
      · rw [z] at hb
        rw [q] at hb; cases hb
    rw [upd_ne hba]
    exact S.hh b u hb hn
  · by_cases z : b = a
    · rw [z, upd_same]; intro q; cases q
    · rw [upd_ne z]; exact S.dm b hb
  · rcases hm x hx with rfl | ⟨h1, _⟩
    · exact S.ow (a, ob) (List.mem_of_getElem? h)
    · exact S.ow x h1
/-- a new object that may change -/
theorem Stb.new (S : Stb W Δ B H) {q : Addr} {ob : Ob} {o : HO} (h : H q = none) (hp : ob.p W.H B o) : Stb W (Δ ++ [(q, ob)]) B (upd H q o) ∧ q ∉ W.ms := by
  have hw : W.H q = none := by
    cases e : W.H q with
    | none => rfl
    | some u => exact absurd h (S.dm q (by rw [e]; intro z; cases z))
  have hq : q ∉ W.ms := fun z => S.msd q z hw
  have S1 := S.ext (Ext.newH (o := o) S.ex h)
  have hne : ∀ x ∈ Δ, x.1 ≠ q := fun x hx z => by
    obtain ⟨_, o2, q2, _⟩ := S.mu x hx
    rw [z, h] at q2; cases q2
  refine ⟨⟨S1.ex, fun x hx => ?_, ?_, S1.bb, S1.hh, S1.dm, S1.fr, fun x hx => ?_, S1.msd⟩, hq⟩
  · rcases List.mem_append.mp hx with hx | hx
    · exact S1.mu x hx
    · have e : x = (q, ob) := by simpa using hx
      subst e
      exact ⟨S.ex.free h, o, upd_same, hp⟩
  · rw [List.map_append]
    refine List.nodup_append.mpr ⟨S.nd, by simp, fun a ha b hb => ?_⟩
    have e : b = q := by simpa using hb
    obtain ⟨x, hx, rfl⟩ := List.mem_map.mp ha
    rw [e]
    exact hne x hx
  · rcases List.mem_append.mp hx with hx | hx
    · exact S1.ow x hx
    · have e : x = (q, ob) := by simpa using hx
      subst e
      exact .inr hw
/-- an entry of our own stands still from here on -/
theorem Stb.frz (S : Stb W Δ B H) {k : Nat} {a : Addr} {ob : Ob} (h : Δ[k]? = some (a, ob)) (hn : a ∉ W.ms) : ∃ o, H a = some o ∧ W.H a = none ∧ ob.p W.H B o ∧ Stb W (Δ.eraseIdx k) (upd B a o) H ∧ Same B (upd B a o) := by
  obtain ⟨ba, o, ha, hp⟩ := S.at h
  have sm : Same B (upd B a o) := same_new ba
  have hw : W.H a = none := by
    rcases S.ow (a, ob) (List.mem_of_getElem? h) with q | q
    · exact absurd q hn
    · exact q
  have nd : ((Δ.eraseIdx k).map (·.1)).Nodup := S.nd.sublist ((List.eraseIdx_sublist Δ k).map _)
  have hk : k < Δ.length := (List.getElem?_eq_some_iff.mp h).1
  have hke : Δ[k] = (a, ob) := (List.getElem?_eq_some_iff.mp h).2
  have hne : ∀ x ∈ Δ.eraseIdx k, x.1 ≠ a := fun x hx z => by
    obtain ⟨i, hik, hi⟩ := List.mem_eraseIdx_iff_getElem?.mp hx
    have hil : i < Δ.length := (List.getElem?_eq_some_iff.mp hi).1
    have hie : Δ[i] = x := (List.getElem?_eq_some_iff.mp hi).2
    apply hik
    have e1 : (Δ.map (·.1))[i]'(by rw [List.length_map]; exact hil) = (Δ.map (·.1))[k]'(by rw [List.length_map]; exact hk) := by
      rw [List.getElem_map, List.getElem_map, hke, hie, z]
    exact (List.getElem_inj S.nd).mp e1
  refine ⟨o, ha, hw, hp, ⟨fun b u hb => ?_, fun x hx => ?_, nd, S.bb.trans sm, S.hh, S.dm, fun b h1 h2 => ?_, fun x hx => S.ow x ((List.eraseIdx_sublist Δ k).subset hx), S.msd⟩, sm⟩
  · by_cases z : b = a
    · rw [z, upd_same] at hb
      rw [z, ha]; exact hb
    · rw [upd_ne z] at hb
      exact S.ex b u hb
  · obtain ⟨q1, o2, q2, q3⟩ := S.mu x ((List.eraseIdx_sublist Δ k).subset hx)
    exact ⟨by rw [upd_ne (hne x hx)]; exact q1, o2, q2, x.2.mono sm q3⟩
  · have z : b ≠ a := fun z => h2 (by rw [z]; exact hw)
    rw [upd_ne z]
    exact S.fr b h1 h2
end

/-! ### the weakest ahead of a piece of syntax -/
def wpE (X : Cx) (e : Expr) : TE := fun σ H Q => ∀ (pins : List (Addr × Obj)) (s : Shared), Inv X pins σ H s → wpAny (model X.prog X.w) X.A (eval e X.env) (EP X pins σ Q) X.xe s
def wpT (X : Cx) (e : Expr) : TT := fun σ H Q => ∀ (pins : List (Addr × Obj)) (s : Shared), Inv X pins σ H s → wpAny (model X.prog X.w) X.A (isTrue e X.env (eval e X.env)) (TP X pins σ Q) X.xe s
def wpW (X : Cx) (e : Expr) : TT := fun σ H Q => ∀ (whole : Sem Value) (pins : List (Addr × Obj)) (s : Shared), Inv X pins σ H s → wpAny (model X.prog X.w) X.A (isTrue e X.env whole) (TP X pins σ Q) X.xe s
def wpA (X : Cx) (es : List Expr) : TA := fun σ H Q => ∀ (pos : Pos) (pins : List (Addr × Obj)) (s : Shared), Inv X pins σ H s → wpAny (model X.prog X.w) X.A (spliced (backTo pos (starEach es X.env))) (AP X pins σ Q) X.xe s
def wpS (X : Cx) (st : Stmt) : TS := fun D σ H => ∀ (pins : List (Addr × Obj)) (s : Shared), Inv X pins σ H s → wpAny (model X.prog X.w) X.A (exec st X.env) (SP X pins D) X.xe s
def wpSs (X : Cx) (st : List Stmt) : TS := fun D σ H => ∀ (pins : List (Addr × Obj)) (s : Shared), Inv X pins σ H s → wpAny (model X.prog X.w) X.A (execs st X.env) (SP X pins D) X.xe s
section
variable {X : Cx} {e : Expr} {es : List Expr} {st : Stmt} {sts : List Stmt} {σ : L2.St} {H : Hp}
theorem pe_wp : PE X e (wpE X e) := ⟨fun pins s _ _ _ I h => h pins s I⟩
theorem pt_wp : PT X e (wpT X e) := ⟨fun pins s _ _ _ I h => h pins s I⟩
theorem pw_wp : PW X e (wpW X e) := ⟨fun wh pins s _ _ _ I h => h wh pins s I⟩
theorem pa_wp : PA X es (wpA X es) := ⟨fun pos pins s _ _ _ I h => h pos pins s I⟩
theorem ps_wp : PS X st (wpS X st) := ⟨fun pins s _ _ _ I h => h pins s I⟩
theorem pss_wp : PSs X sts (wpSs X sts) := ⟨fun pins s _ _ _ I h => h pins s I⟩
theorem wpE_of {t : TE} {Q : VK} (h : PE X e t) (q : t σ H Q) : wpE X e σ H Q := fun pins s I => h.run pins s σ H Q I q
theorem wpT_of {t : TT} {Q : Bool → Hp → Prop} (h : PT X e t) (q : t σ H Q) : wpT X e σ H Q := fun pins s I => h.run pins s σ H Q I q
theorem wpW_of {t : TT} {Q : Bool → Hp → Prop} (h : PW X e t) (q : t σ H Q) : wpW X e σ H Q := fun wh pins s I => h.run wh pins s σ H Q I q
theorem wpA_of {t : TA} {Q : List V → Hp → Prop} (h : PA X es t) (q : t σ H Q) : wpA X es σ H Q := fun pos pins s I => h.run pos pins s σ H Q I q
theorem wpS_of {t : TS} {D : Ends} (h : PS X st t) (q : t D σ H) : wpS X st D σ H := fun pins s I => h.run pins s σ H D I q
theorem wpSs_of {t : TS} {D : Ends} (h : PSs X sts t) (q : t D σ H) : wpSs X sts D σ H := fun pins s I => h.run pins s σ H D I q
end

theorem passN {X : Cx} : Passes (L2N.CX X.prog X.w) X E0 := fun _ _ _ _ _ _ _ h => by
  obtain ⟨_, _, _, _, _, _, _, _, _, _, _, _, z⟩ := h
  exact z.elim
/-! ### the judgements -/
def EE (X : Cx) (Γ : Gam) (Δ : Del) (e : Expr) (P : Pr) : Prop := ∀ (W : Ws) (B H : Hp) (σ : L2.St), Stb W Δ B H → Sl Γ W.H B σ → ∀ Q : VK, (∀ v B2 H2, Ext B H B2 H2 → P.p W.H B2 v → Q v H2) → wpE X e σ H Q
def ET (X : Cx) (Γ : Gam) (Δ : Del) (e : Expr) (b : Bool) : Prop := ∀ (W : Ws) (B H : Hp) (σ : L2.St), Stb W Δ B H → Sl Γ W.H B σ → ∀ Q : Bool → Hp → Prop, (∀ B2 H2, Ext B H B2 H2 → Q b H2) → wpT X e σ H Q
def EW (X : Cx) (Γ : Gam) (Δ : Del) (e : Expr) (b : Bool) : Prop := ∀ (W : Ws) (B H : Hp) (σ : L2.St), Stb W Δ B H → Sl Γ W.H B σ → ∀ Q : Bool → Hp → Prop, (∀ B2 H2, Ext B H B2 H2 → Q b H2) → wpW X e σ H Q
def EA (X : Cx) (Γ : Gam) (Δ : Del) (es : List Expr) (Ps : List Pr) : Prop := ∀ (W : Ws) (B H : Hp) (σ : L2.St), Stb W Δ B H → Sl Γ W.H B σ → ∀ Q : List V → Hp → Prop, (∀ vs B2 H2, Ext B H B2 H2 → All W.H B2 Ps vs → Q vs H2) → wpA X es σ H Q
/-- a list that may be read -/
def ES (X : Cx) (Γ : Gam) (Δ : Del) (e : Expr) (ps : List Pr) : Prop := ∀ (W : Ws) (B H : Hp) (σ : L2.St), Stb W Δ B H → Sl Γ W.H B σ → ∀ Q : VK, (∀ a xs B2 H2, Ext B H B2 H2 → SqL X.K H2 a xs → All W.H B2 ps xs → Q (.ref a) H2) → wpE X e σ H Q
/-- .. tracked as it is -/
def EC (X : Cx) (Γ : Gam) (Δ : Del) (e : Expr) (ps : List Pr) : Prop := ∀ (W : Ws) (B H : Hp) (σ : L2.St), Stb W Δ B H → Sl Γ W.H B σ → ∀ Q : VK, (∀ a xs B2 H2, Ext B H B2 H2 → H2 a = some (.lst xs) → All W.H B2 ps xs → Q (.ref a) H2) → wpE X e σ H Q
/-- a new list -/
def EN (X : Cx) (Γ : Gam) (Δ : Del) (e : Expr) (ps : List Pr) : Prop := ∀ (W : Ws) (B H : Hp) (σ : L2.St), Stb W Δ B H → Sl Γ W.H B σ → ∀ Q : VK, (∀ a xs B2 H2, Ext B H B2 H2 → H2 a = some (.lst xs) → B2 a = none → H a = none → All W.H B2 ps xs → Q (.ref a) H2) → wpE X e σ H Q
/-- an expression that may change the entries, or raise -/
def EM (X : Cx) (ms : List Addr) (Γ : Gam) (Δ : Del) (e : Expr) (K : Pr → Del → Prop) (Kx : Value → Del → Prop) : Prop :=
  ∀ (W : Ws) (Wi : WX) (B H : Hp) (σ : L2.St), W.ms = ms → L2N.Takes X Wi → Stb W Δ B H → Sl Γ W.H B σ → (∀ c Δ' B' H', Kx c Δ' → Stb W Δ' B' H' → Same B B' → Wi c none σ H') →
    ∀ Q : VK, (∀ P Δ' v B' H', K P Δ' → Stb W Δ' B' H' → Same B B' → P.p W.H B' v → Q v H') → wpE X e σ H Q
/-- what is wanted of a block's ends -/
structure Kk where
  nx : Gam → Del → Prop := fun _ _ => False
  rt : Pr → Del → Prop := fun _ _ => False
  bk : Gam → Del → Prop := fun _ _ => False
  ct : Gam → Del → Prop := fun _ _ => False
  ex : Value → Gam → Del → Prop := fun _ _ _ => False
structure Kk.Ok (K : Kk) (W : Ws) (Wi : WX) (D : Ends) : Prop where
  nx : ∀ Γ Δ B H σ, K.nx Γ Δ → Stb W Δ B H → Sl Γ W.H B σ → D.nx σ H
  rt : ∀ P Δ B H v, K.rt P Δ → Stb W Δ B H → P.p W.H B v → D.rt v H
  bk : ∀ Γ Δ B H σ, K.bk Γ Δ → Stb W Δ B H → Sl Γ W.H B σ → D.bk σ H
  ct : ∀ Γ Δ B H σ, K.ct Γ Δ → Stb W Δ B H → Sl Γ W.H B σ → D.ct σ H
  ex : ∀ c Γ Δ B H σ, K.ex c Γ Δ → Stb W Δ B H → Sl Γ W.H B σ → Wi c none σ H
def Go (X : Cx) (ms : List Addr) (Γ : Gam) (Δ : Del) (sts : List Stmt) (K : Kk) : Prop :=
  ∀ (W : Ws) (Wi : WX) (B H : Hp) (σ : L2.St) (D : Ends), W.ms = ms → L2N.Takes X Wi → Stb W Δ B H → Sl Γ W.H B σ → K.Ok W Wi D → wpSs X sts D σ H
end Yb
set_option maxHeartbeats 1000000
namespace Yb
open PySem PySem.Spec PyProof.Rows L2
section
variable {X : Cx} {Γ : Gam} {Δ : Del} {e a b c : Expr} {es rest : List Expr} {P P' P2 : Pr} {Ps ps qs : List Pr} {pos p2 : Pos} {k k' : Bool} {x y z i j : Int}

/-! ### names, constants -/
theorem ee_var (n : Nat) {x : Str} (hG : Γ[n]? = some (some P)) (hN : X.N[n]? = some x := by rfl) (hv : Vis X.env.scope x := by first | exact Or.inl rfl | exact Or.inr (Or.inl rfl) | exact Or.inr (Or.inr rfl)) (hd : (x == ("__debug__" : Str)) = false := by decide)
    (hcd : (x == ("__classdict__" : Str)) = false := by decide) : EE X Γ Δ (.Name x pos) P := fun W B H σ S s Q q => wpE_of (pe_var hN hv hd hcd) (by
  obtain ⟨v, h1, h2⟩ := s.2 n P hG
  exact ⟨v, h1, q v B H (Ext.refl S.ex) h2⟩)
theorem ee_int {i : Int} {j : Nat} : EE X Γ Δ (.Constant (.int i) j pos) (I i) := fun W B H σ S s Q q => wpE_of pe_int (q _ B H (Ext.refl S.ex) rfl)
theorem ee_bl {t : Bool} {j : Nat} : EE X Γ Δ (.Constant (.bool t) j pos) (Bo t) := fun W B H σ S s Q q => wpE_of pe_bl (q _ B H (Ext.refl S.ex) rfl)
theorem ee_non {j : Nat} : EE X Γ Δ (.Constant .none j pos) No := fun W B H σ S s Q q => wpE_of pe_non (q _ B H (Ext.refl S.ex) rfl)
theorem ee_str {t : Str} {j : Nat} : EE X Γ Δ (.Constant (.str t) j pos) (Sx t) := fun W B H σ S s Q q => wpE_of pe_str (q _ B H (Ext.refl S.ex) rfl)
/-- a module's constant int -/
theorem ee_globI {x : Str} {i : Int} {t : Tok} (hg : Gl X x) (hm : X.mg x = some (.int i t)) (hd : (x == ("__debug__" : Str)) = false := by decide) : EE X Γ Δ (.Name x pos) (I i) := fun W B H σ S s Q q =>
  wpE_of (pe_glob (v := .int i) hg hm ⟨_, rfl⟩ hd) (q _ B H (Ext.refl S.ex) rfl)
theorem ee_globC {x : Str} {C : Addr} (hg : Gl X x) (hm : X.mg x = some (.ref C)) (hd : (x == ("__debug__" : Str)) = false := by decide) : EE X Γ Δ (.Name x pos) (Ref C) := fun W B H σ S s Q q =>
  wpE_of (pe_glob (v := .ref C) hg hm rfl hd) (q _ B H (Ext.refl S.ex) rfl)
theorem ee_bty {x : Str} {n : String} (hg : Gl X x) (hm : X.mg x = none) (hv : bootBuiltins x = some (.type n)) (hn : x ≠ "__name__" := by decide) (hd : (x == ("__debug__" : Str)) = false := by decide) : EE X Γ Δ (.Name x pos) (Ty n) := fun W B H σ S s Q q =>
  wpE_of (pe_bltn (v := .ty n) hg hm hv rfl hn hd) (q _ B H (Ext.refl S.ex) rfl)

/-! ### operators -/
theorem ee_op {op : Operator} {r : R2} (ho : OpR X (binaryOp op) r) (ha : EE X Γ Δ a P) (hb : EE X Γ Δ b P')
    (hr : ∀ h v u B H, Same B H → P.p h B v → P'.p h B u → ∀ Q : VK, (∀ z B2 H2, Ext B H B2 H2 → P2.p h B2 z → Q z H2) → r v u H Q) : EE X Γ Δ (.BinOp a op b pos) P2 := fun W B H σ S s Q q =>
  wpE_of (pe_op ho pe_wp pe_wp) (ha W B H σ S s _ fun v B1 H1 e1 h1 => hb W B1 H1 σ (S.ext e1) (s.mono e1.bb) _ fun u B2 H2 e2 h2 =>
    hr _ v u B2 H2 e2.bh (P.mono e2.bb h1) h2 _ fun z B3 H3 e3 h3 => q z B3 H3 ((e1.trans e2).trans e3) h3)
theorem ee_add (ha : EE X Γ Δ a (I x)) (hb : EE X Γ Δ b (I y)) : EE X Γ Δ (.BinOp a .Add b pos) (I (x + y)) := ee_op op_add ha hb fun _ v u B H e h1 h2 Q q => ⟨x, y, h1, h2, q _ B H (Ext.refl e) rfl⟩
theorem ee_sub (ha : EE X Γ Δ a (I x)) (hb : EE X Γ Δ b (I y)) : EE X Γ Δ (.BinOp a .Sub b pos) (I (x - y)) := ee_op op_sub ha hb fun _ v u B H e h1 h2 Q q => ⟨x, y, h1, h2, q _ B H (Ext.refl e) rfl⟩
theorem ee_mul (ha : EE X Γ Δ a (I x)) (hb : EE X Γ Δ b (I y)) (hc : CMul x y) : EE X Γ Δ (.BinOp a .Mult b pos) (I (x * y)) := ee_op op_mul ha hb fun _ v u B H e h1 h2 Q q => ⟨x, y, h1, h2, hc, q _ B H (Ext.refl e) rfl⟩
theorem ee_div (ha : EE X Γ Δ a (I x)) (hb : EE X Γ Δ b (I y)) (hc : CDiv x y := by exact ⟨by decide, by decide⟩) : EE X Γ Δ (.BinOp a .FloorDiv b pos) (I (x / y)) := ee_op op_fdiv ha hb fun _ v u B H e h1 h2 Q q => ⟨x, y, h1, h2, hc, q _ B H (Ext.refl e) rfl⟩
theorem ee_mod (ha : EE X Γ Δ a (I x)) (hb : EE X Γ Δ b (I y)) (hc : 0 < y := by decide) : EE X Γ Δ (.BinOp a .Mod b pos) (I (x % y)) := ee_op op_mod ha hb fun _ v u B H e h1 h2 Q q => ⟨x, y, h1, h2, hc, q _ B H (Ext.refl e) rfl⟩
theorem ee_pow (ha : EE X Γ Δ a (I x)) (hb : EE X Γ Δ b (I y)) (hc : CPow x y := by exact ⟨by decide, by decide, by decide⟩) : EE X Γ Δ (.BinOp a .Pow b pos) (I (x ^ y.toNat)) := ee_op op_pow ha hb fun _ v u B H e h1 h2 Q q => ⟨x, y, h1, h2, hc, q _ B H (Ext.refl e) rfl⟩
theorem ee_xor (ha : EE X Γ Δ a (I x)) (hb : EE X Γ Δ b (I y)) : EE X Γ Δ (.BinOp a .BitXor b pos) (I (Builtin.bitXor x y)) := ee_op op_xor ha hb fun _ v u B H e h1 h2 Q q => ⟨x, y, h1, h2, q _ B H (Ext.refl e) rfl⟩
theorem ee_cats {s t : Str} (ha : EE X Γ Δ a (Sx s)) (hb : EE X Γ Δ b (Sx t)) (hl : s.length + t.length ≤ sizeLine) : EE X Γ Δ (.BinOp a .Add b pos) (Sx (s ++ t)) := ee_op op_add_str ha hb fun _ v u B H e h1 h2 Q q => ⟨s, t, h1, h2, hl, q _ B H (Ext.refl e) rfl⟩
theorem ee_neg (ha : EE X Γ Δ a (I x)) : EE X Γ Δ (.UnaryOp .USub a pos) (I (-x)) := fun W B H σ S s Q q =>
  wpE_of (pe_un un_neg pe_wp) (ha W B H σ S s _ fun v B1 H1 e1 h1 => ⟨x, h1, q _ B1 H1 e1 rfl⟩)
theorem ee_un (h : EE X Γ Δ e (N P)) : EE X Γ Δ e P := fun W B H σ S s Q q => h W B H σ S s Q fun v B2 H2 e1 h1 => q v B2 H2 e1 h1.1
theorem ee_cast (h : EE X Γ Δ e P) (q : P = P') : EE X Γ Δ e P' := q ▸ h
theorem et_cast (h : ET X Γ Δ e k) (q : k = k') : ET X Γ Δ e k' := q ▸ h
theorem es_cast (h : ES X Γ Δ e ps) (q : ps = qs) : ES X Γ Δ e qs := q ▸ h

/-! ### comparisons -/
structure Cmp (X : Cx) (op : CmpOp) (P P' : Pr) (k : Bool) : Prop where
  ex : ∃ r, OpR X (compareOp op) r ∧ ∀ h v u B H, Same B H → P.p h B v → P'.p h B u → ∀ Q : VK, Q (.bl k) H → r v u H Q
theorem ee_cmp {op : CmpOp} (h : Cmp X op P P' k) (ha : EE X Γ Δ a P) (hb : EE X Γ Δ b P') (hm : behindInMarks op b = false := by first | exact nomark _ | rfl) : EE X Γ Δ (.Compare a [op] [b] pos) (Bo k) := fun W B H σ S s Q q => by
  obtain ⟨r, ho, hr⟩ := h.ex
  exact wpE_of (pe_cmpR ho pe_wp pe_wp hm) (ha W B H σ S s _ fun v B1 H1 e1 h1 => hb W B1 H1 σ (S.ext e1) (s.mono e1.bb) _ fun u B2 H2 e2 h2 =>
    hr _ v u B2 H2 e2.bh (P.mono e2.bb h1) h2 _ (q _ B2 H2 (e1.trans e2) rfl))
theorem et_cmp {op : CmpOp} (h : Cmp X op P P' k) (ha : EE X Γ Δ a P) (hb : EE X Γ Δ b P') (hm : behindInMarks op b = false := by first | exact nomark _ | rfl) : ET X Γ Δ (.Compare a [op] [b] pos) k := fun W B H σ S s Q q => by
  obtain ⟨r, ho, hr⟩ := h.ex
  exact wpT_of (pt_cmpR ho pe_wp pe_wp hm) (ha W B H σ S s _ fun v B1 H1 e1 h1 => hb W B1 H1 σ (S.ext e1) (s.mono e1.bb) _ fun u B2 H2 e2 h2 =>
    hr _ v u B2 H2 e2.bh (P.mono e2.bb h1) h2 _ ⟨k, rfl, q B2 H2 (e1.trans e2)⟩)
theorem cmp_lt : Cmp X .Lt (I x) (I y) (decide (x < y)) := ⟨_, op_lt, fun _ v u B H e h1 h2 Q q => ⟨x, y, h1, h2, q⟩⟩
theorem cmp_le : Cmp X .LtE (I x) (I y) (decide (x ≤ y)) := ⟨_, op_le, fun _ v u B H e h1 h2 Q q => ⟨x, y, h1, h2, q⟩⟩
theorem cmp_gt : Cmp X .Gt (I x) (I y) (decide (y < x)) := ⟨_, op_gt, fun _ v u B H e h1 h2 Q q => ⟨x, y, h1, h2, q⟩⟩
theorem cmp_ge : Cmp X .GtE (I x) (I y) (decide (y ≤ x)) := ⟨_, op_ge, fun _ v u B H e h1 h2 Q q => ⟨x, y, h1, h2, q⟩⟩
theorem vint_iff {x y : Int} : (V.int x = V.int y) ↔ x = y := ⟨fun h => by injection h, fun h => by rw [h]⟩
theorem vbl_iff {x y : Bool} : (V.bl x = V.bl y) ↔ x = y := ⟨fun h => by injection h, fun h => by rw [h]⟩
theorem vstr_iff {x y : Str} : (V.str x = V.str y) ↔ x = y := ⟨fun h => by injection h, fun h => by rw [h]⟩
theorem cmp_eq : Cmp X .Eq (I x) (I y) (decide (x = y)) := ⟨_, op_eq, fun _ v u B H e h1 h2 Q q => by
  have e1 : v = .int x := h1
  have e2 : u = .int y := h2
  subst e1 e2
  exact ⟨rfl, by rw [decide_eq_decide.mpr vint_iff]; exact q⟩⟩
theorem cmp_ne : Cmp X .NotEq (I x) (I y) (!decide (x = y)) := ⟨_, op_ne, fun _ v u B H e h1 h2 Q q => by
  have e1 : v = .int x := h1
  have e2 : u = .int y := h2
  subst e1 e2
  exact ⟨rfl, by rw [decide_eq_decide.mpr vint_iff]; exact q⟩⟩
theorem cmp_eqB : Cmp X .Eq (Bo k) (Bo k') (decide (k = k')) := ⟨_, op_eq, fun _ v u B H e h1 h2 Q q => by
  have e1 : v = .bl k := h1
  have e2 : u = .bl k' := h2
  subst e1 e2
  exact ⟨rfl, by rw [decide_eq_decide.mpr vbl_iff]; exact q⟩⟩
theorem cmp_neB : Cmp X .NotEq (Bo k) (Bo k') (!decide (k = k')) := ⟨_, op_ne, fun _ v u B H e h1 h2 Q q => by
  have e1 : v = .bl k := h1
  have e2 : u = .bl k' := h2
  subst e1 e2
  exact ⟨rfl, by rw [decide_eq_decide.mpr vbl_iff]; exact q⟩⟩
theorem cmp_eqS {s t : Str} : Cmp X .Eq (Sx s) (Sx t) (decide (s = t)) := ⟨_, op_eq, fun _ v u B H e h1 h2 Q q => by
  have e1 : v = .str s := h1
  have e2 : u = .str t := h2
  subst e1 e2
  exact ⟨rfl, by rw [decide_eq_decide.mpr vstr_iff]; exact q⟩⟩
theorem cmp_neS {s t : Str} : Cmp X .NotEq (Sx s) (Sx t) (!decide (s = t)) := ⟨_, op_ne, fun _ v u B H e h1 h2 Q q => by
  have e1 : v = .str s := h1
  have e2 : u = .str t := h2
  subst e1 e2
  exact ⟨rfl, by rw [decide_eq_decide.mpr vstr_iff]; exact q⟩⟩
/-- is None; nn: no value of P is None, or all are -/
theorem cmp_isN (hn : ∀ h B v, P.p h B v → decide (v = .non) = k) : Cmp X .Is P No k := ⟨_, op_isN, fun _ v u B H e h1 h2 Q q => ⟨h2, by rw [hn _ B v h1]; exact q⟩⟩
theorem cmp_notN (hn : ∀ h B v, P.p h B v → decide (v = .non) = k) : Cmp X .IsNot P No (!k) := ⟨_, op_notN, fun _ v u B H e h1 h2 Q q => ⟨h2, by rw [hn _ B v h1]; exact q⟩⟩

/-! ### tests -/
theorem et_val (h : EE X Γ Δ e (Bo k)) (he : ∀ whole, isTrue e X.env whole = (do let v ← whole; standAt e.pos; holding [v] (truthy v)) := by intro _; rfl) : ET X Γ Δ e k := fun W B H σ S s Q q =>
  wpT_of (pt_val pe_wp he) (h W B H σ S s _ fun v B1 H1 e1 h1 => ⟨k, h1, q B1 H1 e1⟩)
theorem et_not (h : ET X Γ Δ a k) : ET X Γ Δ (.UnaryOp .Not a pos) (!k) := fun W B H σ S s Q q => wpT_of (pt_not pt_wp) (h W B H σ S s _ fun B1 H1 e1 => q B1 H1 e1)
theorem et_w (h : EW X Γ Δ e k) : ET X Γ Δ e k := fun W B H σ S s Q q => wpT_of (PW.pt pw_wp) (h W B H σ S s Q q)
theorem ew_and1 (h : ET X Γ Δ a k) : EW X Γ Δ (.BoolOp .And [a] pos) k := fun W B H σ S s Q q => wpW_of (pw_and1 pt_wp) (h W B H σ S s Q q)
theorem ew_or1 (h : ET X Γ Δ a k) : EW X Γ Δ (.BoolOp .Or [a] pos) k := fun W B H σ S s Q q => wpW_of (pw_or1 pt_wp) (h W B H σ S s Q q)
theorem ew_and (ha : ET X Γ Δ a k) (hb : k = true → EW X Γ Δ (.BoolOp .And (b :: rest) pos) k') : EW X Γ Δ (.BoolOp .And (a :: b :: rest) pos) (k && k') := fun W B H σ S s Q q =>
  wpW_of (pw_and pt_wp pw_wp) (ha W B H σ S s _ fun B1 H1 e1 => by
    cases k with
    | false => exact q B1 H1 e1
    | true => exact hb rfl W B1 H1 σ (S.ext e1) (s.mono e1.bb) _ fun B2 H2 e2 => q B2 H2 (e1.trans e2))
theorem ew_or (ha : ET X Γ Δ a k) (hb : k = false → EW X Γ Δ (.BoolOp .Or (b :: rest) pos) k') : EW X Γ Δ (.BoolOp .Or (a :: b :: rest) pos) (k || k') := fun W B H σ S s Q q =>
  wpW_of (pw_or pt_wp pw_wp) (ha W B H σ S s _ fun B1 H1 e1 => by
    cases k with
    | true => exact q B1 H1 e1
    | false => exact hb rfl W B1 H1 σ (S.ext e1) (s.mono e1.bb) _ fun B2 H2 e2 => q B2 H2 (e1.trans e2))
theorem ee_one {op : BoolOp} (h : EE X Γ Δ a P) : EE X Γ Δ (.BoolOp op [a] pos) P := fun W B H σ S s Q q => wpE_of (pe_one pe_wp) (h W B H σ S s Q q)
theorem ee_and (ha : EE X Γ Δ a (Bo k)) (hb : k = true → EE X Γ Δ (.BoolOp .And (b :: rest) pos) (Bo k')) : EE X Γ Δ (.BoolOp .And (a :: b :: rest) pos) (Bo (k && k')) := fun W B H σ S s Q q =>
  wpE_of (pe_and pe_wp pe_wp) (ha W B H σ S s _ fun v B1 H1 e1 h1 => ⟨k, h1, by
    cases k with
    | false => exact q _ B1 H1 e1 rfl
    | true => exact hb rfl W B1 H1 σ (S.ext e1) (s.mono e1.bb) _ fun v B2 H2 e2 h2 => q v B2 H2 (e1.trans e2) h2⟩)
theorem ee_or (ha : EE X Γ Δ a (Bo k)) (hb : k = false → EE X Γ Δ (.BoolOp .Or (b :: rest) pos) (Bo k')) : EE X Γ Δ (.BoolOp .Or (a :: b :: rest) pos) (Bo (k || k')) := fun W B H σ S s Q q =>
  wpE_of (pe_or pe_wp pe_wp) (ha W B H σ S s _ fun v B1 H1 e1 h1 => ⟨k, h1, by
    cases k with
    | true => exact q _ B1 H1 e1 rfl
    | false => exact hb rfl W B1 H1 σ (S.ext e1) (s.mono e1.bb) _ fun v B2 H2 e2 h2 => q v B2 H2 (e1.trans e2) h2⟩)
theorem ee_not (h : EE X Γ Δ a (Bo k)) : EE X Γ Δ (.UnaryOp .Not a pos) (Bo (!k)) := fun W B H σ S s Q q => wpE_of (pe_not pe_wp) (h W B H σ S s _ fun v B1 H1 e1 h1 => ⟨k, h1, q _ B1 H1 e1 rfl⟩)
theorem ee_ifx (hc : ET X Γ Δ c k) (ha : k = true → EE X Γ Δ a P) (hb : k = false → EE X Γ Δ b P) : EE X Γ Δ (.IfExp c a b pos) P := fun W B H σ S s Q q =>
  wpE_of (pe_ifExp pt_wp pe_wp pe_wp) (hc W B H σ S s _ fun B1 H1 e1 => by
    cases k with
    | true => exact ha rfl W B1 H1 σ (S.ext e1) (s.mono e1.bb) _ fun v B2 H2 e2 h2 => q v B2 H2 (e1.trans e2) h2
    | false => exact hb rfl W B1 H1 σ (S.ext e1) (s.mono e1.bb) _ fun v B2 H2 e2 h2 => q v B2 H2 (e1.trans e2) h2)
/-- x <= y < z, x <= y <= z -/
theorem et_chain {op op' : CmpOp} {f g : Int → Int → Bool} (ho : OpR X (compareOp op) (rI0 fun i j => .bl (f i j))) (ho' : OpR X (compareOp op') (rI0 fun i j => .bl (g i j))) (ha : EE X Γ Δ a (I x)) (hb : EE X Γ Δ b (I y)) (hc : f x y = true → EE X Γ Δ c (I z))
    (hm : lastMarks [op, op'] [b, c] = false := by with_unfolding_all rfl) : ET X Γ Δ (.Compare a [op, op'] [b, c] pos) (f x y && g y z) := fun W B H σ S s Q q =>
  wpT_of (pt_chain ho ho' pe_wp pe_wp pe_wp hm) (ha W B H σ S s _ fun v B1 H1 e1 h1 => hb W B1 H1 σ (S.ext e1) (s.mono e1.bb) _ fun u B2 H2 e2 h2 => ⟨x, y, h1, h2, f x y, rfl, by
    cases hf : f x y with
    | false =>
      rw [if_neg Bool.false_ne_true]
      rw [hf] at q
      exact ⟨_, rfl, q B2 H2 (e1.trans e2)⟩
    | true =>
      rw [if_pos rfl]
      rw [hf] at q
      exact hc hf W B2 H2 σ ((S.ext e1).ext e2) ((s.mono e1.bb).mono e2.bb) _ fun w B3 H3 e3 h3 => ⟨y, z, h2, h3, _, rfl, q B3 H3 ((e1.trans e2).trans e3)⟩⟩)

/-! ### arguments, displays -/
theorem ea_nil : EA X Γ Δ [] [] := fun W B H σ S s Q q => wpA_of pa_nil (q [] B H (Ext.refl S.ex) trivial)
theorem ea_cons (h : EE X Γ Δ e P) (hr : EA X Γ Δ es Ps) (hs : starEach (e :: es) X.env = (false, eval e X.env) :: starEach es X.env := by rfl) : EA X Γ Δ (e :: es) (P :: Ps) := fun W B H σ S s Q q =>
  wpA_of (pa_cons pe_wp pa_wp hs) (h W B H σ S s _ fun v B1 H1 e1 h1 => hr W B1 H1 σ (S.ext e1) (s.mono e1.bb) _ fun vs B2 H2 e2 h2 => q _ B2 H2 (e1.trans e2) ⟨P.mono e2.bb h1, h2⟩)
theorem sz_le {n : Nat} (h : n ≤ 100000) : n ≤ sizeLine := Nat.le_trans h (by decide)
theorem sz_lt {n : Nat} (h : n < 100000) : n < sizeLine := Nat.lt_of_lt_of_le h (by decide)
theorem fr_N {W : Ws} {B H B1 H1 : Hp} {l : Addr} {xs : List V} (S : Stb W Δ B H) (e1 : Ext B H B1 H1) (h1 : H1 l = some (.lst xs)) (h2 : B1 l = none) (h3 : H l = none) (h4 : All W.H B1 ps xs) : ∃ B2, Ext B H B2 H1 ∧ (N (L ps)).p W.H B2 (.ref l) := by
  have sm : Same B1 (upd B1 l (.lst xs)) := same_new h2
  refine ⟨upd B1 l (.lst xs), ⟨e1.bb.trans sm, e1.hh, fun a u g => ?_, fun a g n => ?_⟩, ⟨l, xs, rfl, upd_same, h4.mono sm⟩, S.frV h3⟩
  · by_cases z : a = l
    · rw [z, upd_same] at g
      rw [z, h1]; exact g
    · rw [upd_ne z] at g
      exact e1.bh a u g
  · have z : a ≠ l := fun z => n (by rw [z]; exact h3)
    rw [upd_ne z]
    exact e1.fr a g n
theorem mu_N {W : Ws} {B H B1 H1 : Hp} {l : Addr} {xs : List V} (S : Stb W Δ B H) (e1 : Ext B H B1 H1) (h1 : H1 l = some (.lst xs)) (h2 : B1 l = none) (h3 : H l = none) (h4 : All W.H B1 ps xs) : l ∉ W.ms ∧ Stb W (Δ ++ [(l, ML ps)]) B1 H1 := by
  have S1 := S.ext e1
  refine ⟨fun z => S.msd l z (S.fresh h3), ⟨S1.ex, fun x hx => ?_, ?_, S1.bb, S1.hh, S1.dm, S1.fr, fun x hx => ?_, S1.msd⟩⟩
  · rcases List.mem_append.mp hx with hx | hx
    · exact S1.mu x hx
    · have e : x = (l, ML ps) := by simpa using hx
      subst e
      exact ⟨h2, _, h1, xs, rfl, h4⟩
  · rw [List.map_append]
    refine List.nodup_append.mpr ⟨S1.nd, by simp, fun a ha b hb z => ?_⟩
    have e : b = l := by simpa using hb
    obtain ⟨x, hx, rfl⟩ := List.mem_map.mp ha
    obtain ⟨_, o2, q2, _⟩ := S.mu x hx
    rw [z, e, h3] at q2; cases q2
  · rcases List.mem_append.mp hx with hx | hx
    · exact S1.ow x hx
    · have e : x = (l, ML ps) := by simpa using hx
      subst e
      exact .inr (S.fresh h3)
theorem ee_N (h : EN X Γ Δ e ps) : EE X Γ Δ e (N (L ps)) := fun W B H σ S s Q q => h W B H σ S s _ fun l xs B1 H1 e1 h1 h2 h3 h4 => by
  obtain ⟨B2, e2, k⟩ := fr_N S e1 h1 h2 h3 h4
  exact q _ B2 H1 e2 k
theorem em_N {ms : List Addr} {Kx : Value → Del → Prop} (h : EN X Γ Δ e ps) : EM X ms Γ Δ e (fun P' Δ' => ∃ l, l ∉ ms ∧ P' = Ref l ∧ Δ' = Δ ++ [(l, ML ps)]) Kx := fun W Wi B H σ hm tk S s hx Q q => h W B H σ S s _ fun l xs B1 H1 e1 h1 h2 h3 h4 => by
  obtain ⟨h5, S2⟩ := mu_N S e1 h1 h2 h3 h4
  exact q (Ref l) _ _ B1 H1 ⟨l, hm ▸ h5, rfl, rfl⟩ S2 e1.bb rfl
theorem en_cast (h : EN X Γ Δ e ps) (q : ps = qs) : EN X Γ Δ e qs := q ▸ h
/-- for writers of rules: a list laid at r -/
theorem en_fin {W : Ws} {B H B1 H1 : Hp} {vs : List V} {Q : VK} (e1 : Ext B H B1 H1) (h1 : All W.H B1 ps vs) (q : ∀ a xs B2 H2, Ext B H B2 H2 → H2 a = some (.lst xs) → B2 a = none → H a = none → All W.H B2 ps xs → Q (.ref a) H2) (r : Addr) (hr : H1 r = none) : Q (.ref r) (upd H1 r (.lst vs)) :=
  q r vs B1 _ (e1.trans (Ext.newH e1.bh hr)) upd_same (e1.bh.free hr) (e1.hh.free hr) h1
theorem en_lst (h : EA X Γ Δ es Ps) (hl : Ps.length ≤ 100000 := by exact Nat.le_of_ble_eq_true rfl) : EN X Γ Δ (.List es pos) Ps := fun W B H σ S s Q q =>
  wpE_of (pe_lst pa_wp) (h W B H σ S s _ fun vs B1 H1 e1 h1 => ⟨by rw [← h1.len]; exact sz_le hl, en_fin e1 h1 q⟩)
theorem ee_tup {x1 : Nat} (h : EA X Γ Δ es Ps) (hl : Ps.length ≤ 100000 := by exact Nat.le_of_ble_eq_true rfl) : EE X Γ Δ (.Tuple es x1 pos) (N (T Ps)) := fun W B H σ S s Q q =>
  wpE_of (pe_tup pa_wp) (h W B H σ S s _ fun vs B1 H1 e1 h1 => ⟨by rw [← h1.len]; exact sz_le hl, fun r hr =>
    have e2 := Ext.new (o := .tup vs) e1.bh hr
    q _ _ _ (e1.trans e2) ⟨⟨r, vs, rfl, upd_same, h1.mono e2.bb⟩, (S.ext e1).frV hr⟩⟩)

/-! ### lists that are read -/
theorem ec_L (h : EE X Γ Δ e (L ps)) : EC X Γ Δ e ps := fun W B H σ S s Q q => h W B H σ S s _ fun v B1 H1 e1 h1 => by
  obtain ⟨l, xs, rfl, h2, h3⟩ := h1
  exact q l xs B1 H1 e1 (e1.bh _ _ h2) h3
theorem ec_N (h : EN X Γ Δ e ps) : EC X Γ Δ e ps := fun W B H σ S s Q q => h W B H σ S s Q fun l xs B1 H1 e1 h1 _ _ h4 => q l xs B1 H1 e1 h1 h4
theorem ec_M (n : Nat) {l : Addr} (h : EE X Γ Δ e (Ref l)) (hk : Δ[n]? = some (l, ML ps)) : EC X Γ Δ e ps := fun W B H σ S s Q q => h W B H σ S s _ fun v B1 H1 e1 h1 => by
  have ev : v = .ref l := h1
  subst ev
  obtain ⟨_, o, h2, xs, rfl, h3⟩ := (S.ext e1).at hk
  exact q l xs B1 H1 e1 h2 h3
theorem es_C (h : EC X Γ Δ e ps) : ES X Γ Δ e ps := fun W B H σ S s Q q => h W B H σ S s Q fun l xs B1 H1 e1 h1 h2 => q l xs B1 H1 e1 (SqL.of h1) h2
theorem es_L (h : EE X Γ Δ e (L ps)) : ES X Γ Δ e ps := es_C (ec_L h)
theorem es_M (n : Nat) {l : Addr} (h : EE X Γ Δ e (Ref l)) (hk : Δ[n]? = some (l, ML ps)) : ES X Γ Δ e ps := es_C (ec_M n h hk)
theorem es_scr {ns : List Int} (h : EE X Γ Δ e (Scr X.K ns)) : ES X Γ Δ e (ns.map I) := fun W B H σ S s Q q => h W B H σ S s _ fun v B1 H1 e1 h1 => by
  obtain ⟨l, rfl, h2⟩ := h1
  exact q l _ B1 H1 e1 (Same.seq e1.bh h2) (ints_all ns)
theorem all_at {h0 B : Hp} {vs : List V} {i : Int} (h : All h0 B ps vs) (ha : atI ps i = some P) : ∃ v, atI vs i = some v ∧ P.p h0 B v := by
  unfold atI at ha ⊢
  rw [← h.len]
  cases e : ixN ps.length i with
  | none => rw [e] at ha; cases ha
  | some j =>
    rw [e] at ha
    obtain ⟨v, h1, h2⟩ := h.get (i := j) (P := P) ha
    exact ⟨v, h1, h2⟩
theorem ee_ix (ha : ES X Γ Δ a ps) (hb : EE X Γ Δ b (I i)) (hi : atI ps i = some P) (hs : PlainIx b := by exact fun _ _ => rfl) : EE X Γ Δ (.Subscript a b pos) P := fun W B H σ S s Q q =>
  wpE_of (pe_ix ix_list pe_wp pe_wp hs) (ha W B H σ S s _ fun l xs B1 H1 e1 h1 h2 => hb W B1 H1 σ (S.ext e1) (s.mono e1.bb) _ fun u B2 H2 e2 h3 => by
    obtain ⟨v, h4, h5⟩ := all_at (h2.mono e2.bb) hi
    exact ⟨l, xs, i, v, rfl, h3, Same.seq e2.hh h1, h4, q v B2 H2 (e1.trans e2) h5⟩)
theorem ee_ixT (ha : EE X Γ Δ a (T ps)) (hb : EE X Γ Δ b (I i)) (hi : atI ps i = some P) (hs : PlainIx b := by exact fun _ _ => rfl) : EE X Γ Δ (.Subscript a b pos) P := fun W B H σ S s Q q =>
  wpE_of (pe_ix ix_tup pe_wp pe_wp hs) (ha W B H σ S s _ fun w B1 H1 e1 h1 => hb W B1 H1 σ (S.ext e1) (s.mono e1.bb) _ fun u B2 H2 e2 h3 => by
    obtain ⟨l, xs, rfl, g1, g2⟩ := h1
    obtain ⟨v, h4, h5⟩ := all_at (g2.mono e2.bb) hi
    exact ⟨l, xs, i, v, rfl, h3, SqT.of (e2.hh _ _ (e1.bh _ _ g1)), h4, q v B2 H2 (e1.trans e2) h5⟩)
theorem ee_len {px : Pos} (ha : ES X Γ Δ a ps) (hg : Gl X "len") (hm : X.mg "len" = none) (hs : starEach [a] X.env = (false, eval a X.env) :: starEach [] X.env := by rfl) : EE X Γ Δ (.Call (.Name "len" px) [a] [] pos) (I (ps.length : Int)) := fun W B H σ S s Q q =>
  wpE_of (pe_callB call_len_seq hg hm PySem.boot_len (pa_cons pe_wp pa_nil hs) (he := hs)) (ha W B H σ S s _ fun l xs B1 H1 e1 h1 h2 => ⟨l, xs, rfl, .inl h1, by
    rw [← h2.len]
    exact q _ B1 H1 e1 rfl⟩)
theorem en_list {px : Pos} (ha : ES X Γ Δ a ps) (hg : Gl X "list") (hm : X.mg "list" = none) (hs : starEach [a] X.env = (false, eval a X.env) :: starEach [] X.env := by rfl) : EN X Γ Δ (.Call (.Name "list" px) [a] [] pos) ps := fun W B H σ S s Q q =>
  wpE_of (pe_callTy call_list_of hg hm (by decide +kernel) (pa_cons pe_wp pa_nil hs) (he := hs)) (ha W B H σ S s _ fun l xs B1 H1 e1 h1 h2 => ⟨l, xs, rfl, .inl h1, en_fin e1 h2 q⟩)
/-! slices -/
def wpO (X : Cx) (e : Option Expr) : TO := fun σ H Q => ∀ (pins : List (Addr × Obj)) (s : Shared), Inv X pins σ H s → wpAny (model X.prog X.w) X.A (evalPart e X.env) (fun u s' => ∃ o H', Inv X pins σ H' s' ∧ IsPart u o ∧ Q o H') X.xe s
theorem po_wp {e : Option Expr} : PO X e (wpO X e) := ⟨fun pins s _ _ _ I h => h pins s I⟩
theorem wpO_of {e : Option Expr} {t : TO} {σ : L2.St} {H : Hp} {Q : Option Int → Hp → Prop} (h : PO X e t) (q : t σ H Q) : wpO X e σ H Q := fun pins s I => h.run pins s σ H Q I q
def EO (X : Cx) (Γ : Gam) (Δ : Del) (e : Option Expr) (o : Option Int) : Prop := ∀ (W : Ws) (B H : Hp) (σ : L2.St), Stb W Δ B H → Sl Γ W.H B σ → ∀ Q : Option Int → Hp → Prop, (∀ B2 H2, Ext B H B2 H2 → Q o H2) → wpO X e σ H Q
theorem eo_none : EO X Γ Δ none none := fun W B H σ S s Q q => wpO_of po_none (q B H (Ext.refl S.ex))
theorem eo_some (h : EE X Γ Δ e (I i)) : EO X Γ Δ (some e) (some i) := fun W B H σ S s Q q => wpO_of (po_some pe_wp) (h W B H σ S s _ fun v B1 H1 e1 h1 => ⟨i, h1, q B1 H1 e1⟩)
def cut {α : Type} (xs : List α) (lo hi : Option Int) : List α := (xs.drop (HT.sIx xs.length 0 lo)).take (HT.sIx xs.length xs.length hi - HT.sIx xs.length 0 lo)
theorem all_cut {h0 B : Hp} {vs : List V} {lo hi : Option Int} (h : All h0 B ps vs) : All h0 B (cut ps lo hi) (cutV vs lo hi) := by
  unfold cut cutV
  rw [h.len]
  exact (h.drop _).take _
theorem cut_map {α β : Type} (f : α → β) (xs : List α) (lo hi : Option Int) : cut (xs.map f) lo hi = (cut xs lo hi).map f := by
  unfold cut
  rw [List.length_map, List.map_take, List.map_drop]
theorem en_sl {lo hi : Option Expr} {o o' : Option Int} (ha : ES X Γ Δ a ps) (hl : EO X Γ Δ lo o) (hh : EO X Γ Δ hi o') : EN X Γ Δ (.Subscript a (.Slice lo hi none p2) pos) (cut ps o o') := fun W B H σ S s Q q =>
  wpE_of (pe_slice sl_list pe_wp po_wp po_wp) (ha W B H σ S s _ fun l xs B1 H1 e1 h1 h2 => hl W B1 H1 σ (S.ext e1) (s.mono e1.bb) _ fun B2 H2 e2 => hh W B2 H2 σ ((S.ext e1).ext e2) ((s.mono e1.bb).mono e2.bb) _ fun B3 H3 e3 =>
    ⟨l, xs, rfl, Same.seq (e2.hh.trans e3.hh) h1, en_fin ((e1.trans e2).trans e3) (all_cut (h2.mono (e2.bb.trans e3.bb))) q⟩)
theorem en_cat (ha : EC X Γ Δ a ps) (hb : EC X Γ Δ b qs) (hl : ps.length + qs.length ≤ 100000) : EN X Γ Δ (.BinOp a .Add b pos) (ps ++ qs) := fun W B H σ S s Q q =>
  wpE_of (pe_op op_cat pe_wp pe_wp) (ha W B H σ S s _ fun l xs B1 H1 e1 h1 h2 => hb W B1 H1 σ (S.ext e1) (s.mono e1.bb) _ fun m ys B2 H2 e2 h3 h4 =>
    ⟨l, m, xs, ys, rfl, rfl, e2.hh _ _ h1, h3, by rw [← h2.len, ← h4.len]; exact sz_le hl, en_fin (e1.trans e2) (All.app h4 (h2.mono e2.bb)) q⟩)
/-! built-in calls -/
theorem ee_strI {px : Pos} (ha : EE X Γ Δ a (I i)) (hz : i.natAbs.log2 < 1920) (hg : Gl X "str") (hm : X.mg "str" = none) (hs : starEach [a] X.env = (false, eval a X.env) :: starEach [] X.env := by rfl) : EE X Γ Δ (.Call (.Name "str" px) [a] [] pos) (Sx (toString i)) := fun W B H σ S s Q q =>
  wpE_of (pe_callTy call_str_int hg hm (by decide +kernel) (pa_cons pe_wp pa_nil hs) (he := hs)) (ha W B H σ S s _ fun v B1 H1 e1 h1 => ⟨i, by rw [show v = .int i from h1], hz, q _ B1 H1 e1 rfl⟩)
theorem ee_intB {px : Pos} (ha : EE X Γ Δ a (Bo k)) (hg : Gl X "int") (hm : X.mg "int" = none) (hs : starEach [a] X.env = (false, eval a X.env) :: starEach [] X.env := by rfl) : EE X Γ Δ (.Call (.Name "int" px) [a] [] pos) (I (if k then 1 else 0)) := fun W B H σ S s Q q =>
  wpE_of (pe_callTy call_int1 hg hm (by decide +kernel) (pa_cons pe_wp pa_nil hs) (he := hs)) (ha W B H σ S s _ fun v B1 H1 e1 h1 => .inr ⟨k, by rw [show v = .bl k from h1], q _ B1 H1 e1 rfl⟩)
theorem ee_min2 {px : Pos} (hc : X.calm = true) (ha : EE X Γ Δ a (I x)) (hb : EE X Γ Δ b (I y)) (hg : Gl X "min") (hm : X.mg "min" = none) (hs : starEach [a, b] X.env = (false, eval a X.env) :: starEach [b] X.env := by rfl) (hs2 : starEach [b] X.env = (false, eval b X.env) :: starEach [] X.env := by rfl)
    (hpl : (backTo pos (starEach [b] X.env)).any (·.1) = false := by rfl) :
    EE X Γ Δ (.Call (.Name "min" px) [a, b] [] pos) (I (if y < x then y else x)) := fun W B H σ S s Q q =>
  wpE_of (pe_callB (call_min2 hc) hg hm (by decide +kernel) (pa_cons pe_wp (pa_cons pe_wp pa_nil hs2) hs) (he := hs) (hpl := hpl)) (ha W B H σ S s _ fun v B1 H1 e1 h1 => hb W B1 H1 σ (S.ext e1) (s.mono e1.bb) _ fun u B2 H2 e2 h2 =>
    ⟨x, y, by rw [show v = .int x from h1, show u = .int y from h2], q _ B2 H2 (e1.trans e2) rfl⟩)
theorem ee_max2 {px : Pos} (hc : X.calm = true) (ha : EE X Γ Δ a (I x)) (hb : EE X Γ Δ b (I y)) (hg : Gl X "max") (hm : X.mg "max" = none) (hs : starEach [a, b] X.env = (false, eval a X.env) :: starEach [b] X.env := by rfl) (hs2 : starEach [b] X.env = (false, eval b X.env) :: starEach [] X.env := by rfl)
    (hpl : (backTo pos (starEach [b] X.env)).any (·.1) = false := by rfl) :
    EE X Γ Δ (.Call (.Name "max" px) [a, b] [] pos) (I (if y > x then y else x)) := fun W B H σ S s Q q =>
  wpE_of (pe_callB (call_max2 hc) hg hm (by decide +kernel) (pa_cons pe_wp (pa_cons pe_wp pa_nil hs2) hs) (he := hs) (hpl := hpl)) (ha W B H σ S s _ fun v B1 H1 e1 h1 => hb W B1 H1 σ (S.ext e1) (s.mono e1.bb) _ fun u B2 H2 e2 h2 =>
    ⟨x, y, by rw [show v = .int x from h1, show u = .int y from h2], q _ B2 H2 (e1.trans e2) rfl⟩)
theorem ee_all {px : Pos} {bs : List Bool} (hc : X.calm = true) (ha : ES X Γ Δ a (bs.map Bo)) (hg : Gl X "all") (hm : X.mg "all" = none) (hs : starEach [a] X.env = (false, eval a X.env) :: starEach [] X.env := by rfl) : EE X Γ Δ (.Call (.Name "all" px) [a] [] pos) (Bo (bs.all id)) := fun W B H σ S s Q q =>
  wpE_of (pe_callB (cr_all hc) hg hm (by decide +kernel) (pa_cons pe_wp pa_nil hs) (he := hs)) (ha W B H σ S s _ fun l xs B1 H1 e1 h1 h2 => ⟨l, bs, rfl, by rw [← all_bools h2]; exact h1, q _ B1 H1 e1 rfl⟩)
theorem en_sorted {px : Pos} {ns ns' : List Int} (ha : ES X Γ Δ a (ns.map I)) (hl : ns.length < 64) (hp : ns'.Perm ns) (ho : ns'.Pairwise (· ≤ ·)) (hg : Gl X "sorted") (hm : X.mg "sorted" = none) (hs : starEach [a] X.env = (false, eval a X.env) :: starEach [] X.env := by rfl) :
    EN X Γ Δ (.Call (.Name "sorted" px) [a] [] pos) (ns'.map I) := fun W B H σ S s Q q =>
  wpE_of (pe_callB cr_sorted hg hm (by decide +kernel) (pa_cons pe_wp pa_nil hs) (he := hs)) (ha W B H σ S s _ fun l xs B1 H1 e1 h1 h2 => ⟨l, ns, rfl, by rw [← all_ints h2]; exact h1, hl, fun ms r pm od hr => by
    have em : ms = ns' := List.Perm.eq_of_pairwise (fun a b _ _ h1 h2 => Int.le_antisymm h1 h2) od ho (pm.trans hp.symm)
    subst em
    exact en_fin e1 (ints_all ms) q r hr⟩)
theorem flat_ints (ns : List Int) : (ns.map V.int).all flatV = true := by
  rw [List.all_map]
  exact List.all_eq_true.mpr fun x _ => rfl
theorem inV_int (x : Int) (ns : List Int) : inV (.int x) (ns.map V.int) = decide (x ∈ ns) := by
  unfold inV
  rw [List.any_map, Bool.eq_iff_iff, List.any_eq_true, decide_eq_true_eq]
  constructor
  · rintro ⟨y, hy, e⟩
    have e2 : y = x := by simpa [eqV] using e
    exact e2 ▸ hy
  · intro h
    exact ⟨x, h, by simp [eqV]⟩
theorem ee_inI {ns : List Int} (ha : EE X Γ Δ a (I x)) (hb : ES X Γ Δ b (ns.map I)) (hm : behindInMarks .In b = false := by rfl) : EE X Γ Δ (.Compare a [.In] [b] pos) (Bo (decide (x ∈ ns))) := fun W B H σ S s Q q =>
  wpE_of (pe_cmpR op_in_seq pe_wp pe_wp hm) (ha W B H σ S s _ fun v B1 H1 e1 h1 => hb W B1 H1 σ (S.ext e1) (s.mono e1.bb) _ fun l xs B2 H2 e2 h2 h3 => by
    have ev : v = .int x := h1
    have ex := all_ints h3
    subst ev ex
    refine ⟨l, _, rfl, .inl h2, rfl, flat_ints ns, ?_⟩
    rw [if_neg Bool.false_ne_true, inV_int]
    exact q _ B2 H2 (e1.trans e2) rfl)
theorem et_inI {ns : List Int} (ha : EE X Γ Δ a (I x)) (hb : ES X Γ Δ b (ns.map I)) (hm : behindInMarks .In b = false := by rfl) : ET X Γ Δ (.Compare a [.In] [b] pos) (decide (x ∈ ns)) := fun W B H σ S s Q q =>
  wpT_of (pt_cmpR op_in_seq pe_wp pe_wp hm) (ha W B H σ S s _ fun v B1 H1 e1 h1 => hb W B1 H1 σ (S.ext e1) (s.mono e1.bb) _ fun l xs B2 H2 e2 h2 h3 => by
    have ev : v = .int x := h1
    have ex := all_ints h3
    subst ev ex
    refine ⟨l, _, rfl, .inl h2, rfl, flat_ints ns, ?_⟩
    rw [if_neg Bool.false_ne_true, inV_int]
    exact ⟨_, rfl, q B2 H2 (e1.trans e2)⟩)
theorem et_ninI {ns : List Int} (ha : EE X Γ Δ a (I x)) (hb : ES X Γ Δ b (ns.map I)) (hm : behindInMarks .NotIn b = false := by rfl) : ET X Γ Δ (.Compare a [.NotIn] [b] pos) (!decide (x ∈ ns)) := fun W B H σ S s Q q =>
  wpT_of (pt_cmpR op_notIn_seq pe_wp pe_wp hm) (ha W B H σ S s _ fun v B1 H1 e1 h1 => hb W B1 H1 σ (S.ext e1) (s.mono e1.bb) _ fun l xs B2 H2 e2 h2 h3 => by
    have ev : v = .int x := h1
    have ex := all_ints h3
    subst ev ex
    refine ⟨l, _, rfl, .inl h2, rfl, flat_ints ns, ?_⟩
    rw [if_pos rfl, inV_int]
    exact ⟨_, rfl, q B2 H2 (e1.trans e2)⟩)
end
end Yb
set_option maxHeartbeats 1000000
namespace Yb
open PySem PySem.Spec PyProof.Rows L2
/-! ### contracts -/
structure Cn where
  ps : List Pr
  out : Pr → Del → Prop
  Δ : Del := []
  exc : Value → Del → Prop := fun _ _ => False
abbrev h0 : Hp := fun _ => none
/-- what a def promises: for each contract of C -/
def spC (C : Cn → Prop) : Sp := fun vs H Q E => ∃ (c : Cn) (B : Hp), C c ∧ Same B H ∧ All h0 B c.ps vs ∧ (∀ e ∈ c.Δ, B e.1 = none ∧ ∃ o, H e.1 = some o ∧ e.2.p h0 B o) ∧ (c.Δ.map (·.1)).Nodup ∧
  (∀ P Δ' B' H' v, c.out P Δ' → Stb ⟨B, H, c.Δ.map (·.1)⟩ Δ' B' H' → P.p H B' v → Q v H') ∧ (∀ x Δ' B' H', c.exc x Δ' → Stb ⟨B, H, c.Δ.map (·.1)⟩ Δ' B' H' → E x none H')
/-- what does not ask what is new -/
def Hi (P : Pr) : Prop := ∀ h h' B v, P.p h B v → P.p h' B v
def HiO (P : Ob) : Prop := ∀ h h' B v, P.p h B v → P.p h' B v
def His : List Pr → Prop
  | [] => True
  | P :: r => Hi P ∧ His r
theorem His.mem : ∀ {ps : List Pr}, His ps → ∀ P ∈ ps, Hi P
  | P :: r, h, Q, hq => by
    rcases List.mem_cons.mp hq with rfl | hq
    · exact h.1
    · exact His.mem h.2 Q hq
theorem His.map {α : Type} {R : α → Pr} (h : ∀ x, Hi (R x)) : ∀ l : List α, His (l.map R)
  | [] => trivial
  | x :: l => ⟨h x, His.map h l⟩
theorem His.all {h h' B : Hp} : ∀ {ps : List Pr} {vs : List V}, His ps → All h B ps vs → All h' B ps vs
  | [], [], _, _ => trivial
  | _ :: _, _ :: _, q, a => ⟨q.1 _ _ _ _ a.1, His.all q.2 a.2⟩
  | [], _ :: _, _, a => a.elim
  | _ :: _, [], _, a => a.elim
theorem hi_I {i : Int} : Hi (I i) := fun _ _ _ _ q => q
theorem hi_Bo {i : Bool} : Hi (Bo i) := fun _ _ _ _ q => q
theorem hi_Sx {i : Str} : Hi (Sx i) := fun _ _ _ _ q => q
theorem hi_No : Hi No := fun _ _ _ _ q => q
theorem hi_Ref {a : Addr} : Hi (Ref a) := fun _ _ _ _ q => q
theorem hi_Scr {K : PySem.W.Frag} {ns : List Int} : Hi (Scr K ns) := fun _ _ _ _ q => q
theorem hi_L {ps : List Pr} (h : His ps) : Hi (L ps) := fun _ _ _ _ ⟨a, xs, h1, h2, h3⟩ => ⟨a, xs, h1, h2, h.all h3⟩
theorem hi_T {ps : List Pr} (h : His ps) : Hi (T ps) := fun _ _ _ _ ⟨a, xs, h1, h2, h3⟩ => ⟨a, xs, h1, h2, h.all h3⟩
theorem hi_ML {ps : List Pr} (h : His ps) : HiO (ML ps) := fun _ _ _ _ ⟨xs, h1, h3⟩ => ⟨xs, h1, h.all h3⟩
/-- what does not lean on what was there -/
def Sb (P : Pr) : Prop := ∀ h B B' v, (∀ a, h a = none → B' a = B a) → P.p h B v → P.p h B' v
def Sbs : List Pr → Prop
  | [] => True
  | P :: r => Sb P ∧ Sbs r
theorem Sbs.map {α : Type} {R : α → Pr} (h : ∀ x, Sb (R x)) : ∀ l : List α, Sbs (l.map R)
  | [] => trivial
  | x :: l => ⟨h x, Sbs.map h l⟩
theorem Sbs.all {h B B' : Hp} (e : ∀ a, h a = none → B' a = B a) : ∀ {ps : List Pr} {vs : List V}, Sbs ps → All h B ps vs → All h B' ps vs
  | [], [], _, _ => trivial
  | _ :: _, _ :: _, q, a => ⟨q.1 _ _ _ _ e a.1, Sbs.all e q.2 a.2⟩
  | [], _ :: _, _, a => a.elim
  | _ :: _, [], _, a => a.elim
theorem sb_I {i : Int} : Sb (I i) := fun _ _ _ _ _ q => q
theorem sb_Bo {i : Bool} : Sb (Bo i) := fun _ _ _ _ _ q => q
theorem sb_Sx {i : Str} : Sb (Sx i) := fun _ _ _ _ _ q => q
theorem sb_No : Sb No := fun _ _ _ _ _ q => q
theorem sb_Ref {a : Addr} : Sb (Ref a) := fun _ _ _ _ _ q => q
theorem sb_NL {ps : List Pr} (h : Sbs ps) : Sb (N (L ps)) := fun _ _ _ _ e ⟨⟨a, xs, h1, h2, h3⟩, n⟩ => ⟨⟨a, xs, h1, (e a (n a h1)).trans h2, h.all e h3⟩, n⟩
theorem sb_NT {ps : List Pr} (h : Sbs ps) : Sb (N (T ps)) := fun _ _ _ _ e ⟨⟨a, xs, h1, h2, h3⟩, n⟩ => ⟨⟨a, xs, h1, (e a (n a h1)).trans h2, h.all e h3⟩, n⟩

theorem Stb.call {W : Ws} {Δa rest Δ' : Del} {B H B' H' : Hp} (S : Stb W (Δa ++ rest) B H) (S' : Stb ⟨B, H, Δa.map (·.1)⟩ Δ' B' H') : Stb W (Δ' ++ rest) B' H' := by
  have nd := S.nd
  rw [List.map_append] at nd
  obtain ⟨n1, n2, n3⟩ := List.nodup_append.mp nd
  have hin : ∀ a, a ∈ Δa.map (·.1) → H a ≠ none := fun a ha z => by
    obtain ⟨x, hx, rfl⟩ := List.mem_map.mp ha
    obtain ⟨_, o, h2, _⟩ := S.mu x (List.mem_append_left _ hx)
    rw [h2] at z; cases z
  have out : ∀ x ∈ rest, x.1 ∉ Δa.map (·.1) := fun x hx z => n3 _ z _ (List.mem_map_of_mem hx) rfl
  refine ⟨S'.ex, fun x hx => ?_, ?_, S.bb.trans S'.bb, fun a o h n => ?_, fun a h => S'.dm a (S.dm a h), fun a h n => S'.fr a (S.fr a h n) (S.dm a n), fun x hx => ?_, S.msd⟩
  · rcases List.mem_append.mp hx with hx | hx
    · obtain ⟨h1, o, h2, h3⟩ := S'.mu x hx
      exact ⟨h1, o, h2, x.2.anti (fun a h => S.dm a h) h3⟩
    · obtain ⟨h1, o, h2, h3⟩ := S.mu x (List.mem_append_right _ hx)
      exact ⟨S'.fr _ h1 (by show H x.1 ≠ none; rw [h2]; intro z; cases z), o, S'.hh _ _ h2 (out x hx), x.2.mono S'.bb h3⟩
  · rw [List.map_append]
    refine List.nodup_append.mpr ⟨S'.nd, n2, fun a ha b hb e => ?_⟩
    obtain ⟨x, hx, rfl⟩ := List.mem_map.mp ha
    obtain ⟨y, hy, rfl⟩ := List.mem_map.mp hb
    rcases S'.ow x hx with z | z
    · exact out y hy (e ▸ z)
    · obtain ⟨_, o, h2, _⟩ := S.mu y (List.mem_append_right _ hy)
      have z' : H x.1 = none := z
      rw [e, h2] at z'; cases z'
  · refine S'.hh a o (S.hh a o h n) fun z => ?_
    obtain ⟨x, hx, rfl⟩ := List.mem_map.mp z
    rcases S.ow x (List.mem_append_left _ hx) with q | q
    · exact n q
    · rw [q] at h; cases h
  · rcases List.mem_append.mp hx with hx | hx
    · rcases S'.ow x hx with z | z
      · obtain ⟨y, hy, e⟩ := List.mem_map.mp z
        rw [← e]
        exact S.ow y (List.mem_append_left _ hy)
      · exact .inr (S.fresh z)
    · exact S.ow x (List.mem_append_right _ hx)
theorem Stb.pure {B H B' H' : Hp} {Δ' : Del} (S' : Stb ⟨B, H, []⟩ Δ' B' H') : Ext B H B' H' := ⟨S'.bb, fun a o h => S'.hh a o h (by simp), S'.ex, S'.fr⟩

/-! ### calls: what is asked where the arguments are known -/
def CJ (X : Cx) (Γ : Gam) (Δ : Del) (e : Expr) (C : Cn → Prop) (E : L2.St → XK) (Ps : List Pr) : Prop :=
  ∀ (W : Ws) (B H : Hp) (σ : L2.St), Stb W Δ B H → Sl Γ W.H B σ → ∀ Q : VK, (∀ vs B1 H1, Ext B H B1 H1 → All W.H B1 Ps vs → spC C vs H1 Q (E σ)) → wpE X e σ H Q
section
variable {X : Cx} {ms : List Addr} {Γ : Gam} {Δ : Del} {e : Expr} {C : Cn → Prop} {E : L2.St → XK} {Ps : List Pr} {P : Pr}
theorem all_h0 {h B : Hp} {ps : List Pr} {vs : List V} (q : All h B ps vs) : All h0 B ps vs := q.anti fun a z => absurd rfl z
/-- a call that changes nothing -/
theorem ee_call (j : CJ X Γ Δ e C (fun _ => E0) Ps) (c : Cn) (hc : C c) (hp : c.ps = Ps := by rfl) (hΔ : c.Δ = [] := by rfl) (ho : ∀ P' Δ', c.out P' Δ' → P' = P := by exact fun _ _ q => q.1) (hx : ∀ v Δ', c.exc v Δ' → False := by exact fun _ _ q => q) : EE X Γ Δ e P := fun W B H σ S s Q q =>
  j W B H σ S s Q fun vs B1 H1 e1 h1 => by
    refine ⟨c, B1, hc, e1.bh, by rw [hp]; exact all_h0 h1, by rw [hΔ]; exact fun _ z => (List.not_mem_nil z).elim, by rw [hΔ]; exact List.nodup_nil, fun P' Δ' B' H' v o S' hv => ?_, fun x Δ' B' H' o _ => hx x Δ' o⟩
    rw [hΔ] at S'
    have e2 := Stb.pure S'
    obtain rfl := ho P' Δ' o
    exact q v B' H' (e1.trans e2) (P'.anti (fun a h => (S.ext e1).dm a h) hv)
/-- .. whose answer is a new list of plain values -/
def Sc (P : Pr) : Prop := ∀ h B h' B' v, P.p h B v → P.p h' B' v
def Scs : List Pr → Prop
  | [] => True
  | P :: r => Sc P ∧ Scs r
theorem Scs.map {α : Type} {R : α → Pr} (h : ∀ x, Sc (R x)) : ∀ l : List α, Scs (l.map R)
  | [] => trivial
  | x :: l => ⟨h x, Scs.map h l⟩
theorem Scs.all {h B h' B' : Hp} : ∀ {ps : List Pr} {vs : List V}, Scs ps → All h B ps vs → All h' B' ps vs
  | [], [], _, _ => trivial
  | _ :: _, _ :: _, q, a => ⟨q.1 _ _ _ _ _ a.1, Scs.all q.2 a.2⟩
  | [], _ :: _, _, a => a.elim
  | _ :: _, [], _, a => a.elim
theorem sc_I {i : Int} : Sc (I i) := fun _ _ _ _ _ q => q
theorem sc_Bo {i : Bool} : Sc (Bo i) := fun _ _ _ _ _ q => q
theorem sc_Sx {i : Str} : Sc (Sx i) := fun _ _ _ _ _ q => q
theorem en_call {ps : List Pr} (j : CJ X Γ Δ e C (fun _ => E0) Ps) (c : Cn) (hc : C c) (hsc : Scs ps) (hp : c.ps = Ps := by rfl) (hΔ : c.Δ = [] := by rfl) (ho : ∀ P' Δ', c.out P' Δ' → P' = N (L ps) := by exact fun _ _ q => q.1) (hx : ∀ v Δ', c.exc v Δ' → False := by exact fun _ _ q => q) : EN X Γ Δ e ps := fun W B H σ S s Q q =>
  j W B H σ S s Q fun vs B1 H1 e1 h1 => by
    refine ⟨c, B1, hc, e1.bh, by rw [hp]; exact all_h0 h1, by rw [hΔ]; exact fun _ z => (List.not_mem_nil z).elim, by rw [hΔ]; exact List.nodup_nil, fun P' Δ' B' H' v o S' hv => ?_, fun x Δ' B' H' o _ => hx x Δ' o⟩
    rw [hΔ] at S'
    have e2 := Stb.pure S'
    obtain rfl := ho P' Δ' o
    obtain ⟨⟨l, xs, rfl, g1, g2⟩, g3⟩ := hv
    have hl : H1 l = none := g3 l rfl
    exact q l xs B1 H' (e1.trans ⟨Same.refl _, e2.hh, e1.bh.trans e2.hh, fun _ h _ => h⟩) (e2.bh _ _ g1) (e1.bh.free hl) (e1.hh.free hl) (hsc.all g2)
/-- .. that reads what may change -/
structure Br (Δ : Del) (P P' : Pr) : Prop where
  ok : ∀ B H Bp v, Same B H → (∀ e ∈ Δ, ∃ o, H e.1 = some o ∧ e.2.p h0 B o) → Same B Bp → (∀ e ∈ Δ, Bp e.1 = H e.1) → P.p h0 B v → P'.p h0 Bp v
def Brs (Δ : Del) : List Pr → List Pr → Prop
  | [], [] => True
  | P :: r, P' :: r' => Br Δ P P' ∧ Brs Δ r r'
  | _, _ => False
theorem Brs.all {B H Bp : Hp} (e : Same B H) (hm : ∀ e ∈ Δ, ∃ o, H e.1 = some o ∧ e.2.p h0 B o) (e2 : Same B Bp) (hb : ∀ e ∈ Δ, Bp e.1 = H e.1) : ∀ {ps qs : List Pr} {vs : List V}, Brs Δ ps qs → All h0 B ps vs → All h0 Bp qs vs
  | [], [], [], _, _ => trivial
  | _ :: _, _ :: _, _ :: _, q, a => ⟨q.1.ok B H Bp _ e hm e2 hb a.1, Brs.all e hm e2 hb q.2 a.2⟩
  | [], _ :: _, _, q, _ => q.elim
  | _ :: _, [], _, q, _ => q.elim
  | [], [], _ :: _, _, a => a.elim
  | _ :: _, _ :: _, [], _, a => a.elim
theorem bc {P P' : Pr} {ps qs : List Pr} (h : Br Δ P P') (t : Brs Δ ps qs) : Brs Δ (P :: ps) (P' :: qs) := ⟨h, t⟩
theorem bn : Brs Δ [] [] := trivial
theorem br_ : Br Δ P P := ⟨fun _ _ _ _ _ _ e _ h => P.mono e h⟩
theorem br_un {P : Pr} : Br Δ (N P) P := ⟨fun _ _ _ _ _ _ e _ h => P.mono e h.1⟩
theorem br_L (n : Nat) {a : Addr} {ps : List Pr} (h : Δ[n]? = some (a, ML ps)) : Br Δ (Ref a) (L ps) := ⟨fun B H Bp v _ hm e hb hv => by
  have ev : v = .ref a := hv
  subst ev
  have hmem := List.mem_of_getElem? h
  obtain ⟨o, h1, xs, rfl, h2⟩ := hm _ hmem
  exact ⟨a, xs, rfl, (hb _ hmem).trans h1, h2.mono e⟩⟩
theorem borrow {W : Ws} {B1 H1 : Hp} (S1 : Stb W Δ B1 H1) : ∃ Bp : Hp, Same B1 Bp ∧ Same Bp H1 ∧ (∀ e ∈ Δ, Bp e.1 = H1 e.1) ∧ ∀ a, a ∉ Δ.map (·.1) → Bp a = B1 a := by
  have inn : ∀ a, a ∈ Δ.map (·.1) → B1 a = none := fun a h => by
    obtain ⟨x, hx, rfl⟩ := List.mem_map.mp h
    exact (S1.mu x hx).1
  refine ⟨fun a => if a ∈ Δ.map (·.1) then H1 a else B1 a, fun a o h => ?_, fun a o h => ?_, fun x hx => if_pos (List.mem_map_of_mem hx), fun a h => if_neg h⟩
  · by_cases ha : a ∈ Δ.map (·.1)
    · rw [inn a ha] at h; cases h
    · exact (if_neg ha).trans h
  · by_cases ha : a ∈ Δ.map (·.1)
    · exact (if_pos ha).symm.trans h
    · exact S1.ex a o ((if_neg ha).symm.trans h)
theorem ee_callB (j : CJ X Γ Δ e C (fun _ => E0) Ps) (c : Cn) (hc : C c) (hp : Brs Δ Ps c.ps) (hsb : Sb P) (hΔ : c.Δ = [] := by rfl) (ho : ∀ P' Δ', c.out P' Δ' → P' = P := by exact fun _ _ q => q.1) (hx : ∀ v Δ', c.exc v Δ' → False := by exact fun _ _ q => q) : EE X Γ Δ e P := fun W B H σ S s Q q =>
  j W B H σ S s Q fun vs B1 H1 e1 h1 => by
    have S1 := S.ext e1
    let bs := Δ.map (·.1)
    let Bp : Hp := fun a => if a ∈ bs then H1 a else B1 a
    have bin : ∀ a, a ∈ bs → Bp a = H1 a := fun a h => if_pos h
    have bout : ∀ a, a ∉ bs → Bp a = B1 a := fun a h => if_neg h
    have inn : ∀ a, a ∈ bs → B1 a = none ∧ H1 a ≠ none := fun a h => by
      obtain ⟨x, hx, rfl⟩ := List.mem_map.mp h
      obtain ⟨h1, o, h2, _⟩ := S1.mu x hx
      exact ⟨h1, by rw [h2]; intro z; cases z⟩
    have sbp : Same B1 Bp := fun a o h => by
      by_cases ha : a ∈ bs
      · rw [(inn a ha).1] at h; cases h
      · rw [bout a ha]; exact h
    have sbh : Same Bp H1 := fun a o h => by
      by_cases ha : a ∈ bs
      · rw [bin a ha] at h; exact h
      · rw [bout a ha] at h; exact e1.bh a o h
    have hm : ∀ e ∈ Δ, ∃ o, H1 e.1 = some o ∧ e.2.p h0 B1 o := fun x hx => by
      obtain ⟨_, o, h2, h3⟩ := S1.mu x hx
      exact ⟨o, h2, x.2.anti (fun a z => absurd rfl z) h3⟩
    refine ⟨c, Bp, hc, sbh, Brs.all e1.bh hm sbp (fun x hx => bin _ (List.mem_map_of_mem hx)) hp (all_h0 h1), by rw [hΔ]; exact fun _ z => (List.not_mem_nil z).elim, by rw [hΔ]; exact List.nodup_nil, fun P' Δ' B' H' v o S' hv => ?_, fun x Δ' B' H' o _ => hx x Δ' o⟩
    rw [hΔ] at S'
    have e2 := Stb.pure S'
    obtain rfl := ho P' Δ' o
    let B2 : Hp := fun a => if a ∈ bs then none else B' a
    have b2o : ∀ a, a ∉ bs → B2 a = B' a := fun a h => if_neg h
    have b2i : ∀ a, a ∈ bs → B2 a = none := fun a h => if_pos h
    have e3 : Ext B1 H1 B2 H' := ⟨fun a o h => by
        by_cases ha : a ∈ bs
        · rw [(inn a ha).1] at h; cases h
        · rw [b2o a ha]; exact e2.bb a o (by rw [bout a ha]; exact h), e2.hh, fun a o h => by
        by_cases ha : a ∈ bs
        · rw [b2i a ha] at h; cases h
        · rw [b2o a ha] at h; exact e2.bh a o h, fun a h n => by
        by_cases ha : a ∈ bs
        · exact b2i a ha
        · rw [b2o a ha]; exact e2.fr a (by rw [bout a ha]; exact h) n⟩
    refine q v B2 H' (e1.trans e3) (P'.anti (fun a h => S1.dm a h) (hsb _ B' _ _ (fun a h => ?_) hv))
    by_cases ha : a ∈ bs
    · exact absurd h (inn a ha).2
    · exact b2o a ha
theorem en_callB {ps : List Pr} (j : CJ X Γ Δ e C (fun _ => E0) Ps) (c : Cn) (hc : C c) (hp : Brs Δ Ps c.ps) (hsc : Scs ps) (hΔ : c.Δ = [] := by rfl) (ho : ∀ P' Δ', c.out P' Δ' → P' = N (L ps) := by exact fun _ _ q => q.1) (hx : ∀ v Δ', c.exc v Δ' → False := by exact fun _ _ q => q) : EN X Γ Δ e ps := fun W B H σ S s Q q =>
  j W B H σ S s Q fun vs B1 H1 e1 h1 => by
    have S1 := S.ext e1
    obtain ⟨Bp, g1, g2, g3, g4⟩ := borrow S1
    have hm : ∀ e ∈ Δ, ∃ o, H1 e.1 = some o ∧ e.2.p h0 B1 o := fun x hx => by
      obtain ⟨_, o, h2, h3⟩ := S1.mu x hx
      exact ⟨o, h2, x.2.anti (fun a z => absurd rfl z) h3⟩
    refine ⟨c, Bp, hc, g2, Brs.all e1.bh hm g1 g3 hp (all_h0 h1), by rw [hΔ]; exact fun _ z => (List.not_mem_nil z).elim, by rw [hΔ]; exact List.nodup_nil, fun P' Δ' B' H' v o S' hv => ?_, fun x Δ' B' H' o _ => hx x Δ' o⟩
    rw [hΔ] at S'
    have e2 := Stb.pure S'
    obtain rfl := ho P' Δ' o
    obtain ⟨⟨l, xs, rfl, k1, k2⟩, k3⟩ := hv
    have hl : H1 l = none := k3 l rfl
    exact q l xs B1 H' (e1.trans ⟨Same.refl _, e2.hh, e1.bh.trans e2.hh, fun _ h _ => h⟩) (e2.bh _ _ k1) (e1.bh.free hl) (e1.hh.free hl) (hsc.all k2)
/-- a call that may change its entries -/
theorem em_call (j : ∀ Wi, L2N.Takes X Wi → CJ X Γ Δ e C (WE Wi) Ps) (c : Cn) (hc : C c) {rest : Del} (hΔ : Δ.Perm (c.Δ ++ rest)) (hp : c.ps = Ps := by rfl) :
    EM X ms Γ Δ e (fun P Δ' => ∃ Δc, c.out P Δc ∧ Δ' = Δc ++ rest) (fun v Δ' => ∃ Δc, c.exc v Δc ∧ Δ' = Δc ++ rest) := fun W Wi B H σ hm tk S s hx Q q =>
  j Wi tk W B H σ S s Q fun vs B1 H1 e1 h1 => by
    have S1 := (S.ext e1).perm hΔ
    have nd := S1.nd
    rw [List.map_append] at nd
    refine ⟨c, B1, hc, e1.bh, by rw [hp]; exact all_h0 h1, fun x hx => ?_, (List.nodup_append.mp nd).1, fun P' Δ' B' H' v o S' hv => ?_, fun x Δ' B' H' o S' => ?_⟩
    · obtain ⟨g1, o, g2, g3⟩ := S1.mu x (List.mem_append_left _ hx)
      exact ⟨g1, o, g2, x.2.anti (fun a z => absurd rfl z) g3⟩
    · exact q P' (Δ' ++ rest) v B' H' ⟨Δ', o, rfl⟩ (S1.call S') (e1.bb.trans S'.bb) (P'.anti (fun a h => S1.dm a h) hv)
    · exact hx x (Δ' ++ rest) B' H' ⟨Δ', o, rfl⟩ (S1.call S') (e1.bb.trans S'.bb)
theorem em_of {Kx : Value → Del → Prop} (h : EE X Γ Δ e P) : EM X ms Γ Δ e (fun P' Δ' => P' = P ∧ Δ' = Δ) Kx := fun W Wi B H σ hm tk S s hx Q q =>
  h W B H σ S s Q fun v B1 H1 e1 h1 => q P Δ v B1 H1 ⟨rfl, rfl⟩ (S.ext e1) e1.bb h1
theorem em_imp {K K' : Pr → Del → Prop} {Kx Kx' : Value → Del → Prop} (h : EM X ms Γ Δ e K Kx) (hk : ∀ P Δ, K P Δ → K' P Δ) (hx : ∀ v Δ, Kx v Δ → Kx' v Δ) : EM X ms Γ Δ e K' Kx' := fun W Wi B H σ hm tk S s hx' Q q =>
  h W Wi B H σ hm tk S s (fun c Δ' B' H' k => hx' c Δ' B' H' (hx _ _ k)) Q fun P Δ' v B' H' k => q P Δ' v B' H' (hk _ _ k)
end
/-- a def of the text, where it stands, its contracts -/
structure Fnc (P : Program) (w : World) (K : PySem.W.Frag) (mg : Str → Option Value) (base : Heap) (x : Str) (C : Cn → Prop) (k : Nat) : Prop where
  ex : ∃ f fd ps, FnOk P w K mg base (L2N.CX P w) k f fd ps (spC C) ∧ mg x = some (.ref f) ∧ PySem.W.keepIn K (.ref f) = true ∧ Binds K fd ps []
structure Mtc (P : Program) (w : World) (K : PySem.W.Frag) (mg : Str → Option Value) (base : Heap) (Cl : Addr) (m : Str) (C : Cn → Prop) (k : Nat) (dvs : List V) : Prop where
  cl : Cls K Cl
  ex : ∃ f fd ps ds, FnOk P w K mg base (L2N.CX P w) k f fd ps (spC C) ∧ Meth K Cl m f ∧ Binds K fd ps ds ∧ Vals dvs ds
section
variable {X : Cx} {Γ : Gam} {Δ : Del} {e o : Expr} {es : List Expr} {C : Cn → Prop} {Ps dps : List Pr} {P : Pr} {x m : Str} {k j : Nat} {q pos apos : Pos} {Cl : Addr} {dvs : List V}
theorem cj_fn0 (F : Fnc X.prog X.w X.K X.mg X.base x C k) (hr : Room j X.A) (hk : k ≤ j) (hg : Gl X x) (ha : EA X Γ Δ (e :: es) Ps) (hdb : (x == ("__debug__" : Str)) = false := by decide)
    (he : starEach (e :: es) X.env = (false, eval e X.env) :: starEach es X.env := by rfl) (hpl : (backTo pos (starEach es X.env)).any (·.1) = false := by rfl) : CJ X Γ Δ (.Call (.Name x q) (e :: es) [] pos) C (fun _ => E0) Ps := fun W B H σ S s Q h => by
  obtain ⟨f, fd, ps, F, hm, kp, b⟩ := F.ex
  refine wpE_of (pe_call F (hr.mono hk) hg hm kp b .nil passN pa_wp hdb he hpl) (ha W B H σ S s _ fun vs B1 H1 e1 h1 => ?_)
  show spC C (vs ++ []) H1 Q E0
  rw [List.append_nil]
  exact h vs B1 H1 e1 h1
theorem cj_fn (F : Fnc X.prog X.w X.K X.mg X.base x C k) (hr : Room j X.A) (hk : k ≤ j) (hg : Gl X x) (ha : EA X Γ Δ (e :: es) Ps) (hdb : (x == ("__debug__" : Str)) = false := by decide)
    (he : starEach (e :: es) X.env = (false, eval e X.env) :: starEach es X.env := by rfl) (hpl : (backTo pos (starEach es X.env)).any (·.1) = false := by rfl) : ∀ Wi, L2N.Takes X Wi → CJ X Γ Δ (.Call (.Name x q) (e :: es) [] pos) C (WE Wi) Ps := fun Wi tk W B H σ S s Q h => by
  obtain ⟨f, fd, ps, F, hm, kp, b⟩ := F.ex
  exact wpE_of (pe_callS F (hr.mono hk) hg hm kp b (fun σ => L2N.passAt tk σ) pa_wp hdb he hpl) (ha W B H σ S s _ fun vs B1 H1 e1 h1 => h vs B1 H1 e1 h1)
end
end Yb
set_option maxHeartbeats 1000000
namespace Yb
open PySem PySem.Spec PyProof.Rows L2
section
variable {X : Cx} {ms : List Addr} {Γ : Gam} {Δ : Del} {K : Kk} {rest : List Stmt} {e a b o : Expr} {P : Pr} {pos pos' apos p2 : Pos} {k : Bool} {ps : List Pr} {x : Str}

/-! ### blocks -/
theorem go_nil (h : K.nx Γ Δ) : Go X ms Γ Δ [] K := fun W Wi B H σ D hm tk S s ok => wpSs_of pss_nil (ok.nx _ _ _ _ _ h S s)
theorem go_wk {Γ' : Gam} (w : Wk Γ Γ') {sts : List Stmt} (h : Go X ms Γ' Δ sts K) : Go X ms Γ Δ sts K := fun W Wi B H σ D hm tk S s ok => h W Wi B H σ D hm tk S (s.wk w) ok
theorem go_imp {K' : Kk} {sts : List Stmt} (h : Go X ms Γ Δ sts K) (i1 : ∀ Γ Δ, K.nx Γ Δ → K'.nx Γ Δ := by exact fun _ _ q => q) (i2 : ∀ Γ Δ, K.rt Γ Δ → K'.rt Γ Δ := by exact fun _ _ q => q) (i3 : ∀ Γ Δ, K.bk Γ Δ → K'.bk Γ Δ := by exact fun _ _ q => q)
    (i4 : ∀ Γ Δ, K.ct Γ Δ → K'.ct Γ Δ := by exact fun _ _ q => q) (i5 : ∀ c Γ Δ, K.ex c Γ Δ → K'.ex c Γ Δ := by exact fun _ _ _ q => q) : Go X ms Γ Δ sts K' := fun W Wi B H σ D hm tk S s ok =>
  h W Wi B H σ D hm tk S s ⟨fun _ _ _ _ _ q => ok.nx _ _ _ _ _ (i1 _ _ q), fun _ _ _ _ _ q => ok.rt _ _ _ _ _ (i2 _ _ q), fun _ _ _ _ _ q => ok.bk _ _ _ _ _ (i3 _ _ q), fun _ _ _ _ _ q => ok.ct _ _ _ _ _ (i4 _ _ q), fun _ _ _ _ _ _ q => ok.ex _ _ _ _ _ _ (i5 _ _ _ q)⟩
theorem go_set (i : Nat) (he : EE X Γ Δ e P) (hN : X.N.Nodup) (h : Go X ms (Γ.set i (some P)) Δ rest K) (hi : X.N[i]? = some x := by rfl) (hx : Loc X.env.scope x := by first | exact Or.inl rfl | exact Or.inr rfl) (hs : swapsWith e (some (.Name x pos')) pos.line X.env = pure false := by rfl)
    (hf : X.fn x = true ∨ X.env.scope.names.lookup x = some .local := by first | exact .inl rfl | exact .inr rfl) : Go X ms Γ Δ (.Assign [.Name x pos'] e pos :: rest) K := fun W Wi B H σ D hm tk S s ok =>
  wpSs_of (pss_cons (ps_set hN hi hx pe_wp hs hf) pss_wp) (he W B H σ S s _ fun v B1 H1 e1 h1 => h W Wi B1 H1 _ D hm tk (S.ext e1) ((s.mono e1.bb).set i h1) ok)
theorem go_setM {Ke : Pr → Del → Prop} {Kx : Value → Del → Prop} (i : Nat) (he : EM X ms Γ Δ e Ke Kx) (hN : X.N.Nodup) (hxx : ∀ c Δ', Kx c Δ' → K.ex c Γ Δ') (h : ∀ P Δ', Ke P Δ' → Go X ms (Γ.set i (some P)) Δ' rest K) (hi : X.N[i]? = some x := by rfl) (hx : Loc X.env.scope x := by first | exact Or.inl rfl | exact Or.inr rfl)
    (hs : swapsWith e (some (.Name x pos')) pos.line X.env = pure false := by rfl) (hf : X.fn x = true ∨ X.env.scope.names.lookup x = some .local := by first | exact .inl rfl | exact .inr rfl) :
    Go X ms Γ Δ (.Assign [.Name x pos'] e pos :: rest) K := fun W Wi B H σ D hm tk S s ok =>
  wpSs_of (pss_cons (ps_set hN hi hx pe_wp hs hf) pss_wp) (he W Wi B H σ hm tk S s (fun c Δ' B' H' kx S' e' => ok.ex _ _ _ _ _ _ (hxx c Δ' kx) S' (s.mono e')) _ fun P Δ' v B1 H1 kp S1 e1 h1 => h P Δ' kp W Wi B1 H1 _ D hm tk S1 ((s.mono e1).set i h1) ok)
theorem go_expr (he : EE X Γ Δ e P) (h : Go X ms Γ Δ rest K) (hs : swapsWith e none pos.line X.env = pure false := by rfl) : Go X ms Γ Δ (.Expr e pos :: rest) K := fun W Wi B H σ D hm tk S s ok =>
  wpSs_of (pss_cons (ps_expr pe_wp hs) pss_wp) (he W B H σ S s _ fun v B1 H1 e1 h1 => h W Wi B1 H1 _ D hm tk (S.ext e1) (s.mono e1.bb) ok)
theorem go_exprM {Ke : Pr → Del → Prop} {Kx : Value → Del → Prop} (he : EM X ms Γ Δ e Ke Kx) (hxx : ∀ c Δ', Kx c Δ' → K.ex c Γ Δ') (h : ∀ P Δ', Ke P Δ' → Go X ms Γ Δ' rest K) (hs : swapsWith e none pos.line X.env = pure false := by rfl) : Go X ms Γ Δ (.Expr e pos :: rest) K := fun W Wi B H σ D hm tk S s ok =>
  wpSs_of (pss_cons (ps_expr pe_wp hs) pss_wp) (he W Wi B H σ hm tk S s (fun c Δ' B' H' kx S' e' => ok.ex _ _ _ _ _ _ (hxx c Δ' kx) S' (s.mono e')) _ fun P Δ' v B1 H1 kp S1 e1 h1 => h P Δ' kp W Wi B1 H1 _ D hm tk S1 (s.mono e1) ok)
theorem go_ret (he : EE X Γ Δ e P) (h : K.rt P Δ) : Go X ms Γ Δ (.Return (some e) pos :: rest) K := fun W Wi B H σ D hm tk S s ok =>
  wpSs_of (pss_cons (ps_ret pe_wp) pss_wp) (he W B H σ S s _ fun v B1 H1 e1 h1 => ok.rt P Δ B1 H1 v h (S.ext e1) h1)
theorem go_retM {Ke : Pr → Del → Prop} {Kx : Value → Del → Prop} (he : EM X ms Γ Δ e Ke Kx) (hxx : ∀ c Δ', Kx c Δ' → K.ex c Γ Δ') (h : ∀ P Δ', Ke P Δ' → K.rt P Δ') : Go X ms Γ Δ (.Return (some e) pos :: rest) K := fun W Wi B H σ D hm tk S s ok =>
  wpSs_of (pss_cons (ps_ret pe_wp) pss_wp) (he W Wi B H σ hm tk S s (fun c Δ' B' H' kx S' e' => ok.ex _ _ _ _ _ _ (hxx c Δ' kx) S' (s.mono e')) _ fun P Δ' v B1 H1 kp S1 e1 h1 => ok.rt P Δ' B1 H1 v (h P Δ' kp) S1 h1)
theorem go_pass (h : Go X ms Γ Δ rest K) : Go X ms Γ Δ (.Pass pos :: rest) K := fun W Wi B H σ D hm tk S s ok => wpSs_of (pss_cons ps_pass pss_wp) (h W Wi B H σ D hm tk S s ok)
/-- K with another way on -/
abbrev Kk.to (K : Kk) (n : Gam → Del → Prop) : Kk := { K with nx := n }
theorem Kk.Ok.to {W : Ws} {Wi : WX} {D : Ends} {n : Gam → Del → Prop} {m : L2.St → Hp → Prop} (ok : K.Ok W Wi D) (h : ∀ Γ Δ B H σ, n Γ Δ → Stb W Δ B H → Sl Γ W.H B σ → m σ H) : (K.to n).Ok W Wi { D with nx := m } := ⟨h, ok.rt, ok.bk, ok.ct, ok.ex⟩
theorem go_if {t u : List Stmt} (hc : ET X Γ Δ e k) (h1 : k = true → Go X ms Γ Δ t (K.to fun Γ' Δ' => Go X ms Γ' Δ' rest K)) (h2 : k = false → Go X ms Γ Δ u (K.to fun Γ' Δ' => Go X ms Γ' Δ' rest K)) : Go X ms Γ Δ (.If e t u pos :: rest) K := fun W Wi B H σ D hm tk S s ok =>
  wpSs_of (pss_cons (ps_if pt_wp pss_wp pss_wp) pss_wp) (hc W B H σ S s _ fun B1 H1 e1 => by
    have ok' : (K.to fun Γ' Δ' => Go X ms Γ' Δ' rest K).Ok W Wi { D with nx := wpSs X rest D } := ok.to fun Γ' Δ' B H σ g S s => g W Wi B H σ D hm tk S s ok
    cases k with
    | true => exact h1 rfl W Wi B1 H1 σ _ hm tk (S.ext e1) (s.mono e1.bb) ok'
    | false => exact h2 rfl W Wi B1 H1 σ _ hm tk (S.ext e1) (s.mono e1.bb) ok')
/-- an if whose end is told once: M -/
theorem go_ifc {t u : List Stmt} (M : Gam → Del → Prop) (hc : ET X Γ Δ e k) (h1 : k = true → Go X ms Γ Δ t (K.to M)) (h2 : k = false → Go X ms Γ Δ u (K.to M)) (h3 : ∀ Γ' Δ', M Γ' Δ' → Go X ms Γ' Δ' rest K) : Go X ms Γ Δ (.If e t u pos :: rest) K :=
  go_if hc (fun z => go_imp (h1 z) (i1 := h3)) (fun z => go_imp (h2 z) (i1 := h3))
/-! ### loops -/
theorem go_forR {n : Int} {body : List Stmt} {px pr pc : Pos} (j : Nat) (Γf : Nat → Gam) (Δf : Nat → Del) (Pre : Nat → Prop) (hp : PassesOwn (model X.prog X.w) X.A X.env X.xe) (hN : X.N.Nodup) (ha : EE X Γ Δ a (I n)) (hn : n ≤ 100000) (hn0 : -100000 ≤ n) (h0 : Wk Γ (Γf 0) ∧ Δ = Δf 0 ∧ Pre 0)
    (hg : Gl X "range") (hm' : X.mg "range" = none) (hs : ∀ i : Nat, (i : Int) < n → Pre i → Go X ms ((Γf i).set j (some (I (i : Int)))) (Δf i) body { nx := fun Γ' Δ' => Wk Γ' (Γf (i + 1)) ∧ Δ' = Δf (i + 1) ∧ Pre (i + 1), ct := fun Γ' Δ' => Wk Γ' (Γf (i + 1)) ∧ Δ' = Δf (i + 1) ∧ Pre (i + 1), rt := K.rt, ex := K.ex })
    (hd : Pre n.toNat → Go X ms (Γf n.toNat) (Δf n.toNat) rest K) (hc : X.calm = true := by rfl) (hi : X.N[j]? = some x := by rfl) (hx : Loc X.env.scope x := by first | exact Or.inl rfl | exact Or.inr rfl) (hf : X.fn x = true ∨ X.env.scope.names.lookup x = some .local := by first | exact .inl rfl | exact .inr rfl)
    (hst : starEach [a] X.env = (false, eval a X.env) :: starEach [] X.env := by rfl) (hst2 : starEach [a] X.env = [(false, eval a X.env)] := by rfl) (hfs : ∀ x, foldedSetIterable (.Call (.Name "range" pr) [a] [] pc) X.env x = pure x := by intro _; rfl) :
    Go X ms Γ Δ (.For (.Name x px) (.Call (.Name "range" pr) [a] [] pc) body [] pos :: rest) K := fun W Wi B H σ D hm tk S s ok =>
  wpSs_of (pss_cons (ps_for hp hc (pi_range1 hg hm' (pa_cons pe_wp pa_nil hst) hst2) (pg_name hN hi hx hf) pss_wp hfs) pss_wp) (ha W B H σ S s _ fun v B1 H1 e1 h1 => ⟨n, by rw [show v = .int n from h1], by omega, by omega,
    for_range (lo := 0) (n := n.toNat) (fun i σ' H' => ∃ B', Stb W (Δf i) B' H' ∧ Sl (Γf i) W.H B' σ' ∧ Pre i) ⟨B1, h0.2.1 ▸ S.ext e1, (s.mono e1.bb).wk h0.1, h0.2.2⟩ (fun i σ' H' hlt ⟨B', S', s', p'⟩ => by
      have e0 : (0 : Int) + (i : Int) = (i : Int) := Int.zero_add _
      show wpSs X body _ (σ'.set j (some (.int ((0 : Int) + (i : Int))))) H'
      rw [e0]
      exact hs i (by omega) p' W Wi B' H' _ _ hm tk S' (s'.set j rfl) ⟨fun Γ' Δ' B2 H2 σ2 q S2 s2 => ⟨B2, q.2.1 ▸ S2, s2.wk q.1, q.2.2⟩, ok.rt, fun _ _ _ _ _ q => q.elim, fun Γ' Δ' B2 H2 σ2 q S2 s2 => ⟨B2, q.2.1 ▸ S2, s2.wk q.1, q.2.2⟩, ok.ex⟩)
      (fun σ' H' ⟨B', S', s', p'⟩ => hd p' W Wi B' H' σ' D hm tk S' s' ok)⟩)
theorem go_forR2 {lo n : Int} {body : List Stmt} {px pr pc : Pos} (j : Nat) (Γf : Nat → Gam) (Δf : Nat → Del) (Pre : Nat → Prop) (hp : PassesOwn (model X.prog X.w) X.A X.env X.xe) (hN : X.N.Nodup) (ha : EE X Γ Δ a (I lo)) (hb : EE X Γ Δ b (I n)) (hn : (n ≤ 100000 ∧ -100000 ≤ n) ∧ lo ≤ 100000 ∧ -100000 ≤ lo) (h0 : Wk Γ (Γf 0) ∧ Δ = Δf 0 ∧ Pre 0)
    (hg : Gl X "range") (hm' : X.mg "range" = none) (hs : ∀ i : Nat, lo + (i : Int) < n → Pre i → Go X ms ((Γf i).set j (some (I (lo + (i : Int))))) (Δf i) body { nx := fun Γ' Δ' => Wk Γ' (Γf (i + 1)) ∧ Δ' = Δf (i + 1) ∧ Pre (i + 1), ct := fun Γ' Δ' => Wk Γ' (Γf (i + 1)) ∧ Δ' = Δf (i + 1) ∧ Pre (i + 1), rt := K.rt, ex := K.ex })
    (hd : Pre (n - lo).toNat → Go X ms (Γf (n - lo).toNat) (Δf (n - lo).toNat) rest K) (hc : X.calm = true := by rfl) (hi : X.N[j]? = some x := by rfl) (hx : Loc X.env.scope x := by first | exact Or.inl rfl | exact Or.inr rfl) (hf : X.fn x = true ∨ X.env.scope.names.lookup x = some .local := by first | exact .inl rfl | exact .inr rfl)
    (hst : starEach [a, b] X.env = (false, eval a X.env) :: starEach [b] X.env := by rfl) (hst2 : starEach [b] X.env = (false, eval b X.env) :: starEach [] X.env := by rfl) (hst3 : starEach [a, b] X.env = [(false, eval a X.env), (false, eval b X.env)] := by rfl) (hst4 : starEach [b] X.env = [(false, eval b X.env)] := by rfl)
    (hfs : ∀ x, foldedSetIterable (.Call (.Name "range" pr) [a, b] [] pc) X.env x = pure x := by intro _; rfl) :
    Go X ms Γ Δ (.For (.Name x px) (.Call (.Name "range" pr) [a, b] [] pc) body [] pos :: rest) K := fun W Wi B H σ D hm tk S s ok =>
  wpSs_of (pss_cons (ps_for hp hc (pi_range2 hg hm' (pa_cons pe_wp (pa_cons pe_wp pa_nil hst2) hst) hst3 hst4) (pg_name hN hi hx hf) pss_wp hfs) pss_wp) (ha W B H σ S s _ fun v B1 H1 e1 h1 => hb W B1 H1 σ (S.ext e1) (s.mono e1.bb) _ fun u B2 H2 e2 h2 =>
    ⟨lo, n, by rw [show v = .int lo from h1, show u = .int n from h2], by omega,
    for_range (lo := lo) (n := (n - lo).toNat) (fun i σ' H' => ∃ B', Stb W (Δf i) B' H' ∧ Sl (Γf i) W.H B' σ' ∧ Pre i) ⟨B2, h0.2.1 ▸ (S.ext e1).ext e2, ((s.mono e1.bb).mono e2.bb).wk h0.1, h0.2.2⟩ (fun i σ' H' hlt ⟨B', S', s', p'⟩ =>
      hs i (by omega) p' W Wi B' H' _ _ hm tk S' (s'.set j rfl) ⟨fun Γ' Δ' B2 H2 σ2 q S2 s2 => ⟨B2, q.2.1 ▸ S2, s2.wk q.1, q.2.2⟩, ok.rt, fun _ _ _ _ _ q => q.elim, fun Γ' Δ' B2 H2 σ2 q S2 s2 => ⟨B2, q.2.1 ▸ S2, s2.wk q.1, q.2.2⟩, ok.ex⟩)
      (fun σ' H' ⟨B', S', s', p'⟩ => hd p' W Wi B' H' σ' D hm tk S' s' ok)⟩)
/-- a list that stands still -/
def EF (X : Cx) (Γ : Gam) (Δ : Del) (e : Expr) (ps : List Pr) : Prop := ∀ (W : Ws) (B H : Hp) (σ : L2.St), Stb W Δ B H → Sl Γ W.H B σ → ∀ Q : VK, (∀ a xs B2 H2, Ext B H B2 H2 → SqL X.K B2 a xs → All W.H B2 ps xs → Q (.ref a) H2) → wpE X e σ H Q
theorem ef_L (h : EE X Γ Δ e (L ps)) : EF X Γ Δ e ps := fun W B H σ S s Q q => h W B H σ S s _ fun v B1 H1 e1 h1 => by
  obtain ⟨l, xs, rfl, h2, h3⟩ := h1
  exact q l xs B1 H1 e1 (SqL.of h2) h3
theorem ef_scr {ns : List Int} (h : EE X Γ Δ e (Scr X.K ns)) : EF X Γ Δ e (ns.map I) := fun W B H σ S s Q q => h W B H σ S s _ fun v B1 H1 e1 h1 => by
  obtain ⟨l, rfl, h2⟩ := h1
  exact q l _ B1 H1 e1 h2 (ints_all ns)
theorem Stb.base {W : Ws} {Δ1 : Del} {B1 H1 : Hp} (S : Stb W Δ1 B1 H1) : Stb ⟨B1, W.H, W.ms⟩ Δ1 B1 H1 := ⟨S.ex, S.mu, S.nd, Same.refl _, S.hh, S.dm, fun _ h _ => h, S.ow, S.msd⟩
theorem Stb.unbase {W : Ws} {Δ1 Δ2 : Del} {B1 H1 B2 H2 : Hp} (S : Stb W Δ1 B1 H1) (S2 : Stb ⟨B1, W.H, W.ms⟩ Δ2 B2 H2) : Stb W Δ2 B2 H2 := ⟨S2.ex, S2.mu, S2.nd, S.bb.trans S2.bb, S2.hh, S2.dm, fun a h n => S2.fr a (S.fr a h n) n, S2.ow, S2.msd⟩
theorem Kk.Ok.base {W : Ws} {Wi : WX} {D : Ends} {Δ1 : Del} {B1 H1 : Hp} (S : Stb W Δ1 B1 H1) (ok : K.Ok W Wi D) : K.Ok ⟨B1, W.H, W.ms⟩ Wi D :=
  ⟨fun _ _ _ _ _ q S2 s => ok.nx _ _ _ _ _ q (S.unbase S2) s, fun _ _ _ _ _ q S2 s => ok.rt _ _ _ _ _ q (S.unbase S2) s, fun _ _ _ _ _ q S2 s => ok.bk _ _ _ _ _ q (S.unbase S2) s, fun _ _ _ _ _ q S2 s => ok.ct _ _ _ _ _ q (S.unbase S2) s, fun _ _ _ _ _ _ q S2 s => ok.ex _ _ _ _ _ _ q (S.unbase S2) s⟩
/-- a loop over a list that stands still; f: what the target does with an item of P -/
theorem go_forG {tg : Expr} {body : List Stmt} {f : Nat → Gam → Gam} (Γf : Nat → Gam) (Δf : Nat → Del) (Pre : Nat → Prop) (hp : PassesOwn (model X.prog X.w) X.A X.env X.xe) (ha : EF X Γ Δ a ps) (h0 : Wk Γ (Γf 0) ∧ Δ = Δf 0 ∧ Pre 0)
    (hs : ∀ (i : Nat) (P : Pr), ps[i]? = some P → Pre i → Go X ms (f i (Γf i)) (Δf i) body { nx := fun Γ' Δ' => Wk Γ' (Γf (i + 1)) ∧ Δ' = Δf (i + 1) ∧ Pre (i + 1), ct := fun Γ' Δ' => Wk Γ' (Γf (i + 1)) ∧ Δ' = Δf (i + 1) ∧ Pre (i + 1), rt := K.rt, ex := K.ex })
    (hd : Pre ps.length → Go X ms (Γf ps.length) (Δf ps.length) rest K) (hg : ∃ g, PG X tg g ∧ ∀ (i : Nat) (P : Pr), ps[i]? = some P → ∀ (Γ : Gam) (h B : Hp) (σ : L2.St) (H : Hp) (v : V) (Q : L2.St → Hp → Prop), Same B H → Sl Γ h B σ → P.p h B v → (∀ σ', Sl (f i Γ) h B σ' → Q σ' H) → g v σ H Q)
    (hc : X.calm = true := by rfl) (hfs : ∀ x, foldedSetIterable a X.env x = pure x := by intro _; rfl) : Go X ms Γ Δ (.For tg a body [] pos :: rest) K := fun W Wi B H σ D hm tk S s ok => by
  obtain ⟨g, pg, hgo⟩ := hg
  refine wpSs_of (pss_cons (ps_for hp hc (pi_list pe_wp) pg pss_wp hfs) pss_wp) (ha W B H σ S s _ fun l xs B1 H1 e1 h1 h2 => ⟨l, rfl, ⟨xs, Same.seq e1.bh h1⟩, ?_⟩)
  have hl : ps.length = xs.length := h2.len
  have S1 := S.ext e1
  refine for_list (K := X.K) (a := l) (xs := xs) (fun i σ' H' => ∃ B', Stb ⟨B1, W.H, W.ms⟩ (Δf i) B' H' ∧ Sl (Γf i) W.H B' σ' ∧ Pre i) ⟨B1, h0.2.1 ▸ S1.base, (s.mono e1.bb).wk h0.1, h0.2.2⟩ (fun i σ' H' _ ⟨B', S', _, _⟩ => Same.seq (S'.bb.trans S'.ex) h1) (fun i v σ' H' hi ⟨B', S', s', p'⟩ => ?_) (fun σ' H' ⟨B', S', s', p'⟩ => ?_)
  · have hil : i < ps.length := by
      rw [hl]
      exact (List.getElem?_eq_some_iff.mp hi).1
    obtain ⟨u, hu, hp'⟩ := h2.get (List.getElem?_eq_getElem hil)
    rw [hi] at hu
    cases hu
    refine hgo i ps[i] (List.getElem?_eq_getElem hil) (Γf i) W.H B' σ' H' v _ S'.ex s' ((ps[i]).mono S'.bb hp') fun σ2 s2 => ?_
    have ok2 := ok.base S1
    exact hs i ps[i] (List.getElem?_eq_getElem hil) p' ⟨B1, W.H, W.ms⟩ Wi B' H' σ2 _ hm tk S' s2 ⟨fun Γ' Δ' B2 H2 σ2 q S2 s2 => ⟨B2, q.2.1 ▸ S2, s2.wk q.1, q.2.2⟩, ok2.rt, fun _ _ _ _ _ q => q.elim, fun Γ' Δ' B2 H2 σ2 q S2 s2 => ⟨B2, q.2.1 ▸ S2, s2.wk q.1, q.2.2⟩, ok2.ex⟩
  · rw [← hl] at S' s' p'
    exact hd p' W Wi B' H' σ' D hm tk (S1.unbase S') s' ok
theorem go_forL {body : List Stmt} {px : Pos} (j : Nat) (Γf : Nat → Gam) (Δf : Nat → Del) (Pre : Nat → Prop) (hp : PassesOwn (model X.prog X.w) X.A X.env X.xe) (hN : X.N.Nodup) (ha : EF X Γ Δ a ps) (h0 : Wk Γ (Γf 0) ∧ Δ = Δf 0 ∧ Pre 0)
    (hs : ∀ (i : Nat) (P : Pr), ps[i]? = some P → Pre i → Go X ms ((Γf i).set j (some P)) (Δf i) body { nx := fun Γ' Δ' => Wk Γ' (Γf (i + 1)) ∧ Δ' = Δf (i + 1) ∧ Pre (i + 1), ct := fun Γ' Δ' => Wk Γ' (Γf (i + 1)) ∧ Δ' = Δf (i + 1) ∧ Pre (i + 1), rt := K.rt, ex := K.ex })
    (hd : Pre ps.length → Go X ms (Γf ps.length) (Δf ps.length) rest K) (hc : X.calm = true := by rfl) (hi : X.N[j]? = some x := by rfl) (hx : Loc X.env.scope x := by first | exact Or.inl rfl | exact Or.inr rfl) (hf : X.fn x = true ∨ X.env.scope.names.lookup x = some .local := by first | exact .inl rfl | exact .inr rfl)
    (hfs : ∀ x, foldedSetIterable a X.env x = pure x := by intro _; rfl) : Go X ms Γ Δ (.For (.Name x px) a body [] pos :: rest) K :=
  go_forG (f := fun i Γ => match ps[i]? with | some P => Γ.set j (some P) | none => Γ) Γf Δf Pre hp ha h0 (fun i P hP p => by rw [hP]; exact hs i P hP p) hd ⟨_, pg_name hN hi hx hf, fun i P hP Γ h B σ H v Q e s hv q => q _ (by rw [hP]; exact s.set j hv)⟩ hc hfs
/-- for a, b in a list of pairs -/
theorem go_forL2 {α β : Type} {R : α → Pr} {R' : β → Pr} {l : List (α × β)} {y : Str} {kk : Nat} {body : List Stmt} {px py pt : Pos} (j j' : Nat) (Γf : Nat → Gam) (Δf : Nat → Del) (Pre : Nat → Prop) (hp : PassesOwn (model X.prog X.w) X.A X.env X.xe) (hN : X.N.Nodup)
    (ha : EF X Γ Δ a (l.map fun z => T [R z.1, R' z.2])) (h0 : Wk Γ (Γf 0) ∧ Δ = Δf 0 ∧ Pre 0)
    (hs : ∀ (i : Nat) (z : α × β), l[i]? = some z → Pre i → Go X ms (((Γf i).set j (some (R z.1))).set j' (some (R' z.2))) (Δf i) body { nx := fun Γ' Δ' => Wk Γ' (Γf (i + 1)) ∧ Δ' = Δf (i + 1) ∧ Pre (i + 1), ct := fun Γ' Δ' => Wk Γ' (Γf (i + 1)) ∧ Δ' = Δf (i + 1) ∧ Pre (i + 1), rt := K.rt, ex := K.ex })
    (hd : Pre l.length → Go X ms (Γf l.length) (Δf l.length) rest K) (hc : X.calm = true := by rfl) (hi : X.N[j]? = some x := by rfl) (hj : X.N[j']? = some y := by rfl) (hx : Loc X.env.scope x := by first | exact Or.inl rfl | exact Or.inr rfl) (hy : Loc X.env.scope y := by first | exact Or.inl rfl | exact Or.inr rfl)
    (hf : X.fn x = true ∨ X.env.scope.names.lookup x = some .local := by first | exact .inl rfl | exact .inr rfl) (hg : X.fn y = true ∨ X.env.scope.names.lookup y = some .local := by first | exact .inl rfl | exact .inr rfl)
    (hs2 : (assignEach [Expr.Name x px, Expr.Name y py] X.env).map (·.2) = assign (.Name x px) X.env :: (assignEach [Expr.Name y py] X.env).map (·.2) := by rfl) (hs3 : (assignEach [Expr.Name y py] X.env).map (·.2) = assign (.Name y py) X.env :: (assignEach [] X.env).map (·.2) := by rfl)
    (hn : (assignEach [Expr.Name x px, Expr.Name y py] X.env).length = 2 := by rfl) (hst : (assignEach [Expr.Name x px, Expr.Name y py] X.env).findIdx? (·.1) = none := by rfl)
    (hfs : ∀ x, foldedSetIterable a X.env x = pure x := by intro _; rfl) : Go X ms Γ Δ (.For (.Tuple [.Name x px, .Name y py] kk pt) a body [] pos :: rest) K := by
  have hz : ∀ (i : Nat) (P : Pr), (l.map fun z => T [R z.1, R' z.2])[i]? = some P → ∃ z, l[i]? = some z ∧ P = T [R z.1, R' z.2] := fun i P h => by
    rw [List.getElem?_map] at h
    cases e : l[i]? with
    | none => rw [e] at h; cases h
    | some z => rw [e] at h; exact ⟨z, rfl, (Option.some.inj h).symm⟩
  refine go_forG (f := fun i Γ => match l[i]? with | some z => (Γ.set j (some (R z.1))).set j' (some (R' z.2)) | none => Γ) Γf Δf Pre hp ha h0 (fun i P hP p => ?_) (by rw [List.length_map]; exact hd)
    ⟨_, pg_tup hc (pgs_cons (pg_name hN hi hx hf) (pgs_cons (pg_name hN hj hy hg) pgs_nil hs3) hs2) hn hst, fun i P hP Γ h B σ H v Q e s hv q => ?_⟩ hc hfs
  · obtain ⟨z, h1, _⟩ := hz i P hP
    rw [h1]
    exact hs i z h1 p
  · obtain ⟨z, h1, rfl⟩ := hz i P hP
    rw [h1] at q
    obtain ⟨b, xs, rfl, g1, g2⟩ := hv
    obtain ⟨u, w, rfl, k1, k2⟩ := g2.two
    exact ⟨b, _, rfl, SqT.of (e _ _ g1), rfl, u, _, rfl, w, _, rfl, rfl, q _ ((s.set j k1).set j' k2)⟩
/-! ### assignments to several names, to an item -/
theorem go_tupM {Ke : Pr → Del → Prop} {Kx : Value → Del → Prop} {tgs : List Expr} {f : Pr → Del → Gam → Prop} {kk : Nat} {pt : Pos} (he : EM X ms Γ Δ e Ke Kx) (hxx : ∀ c Δ', Kx c Δ' → K.ex c Γ Δ')
    (hg : ∃ g, PG X (.Tuple tgs kk pt) g ∧ ∀ (P : Pr) (Δ' : Del) (h B : Hp) (σ : L2.St) (H : Hp) (v : V) (Q : L2.St → Hp → Prop), Same B H → Sl Γ h B σ → Ke P Δ' → P.p h B v → (∀ Γ' σ', f P Δ' Γ' → Sl Γ' h B σ' → Q σ' H) → g v σ H Q)
    (h : ∀ P Δ' Γ', Ke P Δ' → f P Δ' Γ' → Go X ms Γ' Δ' rest K) (hs : swapsWithSole [.Tuple tgs kk pt] e pos.line X.env = pure false := by rfl) (hw : swappedStores [.Tuple tgs kk pt] e X.env = pure none := by rfl)
    (h1 : (assignEach [.Tuple tgs kk pt] X.env).map (·.2) = [assign (.Tuple tgs kk pt) X.env] := by rfl) : Go X ms Γ Δ (.Assign [.Tuple tgs kk pt] e pos :: rest) K := fun W Wi B H σ D hm tk S s ok => by
  obtain ⟨g, pg, hgo⟩ := hg
  refine wpSs_of (pss_cons (ps_asg pe_wp pg hs hw h1) pss_wp) (he W Wi B H σ hm tk S s (fun c Δ' B' H' kx S' e' => ok.ex _ _ _ _ _ _ (hxx c Δ' kx) S' (s.mono e')) _ fun P Δ' v B1 H1 kp S1 e1 h1 => ?_)
  exact hgo P Δ' W.H B1 σ H1 v _ S1.ex (s.mono e1) kp h1 fun Γ' σ' f1 s' => h P Δ' Γ' kp f1 W Wi B1 H1 σ' D hm tk S1 s' ok
/-- xs[i] = e, xs an entry -/
theorem go_ix (n : Nat) {l : Addr} {i : Int} {j : Nat} (he : EE X Γ Δ e P) (ho : EE X Γ Δ o (Ref l)) (hi : EE X Γ Δ b (I i)) (hk : Δ[n]? = some (l, ML ps)) (hj : ixN ps.length i = some j) (h : Go X ms Γ (Δ.set n (l, ML (ps.set j P))) rest K)
    (hs : swapsWithSole [.Subscript o b p2] e pos.line X.env = pure false := by rfl) (hw : swappedStores [.Subscript o b p2] e X.env = pure none := by rfl)
    (h1 : (assignEach [.Subscript o b p2] X.env).map (·.2) = [assign (.Subscript o b p2) X.env] := by rfl)
    (ha : ∀ v, assign (.Subscript o b p2) X.env v = (do let ov ← holding [v] (eval o X.env); let iv ← holding [v, ov] (eval b X.env); standAt p2; holding [v, ov, iv] (setItem ov iv v); release [v, ov, iv] []) := by intro _; rfl) : Go X ms Γ Δ (.Assign [.Subscript o b p2] e pos :: rest) K := fun W Wi B H σ D hm tk S s ok =>
  wpSs_of (pss_cons (ps_asg pe_wp (pg_sub pe_wp pe_wp set_list ha) hs hw h1) pss_wp) (he W B H σ S s _ fun v B1 H1 e1 g1 => ho W B1 H1 σ (S.ext e1) (s.mono e1.bb) _ fun w B2 H2 e2 g2 => hi W B2 H2 σ ((S.ext e1).ext e2) ((s.mono e1.bb).mono e2.bb) _ fun u B3 H3 e3 g3 => by
    have S3 := ((S.ext e1).ext e2).ext e3
    obtain ⟨_, ob, k1, xs, rfl, k2⟩ := S3.at hk
    have ew : w = .ref l := g2
    have eu : u = .int i := g3
    subst ew eu
    refine ⟨l, xs, i, j, rfl, rfl, k1, by rw [← k2.len]; exact hj, ?_⟩
    exact h W Wi B3 _ σ D hm tk (S3.put hk ⟨_, rfl, k2.set (P.mono (e2.bb.trans e3.bb) g1) j⟩) (((s.mono e1.bb).mono e2.bb).mono e3.bb) ok)
/-- xs.append(e), xs an entry -/
theorem go_app (n : Nat) {l : Addr} (ho : EE X Γ Δ o (Ref l)) (he : EE X Γ Δ e P) (hk : Δ[n]? = some (l, ML ps)) (hz : ps.length < 100000) (h : Go X ms Γ (Δ.set n (l, ML (ps ++ [P]))) rest K)
    (hbase : attributeBase o "append" X.env (eval o X.env) = eval o X.env := by rfl)
    (hfew : ((backTo p2 (starEach [e] X.env)).all (fun x => !x.1) && (backToKw p2 (keywordEach [] X.env)).all (fun x => x.1.isSome) && decide (([e] : List Expr).length + ([] : List Keyword).length + (if ([] : List Keyword).isEmpty then 0 else 1) < 30)) = true := by rfl)
    (hline : (apos.endLine == p2.line) = true := by rfl) (hs1 : starEach [e] X.env = (false, eval e X.env) :: starEach [] X.env := by rfl) (hplain : (backTo p2 (starEach [] X.env)).any (·.1) = false := by rfl)
    (hs : swapsWith (.Call (.Attribute o "append" apos) [e] [] p2) none pos.line X.env = pure false := by rfl) : Go X ms Γ Δ (.Expr (.Call (.Attribute o "append" apos) [e] [] p2) pos :: rest) K := fun W Wi B H σ D hm tk S s ok =>
  wpSs_of (pss_cons (ps_expr (pe_bm PySem.F.plainAttrs_list PySem.F.slot_list_append PySem.F.type_list_append mt_append pe_wp (pa_cons pe_wp pa_nil hs1) hbase hfew hline hs1 hplain) hs) pss_wp) (ho W B H σ S s _ fun w B1 H1 e1 g1 => by
    have S1 := S.ext e1
    obtain ⟨_, ob, k1, xs, rfl, k2⟩ := S1.at hk
    have ew : w = .ref l := g1
    subst ew
    refine ⟨.inl ⟨rfl, xs, SqL.of k1⟩, he W B1 H1 σ S1 (s.mono e1.bb) _ fun v B2 H2 e2 g2 => ?_⟩
    have S2 := S1.ext e2
    refine ⟨l, xs, v, rfl, rfl, e2.hh _ _ k1, by rw [← k2.len]; exact sz_lt hz, ?_⟩
    exact h W Wi B2 _ σ D hm tk (S2.put hk ⟨_, rfl, All.app (qs := [P]) (us := [v]) ⟨g2, trivial⟩ (k2.mono e2.bb)⟩) ((s.mono e1.bb).mono e2.bb) ok)
/-! ### entries: new, stood still, put in another order, let go -/
theorem go_perm {Δ' : Del} {sts : List Stmt} (h : Δ.Perm Δ') (g : Go X ms Γ Δ' sts K) : Go X ms Γ Δ sts K := fun W Wi B H σ D hm tk S s ok => g W Wi B H σ D hm tk (S.perm h) s ok
theorem go_drop {Δ' : Del} {sts : List Stmt} (h : List.Sublist Δ' Δ) (g : Go X ms Γ Δ' sts K) : Go X ms Γ Δ sts K := fun W Wi B H σ D hm tk S s ok => g W Wi B H σ D hm tk (S.sub h) s ok
/-- a list that stands still from here on -/
theorem go_frz (n i : Nat) {l : Addr} {sts : List Stmt} (hk : Δ[n]? = some (l, ML ps)) (hm0 : l ∉ ms) (hΓ : Γ[i]? = some (some (Ref l))) (g : Go X ms (Γ.set i (some (N (L ps)))) (Δ.eraseIdx n) sts K) : Go X ms Γ Δ sts K := fun W Wi B H σ D hm tk S s ok => by
  obtain ⟨ob, h1, hw, ⟨xs, rfl, h2⟩, S2, e2⟩ := S.frz hk (by rw [hm]; exact hm0)
  obtain ⟨v, k1, k2⟩ := s.2 i _ hΓ
  have ev : v = .ref l := k2
  subst ev
  have hil : i < σ.length := (List.getElem?_eq_some_iff.mp k1).1
  have hset : σ.set i (some (.ref l)) = σ := by
    apply List.ext_getElem?
    intro j
    by_cases hj : i = j
    · subst hj
      rw [List.getElem?_set_self hil, k1]
    · rw [List.getElem?_set_ne hj]
  have s2 := (s.mono e2).set (P := N (L ps)) (v := .ref l) i ⟨⟨l, xs, rfl, upd_same, h2.mono e2⟩, fun a z => by injection z with z; exact z ▸ hw⟩
  rw [hset] at s2
  exact g W Wi _ H σ D hm tk S2 s2 ok
end
end Yb
set_option maxHeartbeats 1000000
namespace Yb
open PySem PySem.Spec PyProof.Rows L2
/-! ### a def keeps its contracts -/
def gam0 (N : List Str) (ps : List Pr) : Gam := ps.map some ++ List.replicate (N.length - ps.length) none
def HiOs : Del → Prop
  | [] => True
  | e :: r => HiO e.2 ∧ HiOs r
theorem HiOs.mem : ∀ {Δ : Del}, HiOs Δ → ∀ e ∈ Δ, HiO e.2
  | e :: r, h, Q, hq => by
    rcases List.mem_cons.mp hq with rfl | hq
    · exact h.1
    · exact HiOs.mem h.2 Q hq
theorem sl_start {N : List Str} {ps : List Pr} {vs : List V} {h B : Hp} (hl : ps.length ≤ N.length) (a : All h B ps vs) : Sl (gam0 N ps) h B (L2.start N vs) := by
  have hlen := a.len
  refine ⟨?_, fun i P q => ?_⟩
  · unfold gam0 L2.start
    rw [List.length_append, List.length_append, List.length_map, List.length_map, List.length_replicate, List.length_replicate, hlen]
  · unfold gam0 at q
    unfold L2.start
    by_cases hi : i < ps.length
    · rw [List.getElem?_append_left (by rw [List.length_map]; exact hi), List.getElem?_map] at q
      cases e : ps[i]? with
      | none => rw [e] at q; cases q
      | some P' =>
        rw [e] at q
        have : P' = P := by simpa using q
        subst this
        obtain ⟨v, h1, h2⟩ := a.get e
        refine ⟨v, ?_, h2⟩
        rw [List.getElem?_append_left (by rw [List.length_map, ← hlen]; exact hi), List.getElem?_map, h1]
        rfl
    · rw [List.getElem?_append_right (by rw [List.length_map]; omega), List.getElem?_replicate] at q
      split at q <;> cases q
section
variable {P : Program} {w : World} {K : PySem.W.Frag} {mg : Str → Option Value} {base : Heap}
theorem fn_go {x qual : Str} {st : Stmt} {f : Addr} {fd : FuncData} {N ps : List Str} {k : Nat} {C : Cn → Prop} {dvs : List V} (F : FunD K x qual (defArgs st) (defBody st) (defScope st) dvs [] f fd) (S : FnScope N ps (defScope st)) (hC : ∀ c, C c → c.ps.length = ps.length ∧ His c.ps ∧ HiOs c.Δ)
    (hbody : ∀ (c : Cn), C c → ∀ (cdv : Value) (A : Around) (outer : List Env) (s : Shared) (H : Hp) (E : XK), Room k (A.deeper (envOfC qual (defScope st) s.heap.objs.size f cdv)) →
      Go (cxOf (L2N.CX P w) P w K mg base N qual (defScope st) f cdv A outer s H E) (c.Δ.map (·.1)) (gam0 N c.ps) c.Δ (defBody st) { nx := fun _ Δ' => c.out No Δ', rt := c.out, ex := fun v _ Δ' => c.exc v Δ' }) : FnOk P w K mg base (L2N.CX P w) (k + 1) f fd ps (spC C) := by
  refine F.ok S (fun vs H Q E h => ?_) (fun cdv A outer s H vs Q E hr h => ⟨_, pss_wp, ?_⟩)
  · obtain ⟨c, B, hc, _, ha, _⟩ := h
    rw [← ha.len]
    exact (hC c hc).1
  · obtain ⟨c, B, hc, hs, ha, hm, nd, ho, hx⟩ := h
    obtain ⟨h1, h2, h3⟩ := hC c hc
    have hpl : ps.length ≤ N.length := by
      have := congrArg List.length S.pre
      rw [List.length_take] at this
      omega
    refine hbody c hc cdv A outer s H E hr ⟨B, H, c.Δ.map (·.1)⟩ (fun cls d _ H' => E cls d H') B H (L2.start N vs) _ rfl (L2N.takes_of rfl rfl rfl rfl) ?_ (sl_start (by omega) (h2.all ha)) ?_
    · refine Stb.refl (W := ⟨B, H, c.Δ.map (·.1)⟩) hs (fun e he => ?_) nd (fun a ha => ?_)
      · obtain ⟨g1, o, g2, g3⟩ := hm e he
        exact ⟨List.mem_map_of_mem he, g1, o, g2, h3.mem e he _ _ _ _ g3⟩
      · obtain ⟨e, he, rfl⟩ := List.mem_map.mp ha
        obtain ⟨g1, o, g2, g3⟩ := hm e he
        show H e.1 ≠ none
        rw [g2]
        intro z; cases z
    · exact ⟨fun Γ Δ B' H' σ q S' s' => ho No Δ B' H' .non q S' rfl, fun P' Δ B' H' v q S' hv => ho P' Δ B' H' v q S' hv, fun _ _ _ _ _ q => q.elim, fun _ _ _ _ _ q => q.elim, fun c' _ Δ B' H' σ q S' _ => hx c' Δ B' H' q S'⟩
end
/-! ### comprehensions -/
section
variable {X : Cx} {ms : List Addr} {Γ : Gam} {Δ : Del} {a elt : Expr} {P : Pr} {pos p2 pr pc px : Pos} {x : Str} {scope : Scope} {ifs : List Expr}
def wpB (X : Cx) (sc : Scope) (e : Expr) : TE := fun σ H Q => ∀ (s : Shared) (H0 : Hp) (C : Addr) (cl : List (Str × Addr)) (fp : List Addr), wpE (X.blk s H0 sc (compEnvC sc cl C X.env) fp) e σ H Q
def wpIf (X : Cx) (sc : Scope) (ifs : List Expr) : TT := match ifs with
  | [] => tYes
  | c :: _ => fun σ H Q => ∀ (s : Shared) (H0 : Hp) (C : Addr) (cl : List (Str × Addr)) (fp : List Addr), wpT (X.blk s H0 sc (compEnvC sc cl C X.env) fp) c σ H Q
/-- what a comprehension's test says -/
def EI (X : Cx) (sc : Scope) (Γ : Gam) (Δ : Del) (ifs : List Expr) (b : Bool) : Prop := match ifs with
  | [] => b = true
  | [c] => ∀ (s : Shared) (H0 : Hp) (C : Addr) (cl : List (Str × Addr)) (fp : List Addr), ET (X.blk s H0 sc (compEnvC sc cl C X.env) fp) Γ Δ c b
  | _ => False
def EB (X : Cx) (sc : Scope) (Γ : Gam) (Δ : Del) (e : Expr) (P : Pr) : Prop := ∀ (s : Shared) (H0 : Hp) (C : Addr) (cl : List (Str × Addr)) (fp : List Addr), EE (X.blk s H0 sc (compEnvC sc cl C X.env) fp) Γ Δ e P
theorem pts_if (h : ifs.length ≤ 1) (s : Shared) (H0 : Hp) (C : Addr) (cl : List (Str × Addr)) (fp : List Addr) : PTs (X.blk s H0 scope (compEnvC scope cl C X.env) fp) ifs (wpIf X scope ifs) := by
  match ifs, h with
  | [], _ => exact pts_nil
  | [c], _ => exact pts_one ⟨fun pins st σ H Q I h => h s H0 C cl fp pins st I⟩
theorem pe_b (s : Shared) (H0 : Hp) (C : Addr) (cl : List (Str × Addr)) (fp : List Addr) : PE (X.blk s H0 scope (compEnvC scope cl C X.env) fp) elt (wpB X scope elt) := ⟨fun pins st σ H Q I h => h s H0 C cl fp pins st I⟩
theorem sl_wipe {h B : Hp} {σ : L2.St} {v : V} {j : Nat} (s : Sl Γ h B σ) (hv : P.p h B v) : Sl (Γ.set j (some P)) h B ((wipe σ [j]).set j (some v)) := by
  have e : (wipe σ [j]).set j (some v) = σ.set j (some v) := by
    show (σ.set j none).set j (some v) = _
    rw [List.set_set]
  rw [e]
  exact s.set j hv
/-- one turn -/
theorem lc_turn {W : Ws} {B1 H1 B' H' : Hp} {σ : L2.St} {v : V} {j : Nat} {D : Addr} {acc : List Pr} {xs : List V} {b : Bool} {Pe : Pr} (S : Stb W Δ B' H') (s : Sl Γ W.H B' σ) (hv : P.p W.H B' v) (ht : EI X scope (Γ.set j (some P)) Δ ifs b) (he : b = true → EB X scope (Γ.set j (some P)) Δ elt Pe)
    (e1 : Ext B1 H1 B' H') (hD : H' D = some (.lst xs)) (hb : B' D = none) (h1 : H1 D = none) (ha : All W.H B' acc xs) (hz : xs.length < 50000) (R : Hp → Prop)
    (r0 : b = false → ∀ B2 H2, Ext B1 H1 B2 H2 → H2 D = some (.lst xs) → B2 D = none → All W.H B2 acc xs → R H2) (r1 : b = true → ∀ B2 H2 u, Ext B1 H1 B2 H2 → H2 D = some (.lst (xs ++ [u])) → B2 D = none → All W.H B2 (acc ++ [Pe]) (xs ++ [u]) → R H2) :
    wpIf X scope ifs ((wipe σ [j]).set j (some v)) H' fun b H3 => if b = true then wpB X scope elt ((wipe σ [j]).set j (some v)) H3 fun y H4 => ∃ acc, H4 D = some (.lst acc) ∧ acc.length < sizeLine ∧ R (upd H4 D (.lst (acc ++ [y]))) else R H3 := by
  have s1 := sl_wipe (j := j) s hv
  have step : ∀ B3 H3, Ext B' H' B3 H3 → b = true → wpB X scope elt ((wipe σ [j]).set j (some v)) H3 fun y H4 => ∃ acc, H4 D = some (.lst acc) ∧ acc.length < sizeLine ∧ R (upd H4 D (.lst (acc ++ [y]))) := fun B3 H3 e3 hbt s0 H0 C cl fp => by
    refine he hbt s0 H0 C cl fp W B3 H3 _ (S.ext e3) (s1.mono e3.bb) _ fun y B4 H4 e4 hy => ?_
    have e5 := (e1.trans e3).trans e4
    have hb4 : B4 D = none := e4.fr D (e3.fr D hb (by rw [hD]; intro z; cases z)) (by rw [e3.hh _ _ hD]; intro z; cases z)
    refine ⟨xs, e4.hh _ _ (e3.hh _ _ hD), sz_lt (by omega), r1 hbt B4 _ y ⟨e5.bb, fun q o hq => ?_, fun q o hq => ?_, e5.fr⟩ upd_same hb4 (All.app (qs := [Pe]) (us := [y]) ⟨hy, trivial⟩ (ha.mono (e3.bb.trans e4.bb)))⟩
    · rw [upd_ne (ne_of_none hq h1)]
      exact e5.hh q o hq
    · rw [upd_ne (ne_of_none hq hb4)]
      exact e5.bh q o hq
  match ifs, ht with
  | [], ht =>
    have hbt : b = true := ht
    exact step B' H' (Ext.refl S.ex) hbt
  | [c], ht =>
    intro s0 H0 C cl fp
    refine ht s0 H0 C cl fp W B' H' _ S s1 _ fun B3 H3 e3 => ?_
    cases b with
    | true => exact step B3 H3 e3 rfl
    | false =>
      have hb3 : B3 D = none := e3.fr D hb (by rw [hD]; intro z; cases z)
      exact r0 rfl B3 H3 (e1.trans e3) (e3.hh _ _ hD) hb3 (ha.mono e3.bb)
theorem take_get {α : Type} {l : List α} {i : Nat} {z : α} (h : l[i]? = some z) : l.take (i + 1) = l.take i ++ [z] := by
  rw [List.take_succ, h]
  rfl
/-- a reading that gives a new list -/
def ENt (Γ : Gam) (Δ : Del) (t : TE) (ps : List Pr) : Prop := ∀ (W : Ws) (B H : Hp) (σ : L2.St), Stb W Δ B H → Sl Γ W.H B σ → ∀ Q : VK, (∀ a xs B2 H2, Ext B H B2 H2 → H2 a = some (.lst xs) → B2 a = none → H a = none → All W.H B2 ps xs → Q (.ref a) H2) → t σ H Q
/-- [e for x in xs if ..], xs a list that may be read; l its data -/
theorem lc_read {α : Type} {R : α → Pr} {l : List α} (f : α → Bool) (Pe : α → Pr) (j : Nat) (ha : EF X Γ Δ a (l.map R)) (hl : l.length ≤ 40000)
    (ht : ∀ z ∈ l, EI X scope (Γ.set j (some (R z))) Δ ifs (f z)) (he : ∀ z ∈ l, f z = true → EB X scope (Γ.set j (some (R z))) Δ elt (Pe z)) : ENt Γ Δ (tLc (iList X.K (wpE X a)) (gName j) (wpIf X scope ifs) (wpB X scope elt) [j]) ((l.filter f).map Pe) := fun W B H σ S s Q q => by
  refine ha W B H σ S s _ fun d xs B1 H1 e1 h1 h2 => ⟨d, rfl, ⟨xs, Same.seq e1.bh h1⟩, fun D hD => ?_⟩
  have hlx : l.length = xs.length := by rw [← h2.len, List.length_map]
  have S1 := S.ext e1
  have s1 := s.mono e1.bb
  refine lc_list (K := X.K) (a := d) (xs := xs) (fun i H' => ∃ B' ys, Ext B1 H1 B' H' ∧ H' D = some (.lst ys) ∧ B' D = none ∧ ys.length ≤ i ∧ All W.H B' (((l.take i).filter f).map Pe) ys) ⟨B1, [], Ext.newH e1.bh hD, upd_same, e1.bh.free hD, Nat.le_refl _, trivial⟩ (fun i H' _ ⟨B', _, e', _⟩ => Same.seq (e'.bb.trans e'.bh) h1)
    (fun i v H' hiv ⟨B', ys, e', g1, g2, g3, g4⟩ => ?_) (fun H' ⟨B', ys, e', g1, g2, g3, g4⟩ => ?_)
  · have hil : i < l.length := by rw [hlx]; exact (List.getElem?_eq_some_iff.mp hiv).1
    have hlz : l[i]? = some l[i] := List.getElem?_eq_getElem hil
    obtain ⟨u, hu, hp⟩ := h2.get (i := i) (P := R l[i]) (by rw [List.getElem?_map, hlz]; rfl)
    rw [hiv] at hu
    cases hu
    have et := take_get hlz
    have mem : l[i] ∈ l := List.getElem_mem hil
    refine ⟨?_, lc_turn (P := R l[i]) (Pe := Pe l[i]) (S1.ext e') (s1.mono e'.bb) ((R l[i]).mono e'.bb hp) (ht _ mem) (he _ mem) e' g1 g2 hD g4 (by omega) _ (fun hb B2 H2 k1 k2 k3 k4 => ⟨B2, ys, k1, k2, k3, by omega, ?_⟩) (fun hb B2 H2 u k1 k2 k3 k4 => ⟨B2, _, k1, k2, k3, by rw [List.length_append, List.length_singleton]; omega, ?_⟩)⟩
    · show ((σ.set j none).set j (some v)).set j none = σ.set j none
      rw [List.set_set, List.set_set]
    · rw [et, List.filter_append, List.filter_cons, if_neg (by rw [hb]; decide), List.filter_nil, List.append_nil]
      exact k4
    · rw [et, List.filter_append, List.filter_cons, if_pos hb, List.filter_nil, List.map_append]
      exact k4
  · rw [← hlx, List.take_length] at g4
    exact q D ys B' H' (e1.trans e') g1 g2 (e1.hh.free hD) g4
theorem lcR_read {n : Int} (f : Nat → Bool) (Pe : Nat → Pr) (j : Nat) (ha : EE X Γ Δ a (I n)) (hn : n ≤ 40000) (hn0 : 0 ≤ n)
    (ht : ∀ z : Nat, (z : Int) < n → EI X scope (Γ.set j (some (I (z : Int)))) Δ ifs (f z)) (he : ∀ z : Nat, (z : Int) < n → f z = true → EB X scope (Γ.set j (some (I (z : Int)))) Δ elt (Pe z)) :
    ENt Γ Δ (tLc (iRng1 (tCons (wpE X a) tNil)) (gName j) (wpIf X scope ifs) (wpB X scope elt) [j]) (((List.range n.toNat).filter f).map Pe) := fun W B H σ S s Q q => by
  refine ha W B H σ S s _ fun w B1 H1 e1 h1 => ⟨n, by rw [show w = .int n from h1], by omega, by omega, fun D hD => ?_⟩
  have S1 := S.ext e1
  have s1 := s.mono e1.bb
  refine lc_range (lo := 0) (n := n.toNat) (fun i H' => ∃ B' ys, Ext B1 H1 B' H' ∧ H' D = some (.lst ys) ∧ B' D = none ∧ ys.length ≤ i ∧ All W.H B' (((List.range i).filter f).map Pe) ys) ⟨B1, [], Ext.newH e1.bh hD, upd_same, e1.bh.free hD, Nat.le_refl _, trivial⟩
    (fun i H' hiv ⟨B', ys, e', g1, g2, g3, g4⟩ => ?_) (fun H' ⟨B', ys, e', g1, g2, g3, g4⟩ => ?_)
  · have e0 : (0 : Int) + (i : Int) = (i : Int) := Int.zero_add _
    rw [e0]
    refine ⟨?_, lc_turn (P := I (i : Int)) (Pe := Pe i) (v := .int (i : Int)) (S1.ext e') (s1.mono e'.bb) rfl (ht i (by omega)) (he i (by omega)) e' g1 g2 hD g4 (by omega) _ (fun hb B2 H2 k1 k2 k3 k4 => ⟨B2, ys, k1, k2, k3, by omega, ?_⟩) (fun hb B2 H2 u k1 k2 k3 k4 => ⟨B2, _, k1, k2, k3, by rw [List.length_append, List.length_singleton]; omega, ?_⟩)⟩
    · show ((σ.set j none).set j (some (V.int (i : Int)))).set j none = σ.set j none
      rw [List.set_set, List.set_set]
    · rw [List.range_succ, List.filter_append, List.filter_cons, if_neg (by rw [hb]; decide), List.filter_nil, List.append_nil]
      exact k4
    · rw [List.range_succ, List.filter_append, List.filter_cons, if_pos hb, List.filter_nil, List.map_append]
      exact k4
  · exact q D ys B' H' (e1.trans e') g1 g2 (e1.hh.free hD) g4
theorem en_lc {α : Type} {R : α → Pr} {l : List α} (f : α → Bool) (Pe : α → Pr) (j : Nat) (hN : X.N.Nodup) (ha : EF X Γ Δ a (l.map R)) (hl : l.length ≤ 40000) (ok : BlkOk X.N X.env.scope scope [(x, j)])
    (hg : ∀ (s : Shared) (H : Hp) (C : Addr) (cl : List (Str × Addr)) (fp : List Addr), PG (X.blk s H scope (compEnvC scope cl C X.env) fp) (.Name x px) (gName j))
    (ht : ∀ z ∈ l, EI X scope (Γ.set j (some (R z))) Δ ifs (f z)) (he : ∀ z ∈ l, f z = true → EB X scope (Γ.set j (some (R z))) Δ elt (Pe z)) (hi : ifs.length ≤ 1 := by decide) (hc : X.calm = true := by rfl) (hs : ∀ x, foldedSetIterable a X.env x = pure x := by intro _; rfl) :
    EN X Γ Δ (.ListComp elt [⟨.Name x px, a, ifs, 0⟩] scope pos) ((l.filter f).map Pe) := fun W B H σ S s Q q =>
  wpE_of (pe_lc (own := [(x, j)]) (g := gName j) hc hN (pi_list pe_wp) ok hg (pts_if hi) pe_b hs) (lc_read f Pe j ha hl ht he W B H σ S s Q q)
theorem en_lcR {n : Int} (f : Nat → Bool) (Pe : Nat → Pr) (j : Nat) (hN : X.N.Nodup) (ha : EE X Γ Δ a (I n)) (hn : n ≤ 40000) (hn0 : 0 ≤ n) (hgl : Gl X "range") (hm : X.mg "range" = none) (ok : BlkOk X.N X.env.scope scope [(x, j)])
    (hg : ∀ (s : Shared) (H : Hp) (C : Addr) (cl : List (Str × Addr)) (fp : List Addr), PG (X.blk s H scope (compEnvC scope cl C X.env) fp) (.Name x px) (gName j))
    (ht : ∀ z : Nat, (z : Int) < n → EI X scope (Γ.set j (some (I (z : Int)))) Δ ifs (f z)) (he : ∀ z : Nat, (z : Int) < n → f z = true → EB X scope (Γ.set j (some (I (z : Int)))) Δ elt (Pe z)) (hi : ifs.length ≤ 1 := by decide) (hc : X.calm = true := by rfl)
    (hst : starEach [a] X.env = (false, eval a X.env) :: starEach [] X.env := by rfl) (hst2 : starEach [a] X.env = [(false, eval a X.env)] := by rfl) (hs : ∀ x, foldedSetIterable (.Call (.Name "range" pr) [a] [] pc) X.env x = pure x := by intro _; rfl) :
    EN X Γ Δ (.ListComp elt [⟨.Name x px, .Call (.Name "range" pr) [a] [] pc, ifs, 0⟩] scope pos) (((List.range n.toNat).filter f).map Pe) := fun W B H σ S s Q q =>
  wpE_of (pe_lc (own := [(x, j)]) (g := gName j) hc hN (pi_range1 hgl hm (pa_cons pe_wp pa_nil hst) hst2) ok hg (pts_if hi) pe_b hs) (lcR_read f Pe j ha hn hn0 ht he W B H σ S s Q q)
/-- y = [..], y a local -/
structure LcS (X : Cx) (Γ : Gam) (Δ : Del) (st : Stmt) (i : Nat) (ps : List Pr) : Prop where
  ex : ∃ t, PS X st (tAsg t (gName i)) ∧ ENt Γ Δ t ps
theorem lcs {α : Type} {R : α → Pr} {l : List α} {y : Str} {py spos : Pos} (i : Nat) (f : α → Bool) (Pe : α → Pr) (j : Nat) (hN : X.N.Nodup) (ha : EF X Γ Δ a (l.map R)) (hl : l.length ≤ 40000) (ok : BlkOk X.N X.env.scope scope [(x, j)])
    (hg : ∀ (s : Shared) (H : Hp) (C : Addr) (cl : List (Str × Addr)) (fp : List Addr), PG (X.blk s H scope (compEnvC scope cl C X.env) fp) (.Name x px) (gName j))
    (ht : ∀ z ∈ l, EI X scope (Γ.set j (some (R z))) Δ ifs (f z)) (he : ∀ z ∈ l, f z = true → EB X scope (Γ.set j (some (R z))) Δ elt (Pe z)) (hi : ifs.length ≤ 1 := by decide) (hc : X.calm = true := by rfl)
    (hy : X.N[i]? = some y := by rfl) (hyl : X.env.scope.names.lookup y = some .local := by rfl) (hsw : swapsWith (.ListComp elt [⟨.Name x px, a, ifs, 0⟩] scope pos) (some (.Name y py)) spos.line X.env = pure true := by exact sw_true rfl rfl rfl (by decide +kernel)) (hs : ∀ x, foldedSetIterable a X.env x = pure x := by intro _; rfl) :
    LcS X Γ Δ (.Assign [.Name y py] (.ListComp elt [⟨.Name x px, a, ifs, 0⟩] scope pos) spos) i ((l.filter f).map Pe) :=
  ⟨_, ps_setLc (own := [(x, j)]) (g := gName j) hc hN hy hyl hsw (pi_list pe_wp) ok hg (pts_if hi) pe_b hs, lc_read f Pe j ha hl ht he⟩
theorem lcsR {n : Int} {y : Str} {py spos : Pos} (i : Nat) (f : Nat → Bool) (Pe : Nat → Pr) (j : Nat) (hN : X.N.Nodup) (ha : EE X Γ Δ a (I n)) (hn : n ≤ 40000) (hn0 : 0 ≤ n) (hgl : Gl X "range") (hm : X.mg "range" = none) (ok : BlkOk X.N X.env.scope scope [(x, j)])
    (hg : ∀ (s : Shared) (H : Hp) (C : Addr) (cl : List (Str × Addr)) (fp : List Addr), PG (X.blk s H scope (compEnvC scope cl C X.env) fp) (.Name x px) (gName j))
    (ht : ∀ z : Nat, (z : Int) < n → EI X scope (Γ.set j (some (I (z : Int)))) Δ ifs (f z)) (he : ∀ z : Nat, (z : Int) < n → f z = true → EB X scope (Γ.set j (some (I (z : Int)))) Δ elt (Pe z)) (hi : ifs.length ≤ 1 := by decide) (hc : X.calm = true := by rfl)
    (hy : X.N[i]? = some y := by rfl) (hyl : X.env.scope.names.lookup y = some .local := by rfl) (hsw : swapsWith (.ListComp elt [⟨.Name x px, .Call (.Name "range" pr) [a] [] pc, ifs, 0⟩] scope pos) (some (.Name y py)) spos.line X.env = pure true := by exact sw_true rfl rfl rfl (by decide +kernel))
    (hst : starEach [a] X.env = (false, eval a X.env) :: starEach [] X.env := by rfl) (hst2 : starEach [a] X.env = [(false, eval a X.env)] := by rfl) (hs : ∀ x, foldedSetIterable (.Call (.Name "range" pr) [a] [] pc) X.env x = pure x := by intro _; rfl) :
    LcS X Γ Δ (.Assign [.Name y py] (.ListComp elt [⟨.Name x px, .Call (.Name "range" pr) [a] [] pc, ifs, 0⟩] scope pos) spos) i (((List.range n.toNat).filter f).map Pe) :=
  ⟨_, ps_setLc (own := [(x, j)]) (g := gName j) hc hN hy hyl hsw (pi_range1 hgl hm (pa_cons pe_wp pa_nil hst) hst2) ok hg (pts_if hi) pe_b hs, lcR_read f Pe j ha hn hn0 ht he⟩
variable {K : Kk} {rest : List Stmt} {st : Stmt} {ps : List Pr}
theorem go_lc {i : Nat} (h : LcS X Γ Δ st i ps) (g : Go X ms (Γ.set i (some (N (L ps)))) Δ rest K) : Go X ms Γ Δ (st :: rest) K := fun W Wi B H σ D hm tk S s ok => by
  obtain ⟨t, h1, h2⟩ := h.ex
  refine wpSs_of (pss_cons h1 pss_wp) (h2 W B H σ S s _ fun l xs B1 H1 e1 g1 g2 g3 g4 => ?_)
  obtain ⟨B2, e2, k⟩ := fr_N S e1 g1 g2 g3 g4
  exact g W Wi B2 H1 _ D hm tk (S.ext e2) ((s.mono e2.bb).set i k) ok
theorem go_lcM {i : Nat} (h : LcS X Γ Δ st i ps) (g : ∀ l, l ∉ ms → Go X ms (Γ.set i (some (Ref l))) (Δ ++ [(l, ML ps)]) rest K) : Go X ms Γ Δ (st :: rest) K := fun W Wi B H σ D hm tk S s ok => by
  obtain ⟨t, h1, h2⟩ := h.ex
  refine wpSs_of (pss_cons h1 pss_wp) (h2 W B H σ S s _ fun l xs B1 H1 e1 g1 g2 g3 g4 => ?_)
  obtain ⟨h5, S2⟩ := mu_N S e1 g1 g2 g3 g4
  exact g l (hm ▸ h5) W Wi B1 H1 _ D hm tk S2 ((s.mono e1.bb).set i rfl) ok
end
end Yb
set_option maxHeartbeats 1000000
namespace Yb
open PySem PySem.Spec PyProof.Rows L2
/-! ### instances -/
theorem zip_look {f : Str} {v : V} : ∀ {ns : List Str} {xs : List V} {i : Nat}, ns.findIdx? (fun n => f == n) = some i → xs[i]? = some v → (ns.zip xs).lookup f = some v
  | [], _, _, h, _ => by simp at h
  | n :: ns, [], i, _, h => by simp at h
  | n :: ns, x :: xs, i, h, h2 => by
    rw [List.findIdx?_cons] at h
    rw [List.zip_cons_cons, List.lookup]
    cases e : (f == n) with
    | true =>
      rw [e] at h
      have h : some 0 = some i := h
      cases h
      rw [List.getElem?_cons_zero] at h2
      exact h2
    | false =>
      rw [e] at h
      cases e2 : ns.findIdx? (fun n => f == n) with
      | none => rw [e2] at h; simp at h
      | some j =>
        rw [e2] at h
        have : j + 1 = i := by simpa using h
        subst this
        rw [List.getElem?_cons_succ] at h2
        exact zip_look e2 h2
theorem zip_miss {f : Str} : ∀ {ns : List Str} {xs : List V}, ns.findIdx? (fun n => f == n) = none → (ns.zip xs).lookup f = none
  | [], _, _ => by simp
  | n :: ns, [], _ => by simp
  | n :: ns, x :: xs, h => by
    rw [List.findIdx?_cons] at h
    rw [List.zip_cons_cons, List.lookup]
    cases e : (f == n) with
    | true => rw [e] at h; cases h
    | false =>
      rw [e] at h
      refine zip_miss ?_
      simpa using h
theorem zip_put {f : Str} {v : V} : ∀ {ns : List Str} {xs : List V} {i : Nat}, ns.length = xs.length → ns.findIdx? (fun n => f == n) = some i → putF f v (ns.zip xs) = ns.zip (xs.set i v)
  | [], _, _, _, h => by simp at h
  | n :: ns, [], i, h, _ => by simp at h
  | n :: ns, x :: xs, i, hl, h => by
    rw [List.findIdx?_cons] at h
    rw [List.zip_cons_cons]
    show (if n = f then (n, v) :: ns.zip xs else (n, x) :: putF f v (ns.zip xs)) = _
    cases e : (f == n) with
    | true =>
      rw [e] at h
      have h : some 0 = some i := h
      cases h
      rw [if_pos (beq_iff_eq.mp e).symm]
      rfl
    | false =>
      rw [e] at h
      rw [if_neg fun z => (beq_eq_false_iff_ne.mp e) z.symm]
      cases e2 : ns.findIdx? (fun n => f == n) with
      | none => rw [e2] at h; simp at h
      | some j =>
        rw [e2] at h
        have : j + 1 = i := by simpa using h
        subst this
        rw [zip_put (by simpa using hl) e2]
        rfl
theorem zip_new {f : Str} {v : V} : ∀ {ns : List Str} {xs : List V}, ns.length = xs.length → ns.findIdx? (fun n => f == n) = none → putF f v (ns.zip xs) = (ns ++ [f]).zip (xs ++ [v])
  | [], [], _, _ => rfl
  | n :: ns, [], h, _ => by simp at h
  | [], x :: xs, h, _ => by simp at h
  | n :: ns, x :: xs, hl, h => by
    rw [List.findIdx?_cons] at h
    rw [List.zip_cons_cons]
    show (if n = f then (n, v) :: ns.zip xs else (n, x) :: putF f v (ns.zip xs)) = _
    cases e : (f == n) with
    | true => rw [e] at h; cases h
    | false =>
      rw [e] at h
      rw [if_neg fun z => (beq_eq_false_iff_ne.mp e) z.symm, zip_new (by simpa using hl) (by simpa using h)]
      rfl
/-- an instance that stands still; one that may change -/
def Iv (C : Addr) (ns : List Str) (ps : List Pr) : Pr := ⟨fun h B v => ∃ a dx xs, v = .ref a ∧ B a = some (.ins C dx (ns.zip xs)) ∧ All h B ps xs, fun e ⟨a, dx, xs, h1, h2, h3⟩ => ⟨a, dx, xs, h1, e _ _ h2, h3.mono e⟩, fun e ⟨a, dx, xs, h1, h2, h3⟩ => ⟨a, dx, xs, h1, h2, h3.anti e⟩⟩
def MI (C : Addr) (ns : List Str) (ps : List Pr) : Ob := ⟨fun h B o => ∃ dx xs, o = .ins C dx (ns.zip xs) ∧ All h B ps xs, fun e ⟨dx, xs, h2, h3⟩ => ⟨dx, xs, h2, h3.mono e⟩, fun e ⟨dx, xs, h2, h3⟩ => ⟨dx, xs, h2, h3.anti e⟩⟩
theorem hi_Iv {C : Addr} {ns : List Str} {ps : List Pr} (h : His ps) : Hi (Iv C ns ps) := fun _ _ _ _ ⟨a, dx, xs, h1, h2, h3⟩ => ⟨a, dx, xs, h1, h2, h.all h3⟩
theorem hi_MI {C : Addr} {ns : List Str} {ps : List Pr} (h : His ps) : HiO (MI C ns ps) := fun _ _ _ _ ⟨dx, xs, h2, h3⟩ => ⟨dx, xs, h2, h.all h3⟩
section
variable {X : Cx} {ms : List Addr} {Γ : Gam} {Δ : Del} {K : Kk} {rest : List Stmt} {e a b o : Expr} {es : List Expr} {P P' : Pr} {Ps ps dps : List Pr} {pos pos' apos p2 : Pos} {x f m : Str} {C : Addr} {ns : List Str} {k j : Nat} {Cs : Cn → Prop} {dvs : List V}
theorem ee_fld (h : EE X Γ Δ e (Iv C ns ps)) (hc : Cls X.K C) (hn : NoAttr X.K C f) (i : Nat) (hi : ns.findIdx? (fun n => f == n) = some i) (hp : ps[i]? = some P) (hb : attributeBase e f X.env (eval e X.env) = eval e X.env := by rfl) : EE X Γ Δ (.Attribute e f pos) P := fun W B H σ S s Q q =>
  wpE_of (pe_fld pe_wp hb) (h W B H σ S s _ fun v B1 H1 e1 h1 => by
    obtain ⟨a, dx, xs, rfl, g1, g2⟩ := h1
    obtain ⟨u, g3, g4⟩ := g2.get hp
    exact ⟨a, C, dx, _, u, rfl, e1.bh _ _ g1, hc, hn, zip_look hi g3, q u B1 H1 e1 g4⟩)
theorem ee_fldM (n : Nat) {l : Addr} (h : EE X Γ Δ e (Ref l)) (hk : Δ[n]? = some (l, MI C ns ps)) (hc : Cls X.K C) (hn : NoAttr X.K C f) (i : Nat) (hi : ns.findIdx? (fun n => f == n) = some i) (hp : ps[i]? = some P) (hb : attributeBase e f X.env (eval e X.env) = eval e X.env := by rfl) : EE X Γ Δ (.Attribute e f pos) P := fun W B H σ S s Q q =>
  wpE_of (pe_fld pe_wp hb) (h W B H σ S s _ fun v B1 H1 e1 h1 => by
    have ev : v = .ref l := h1
    subst ev
    obtain ⟨_, ob, g1, dx, xs, rfl, g2⟩ := (S.ext e1).at hk
    obtain ⟨u, g3, g4⟩ := g2.get hp
    exact ⟨l, C, dx, _, u, rfl, g1, hc, hn, zip_look hi g3, q u B1 H1 e1 g4⟩)
/-- self.f = e, new or there -/
theorem go_fldN (n : Nat) {l : Addr} (hv : EE X Γ Δ e P) (ho : EE X Γ Δ o (Ref l)) (hk : Δ[n]? = some (l, MI C ns ps)) (hc : Cls X.K C) (hn : NoAttr X.K C f) (hi : ns.findIdx? (fun n => f == n) = none) (hl : ns.length = ps.length) (hz : ns.length < 1000)
    (h : Go X ms Γ (Δ.set n (l, MI C (ns ++ [f]) (ps ++ [P]))) rest K) (hs : swapsWith e (some (.Attribute o f pos')) pos.line X.env = pure false := by rfl) : Go X ms Γ Δ (.Assign [.Attribute o f pos'] e pos :: rest) K := fun W Wi B H σ D hm tk S s ok =>
  wpSs_of (pss_cons (ps_fld pe_wp pe_wp hs) pss_wp) (hv W B H σ S s _ fun v B1 H1 e1 g1 => ho W B1 H1 σ (S.ext e1) (s.mono e1.bb) _ fun w B2 H2 e2 g2 => by
    have S2 := (S.ext e1).ext e2
    obtain ⟨_, ob, k1, dx, xs, rfl, k2⟩ := S2.at hk
    have ew : w = .ref l := g2
    subst ew
    refine ⟨l, C, dx, _, rfl, k1, hc, hn, by rw [List.length_zip]; omega, ?_⟩
    rw [zip_new (by rw [hl]; exact k2.len) hi]
    exact h W Wi B2 _ σ D hm tk (S2.put hk ⟨dx, _, rfl, All.app (qs := [P]) (us := [v]) ⟨P.mono e2.bb g1, trivial⟩ k2⟩) ((s.mono e1.bb).mono e2.bb) ok)
theorem go_fldM {Ke : Pr → Del → Prop} {Kx : Value → Del → Prop} (n : Nat) {l : Addr} (hv : EM X ms Γ Δ e Ke Kx) (hxx : ∀ c Δ', Kx c Δ' → K.ex c Γ Δ') (ho : ∀ P Δ', Ke P Δ' → EE X Γ Δ' o (Ref l)) (hk : ∀ P Δ', Ke P Δ' → Δ'[n]? = some (l, MI C ns ps)) (hc : Cls X.K C) (hn : NoAttr X.K C f) (hi : ns.findIdx? (fun n => f == n) = none) (hl : ns.length = ps.length) (hz : ns.length < 1000)
    (h : ∀ P Δ', Ke P Δ' → Go X ms Γ (Δ'.set n (l, MI C (ns ++ [f]) (ps ++ [P]))) rest K) (hs : swapsWith e (some (.Attribute o f pos')) pos.line X.env = pure false := by rfl) : Go X ms Γ Δ (.Assign [.Attribute o f pos'] e pos :: rest) K := fun W Wi B H σ D hm tk S s ok =>
  wpSs_of (pss_cons (ps_fld pe_wp pe_wp hs) pss_wp) (hv W Wi B H σ hm tk S s (fun c Δ' B' H' kx S' e' => ok.ex _ _ _ _ _ _ (hxx c Δ' kx) S' (s.mono e')) _ fun P Δ' v B1 H1 kp S1 e1 g1 => ho P Δ' kp W B1 H1 σ S1 (s.mono e1) _ fun w B2 H2 e2 g2 => by
    have S2 := S1.ext e2
    obtain ⟨_, ob, k1, dx, xs, rfl, k2⟩ := S2.at (hk P Δ' kp)
    have ew : w = .ref l := g2
    subst ew
    refine ⟨l, C, dx, _, rfl, k1, hc, hn, by rw [List.length_zip]; omega, ?_⟩
    rw [zip_new (by rw [hl]; exact k2.len) hi]
    exact h P Δ' kp W Wi B2 _ σ D hm tk (S2.put (hk P Δ' kp) ⟨dx, _, rfl, All.app (qs := [P]) (us := [v]) ⟨P.mono e2.bb g1, trivial⟩ k2⟩) ((s.mono e1).mono e2.bb) ok)
theorem go_fldS (n i : Nat) {l : Addr} (hv : EE X Γ Δ e P) (ho : EE X Γ Δ o (Ref l)) (hk : Δ[n]? = some (l, MI C ns ps)) (hc : Cls X.K C) (hn : NoAttr X.K C f) (hi : ns.findIdx? (fun n => f == n) = some i) (hl : ns.length = ps.length) (hz : ns.length < 1000)
    (h : Go X ms Γ (Δ.set n (l, MI C ns (ps.set i P))) rest K) (hs : swapsWith e (some (.Attribute o f pos')) pos.line X.env = pure false := by rfl) : Go X ms Γ Δ (.Assign [.Attribute o f pos'] e pos :: rest) K := fun W Wi B H σ D hm tk S s ok =>
  wpSs_of (pss_cons (ps_fld pe_wp pe_wp hs) pss_wp) (hv W B H σ S s _ fun v B1 H1 e1 g1 => ho W B1 H1 σ (S.ext e1) (s.mono e1.bb) _ fun w B2 H2 e2 g2 => by
    have S2 := (S.ext e1).ext e2
    obtain ⟨_, ob, k1, dx, xs, rfl, k2⟩ := S2.at hk
    have ew : w = .ref l := g2
    subst ew
    refine ⟨l, C, dx, _, rfl, k1, hc, hn, by rw [List.length_zip]; omega, ?_⟩
    rw [zip_put (by rw [hl]; exact k2.len) hi]
    exact h W Wi B2 _ σ D hm tk (S2.put hk ⟨dx, _, rfl, k2.set (P.mono e2.bb g1) i⟩) ((s.mono e1.bb).mono e2.bb) ok)
/-! ### methods -/
abbrev mcall (X : Cx) (o : Expr) (m : Str) (apos pos : Pos) (es : List Expr) (pl : Sem Bool) : Sem Value := do let ov ← eval o X.env; standAt apos.atName; let (f, first) ← holding [ov] (getMethod ov m pl); callWith pos f first (backTo pos (starEach es X.env)) (backToKw pos (keywordEach [] X.env))
/-- who receives: an instance of C, here or among the entries, without an attribute of the method's name -/
def Rcv (Δ : Del) (C : Addr) (m : Str) (P : Pr) : Prop := ∀ W B H v, Stb W Δ B H → P.p W.H B v → ∃ a dx fs, v = .ref a ∧ H a = some (.ins C dx fs) ∧ fs.lookup m = none
theorem rcv_I (h : ns.findIdx? (fun n => m == n) = none) : Rcv Δ C m (Iv C ns ps) := fun W B H v S ⟨a, dx, xs, h1, h2, _⟩ => ⟨a, dx, _, h1, S.ex _ _ h2, zip_miss h⟩
theorem rcv_M (n : Nat) {l : Addr} (hk : Δ[n]? = some (l, MI C ns ps)) (h : ns.findIdx? (fun n => m == n) = none) : Rcv Δ C m (Ref l) := fun W B H v S hv => by
  obtain ⟨_, ob, k1, dx, xs, rfl, k2⟩ := S.at hk
  exact ⟨l, dx, _, hv, k1, zip_miss h⟩
/-- o.m(e, ..), what is raised wished for at the slots -/
theorem pe_methS {E : L2.St → XK} {CX : CXT} {g : Addr} {fd : FuncData} {pn : List Str} {sp : Sp} {ds : List Value} {ta : TE} {t : TA} {pl : Sem Bool} (he : PE X o ta) (c : Cls X.K C) (hm : Meth X.K C m g) (F : FnOk X.prog X.w X.K X.mg X.base CX k g fd pn sp) (hr : Room k X.A) (hb : Binds X.K fd pn ds) (hd : Vals dvs ds)
    (hx : ∀ σ, PassesAt CX X σ (E σ)) (ha : PA X (e :: es) t) (hst : starEach (e :: es) X.env = (false, eval e X.env) :: starEach es X.env) (hpl : (backTo pos (starEach es X.env)).any (·.1) = false)
    (ht : eval (.Call (.Attribute o m apos) (e :: es) [] pos) X.env = mcall X o m apos pos (e :: es) pl) :
    PE X (.Call (.Attribute o m apos) (e :: es) [] pos) (fun σ H Q => ta σ H fun x H1 => ∃ a dx fs, x = .ref a ∧ H1 a = some (.ins C dx fs) ∧ fs.lookup m = none ∧ t σ H1 fun vs H2 => sp (x :: vs ++ dvs) H2 Q (E σ)) := by
  refine ⟨fun pins s σ H Q I h => PySem.W.methodCall_KW (pl := pl) (thn (he.run pins s σ H _ I h) fun u s1 ⟨x, H1, I1, rx, a, dx, fs, ex, ea, l, q⟩ => ?_) ht⟩
  subst ex
  have eu : u = Value.ref a := rx
  subst eu
  refine getmeth_ok I1 ea c hm l (PySem.W.callWith_K (first := [.ref a]) (h₀ := X.base) I.ok.mod.kin hm.kp (thn (ha.run pos pins s1 σ H1 _ I1 q) fun us s2 ⟨vs, H2, I2, r, q2⟩ => ⟨I2.kIn, ?_⟩) hst hpl)
  exact run_fnSD (us := .ref a :: us) (vs := .ref a :: vs) F hr hb hd (hx σ) I2 (.cons rfl r) q2
theorem pe_methS0 {E : L2.St → XK} {CX : CXT} {g : Addr} {fd : FuncData} {pn : List Str} {sp : Sp} {ds : List Value} {ta : TE} {pl : Sem Bool} (he : PE X o ta) (c : Cls X.K C) (hm : Meth X.K C m g) (F : FnOk X.prog X.w X.K X.mg X.base CX k g fd pn sp) (hr : Room k X.A) (hb : Binds X.K fd pn ds) (hd : Vals dvs ds)
    (hx : ∀ σ, PassesAt CX X σ (E σ)) (ht : eval (.Call (.Attribute o m apos) [] [] pos) X.env = mcall X o m apos pos [] pl) :
    PE X (.Call (.Attribute o m apos) [] [] pos) (fun σ H Q => ta σ H fun x H1 => ∃ a dx fs, x = .ref a ∧ H1 a = some (.ins C dx fs) ∧ fs.lookup m = none ∧ sp (x :: dvs) H1 Q (E σ)) := by
  refine ⟨fun pins s σ H Q I h => PySem.W.methodCall_KW (pl := pl) (thn (he.run pins s σ H _ I h) fun u s1 ⟨x, H1, I1, rx, a, dx, fs, ex, ea, l, q⟩ => ?_) ht⟩
  subst ex
  have eu : u = Value.ref a := rx
  subst eu
  exact getmeth_ok I1 ea c hm l (PySem.W.callWith_K0 (first := [.ref a]) I1.kIn hm.kp (run_fnSD (us := [.ref a]) (vs := [.ref a]) F hr hb hd (hx σ) I1 (.cons rfl .nil) q))
theorem cj_methE {E : L2.St → XK} {pl : Sem Bool} (hE : ∀ σ, PassesAt (L2N.CX X.prog X.w) X σ (E σ)) (F : Mtc X.prog X.w X.K X.mg X.base C m Cs k dvs) (hr : Room j X.A) (hk : k ≤ j) (ho : EE X Γ Δ o P) (hrc : Rcv Δ C m P) (ha : EA X Γ Δ (e :: es) Ps) (hd : ∀ h B, All h B dps dvs)
    (hst : starEach (e :: es) X.env = (false, eval e X.env) :: starEach es X.env) (hpl : (backTo pos (starEach es X.env)).any (·.1) = false)
    (ht : eval (.Call (.Attribute o m apos) (e :: es) [] pos) X.env = mcall X o m apos pos (e :: es) pl) : CJ X Γ Δ (.Call (.Attribute o m apos) (e :: es) [] pos) Cs E (P :: Ps ++ dps) := fun W B H σ S s Q h => by
  obtain ⟨cl, f, fd, pn, ds, F, hm, b, dd⟩ := F
  refine wpE_of (pe_methS (E := E) pe_wp cl hm F (hr.mono hk) b dd hE pa_wp hst hpl ht) (ho W B H σ S s _ fun v B1 H1 e1 h1 => ?_)
  obtain ⟨a, dx, fs, rfl, g1, g2⟩ := hrc W B1 H1 v (S.ext e1) h1
  refine ⟨a, dx, fs, rfl, g1, g2, ha W B1 H1 σ (S.ext e1) (s.mono e1.bb) _ fun vs B2 H2 e2 h2 => ?_⟩
  exact h _ B2 H2 (e1.trans e2) (All.app (ps := P :: Ps) (vs := .ref a :: vs) (hd _ _) ⟨P.mono e2.bb h1, h2⟩)
theorem cj_methE0 {E : L2.St → XK} {pl : Sem Bool} (hE : ∀ σ, PassesAt (L2N.CX X.prog X.w) X σ (E σ)) (F : Mtc X.prog X.w X.K X.mg X.base C m Cs k dvs) (hr : Room j X.A) (hk : k ≤ j) (ho : EE X Γ Δ o P) (hrc : Rcv Δ C m P) (hd : ∀ h B, All h B dps dvs)
    (ht : eval (.Call (.Attribute o m apos) [] [] pos) X.env = mcall X o m apos pos [] pl) : CJ X Γ Δ (.Call (.Attribute o m apos) [] [] pos) Cs E (P :: dps) := fun W B H σ S s Q h => by
  obtain ⟨cl, f, fd, pn, ds, F, hm, b, dd⟩ := F
  refine wpE_of (pe_methS0 (E := E) pe_wp cl hm F (hr.mono hk) b dd hE ht) (ho W B H σ S s _ fun v B1 H1 e1 h1 => ?_)
  obtain ⟨a, dx, fs, rfl, g1, g2⟩ := hrc W B1 H1 v (S.ext e1) h1
  exact ⟨a, dx, fs, rfl, g1, g2, h _ B1 H1 e1 ⟨h1, hd _ _⟩⟩
theorem passL0 : ∀ σ, PassesAt (L2N.CX X.prog X.w) X σ E0 := fun σ pins H s e s' I c => passN pins σ H s e s' I c
theorem cj_meth {pl : Sem Bool} (F : Mtc X.prog X.w X.K X.mg X.base C m Cs k []) (hr : Room j X.A) (hk : k ≤ j) (ho : EE X Γ Δ o P) (hrc : Rcv Δ C m P) (ha : EA X Γ Δ (e :: es) Ps)
    (hst : starEach (e :: es) X.env = (false, eval e X.env) :: starEach es X.env := by rfl) (hpl : (backTo pos (starEach es X.env)).any (·.1) = false := by rfl) (ht : eval (.Call (.Attribute o m apos) (e :: es) [] pos) X.env = mcall X o m apos pos (e :: es) pl := by rfl) : CJ X Γ Δ (.Call (.Attribute o m apos) (e :: es) [] pos) Cs (fun _ => E0) (P :: Ps) := List.append_nil (P :: Ps) ▸ cj_methE (dps := []) passL0 F hr hk ho hrc ha (fun _ _ => trivial) hst hpl ht
theorem cj_methX {pl : Sem Bool} (F : Mtc X.prog X.w X.K X.mg X.base C m Cs k []) (hr : Room j X.A) (hk : k ≤ j) (ho : EE X Γ Δ o P) (hrc : Rcv Δ C m P) (ha : EA X Γ Δ (e :: es) Ps)
    (hst : starEach (e :: es) X.env = (false, eval e X.env) :: starEach es X.env := by rfl) (hpl : (backTo pos (starEach es X.env)).any (·.1) = false := by rfl) (ht : eval (.Call (.Attribute o m apos) (e :: es) [] pos) X.env = mcall X o m apos pos (e :: es) pl := by rfl) : ∀ Wi, L2N.Takes X Wi → CJ X Γ Δ (.Call (.Attribute o m apos) (e :: es) [] pos) Cs (WE Wi) (P :: Ps) := fun Wi tk => List.append_nil (P :: Ps) ▸ cj_methE (dps := []) (fun σ => L2N.passAt tk σ) F hr hk ho hrc ha (fun _ _ => trivial) hst hpl ht
theorem cj_meth0 {pl : Sem Bool} (F : Mtc X.prog X.w X.K X.mg X.base C m Cs k []) (hr : Room j X.A) (hk : k ≤ j) (ho : EE X Γ Δ o P) (hrc : Rcv Δ C m P) (ht : eval (.Call (.Attribute o m apos) [] [] pos) X.env = mcall X o m apos pos [] pl := by rfl) : CJ X Γ Δ (.Call (.Attribute o m apos) [] [] pos) Cs (fun _ => E0) [P] := cj_methE0 (dps := []) passL0 F hr hk ho hrc (fun _ _ => trivial) ht
theorem cj_methX0 {pl : Sem Bool} (F : Mtc X.prog X.w X.K X.mg X.base C m Cs k []) (hr : Room j X.A) (hk : k ≤ j) (ho : EE X Γ Δ o P) (hrc : Rcv Δ C m P) (ht : eval (.Call (.Attribute o m apos) [] [] pos) X.env = mcall X o m apos pos [] pl := by rfl) : ∀ Wi, L2N.Takes X Wi → CJ X Γ Δ (.Call (.Attribute o m apos) [] [] pos) Cs (WE Wi) [P] := fun Wi tk => cj_methE0 (dps := []) (fun σ => L2N.passAt tk σ) F hr hk ho hrc (fun _ _ => trivial) ht
theorem cj_methD {pl : Sem Bool} (F : Mtc X.prog X.w X.K X.mg X.base C m Cs k dvs) (hr : Room j X.A) (hk : k ≤ j) (ho : EE X Γ Δ o P) (hrc : Rcv Δ C m P) (ha : EA X Γ Δ (e :: es) Ps) (dps : List Pr) (hd : ∀ h B, All h B dps dvs)
    (hst : starEach (e :: es) X.env = (false, eval e X.env) :: starEach es X.env := by rfl) (hpl : (backTo pos (starEach es X.env)).any (·.1) = false := by rfl) (ht : eval (.Call (.Attribute o m apos) (e :: es) [] pos) X.env = mcall X o m apos pos (e :: es) pl := by rfl) : CJ X Γ Δ (.Call (.Attribute o m apos) (e :: es) [] pos) Cs (fun _ => E0) (P :: Ps ++ dps) := cj_methE passL0 F hr hk ho hrc ha hd hst hpl ht
theorem cj_methXD {pl : Sem Bool} (F : Mtc X.prog X.w X.K X.mg X.base C m Cs k dvs) (hr : Room j X.A) (hk : k ≤ j) (ho : EE X Γ Δ o P) (hrc : Rcv Δ C m P) (ha : EA X Γ Δ (e :: es) Ps) (dps : List Pr) (hd : ∀ h B, All h B dps dvs)
    (hst : starEach (e :: es) X.env = (false, eval e X.env) :: starEach es X.env := by rfl) (hpl : (backTo pos (starEach es X.env)).any (·.1) = false := by rfl) (ht : eval (.Call (.Attribute o m apos) (e :: es) [] pos) X.env = mcall X o m apos pos (e :: es) pl := by rfl) : ∀ Wi, L2N.Takes X Wi → CJ X Γ Δ (.Call (.Attribute o m apos) (e :: es) [] pos) Cs (WE Wi) (P :: Ps ++ dps) := fun Wi tk => cj_methE (fun σ => L2N.passAt tk σ) F hr hk ho hrc ha hd hst hpl ht
end
end Yb
set_option maxHeartbeats 1000000
namespace Yb
open PySem PySem.Spec PyProof.Rows L2
/-! ### dicts whose keys are pairs of ints (each is told True) -/
def enc (ks : List (Int × Int)) : List (List Key × V) := ks.map fun q => ([Sum.inl q.1, Sum.inl q.2], V.bl true)
theorem enc_key {x y i j : Int} : ([Sum.inl i, Sum.inl j] : List Key) = [Sum.inl x, Sum.inl y] ↔ (i, j) = (x, y) := by
  constructor
  · intro h
    injection h with h1 h2
    injection h2 with h2 _
    injection h1 with h1
    injection h2 with h2
    rw [h1, h2]
  · intro h
    injection h with h1 h2
    rw [h1, h2]
theorem enc_val (x y : Int) : ∀ ks : List (Int × Int), valV (enc ks) [Sum.inl x, Sum.inl y] = if (x, y) ∈ ks then some (V.bl true) else none
  | [] => rfl
  | (i, j) :: r => by
    by_cases h : (i, j) = (x, y)
    · rw [if_pos (by rw [h]; exact List.mem_cons_self)]
      exact valV_pos (p := ([Sum.inl i, Sum.inl j], V.bl true)) (enc_key.mpr h)
    · have e := valV_neg (p := (([Sum.inl i, Sum.inl j] : List Key), V.bl true)) (r := enc r) (k := [Sum.inl x, Sum.inl y]) (fun z => h (enc_key.mp z))
      show valV ((([Sum.inl i, Sum.inl j] : List Key), V.bl true) :: enc r) _ = _
      rw [e, enc_val x y r]
      by_cases g : (x, y) ∈ r
      · rw [if_pos g, if_pos (List.mem_cons_of_mem _ g)]
      · rw [if_neg g, if_neg (fun z => (List.mem_cons.mp z).elim (fun z => h z.symm) g)]
theorem enc_put {x y : Int} {ks : List (Int × Int)} (h : (x, y) ∉ ks) : putK (enc ks) [Sum.inl x, Sum.inl y] (V.bl true) = enc (ks ++ [(x, y)]) := by
  rw [putK_new _ (by rw [enc_val, if_neg h])]
  unfold enc
  rw [List.map_append]
  rfl
theorem enc_drop (x y : Int) (ks : List (Int × Int)) : dropK (enc ks) [Sum.inl x, Sum.inl y] = enc (ks.filter fun q => decide (q ≠ (x, y))) := by
  unfold dropK enc
  rw [List.filter_map]
  congr 1
  apply List.filter_congr
  intro q _
  obtain ⟨i, j⟩ := q
  show decide (([Sum.inl i, Sum.inl j] : List Key) ≠ [Sum.inl x, Sum.inl y]) = decide ((i, j) ≠ (x, y))
  exact decide_eq_decide.mpr (not_congr enc_key)
def DTv (ks : List (Int × Int)) : Pr := ⟨fun _ B v => ∃ a, v = .ref a ∧ B a = some (.dT (enc ks)), fun e ⟨a, h1, h2⟩ => ⟨a, h1, e _ _ h2⟩, fun _ q => q⟩
def MT (ks : List (Int × Int)) : Ob := ⟨fun _ _ o => o = .dT (enc ks), fun _ q => q, fun _ q => q⟩
theorem hi_DTv {ks : List (Int × Int)} : Hi (DTv ks) := fun _ _ _ _ q => q
theorem hi_MT {ks : List (Int × Int)} : HiO (MT ks) := fun _ _ _ _ q => q
theorem br_D {Δ : Del} (n : Nat) {a : Addr} {ks : List (Int × Int)} (h : Δ[n]? = some (a, MT ks)) : Br Δ (Ref a) (DTv ks) := ⟨fun B H Bp v _ hm e hb hv => by
  have ev : v = .ref a := hv
  subst ev
  have hmem := List.mem_of_getElem? h
  obtain ⟨o, h1, rfl⟩ := hm _ hmem
  exact ⟨a, rfl, (hb _ hmem).trans h1⟩⟩
theorem br_I {Δ : Del} {C : Addr} {ns : List Str} {ps qs : List Pr} (h : Brs Δ ps qs) : Br Δ (Iv C ns ps) (Iv C ns qs) := ⟨fun B H Bp v e hm e2 hb ⟨a, dx, xs, h1, h2, h3⟩ => ⟨a, dx, xs, h1, e2 _ _ h2, h.all e hm e2 hb h3⟩⟩
/-- taking out of such a dict -/
theorem pop1_meets {prog : Program} {w : World} {d b : Addr} {k : List Key} (hd : (d == sysModules) = false) : MeetsIn prog w (Builtin.«dict.pop» ⟨[.ref d, .ref b], []⟩) (fun A R s => ∃ xs, (tupleKind (mixKind prog w)).room A.in1 ∧ (tupleKind (mixKind prog w)).is s.heap k b ∧ s.heap.DictOfH (tupleKind (mixKind prog w)) d xs ∧ xs.length ≤ sizeLine ∧
    ∃ p, atKey xs k = some p ∧ ∀ h' tk, h'.DictOfH (tupleKind (mixKind prog w)) d (DT.dropH xs k) → Heap.SameBut d s.heap h' → R (.ok (.ret p.2)) { s with heap := h', toks := tk }) :=
  .of_wp fun A R s ⟨xs, hu, hkey, dm, hsz, p0, hp0, hsome⟩ => by
    obtain ⟨o, ds, ep, go, gc, gd, ge, gi, gn⟩ := id dm
    have kp0 : (keyPart (Value.ref b)).isSome = false := rfl
    unfold Builtin.«dict.pop»; refine wpAny_bind ?_; unfold Builtin.Dict.keyAndDefault
    refine wpAny_bind (wpAny_notOrdered_dict dm.typeIs ?_)
    show wpAny _ _ (pure (d, Value.ref b, (none : Option Value))) _ _ s
    refine wpAny_pure ?_
    simp only [kp0, Bool.false_eq_true, if_false]
    refine wpAny_bind (wpAny_dictEntries go gd (wpAny_bind (wpAny_pure ?_)))
    have hem : ds.isEmpty = false := by
      cases q : ds.isEmpty with
      | false => rfl
      | true =>
        have z : ds.size = 0 := by simpa using q
        have z2 : ds.size = xs.length := size_of_entries ge
        have h0 : xs = [] := List.length_eq_zero_iff.mp (by omega)
        rw [h0] at hp0
        cases hp0
    simp only [hem, Bool.false_eq_true, if_false]
    refine wpAny_bind (DT.takeH hu hkey dm hsz (fun hno => by rw [hp0] at hno; cases hno) fun p e hp hev h' hm' hs' => ?_)
    rw [hp0] at hp
    cases hp
    simp only [Option.isNone_some, Bool.false_eq_true, if_false]
    exact wpAny_bind (wpAny_letGo (wpAny_pure ⟨e.val, rfl, hev ▸ hsome h' _ hm' hs'⟩))
def rPop1 : V → List V → Hp → VK → Prop := fun x xs H Q => ∃ (a b : Addr) (ks : List (Int × Int)) (i j : Int), x = .ref a ∧ xs = [.ref b] ∧ H a = some (.dT (enc ks)) ∧ H b = some (.tup [.int i, .int j]) ∧ (i, j) ∈ ks ∧ Q (.bl true) (upd H a (.dT (enc (ks.filter fun q => decide (q ≠ (i, j))))))
theorem mt_pop1 {X : Cx} (hu : X.A.units + 1 < cLine) : MtR X "dict.pop" rPop1 := by
  intro pins s σ H x xs v us Q I rx rxs h
  obtain ⟨a, b, ks, i, j, rfl, rfl, ha, hb, hin, q⟩ := h
  cases rx
  obtain ⟨u1, rfl, r1⟩ := vals1 rxs
  cases r1
  obtain ⟨z, hd, xs', rel, dd⟩ := dt_of I.hok ha
  have hz : xs'.length ≤ sizeLine := by rw [← Paired.length rel]; exact z
  have hb' : H b = some (.tup (([Sum.inl i, Sum.inl j] : List Key).map kV)) := hb
  have hv : valV (enc ks) [Sum.inl i, Sum.inl j] = some (.bl true) := by rw [enc_val, if_pos hin]
  have r := rel.val [Sum.inl i, Sum.inl j]
  rw [hv] at r
  obtain ⟨w0, hw, rw0⟩ := RelO.some_of r
  obtain ⟨p, hp, rfl⟩ := Option.map_eq_some_iff.mp hw
  refine call_meetsIn PySem.F.slot_dict_pop dd.typeIs PySem.F.entry_dict_pop (PySem.F.args_dict_pop_2 _ _) (pop1_meets (k := [Sum.inl i, Sum.inl j]) hd) ⟨xs', tupleKind_room_in1 hu, key_of I.hok hb', dd, hz, p, hp, fun h' tk dd' hs => ?_⟩
  obtain ⟨o, es, ep, hq, h2, h3, h4, _, h5⟩ := dd'
  have I2 : Inv X pins σ (upd H a (.dT (dropK (enc ks) [Sum.inl i, Sum.inl j]))) { s with heap := h', toks := tk } :=
    d_write I (by rw [ha]; exact True.intro) hs ⟨o, hq⟩ ⟨Nat.le_trans (dropK_le _ _) z, hd, _, (L2.DX.KT_drop _ rel).keeps (fun c ys ec => (by rw [upd_ne (ne_of ec ha (fun z => nomatch z))]; exact ec)), o, es, ep, hq, h2, h3, h4, h5⟩
  rw [enc_drop] at I2
  exact ⟨.bl true, _, I2, rw0, q⟩
section
variable {X : Cx} {ms : List Addr} {Γ : Gam} {Δ : Del} {K : Kk} {rest : List Stmt} {e a b o : Expr} {es : List Expr} {P P' : Pr} {Ps ps dps : List Pr} {pos pos' apos p2 : Pos} {x f m : Str} {C : Addr} {ns : List Str} {k j : Nat} {Cs : Cn → Prop} {ks : List (Int × Int)} {i₁ j₁ : Int}
def ED (X : Cx) (Γ : Gam) (Δ : Del) (e : Expr) (ks : List (Int × Int)) : Prop := ∀ (W : Ws) (B H : Hp) (σ : L2.St), Stb W Δ B H → Sl Γ W.H B σ → ∀ Q : VK, (∀ a B2 H2, Ext B H B2 H2 → H2 a = some (.dT (enc ks)) → Q (.ref a) H2) → wpE X e σ H Q
theorem ed_V (h : EE X Γ Δ e (DTv ks)) : ED X Γ Δ e ks := fun W B H σ S s Q q => h W B H σ S s _ fun v B1 H1 e1 ⟨a, h1, h2⟩ => by
  subst h1
  exact q a B1 H1 e1 (e1.bh _ _ h2)
theorem ed_M (n : Nat) {l : Addr} (h : EE X Γ Δ e (Ref l)) (hk : Δ[n]? = some (l, MT ks)) : ED X Γ Δ e ks := fun W B H σ S s Q q => h W B H σ S s _ fun v B1 H1 e1 h1 => by
  have ev : v = .ref l := h1
  subst ev
  obtain ⟨_, ob, g1, rfl⟩ := (S.ext e1).at hk
  exact q l B1 H1 e1 g1
theorem key_tup {h B H : Hp} {x y : Int} {v : V} (e : Same B H) (hv : (T [I x, I y]).p h B v) : ∃ b, v = .ref b ∧ H b = some (.tup (([Sum.inl x, Sum.inl y] : List Key).map kV)) := by
  obtain ⟨a, xs, rfl, h1, h2⟩ := hv
  obtain ⟨u, w, rfl, g1, g2⟩ := h2.two
  have e1 : u = .int x := g1
  have e2 : w = .int y := g2
  subst e1 e2
  exact ⟨a, rfl, e _ _ h1⟩
theorem ee_inD {x y : Int} (hu : X.A.units + 1 < cLine) (ha : EE X Γ Δ a (T [I x, I y])) (hb : ED X Γ Δ b ks) (hm : behindInMarks .In b = false := by rfl) : EE X Γ Δ (.Compare a [.In] [b] pos) (Bo (decide ((x, y) ∈ ks))) := fun W B H σ S s Q q =>
  wpE_of (pe_cmp (pc_din hu pe_wp pe_wp) hm) (ha W B H σ S s _ fun v B1 H1 e1 h1 => hb W B1 H1 σ (S.ext e1) (s.mono e1.bb) _ fun l B2 H2 e2 h2 => by
    obtain ⟨t, rfl, g⟩ := key_tup e1.bh h1
    refine ⟨l, _, rfl, DGet.t h2 (e2.hh _ _ g), ?_⟩
    rw [enc_val]
    have ei : (if (x, y) ∈ ks then some (V.bl true) else none).isSome = decide ((x, y) ∈ ks) := by
      by_cases z : (x, y) ∈ ks
      · rw [if_pos z, decide_eq_true z]; rfl
      · rw [if_neg z, decide_eq_false z]; rfl
    rw [ei]
    exact q _ B2 H2 (e1.trans e2) rfl)
theorem et_inD {x y : Int} (hu : X.A.units + 1 < cLine) (ha : EE X Γ Δ a (T [I x, I y])) (hb : ED X Γ Δ b ks) (hm : behindInMarks .In b = false := by rfl) : ET X Γ Δ (.Compare a [.In] [b] pos) (decide ((x, y) ∈ ks)) := fun W B H σ S s Q q =>
  wpT_of (pt_cmp (pc_din hu pe_wp pe_wp) hm) (ha W B H σ S s _ fun v B1 H1 e1 h1 => hb W B1 H1 σ (S.ext e1) (s.mono e1.bb) _ fun l B2 H2 e2 h2 => by
    obtain ⟨t, rfl, g⟩ := key_tup e1.bh h1
    refine ⟨l, _, rfl, DGet.t h2 (e2.hh _ _ g), ?_⟩
    rw [enc_val]
    have ei : (if (x, y) ∈ ks then some (V.bl true) else none).isSome = decide ((x, y) ∈ ks) := by
      by_cases z : (x, y) ∈ ks
      · rw [if_pos z, decide_eq_true z]; rfl
      · rw [if_neg z, decide_eq_false z]; rfl
    rw [ei]
    exact ⟨_, rfl, q B2 H2 (e1.trans e2)⟩)
theorem et_ninD {x y : Int} (hu : X.A.units + 1 < cLine) (ha : EE X Γ Δ a (T [I x, I y])) (hb : ED X Γ Δ b ks) (hm : behindInMarks .NotIn b = false := by rfl) : ET X Γ Δ (.Compare a [.NotIn] [b] pos) (!decide ((x, y) ∈ ks)) := fun W B H σ S s Q q =>
  wpT_of (pt_cmp (pc_dnotin hu pe_wp pe_wp) hm) (ha W B H σ S s _ fun v B1 H1 e1 h1 => hb W B1 H1 σ (S.ext e1) (s.mono e1.bb) _ fun l B2 H2 e2 h2 => by
    obtain ⟨t, rfl, g⟩ := key_tup e1.bh h1
    refine ⟨l, _, rfl, DGet.t h2 (e2.hh _ _ g), ?_⟩
    rw [enc_val]
    have ei : (if (x, y) ∈ ks then some (V.bl true) else none).isSome = decide ((x, y) ∈ ks) := by
      by_cases z : (x, y) ∈ ks
      · rw [if_pos z, decide_eq_true z]; rfl
      · rw [if_neg z, decide_eq_false z]; rfl
    rw [ei]
    exact ⟨_, rfl, q B2 H2 (e1.trans e2)⟩)
/-- {} -/
theorem em_dict {Kx : Value → Del → Prop} : EM X ms Γ Δ (.Dict [] [] pos) (fun P' Δ' => ∃ l, l ∉ ms ∧ P' = Ref l ∧ Δ' = Δ ++ [(l, MT [])]) Kx := fun W Wi B H σ hm tk S s hx Q q =>
  wpE_of pe_dnewT fun l hl => by
    obtain ⟨S2, h5⟩ := S.new (ob := MT []) (o := .dT []) hl rfl
    exact q (Ref l) _ _ B _ ⟨l, hm ▸ h5, rfl, rfl⟩ S2 (Same.refl _) rfl
/-- d[(x, y)] = True -/
theorem go_dput (n : Nat) {l : Addr} {x y : Int} (hu : X.A.units + 1 < cLine) (hv : EE X Γ Δ e (Bo true)) (ho : EE X Γ Δ o (Ref l)) (hi : EE X Γ Δ b (T [I x, I y])) (hk : Δ[n]? = some (l, MT ks)) (hnew : (x, y) ∉ ks) (hz : ks.length < 100000)
    (h : Go X ms Γ (Δ.set n (l, MT (ks ++ [(x, y)]))) rest K) (hs : swapsWith e (some (.Subscript o b p2)) pos.line X.env = pure false := by rfl) : Go X ms Γ Δ (.Assign [.Subscript o b p2] e pos :: rest) K := fun W Wi B H σ D hm tk S s ok =>
  wpSs_of (pss_cons (ps_dput hu pe_wp pe_wp pe_wp hs) pss_wp) (hv W B H σ S s _ fun v B1 H1 e1 g1 => ho W B1 H1 σ (S.ext e1) (s.mono e1.bb) _ fun w B2 H2 e2 g2 => hi W B2 H2 σ ((S.ext e1).ext e2) ((s.mono e1.bb).mono e2.bb) _ fun u B3 H3 e3 g3 => by
    have S3 := ((S.ext e1).ext e2).ext e3
    obtain ⟨_, ob, k1, rfl⟩ := S3.at hk
    have ew : w = .ref l := g2
    have ev : v = .bl true := g1
    subst ew ev
    obtain ⟨t, rfl, g⟩ := key_tup e3.bh g3
    refine ⟨l, _, rfl, DPut.t k1 g (by unfold enc; rw [List.length_map]; exact sz_lt hz), ?_⟩
    rw [enc_put hnew]
    exact h W Wi B3 _ σ D hm tk (S3.put hk rfl) (((s.mono e1.bb).mono e2.bb).mono e3.bb) ok)
/-- d.pop((x, y)), there -/
theorem go_dpop (n : Nat) {l : Addr} {x y : Int} (hu : X.A.units + 1 < cLine) (ho : EE X Γ Δ o (Ref l)) (he : EE X Γ Δ e (T [I x, I y])) (hk : Δ[n]? = some (l, MT ks)) (hin : (x, y) ∈ ks) (h : Go X ms Γ (Δ.set n (l, MT (ks.filter fun q => decide (q ≠ (x, y))))) rest K)
    (hbase : attributeBase o "pop" X.env (eval o X.env) = eval o X.env := by rfl)
    (hfew : ((backTo p2 (starEach [e] X.env)).all (fun x => !x.1) && (backToKw p2 (keywordEach [] X.env)).all (fun x => x.1.isSome) && decide (([e] : List Expr).length + ([] : List Keyword).length + (if ([] : List Keyword).isEmpty then 0 else 1) < 30)) = true := by rfl)
    (hline : (apos.endLine == p2.line) = true := by rfl) (hs1 : starEach [e] X.env = (false, eval e X.env) :: starEach [] X.env := by rfl) (hplain : (backTo p2 (starEach [] X.env)).any (·.1) = false := by rfl)
    (hs : swapsWith (.Call (.Attribute o "pop" apos) [e] [] p2) none pos.line X.env = pure false := by rfl) : Go X ms Γ Δ (.Expr (.Call (.Attribute o "pop" apos) [e] [] p2) pos :: rest) K := fun W Wi B H σ D hm tk S s ok =>
  wpSs_of (pss_cons (ps_expr (pe_bm PySem.F.plainAttrs_dict PySem.F.slot_dict_pop PySem.F.type_dict_pop (mt_pop1 hu) pe_wp (pa_cons pe_wp pa_nil hs1) hbase hfew hline hs1 hplain) hs) pss_wp) (ho W B H σ S s _ fun w B1 H1 e1 g1 => by
    have S1 := S.ext e1
    obtain ⟨_, ob, k1, rfl⟩ := S1.at hk
    have ew : w = .ref l := g1
    subst ew
    refine ⟨.inr (.inr (.inl ⟨rfl, .inr ⟨_, k1⟩⟩)), he W B1 H1 σ S1 (s.mono e1.bb) _ fun v B2 H2 e2 g2 => ?_⟩
    have S2 := S1.ext e2
    obtain ⟨t, rfl, g⟩ := key_tup e2.bh g2
    refine ⟨l, t, ks, x, y, rfl, rfl, e2.hh _ _ k1, g, hin, ?_⟩
    exact h W Wi B2 _ σ D hm tk (S2.put hk rfl) ((s.mono e1.bb).mono e2.bb) ok)
/-! ### a new instance -/
structure Mkc (P : Program) (w : World) (K : PySem.W.Frag) (mg : Str → Option Value) (base : Heap) (x : Str) (Cl : Addr) (C : Cn → Prop) (k : Nat) : Prop where
  ex : ∃ f fd ps, FnOk P w K mg base (L2N.CX P w) k f fd ps (spC C) ∧ Mk K Cl f ∧ mg x = some (.ref Cl) ∧ Binds K fd ps []
theorem em_make {q : Pos} {Kx : Value → Del → Prop} (F : Mkc X.prog X.w X.K X.mg X.base x C Cs k) (hr : Room (j + 1) X.A) (hk : k ≤ j) (hg : Gl X x) (ha : EA X Γ Δ (e :: es) Ps) (c : Addr → Cn) (hc : ∀ l, Cs (c l)) (G : Del → List Pr → Prop) (hp : ∀ l, (c l).ps = Ref l :: Ps := by intro _; rfl) (hΔ : ∀ l, (c l).Δ = [(l, MI C [] [])] := by intro _; rfl)
    (ho : ∀ l P Δ', (c l).out P Δ' → P = No ∧ ∃ Δn qs, Δ' = (l, MI C ns qs) :: Δn ∧ G Δn qs := by exact fun _ _ _ q => q) (hx : ∀ l v Δ', ¬ (c l).exc v Δ' := by exact fun _ _ _ q => q) (hdb : (x == ("__debug__" : Str)) = false := by decide)
    (he : starEach (e :: es) X.env = (false, eval e X.env) :: starEach es X.env := by rfl) (hpl : (backTo pos (starEach es X.env)).any (·.1) = false := by rfl) :
    EM X ms Γ Δ (.Call (.Name x q) (e :: es) [] pos) (fun P Δ' => ∃ Δn qs, G Δn qs ∧ P = N (Iv C ns qs) ∧ Δ' = Δn ++ Δ ∧ ∀ z ∈ Δn, z.1 ∉ ms) Kx := fun W Wi B H σ hm tk S s hx0 Q qq => by
  obtain ⟨f, fd, pn, F, M, mg, b⟩ := F.ex
  refine wpE_of (pe_make (E := E0) M F (Room.mono hr (Nat.succ_le_succ hk)) hg mg b .nil passN pa_wp hdb he hpl) (ha W B H σ S s _ fun vs B1 H1 e1 h1 => ?_)
  intro l dx hl hdx hne
  have S1 := S.ext e1
  have S2 := S1.ext (Ext.newH (o := .own l) S1.ex hdx)
  have hl2 : upd H1 dx (HO.own l) l = none := by rw [upd_ne (Ne.symm hne)]; exact hl
  obtain ⟨S3, hnm⟩ := S2.new (ob := MI C [] []) (o := .ins C dx []) hl2 ⟨dx, [], rfl, trivial⟩
  have S4 := S3.perm (List.perm_append_comm (l₁ := Δ) (l₂ := [(l, MI C [] [])]))
  have hb1 : B1 l = none := e1.bh.free hl
  rw [List.append_nil]
  refine ⟨c l, B1, hc l, S4.ex, ?_, ?_, ?_, fun P' Δ' B' H' v o S' hv => ?_, fun x Δ' B' H' o _ => hx l x Δ' o⟩
  · rw [hp l]
    exact ⟨rfl, all_h0 h1⟩
  · rw [hΔ l]
    intro z hz
    have ez : z = (l, MI C [] []) := by simpa using hz
    subst ez
    exact ⟨hb1, _, upd_same, dx, [], rfl, trivial⟩
  · rw [hΔ l]
    simp
  · rw [hΔ l] at S'
    obtain ⟨rfl, Δn, qs, rfl, g⟩ := ho l P' Δ' o
    have S5 := S4.call S'
    obtain ⟨o, k1, k2, ⟨dx', xs, rfl, k4⟩, S6, sm⟩ := S5.frz (k := 0) (a := l) (ob := MI C ns qs) rfl hnm
    refine ⟨hv, qq (N (Iv C ns qs)) (Δn ++ Δ) (.ref l) _ H' ⟨Δn, qs, g, rfl, rfl, fun z hz hzm => ?_⟩ S6 ((e1.bb.trans S'.bb).trans sm) ⟨⟨l, dx', xs, rfl, upd_same, k4.mono sm⟩, fun a z => by injection z with z; exact z ▸ k2⟩⟩
    have hzm' : z.1 ∈ W.ms := hm ▸ hzm
    rcases S'.ow z (List.mem_cons_of_mem _ hz) with w1 | w1
    · have e2 : z.1 = l := by simpa using w1
      exact hnm (e2 ▸ hzm')
    · have w1 : upd (upd H1 dx (HO.own l)) l (HO.ins C dx []) z.1 = none := w1
      have hne2 : z.1 ≠ l := fun q => by rw [q, upd_same] at w1; cases w1
      rw [upd_ne hne2] at w1
      have hne3 : z.1 ≠ dx := fun q => by rw [q, upd_same] at w1; cases w1
      rw [upd_ne hne3] at w1
      exact S1.dm _ (S1.msd _ hzm') w1
end
end Yb
set_option maxHeartbeats 1000000
namespace Yb
open PySem PySem.Spec PyProof.Rows L2
/-! ### raising -/
/-- an own class of errors, over ValueError -/
structure ExcT (K : PySem.W.Frag) (mg : Str → Option Value) (x : Str) (C : Addr) : Prop where
  gC : mg x = some (.ref C)
  kC : PySem.W.keepIn K (.ref C) = true
  xC : PySem.W.excIn K C [.type "ValueError", .type "Exception", .type "BaseException", .type "object"] "ValueError.__new__" = true
  bC : PySem.W.subIn K (.ref C) (.type "BaseException") = some true
  tC : PySem.W.typeIn K (.ref C) = some (.type "type")
section
variable {X : Cx} {ms : List Addr} {Γ : Gam} {Δ : Del} {K : Kk} {rest : List Stmt} {e a b o : Expr} {es : List Expr} {P P' : Pr} {Ps ps qs : List Pr} {pos pos' apos p2 : Pos} {x f m : Str} {k : Bool} {j : Nat} {C : Addr} {Cs : Cn → Prop}
theorem go_raise {q q2 q3 q4 : Pos} (E : ExcT X.K X.mg x C) (h : K.ex (.ref C) Γ Δ) (hg : Gl X x := by rfl) (hc : X.calm = true := by rfl) (hdb : (x == ("__debug__" : Str)) = false := by decide) : Go X ms Γ Δ (.Raise (some (.Call (.Name x q) [.Constant (.str m) j q2] [] q3)) none q4 :: rest) K := fun W Wi B H σ D hm tk S s ok =>
  wpSs_of (pss_cons (L2N.ps_raise hc tk (L2N.pmk_own PySem.F.excBase_ValueError E.xC E.gC E.kC (raises_own E.bC E.tC) hg hdb)) pss_wp) (ok.ex _ _ _ B H σ h S s)
/-! ### a call that reads what may change, and may raise -/
theorem em_callB (j : ∀ Wi, L2N.Takes X Wi → CJ X Γ Δ e Cs (WE Wi) Ps) (c : Cn) (hc : Cs c) (hp : Brs Δ Ps c.ps) (hsb : ∀ P Δ', c.out P Δ' → Sb P) (hΔ : c.Δ = [] := by rfl) : EM X ms Γ Δ e (fun P Δ' => (∃ D, c.out P D) ∧ Δ' = Δ) (fun v Δ' => (∃ D, c.exc v D) ∧ Δ' = Δ) := fun W Wi B H σ hm tk S s hx Q q =>
  j Wi tk W B H σ S s Q fun vs B1 H1 e1 h1 => by
    have S1 := S.ext e1
    let bs := Δ.map (·.1)
    obtain ⟨Bp, g1, g2, g3, g4⟩ := borrow S1
    have inn : ∀ a, a ∈ bs → B1 a = none ∧ H1 a ≠ none := fun a h => by
      obtain ⟨x, hx, rfl⟩ := List.mem_map.mp h
      obtain ⟨h1, o, h2, _⟩ := S1.mu x hx
      exact ⟨h1, by rw [h2]; intro z; cases z⟩
    have hm' : ∀ e ∈ Δ, ∃ o, H1 e.1 = some o ∧ e.2.p h0 B1 o := fun x hx => by
      obtain ⟨_, o, h2, h3⟩ := S1.mu x hx
      exact ⟨o, h2, x.2.anti (fun a z => absurd rfl z) h3⟩
    -- back without what was lent
    have back : ∀ {B' H' : Hp}, Ext Bp H1 B' H' → ∃ B2 : Hp, Ext B1 H1 B2 H' ∧ ∀ a, H1 a = none → B2 a = B' a := fun {B' H'} e2 => by
      refine ⟨fun a => if a ∈ bs then none else B' a, ⟨fun a o h => ?_, e2.hh, fun a o h => ?_, fun a h n => ?_⟩, fun a h => if_neg fun z => (inn a z).2 h⟩
      · have ha : a ∉ bs := fun z => by rw [(inn a z).1] at h; cases h
        show (if a ∈ bs then none else B' a) = some o
        rw [if_neg ha]
        exact e2.bb a o (g1 a o h)
      · have h : (if a ∈ bs then none else B' a) = some o := h
        by_cases ha : a ∈ bs
        · rw [if_pos ha] at h; cases h
        · rw [if_neg ha] at h; exact e2.bh a o h
      · show (if a ∈ bs then none else B' a) = none
        by_cases ha : a ∈ bs
        · exact if_pos ha
        · rw [if_neg ha]
          exact e2.fr a ((g4 a ha).trans h) n
    refine ⟨c, Bp, hc, g2, Brs.all e1.bh hm' g1 g3 hp (all_h0 h1), by rw [hΔ]; exact fun _ z => (List.not_mem_nil z).elim, by rw [hΔ]; exact List.nodup_nil, fun P' Δ' B' H' v o S' hv => ?_, fun x Δ' B' H' o S' => ?_⟩
    · rw [hΔ] at S'
      obtain ⟨B2, e3, hb⟩ := back (Stb.pure S')
      exact q P' Δ v B2 H' ⟨⟨_, o⟩, rfl⟩ (S1.ext e3) (e1.bb.trans e3.bb) (P'.anti (fun a h => S1.dm a h) (hsb P' Δ' o _ B' _ _ hb hv))
    · rw [hΔ] at S'
      obtain ⟨B2, e3, hb⟩ := back (Stb.pure S')
      exact hx x Δ B2 H' ⟨⟨_, o⟩, rfl⟩ (S1.ext e3) (e1.bb.trans e3.bb)
/-! ### tests with effects -/
def ETM (X : Cx) (ms : List Addr) (Γ : Gam) (Δ : Del) (e : Expr) (K : Bool → Del → Prop) (Kx : Value → Del → Prop) : Prop :=
  ∀ (W : Ws) (Wi : WX) (B H : Hp) (σ : L2.St), W.ms = ms → L2N.Takes X Wi → Stb W Δ B H → Sl Γ W.H B σ → (∀ c Δ' B' H', Kx c Δ' → Stb W Δ' B' H' → Same B B' → Wi c none σ H') →
    ∀ Q : Bool → Hp → Prop, (∀ b Δ' B' H', K b Δ' → Stb W Δ' B' H' → Same B B' → Q b H') → wpT X e σ H Q
theorem etm_val {Ke : Pr → Del → Prop} {Kx : Value → Del → Prop} (h : EM X ms Γ Δ e Ke Kx) (hk : ∀ P Δ', Ke P Δ' → ∃ b, P = Bo b) (he : ∀ whole, isTrue e X.env whole = (do let v ← whole; standAt e.pos; holding [v] (truthy v)) := by intro _; rfl) : ETM X ms Γ Δ e (fun b Δ' => Ke (Bo b) Δ') Kx := fun W Wi B H σ hm tk S s hx Q q =>
  wpT_of (pt_val pe_wp he) (h W Wi B H σ hm tk S s hx _ fun P Δ' v B1 H1 kp S1 e1 h1 => by
    obtain ⟨b, rfl⟩ := hk P Δ' kp
    exact ⟨b, h1, q b Δ' B1 H1 kp S1 e1⟩)
theorem etm_not {Ke : Bool → Del → Prop} {Kx : Value → Del → Prop} (h : ETM X ms Γ Δ e Ke Kx) : ETM X ms Γ Δ (.UnaryOp .Not e pos) (fun b Δ' => Ke (!b) Δ') Kx := fun W Wi B H σ hm tk S s hx Q q =>
  wpT_of (pt_not pt_wp) (h W Wi B H σ hm tk S s hx _ fun b Δ' B1 H1 kp S1 e1 => q (!b) Δ' B1 H1 (by show Ke (!(!b)) Δ'; rw [Bool.not_not]; exact kp) S1 e1)
theorem etm_of {Kx : Value → Del → Prop} (h : ET X Γ Δ e k) : ETM X ms Γ Δ e (fun b Δ' => b = k ∧ Δ' = Δ) Kx := fun W Wi B H σ hm tk S s hx Q q => h W B H σ S s _ fun B1 H1 e1 => q k Δ B1 H1 ⟨rfl, rfl⟩ (S.ext e1) e1.bb
def wpC (X : Cx) (op : CmpOp) (a b : Expr) : TE := fun σ H Q => ∀ (pins : List (Addr × Obj)) (s : Shared), Inv X pins σ H s → wpAny (model X.prog X.w) X.A (eval a X.env) (fun v s₁ => wpAny (model X.prog X.w) X.A (eval b X.env) (fun u s₂ => wpAny (model X.prog X.w) X.A (compareOp op v u) (EP X pins σ Q) X.xe s₂) X.xe s₁) X.xe s
theorem pc_wp {op : CmpOp} : PC X op a b (wpC X op a b) := ⟨fun pins s _ _ _ I h => h pins s I⟩
/-- the left with effects, the right without -/
theorem cmpM_key {Ke : Pr → Del → Prop} {Kx : Value → Del → Prop} {op : CmpOp} {Rk : Bool → Del → Prop} (ha : EM X ms Γ Δ a Ke Kx) (hb : ∀ P Δ', Ke P Δ' → ∃ P' k, EE X Γ Δ' b P' ∧ Cmp X op P P' k ∧ Rk k Δ') {W : Ws} {Wi : WX} {B H : Hp} {σ : L2.St} (hms : W.ms = ms) (tk : L2N.Takes X Wi) (S : Stb W Δ B H) (s : Sl Γ W.H B σ)
    (hx : ∀ c Δ' B' H', Kx c Δ' → Stb W Δ' B' H' → Same B B' → Wi c none σ H') (R : VK) (r : ∀ k Δ' B' H', Rk k Δ' → Stb W Δ' B' H' → Same B B' → R (.bl k) H') : wpC X op a b σ H R := fun pins st I => by
  refine thn (ha W Wi B H σ hms tk S s hx (fun v H1 => ∀ pins s1, Inv X pins σ H1 s1 → ∀ u, RelV v u → wpAny (model X.prog X.w) X.A (eval b X.env) (fun u2 s2 => wpAny (model X.prog X.w) X.A (compareOp op u u2) (EP X pins σ R) X.xe s2) X.xe s1) (fun P Δ' v B1 H1 kp S1 e1 h1 => ?_) pins st I) fun v s1 ⟨x, H1, I1, r1, q1⟩ => q1 pins s1 I1 v r1
  intro pins s1 I1 u ru
  obtain ⟨P', k, hb', ⟨r0, ho, hr⟩, rk⟩ := hb P Δ' kp
  refine thn (hb' W B1 H1 σ S1 (s.mono e1) (fun u2 H2 => ∃ B2, Ext B1 H1 B2 H2 ∧ P'.p W.H B2 u2) (fun u2 B2 H2 e2 h2 => ⟨B2, e2, h2⟩) pins s1 I1) fun w2 s2 ⟨y, H2, I2, r2, B2, e2, h2⟩ => ?_
  exact ho pins s2 σ H2 v y u w2 R I2 ru r2 (hr W.H v y B2 H2 e2.bh (P.mono e2.bb h1) h2 R (r k Δ' B2 H2 rk (S1.ext e2) (e1.trans e2.bb)))
theorem etm_cmp {Ke : Pr → Del → Prop} {Kx : Value → Del → Prop} {op : CmpOp} (Rk : Bool → Del → Prop) (ha : EM X ms Γ Δ a Ke Kx) (hb : ∀ P Δ', Ke P Δ' → ∃ P' k, EE X Γ Δ' b P' ∧ Cmp X op P P' k ∧ Rk k Δ') (hm : behindInMarks op b = false := by first | exact nomark _ | rfl) :
    ETM X ms Γ Δ (.Compare a [op] [b] pos) Rk Kx := fun W Wi B H σ hms tk S s hx Q q =>
  wpT_of (pt_cmp pc_wp hm) (cmpM_key ha hb hms tk S s hx _ fun k Δ' B' H' kk S' e' => ⟨k, rfl, q k Δ' B' H' kk S' e'⟩)
theorem em_cmp {Ke : Pr → Del → Prop} {Kx : Value → Del → Prop} {op : CmpOp} (Rk : Bool → Del → Prop) (ha : EM X ms Γ Δ a Ke Kx) (hb : ∀ P Δ', Ke P Δ' → ∃ P' k, EE X Γ Δ' b P' ∧ Cmp X op P P' k ∧ Rk k Δ') (hm : behindInMarks op b = false := by first | exact nomark _ | rfl) :
    EM X ms Γ Δ (.Compare a [op] [b] pos) (fun R Δ' => ∃ k, R = Bo k ∧ Rk k Δ') Kx := fun W Wi B H σ hms tk S s hx Q q =>
  wpE_of (pe_cmp pc_wp hm) (cmpM_key ha hb hms tk S s hx _ fun k Δ' B' H' kk S' e' => q (Bo k) Δ' _ B' H' ⟨k, rfl, kk⟩ S' e' rfl)
theorem go_ifM {Ke : Bool → Del → Prop} {Kx : Value → Del → Prop} {t u : List Stmt} (hc : ETM X ms Γ Δ e Ke Kx) (hxx : ∀ c Δ', Kx c Δ' → K.ex c Γ Δ') (h1 : ∀ Δ', Ke true Δ' → Go X ms Γ Δ' t (K.to fun Γ' Δ' => Go X ms Γ' Δ' rest K)) (h2 : ∀ Δ', Ke false Δ' → Go X ms Γ Δ' u (K.to fun Γ' Δ' => Go X ms Γ' Δ' rest K)) :
    Go X ms Γ Δ (.If e t u pos :: rest) K := fun W Wi B H σ D hm tk S s ok =>
  wpSs_of (pss_cons (ps_if pt_wp pss_wp pss_wp) pss_wp) (hc W Wi B H σ hm tk S s (fun c Δ' B' H' kx S' e' => ok.ex _ _ _ _ _ _ (hxx c Δ' kx) S' (s.mono e')) _ fun b Δ' B1 H1 kb S1 e1 => by
    have ok' : (K.to fun Γ' Δ' => Go X ms Γ' Δ' rest K).Ok W Wi { D with nx := wpSs X rest D } := ok.to fun Γ' Δ' B H σ g S s => g W Wi B H σ D hm tk S s ok
    cases b with
    | true => exact h1 Δ' kb W Wi B1 H1 σ _ hm tk S1 (s.mono e1) ok'
    | false => exact h2 Δ' kb W Wi B1 H1 σ _ hm tk S1 (s.mono e1) ok')
end
end Yb
namespace Yb
open PySem PySem.Spec PyProof.Rows L2
theorem bo_inj {a b : Bool} (h : Bo a = Bo b) : a = b := by
  have h1 := congrFun (congrFun (congrFun (congrArg Pr.p h) h0) h0) (V.bl a)
  have h2 : V.bl a = V.bl b := by
    rw [← show (Bo b).p h0 h0 (V.bl a) = (V.bl a = V.bl b) from rfl, ← h]
    rfl
  exact vbl_iff.mp h2
theorem i_inj {a b : Int} (h : I a = I b) : a = b := by
  have h2 : V.int a = V.int b := by
    rw [← show (I b).p h0 h0 (V.int a) = (V.int a = V.int b) from rfl, ← h]
    rfl
  exact vint_iff.mp h2
end Yb
set_option maxHeartbeats 1000000
namespace Yb
open PySem PySem.Spec PyProof.Rows L2
/-! ### == by data -/
mutual
theorem dp_mono {K : PySem.W.Frag} {H H' : Hp} (e : Same H H') : ∀ (d : PyData) (v : V), Dp K H v d → Dp K H' v d
  | .none, _, h => by cases h; exact .non
  | .bool b, _, h => by cases h; exact .bl b
  | .int i, _, h => by cases h; exact .int i
  | .str x, _, h => by cases h; exact .str x
  | .list ds, _, h => by
    cases h with
    | lst a b => exact .lst (e.seq a) (dps_mono e ds _ b)
  | .tuple ds, _, h => by
    cases h with
    | tup a b => exact .tup (by
        rcases a with (a | ⟨o, a⟩) | a
        · exact .inl (.inl (e _ _ a))
        · exact .inl (.inr ⟨o, e _ _ a⟩)
        · exact .inr a) (dps_mono e ds _ b)
  | .dict _, _, h => by cases h
theorem dps_mono {K : PySem.W.Frag} {H H' : Hp} (e : Same H H') : ∀ (ds : List PyData) (vs : List V), DpAll K H vs ds → DpAll K H' vs ds
  | [], _, h => by cases h; exact .nil
  | d :: ds, _, h => by
    cases h with
    | cons a b => exact .cons (dp_mono e d _ a) (dps_mono e ds _ b)
end
structure Dat (K : PySem.W.Frag) (P : Pr) (d : PyData) : Prop where
  ok : ∀ h B H v, Same B H → P.p h B v → Dp K H v d
def Dats (K : PySem.W.Frag) : List Pr → List PyData → Prop
  | [], [] => True
  | P :: ps, d :: ds => Dat K P d ∧ Dats K ps ds
  | _, _ => False
section
variable {K : PySem.W.Frag} {P : Pr} {ps : List Pr} {d : PyData} {ds : List PyData}
theorem Dats.all {h B H : Hp} (e : Same B H) : ∀ {ps : List Pr} {ds : List PyData} {vs : List V}, Dats K ps ds → All h B ps vs → DpAll K H vs ds
  | [], [], [], _, _ => .nil
  | _ :: _, _ :: _, _ :: _, q, a => .cons (q.1.ok _ _ _ _ e a.1) (Dats.all e q.2 a.2)
  | [], _ :: _, _, q, _ => q.elim
  | _ :: _, [], _, q, _ => q.elim
  | [], [], _ :: _, _, a => a.elim
  | _ :: _, _ :: _, [], _, a => a.elim
theorem dats_map {α : Type} {R : α → Pr} {f : α → PyData} (h : ∀ x, Dat K (R x) (f x)) : ∀ l : List α, Dats K (l.map R) (l.map f)
  | [] => trivial
  | x :: l => ⟨h x, dats_map h l⟩
theorem dat_I {i : Int} : Dat K (I i) (.int i) := ⟨fun _ _ _ v _ h => by have h : v = .int i := h; subst h; exact .int i⟩
theorem dat_Bo {b : Bool} : Dat K (Bo b) (.bool b) := ⟨fun _ _ _ v _ h => by have h : v = .bl b := h; subst h; exact .bl b⟩
theorem dat_Sx {s : Str} : Dat K (Sx s) (.str s) := ⟨fun _ _ _ v _ h => by have h : v = .str s := h; subst h; exact .str s⟩
theorem dat_No : Dat K No .none := ⟨fun _ _ _ v _ h => by have h : v = .non := h; subst h; exact .non⟩
theorem dat_L (h : Dats K ps ds) : Dat K (L ps) (.list ds) := ⟨fun _ B H v e ⟨a, xs, h1, h2, h3⟩ => by subst h1; exact .lst (SqL.of (e _ _ h2)) (h.all e h3)⟩
theorem dat_T (h : Dats K ps ds) : Dat K (T ps) (.tuple ds) := ⟨fun _ B H v e ⟨a, xs, h1, h2, h3⟩ => by subst h1; exact .tup (SqT.of (e _ _ h2)) (h.all e h3)⟩
theorem dat_N (h : Dat K P d) : Dat K (N P) d := ⟨fun x B H v e q => h.ok x B H v e q.1⟩
theorem dat_Scr {ns : List Int} : Dat K (Scr K ns) (.list (ns.map .int)) := ⟨fun h B H v e ⟨a, h1, h2⟩ => by subst h1; exact .lst (e.seq h2) ((dats_map (fun _ => dat_I) ns).all (Same.refl B |>.trans e) (ints_all (h := h) ns))⟩
end
def EDt (X : Cx) (Γ : Gam) (Δ : Del) (e : Expr) (d : PyData) : Prop := ∀ (W : Ws) (B H : Hp) (σ : L2.St), Stb W Δ B H → Sl Γ W.H B σ → ∀ Q : VK, (∀ v B2 H2, Ext B H B2 H2 → Dp X.K H2 v d → Q v H2) → wpE X e σ H Q
section
variable {X : Cx} {Γ : Gam} {Δ : Del} {e a b c : Expr} {es rest : List Expr} {P P' P2 : Pr} {Ps ps qs : List Pr} {pos p2 : Pos} {k k' : Bool} {x y z i j : Int} {d d' : PyData} {ds ds' : List PyData}
theorem edt (h : EE X Γ Δ e P) (q : Dat X.K P d) : EDt X Γ Δ e d := fun W B H σ S s Q qq => h W B H σ S s Q fun v B1 H1 e1 h1 => qq v B1 H1 e1 (q.ok _ _ _ _ e1.bh h1)
theorem edt_M (n : Nat) {l : Addr} (h : EE X Γ Δ e (Ref l)) (hk : Δ[n]? = some (l, ML ps)) (q : Dats X.K ps ds) : EDt X Γ Δ e (.list ds) := fun W B H σ S s Q qq => h W B H σ S s Q fun v B1 H1 e1 h1 => by
  have ev : v = .ref l := h1
  subst ev
  obtain ⟨_, o, h2, xs, rfl, h3⟩ := (S.ext e1).at hk
  exact qq _ B1 H1 e1 (.lst (SqL.of h2) (q.all e1.bh h3))
theorem edt_N (h : EN X Γ Δ e ps) (q : Dats X.K ps ds) : EDt X Γ Δ e (.list ds) := fun W B H σ S s Q qq => h W B H σ S s Q fun l xs B1 H1 e1 h1 _ _ h4 => qq _ B1 H1 e1 (.lst (SqL.of h1) (q.all e1.bh h4))
theorem ee_eqD (hu : X.A.units + 64 < cLine) (ha : EDt X Γ Δ a d) (hb : EDt X Γ Δ b d') (h1 : SeqAt.shaped d = true) (h2 : SeqAt.shaped d' = true) (hk : PyData.eqv d d' = k) (hm : behindInMarks .Eq b = false := by first | exact nomark _ | rfl) : EE X Γ Δ (.Compare a [.Eq] [b] pos) (Bo k) := fun W B H σ S s Q q =>
  wpE_of (pe_cmpR (op_eqD hu) pe_wp pe_wp hm) (ha W B H σ S s _ fun v B1 H1 e1 q1 => hb W B1 H1 σ (S.ext e1) (s.mono e1.bb) _ fun u B2 H2 e2 q2 => ⟨d, d', dp_mono e2.hh _ _ q1, q2, h1, h2, by rw [hk]; exact q _ B2 H2 (e1.trans e2) rfl⟩)
theorem ee_neD (hu : X.A.units + 64 < cLine) (ha : EDt X Γ Δ a d) (hb : EDt X Γ Δ b d') (h1 : SeqAt.shaped d = true) (h2 : SeqAt.shaped d' = true) (hk : PyData.eqv d d' = k) (hm : behindInMarks .NotEq b = false := by first | exact nomark _ | rfl) : EE X Γ Δ (.Compare a [.NotEq] [b] pos) (Bo (!k)) := fun W B H σ S s Q q =>
  wpE_of (pe_cmpR (op_neD hu) pe_wp pe_wp hm) (ha W B H σ S s _ fun v B1 H1 e1 q1 => hb W B1 H1 σ (S.ext e1) (s.mono e1.bb) _ fun u B2 H2 e2 q2 => ⟨d, d', dp_mono e2.hh _ _ q1, q2, h1, h2, by rw [hk]; exact q _ B2 H2 (e1.trans e2) rfl⟩)
theorem et_eqD (hu : X.A.units + 64 < cLine) (ha : EDt X Γ Δ a d) (hb : EDt X Γ Δ b d') (h1 : SeqAt.shaped d = true) (h2 : SeqAt.shaped d' = true) (hk : PyData.eqv d d' = k) (hm : behindInMarks .Eq b = false := by first | exact nomark _ | rfl) : ET X Γ Δ (.Compare a [.Eq] [b] pos) k := fun W B H σ S s Q q =>
  wpT_of (pt_cmpR (op_eqD hu) pe_wp pe_wp hm) (ha W B H σ S s _ fun v B1 H1 e1 q1 => hb W B1 H1 σ (S.ext e1) (s.mono e1.bb) _ fun u B2 H2 e2 q2 => ⟨d, d', dp_mono e2.hh _ _ q1, q2, h1, h2, _, rfl, by rw [hk]; exact q B2 H2 (e1.trans e2)⟩)
theorem et_neD (hu : X.A.units + 64 < cLine) (ha : EDt X Γ Δ a d) (hb : EDt X Γ Δ b d') (h1 : SeqAt.shaped d = true) (h2 : SeqAt.shaped d' = true) (hk : PyData.eqv d d' = k) (hm : behindInMarks .NotEq b = false := by first | exact nomark _ | rfl) : ET X Γ Δ (.Compare a [.NotEq] [b] pos) (!k) := fun W B H σ S s Q q =>
  wpT_of (pt_cmpR (op_neD hu) pe_wp pe_wp hm) (ha W B H σ S s _ fun v B1 H1 e1 q1 => hb W B1 H1 σ (S.ext e1) (s.mono e1.bb) _ fun u B2 H2 e2 q2 => ⟨d, d', dp_mono e2.hh _ _ q1, q2, h1, h2, _, rfl, by rw [hk]; exact q B2 H2 (e1.trans e2)⟩)
theorem et_inDt (hu : X.A.units + 65 < cLine) (ha : EDt X Γ Δ a d) (hb : EDt X Γ Δ b (.list ds)) (h1 : SeqAt.shaped d = true) (h2 : SeqAt.shaped (.list ds) = true) (hk : (ds.any fun z => PyData.eqv z d) = k) (hm : behindInMarks .In b = false := by rfl) : ET X Γ Δ (.Compare a [.In] [b] pos) k := fun W B H σ S s Q q =>
  wpT_of (pt_cmpR (op_inD hu) pe_wp pe_wp hm) (ha W B H σ S s _ fun v B1 H1 e1 q1 => hb W B1 H1 σ (S.ext e1) (s.mono e1.bb) _ fun u B2 H2 e2 q2 => ⟨d, ds, dp_mono e2.hh _ _ q1, q2, h1, h2, _, rfl, by rw [hk]; exact q B2 H2 (e1.trans e2)⟩)
theorem et_ninDt (hu : X.A.units + 65 < cLine) (ha : EDt X Γ Δ a d) (hb : EDt X Γ Δ b (.list ds)) (h1 : SeqAt.shaped d = true) (h2 : SeqAt.shaped (.list ds) = true) (hk : (ds.any fun z => PyData.eqv z d) = k) (hm : behindInMarks .NotIn b = false := by rfl) : ET X Γ Δ (.Compare a [.NotIn] [b] pos) (!k) := fun W B H σ S s Q q =>
  wpT_of (pt_cmpR (op_notInD hu) pe_wp pe_wp hm) (ha W B H σ S s _ fun v B1 H1 e1 q1 => hb W B1 H1 σ (S.ext e1) (s.mono e1.bb) _ fun u B2 H2 e2 q2 => ⟨d, ds, dp_mono e2.hh _ _ q1, q2, h1, h2, _, rfl, by rw [hk]; exact q B2 H2 (e1.trans e2)⟩)
end
/-! what is laid, what eqv says -/
theorem lay_all {α : Type} {f : α → PyData} (h : ∀ x, (f x).canLay0 = true) : ∀ l : List α, PyData.canLayAll0 (l.map f) = true
  | [] => rfl
  | x :: l => by show ((f x).canLay0 && PyData.canLayAll0 (l.map f)) = true; rw [h x, lay_all h l]; rfl
theorem depth_all {α : Type} {f : α → PyData} {n : Nat} (h : ∀ x, (f x).depth ≤ n) : ∀ l : List α, PyData.depthAll (l.map f) ≤ n
  | [] => Nat.zero_le n
  | x :: l => by show max (f x).depth (PyData.depthAll (l.map f)) ≤ n; exact Nat.max_le.mpr ⟨h x, depth_all h l⟩
theorem shaped_list {α : Type} {f : α → PyData} {n : Nat} (h : ∀ x, (f x).canLay0 = true) (h2 : ∀ x, (f x).depth ≤ n) (hn : n ≤ 60) (l : List α) : SeqAt.shaped (.list (l.map f)) = true := by
  unfold SeqAt.shaped
  have h3 := depth_all h2 l
  rw [Bool.and_eq_true, decide_eq_true_eq]
  exact ⟨lay_all h l, by show PyData.depthAll (l.map f) + 1 ≤ 64; omega⟩
theorem shaped_ints (l : List Int) : SeqAt.shaped (.list (l.map .int)) = true := shaped_list (f := PyData.int) (n := 0) (fun _ => rfl) (fun _ => Nat.le_refl 0) (by decide) l
theorem shaped_bools (l : List Bool) : SeqAt.shaped (.list (l.map .bool)) = true := shaped_list (f := PyData.bool) (n := 0) (fun _ => rfl) (fun _ => Nat.le_refl 0) (by decide) l
theorem eqv_all {α : Type} [DecidableEq α] {f : α → PyData} (h : ∀ x y, PyData.eqv (f x) (f y) = decide (x = y)) : ∀ l m : List α, PyData.eqvAll (l.map f) (m.map f) = decide (l = m)
  | [], [] => by simp [PyData.eqvAll]
  | [], _ :: _ => by simp [PyData.eqvAll]
  | _ :: _, [] => by simp [PyData.eqvAll]
  | x :: l, y :: m => by
    show (PyData.eqv (f x) (f y) && PyData.eqvAll (l.map f) (m.map f)) = _
    rw [h, eqv_all h l m, Bool.eq_iff_iff]
    simp
theorem eqv_list {α : Type} [DecidableEq α] {f : α → PyData} (h : ∀ x y, PyData.eqv (f x) (f y) = decide (x = y)) (l m : List α) : PyData.eqv (.list (l.map f)) (.list (m.map f)) = decide (l = m) := by
  show PyData.eqvAll _ _ = _
  exact eqv_all h l m
theorem eqv_int (x y : Int) : PyData.eqv (.int x) (.int y) = decide (x = y) := by
  show (x == y) = _
  rw [Bool.eq_iff_iff]; simp
theorem eqv_bool (x y : Bool) : PyData.eqv (.bool x) (.bool y) = decide (x = y) := by
  show (x == y) = _
  rw [Bool.eq_iff_iff]; simp
theorem eqv_ints (l m : List Int) : PyData.eqv (.list (l.map .int)) (.list (m.map .int)) = decide (l = m) := eqv_list eqv_int l m
theorem eqv_bools (l m : List Bool) : PyData.eqv (.list (l.map .bool)) (.list (m.map .bool)) = decide (l = m) := eqv_list eqv_bool l m
/-- a pair of ints -/
def pD (p : Int × Int) : PyData := .tuple [.int p.1, .int p.2]
theorem pD_eqv (p q : Int × Int) : PyData.eqv (pD p) (pD q) = decide (p = q) := by
  obtain ⟨a, b⟩ := p
  obtain ⟨c, d⟩ := q
  show (PyData.eqv (.int a) (.int c) && (PyData.eqv (.int b) (.int d) && true)) = _
  rw [eqv_int, eqv_int, Bool.and_true, Bool.eq_iff_iff]
  simp
theorem pD_shaped (p : Int × Int) : SeqAt.shaped (pD p) = true := rfl
theorem shaped_pairs (l : List (Int × Int)) : SeqAt.shaped (.list (l.map pD)) = true := shaped_list (f := pD) (n := 1) (fun _ => rfl) (fun _ => Nat.le_refl 1) (by decide) l
theorem any_pairs (l : List (Int × Int)) (p : Int × Int) : ((l.map pD).any fun z => PyData.eqv z (pD p)) = decide (p ∈ l) := by
  rw [List.any_map, Bool.eq_iff_iff, List.any_eq_true, decide_eq_true_eq]
  constructor
  · rintro ⟨q, hq, e⟩
    have e : PyData.eqv (pD q) (pD p) = true := e
    rw [pD_eqv, decide_eq_true_eq] at e
    exact e ▸ hq
  · intro h
    exact ⟨p, h, by show PyData.eqv (pD p) (pD p) = true; rw [pD_eqv]; simp⟩
/-! ### is True, is False -/
section
variable {X : Cx} {Γ : Gam} {Δ : Del} {e a b c : Expr} {es rest : List Expr} {P P' P2 : Pr} {Ps ps qs : List Pr} {pos p2 : Pos} {k k' : Bool} {x : Str}
theorem cmp_isB : Cmp X .Is (Bo k) (Bo k') (decide (k = k')) := ⟨_, op_is_bl, fun _ v u B H e h1 h2 Q q => ⟨k, k', h1, h2, q⟩⟩
theorem cmp_isnotB : Cmp X .IsNot (Bo k) (Bo k') (!decide (k = k')) := ⟨_, op_isnot_bl, fun _ v u B H e h1 h2 Q q => ⟨k, k', h1, h2, q⟩⟩
/-! ### isinstance -/
structure HasTy (K : PySem.W.Frag) (P : Pr) (t : Value) : Prop where
  ok : ∀ h B H v, Same B H → P.p h B v → TyX K H v t
theorem ty_I {K : PySem.W.Frag} {i : Int} : HasTy K (I i) (.type "int") := ⟨fun _ _ _ v _ h => by have h : v = .int i := h; subst h; exact .base (.int i)⟩
theorem ty_Bo {K : PySem.W.Frag} {i : Bool} : HasTy K (Bo i) (.type "bool") := ⟨fun _ _ _ v _ h => by have h : v = .bl i := h; subst h; exact .base (.bl i)⟩
theorem ty_Sx {K : PySem.W.Frag} {i : Str} : HasTy K (Sx i) (.type "str") := ⟨fun _ _ _ v _ h => by have h : v = .str i := h; subst h; exact .base (.str i)⟩
theorem ty_No {K : PySem.W.Frag} : HasTy K No (.type "NoneType") := ⟨fun _ _ _ v _ h => by have h : v = .non := h; subst h; exact .base .non⟩
theorem ty_L {K : PySem.W.Frag} : HasTy K (L ps) (.type "list") := ⟨fun _ _ _ v e ⟨a, xs, h1, h2, h3⟩ => by subst h1; exact .base (.lst (e _ _ h2))⟩
theorem ty_T {K : PySem.W.Frag} : HasTy K (T ps) (.type "tuple") := ⟨fun _ _ _ v e ⟨a, xs, h1, h2, h3⟩ => by subst h1; exact .base (.tup (e _ _ h2))⟩
theorem ty_N {K : PySem.W.Frag} {t : Value} (h : HasTy K P t) : HasTy K (N P) t := ⟨fun x B H v e q => h.ok x B H v e q.1⟩
theorem ee_isi {n m : String} {px : Pos} (ha : EE X Γ Δ a P) (ht : HasTy X.K P (.type n)) (hb : EE X Γ Δ b (Ty m)) (hk : kitB n m = some k) (hg : Gl X "isinstance") (hm : X.mg "isinstance" = none)
    (hs : starEach [a, b] X.env = (false, eval a X.env) :: starEach [b] X.env := by rfl) (hs2 : starEach [b] X.env = (false, eval b X.env) :: starEach [] X.env := by rfl) (hpl : (backTo pos (starEach [b] X.env)).any (·.1) = false := by rfl) : EE X Γ Δ (.Call (.Name "isinstance" px) [a, b] [] pos) (Bo k) := fun W B H σ S s Q q =>
  wpE_of (pe_callB call_isi hg hm (by decide +kernel) (pa_cons pe_wp (pa_cons pe_wp pa_nil hs2) hs) (he := hs) (hpl := hpl)) (ha W B H σ S s _ fun v B1 H1 e1 h1 => hb W B1 H1 σ (S.ext e1) (s.mono e1.bb) _ fun u B2 H2 e2 h2 => by
    have eu : u = .ty m := h2
    subst eu
    exact ⟨v, _, .type n, _, k, rfl, .ty m, ht.ok _ _ _ _ (e1.bh.trans e2.hh) h1, kit_ty hk, q _ B2 H2 (e1.trans e2) rfl⟩)
theorem ee_any {px : Pos} {bs : List Bool} (hc : X.calm = true) (ha : ES X Γ Δ a (bs.map Bo)) (hg : Gl X "any") (hm : X.mg "any" = none) (hs : starEach [a] X.env = (false, eval a X.env) :: starEach [] X.env := by rfl) : EE X Γ Δ (.Call (.Name "any" px) [a] [] pos) (Bo (bs.any id)) := fun W B H σ S s Q q =>
  wpE_of (pe_callB (cr_any hc) hg hm (by decide +kernel) (pa_cons pe_wp pa_nil hs) (he := hs)) (ha W B H σ S s _ fun l xs B1 H1 e1 h1 h2 => ⟨l, bs, rfl, by rw [← all_bools h2]; exact h1, q _ B1 H1 e1 rfl⟩)
end
/-! ### try .. except X as n -/
theorem Sl.unset {Γ : Gam} {h0 B : Hp} {σ : L2.St} (j : Nat) (h : Sl Γ h0 B σ) : Sl (Γ.set j none) h0 B (σ.set j none) := by
  refine ⟨by rw [List.length_set, List.length_set]; exact h.1, fun i P q => ?_⟩
  by_cases hj : j = i
  · subst hj
    have hl : j < Γ.length := by
      have := (List.getElem?_eq_some_iff.mp q).1
      rw [List.length_set] at this
      exact this
    rw [List.getElem?_set_self hl] at q
    cases q
  · rw [List.getElem?_set_ne hj] at q
    obtain ⟨u, h1, h2⟩ := h.2 i P q
    exact ⟨u, by rw [List.getElem?_set_ne hj]; exact h1, h2⟩
section
variable {X : Cx} {ms : List Addr} {Γ : Gam} {Δ : Del} {K : Kk} {rest body suite : List Stmt} {b₀ : Stmt} {x n : Str} {c : Addr} {i : Nat} {np pos pos' : Pos}
/-- what is wanted of a suite that has caught an error of the class C -/
def Caught (X : Cx) (ms : List Addr) (Γ : Gam) (Δ : Del) (K : Kk) (i : Nat) (suite rest : List Stmt) (C : Addr) : Prop :=
  ∀ (a : Addr) (oe : Obj) (pn : List (Addr × Obj)), L2N.Zn (.ref C) none oe → (∃ vs, oe.data = .fields vs) →
    Go (X.suite a ((a, oe) :: pn)) ms (Γ.set i (some (Ref a))) Δ suite { nx := fun Γ' Δ' => Go X ms (Γ'.set i none) Δ' rest K, rt := K.rt, bk := fun Γ' => K.bk (Γ'.set i none), ct := fun Γ' => K.ct (Γ'.set i none) }
theorem go_try (i : Nat) (hN : X.N.Nodup) (hc : X.mg x = some (.ref c))
    (hb : ∀ (pn : List (Addr × Obj)) (xe : Value → Shared → Prop), PassesOwn (model X.prog X.w) X.A X.env xe → Go (X.tr pn xe) ms Γ Δ body { nx := fun Γ' Δ' => Go X ms Γ' Δ' rest K, rt := K.rt, bk := K.bk, ct := K.ct, ex := fun v Γ' Δ' => ∃ C b, v = .ref C ∧ PySem.W.exmOne X.K v (.ref c) = some b ∧ (b = true → Caught X ms Γ' Δ' K i (b₀ :: suite) rest C) ∧ (b = false → K.ex v Γ' Δ') })
    (hs : X.stack = X.env :: X.outer := by rfl) (hf : X.env.frame = some X.env.locals := by rfl) (hi : X.N[i]? = some n := by rfl) (hln : X.env.kindOf n = some .local := by rfl) (hg : Gl X x := by rfl) (hdb : (x == ("__debug__" : Str)) = false := by decide) :
    Go X ms Γ Δ (.Try body [.ExceptHandler (some (.Name x np)) (some n) (b₀ :: suite) pos'] [] [] pos :: rest) K := fun W Wi B H σ D hm tk S s ok => by
  refine wpSs_of (pss_cons (L2N.ps_try_as (c := .ref c) (Wout := Wi) (tb := fun Wb => fun D σ H => ∀ pn xe, L2N.Takes (X.tr pn xe) Wb → PassesOwn (model X.prog X.w) X.A X.env xe → wpSs (X.tr pn xe) body D σ H)
    (ts := fun a cls d => fun D σ H => ∀ oe pn, L2N.Zn cls d oe → (∃ vs, oe.data = .fields vs) → wpSs (X.suite a ((a, oe) :: pn)) (b₀ :: suite) D σ H) hs hf hN hi hln ⟨hg, hdb, .inl hc⟩ tk (fun Wb pn xe tk' po => ⟨fun pins st σ H D I h => h pn xe tk' po pins st I⟩) (fun a oe cls d pn hz hf => ⟨fun pins st σ H D I h => h oe pn hz hf pins st I⟩)) pss_wp) fun pn xe tk' po => ?_
  refine hb pn xe po W _ B H σ _ hm tk' S s ⟨fun Γ' Δ' B' H' σ' q S' s' => q W Wi B' H' σ' D hm tk S' s' ok, ok.rt, ok.bk, ok.ct, fun v Γ' Δ' B' H' σ' q S' s' => ?_⟩
  obtain ⟨C, b, rfl, hb1, hyes, hno⟩ := q
  refine ⟨b, hb1, fun hbt a na oe pn' hz hfv => ?_, fun hbf => ok.ex _ _ _ _ _ _ (hno hbf) S' s'⟩
  refine hyes hbt a oe pn' hz hfv W (fun _ _ _ _ => False) B' H' _ _ hm (fun u s' xx => ?_) S' (s'.set i rfl) ⟨fun Γ2 Δ2 B2 H2 σ2 q S2 s2 => q W Wi B2 H2 _ D hm tk S2 (s2.unset i) ok, ok.rt, fun Γ2 Δ2 B2 H2 σ2 q S2 s2 => ok.bk _ _ _ _ _ q S2 (s2.unset i), fun Γ2 Δ2 B2 H2 σ2 q S2 s2 => ok.ct _ _ _ _ _ q S2 (s2.unset i), fun _ _ _ _ _ _ q => q.elim⟩
  obtain ⟨_, _, _, _, _, _, _, _, _, _, _, _, _, _, _, _, z⟩ := xx
  exact z.elim
end
/-! isinstance(e, C), e the caught error of the class D -/
section
variable {X : Cx} {Γ : Gam} {Δ : Del} {a b : Expr} {pos px : Pos} {k : Bool} {ad D : Addr} {oe : Obj} {pn : List (Addr × Obj)} {P : Pr}
theorem ee_isE {cv : Value} (Z : ExcC X.K D) (hz : L2N.Zn (.ref D) none oe) (hf : ∃ vs, oe.data = .fields vs) (ha : EE (X.suite ad ((ad, oe) :: pn)) Γ Δ a (Ref ad)) (hb : EE (X.suite ad ((ad, oe) :: pn)) Γ Δ b P) (hP : ∀ h B v u, P.p h B v → RelV v u → u = cv) (hk : PySem.W.kitOne X.K (.ref D) cv = some k)
    (hg : Gl X "isinstance") (hm : X.mg "isinstance" = none) (hs : starEach [a, b] X.env = (false, eval a X.env) :: starEach [b] X.env := by rfl) (hs2 : starEach [b] X.env = (false, eval b X.env) :: starEach [] X.env := by rfl) (hpl : (backTo pos (starEach [b] X.env)).any (·.1) = false := by rfl) :
    EE (X.suite ad ((ad, oe) :: pn)) Γ Δ (.Call (.Name "isinstance" px) [a, b] [] pos) (Bo k) := fun W B H σ S s Q q =>
  wpE_of (pe_callB (call_isE (D := D) Z hz.zc hf) hg hm (by decide +kernel) (pa_cons pe_wp (pa_cons pe_wp pa_nil hs2) hs) (he := hs) (hpl := hpl)) (ha W B H σ S s _ fun v B1 H1 e1 h1 => hb W B1 H1 σ (S.ext e1) (s.mono e1.bb) _ fun u B2 H2 e2 h2 => by
    have ev : v = .ref ad := h1
    subst ev
    exact ⟨u, cv, k, rfl, fun w r => hP _ _ _ _ h2 r, hk, q _ B2 H2 (e1.trans e2) rfl⟩)
theorem rel_Ref {C : Addr} : ∀ h B v u, (Ref C).p h B v → RelV v u → u = .ref C := fun h B v u hv r => by
  have hv : v = .ref C := hv
  subst hv; exact r
theorem rel_Ty {n : String} : ∀ h B v u, (Ty n).p h B v → RelV v u → u = .type n := fun h B v u hv r => by
  have hv : v = .ty n := hv
  subst hv; exact r
end
end Yb
set_option maxHeartbeats 2000000
namespace Yb
open PySem PySem.Spec PyProof.Rows L2
/-! ### where an error is handled: a list walked to its end, any, a def called with that error -/
section
variable {prog : Program} {w : World} {A : Around} {E : Value → Shared → Prop} {s : Shared}
theorem listEnd_hot {it l x1 : Addr} {i : Nat} {ar : Array Value} {Q : Option Value → Shared → Prop} (hot : HotX.HotAt A x1 s.heap) (hx1 : x1 ≠ it) (hI : s.heap.IsListIter it l i) (hL : s.heap.IsList l ar) (hN : ar[i]? = none)
    (hq : ∀ h', (∀ b o, b ≠ it → s.heap.get? b = some o → h'.get? b = some o) → Q none { s with heap := h' }) : wpAny (model prog w) A (pyNext (.ref it)) Q E s := by
  obtain ⟨oi, gi, ci, di⟩ := id hI
  obtain ⟨ol, gl, _, nl, dl⟩ := hL
  obtain ⟨hh, o1, vs1, g1, d1, c1⟩ := hot
  unfold pyNext
  apply wpAny_bind; apply wpAny_attempt
  apply wpAny_callSpecial?_slot (name := Str.ofString "__next__") hI.typeIs slot_listiter_next
  apply wpAny_call_entry slot_listiter_next hI.typeIs entry_listiter_next _ (args_listiter_next _)
  apply wpAny_bind (wpAny_field gi di (x := .ref l) rfl _)
  rw [if_neg (by exact Bool.false_ne_true)]
  apply wpAny_bind (wpAny_field gi di (x := .int i 0) rfl _)
  apply wpAny_bind (wpAny_seqItems gl dl _)
  simp only [Int.toNat_natCast, hN]
  apply wpAny_bind; apply wpAny_rule; apply wpAny_bind
  apply wpAny_setField gi di (by simp)
  apply wpAny_bind
  simp only [newExc, newTuple]
  apply wpAny_bind; refine wpAny_newObj_type ?_ (by size_fits)
  apply wpAny_bind (m := firstArgMember _ _)
  refine wpAny_of_eq (a := Value.none) (by first | rfl | (simp only [firstArgMember]; rfl)) ?_
  refine wpAny_newObj_type ?_ (by size_fits)
  have k1 : ∀ {f : Array Value → Array Value}, (s.heap.update it (Obj.mapFields f)).get? x1 = some o1 := fun {f} => by rw [Heap.get?_update_other _ _ (Ne.symm hx1)]; exact g1
  refine HotX.raiseNew_hot ⟨hh, o1, vs1, Heap.get?_push_of_some _ (Heap.get?_push_of_some _ k1), d1, c1⟩ (Nat.ne_of_lt (Heap.lt_size (Heap.get?_push_of_some _ k1))) (Heap.get?_push_size _ rfl) rfl (by first | (simp; done) | (simp; omega) | (simp only [Array.size_append]; simp; omega)) ?_
  apply wpAny_bind
  refine wpAny_isInstance (T := "StopIteration") (b := true) ⟨_, Heap.get?_update_self _ (Heap.get?_push_size _ rfl) rfl, rfl⟩ isSubtype_stop ?_
  refine wpAny_pure (hq _ fun b o nb e => ?_)
  have e2 : (s.heap.update it (Obj.mapFields (·.setIfInBounds 0 Value.none))).get? b = some o := by rw [Heap.get?_update_other _ _ (Ne.symm nb)]; exact e
  rw [Heap.get?_update_other _ _ (Nat.ne_of_gt (Heap.lt_size (Heap.get?_push_of_some _ e2)))]
  exact Heap.get?_push_of_some _ (Heap.get?_push_of_some _ e2)
theorem walks_hot {I ax x1 : Addr} (hne : ax ≠ I) (hx : x1 ≠ I) (hh : A.handled = some (.ref x1)) {o1 : Obj} {vs1 : Array Value} (d1 : o1.data = .fields vs1) (c1 : vs1[2]? = some .none) (ar : Array Value) :
    Walks prog w A I [I, ax, x1] [I] ar.size (fun i v => ar[i]? = some v) (fun i h => h.IsListIter I ax i ∧ h.IsList ax ar ∧ h.get? x1 = some o1) where
  sub := fun b hb => by rw [List.mem_singleton] at hb; subst hb; exact List.mem_cons_self
  frame := fun _ _ _ st hk => ⟨st.1.at fun o e => hk I (by simp) o e, st.2.1.at fun o e => hk ax (by simp) o e, hk x1 (by simp) _ st.2.2⟩
  item := fun i s Q E hi st hQ => wpAny_pyNext_list_item st.1 st.2.1 (x := ar[i]) (by simp [hi]) fun h' it' sb => hQ _ h' s.toks (by simp [hi]) ⟨it', st.2.1.extBut sb.extBut hne, sb.extBut x1 _ hx st.2.2⟩ fun b o nb e => sb.extBut b o (fun z => nb (by rw [z]; exact List.mem_singleton.mpr rfl)) e
  done := fun s Q E st hQ => listEnd_hot ⟨hh, o1, vs1, st.2.2, d1, c1⟩ hx st.1 st.2.1 (by simp) fun h' k => hQ h' s.toks fun b o nb e => k b o (fun z => nb (by rw [z]; exact List.mem_singleton.mpr rfl)) e
  self := fun _ s _ _ st hQ => wpAny_pyIter_listiter st.1 hQ
end
theorem cr_anyH {X : Cx} (hc : L2H.HotC X) : CallR X (.builtin "any") (rAny X.K) := by
  intro pins s σ H vs us Q I r h
  obtain ⟨p, ⟨hh, vs1, d1, c1⟩, hp⟩ := hc
  obtain ⟨a, bs, rfl, hs, q⟩ := h
  obtain ⟨its, rv, hl, _⟩ := I.list hs
  rw [Vals.ref1 r]
  have bools := rv.bls
  have gp := (I.pin p (List.mem_append_left _ hp)).1
  apply call_any_walk
  apply iter_any hl.isList
  intro st2 eq2 st hne
  subst eq2
  exact ⟨_, _, _, _, _, _, _, rfl, walks_hot (A := X.A.in1) hne (Nat.ne_of_lt (Heap.lt_size gp)) hh d1 c1 its.toArray, ⟨st.1, st.2, Heap.get?_push_of_some _ gp⟩, truth_bools bools, fun h' tk hk => ⟨.bl _, H, I.kept fun b o eo => hk b o (fun hm => by
    rw [List.mem_singleton] at hm
    exact absurd (hm ▸ Heap.lt_size eo) (Nat.lt_irrefl _)) (Heap.get?_push_of_some _ eo), by
      show Value.bool _ = Value.bool _
      rw [← L2.any_range, bools, List.size_toArray, List.length_map], q⟩⟩
section
variable {X : Cx} {Γ : Gam} {Δ : Del} {a b : Expr} {pos px : Pos} {k : Bool} {ad D : Addr} {oe : Obj} {P : Pr}
theorem ee_anyH {bs : List Bool} (hc : L2H.HotC X) (ha : ES X Γ Δ a (bs.map Bo)) (hg : Gl X "any") (hm : X.mg "any" = none) (hs : starEach [a] X.env = (false, eval a X.env) :: starEach [] X.env := by rfl) : EE X Γ Δ (.Call (.Name "any" px) [a] [] pos) (Bo (bs.any id)) := fun W B H σ S s Q q =>
  wpE_of (pe_callB (cr_anyH hc) hg hm (by decide +kernel) (pa_cons pe_wp pa_nil hs) (he := hs)) (ha W B H σ S s _ fun l xs B1 H1 e1 h1 h2 => ⟨l, bs, rfl, by rw [← all_bools h2]; exact h1, q _ B1 H1 e1 rfl⟩)
/-- isinstance(e, c), e a pinned error of the class D -/
theorem call_isP (Z : ExcC X.K D) (hp : (ad, oe) ∈ X.pn) (hz : L2N.Zn (.ref D) none oe) (hf : ∃ vs, oe.data = .fields vs) : CallR X (.builtin "isinstance") (rIsE X.K D ad) := by
  intro pins s σ H xs us Q I r h
  obtain ⟨c, cv, k, rfl, hcv, e, q⟩ := h
  match us, r with
  | [u1, u2], .cons r1 (.cons r2 .nil) =>
    cases r1
    obtain rfl := hcv _ r2
    obtain ⟨vs, hv⟩ := hf
    have J : PySem.W.InstAt s.heap ad oe D none := by
      have g := (I.pin (ad, oe) (List.mem_append_left _ hp)).1
      obtain ⟨oc, od, oda, osl⟩ := oe
      obtain ⟨h1, h2, _⟩ := hz
      dsimp only at h1 h2 hv
      subst h1 h2 hv
      exact ⟨g, rfl, rfl, trivial⟩
    exact PySem.W.kia_one (PySem.W.handS_kitx_exc Z.hg Z.hk Z.hs Z.hd Z.ha Z.hn Z.ht Z.hm) I.kIn J e (fun z => nomatch z) fun tk => ⟨.bl k, H, I.kept (t' := tk) fun _ _ z => z, rfl, q⟩
theorem ee_isP {cv : Value} (Z : ExcC X.K D) (hp : (ad, oe) ∈ X.pn) (hz : L2N.Zn (.ref D) none oe) (hf : ∃ vs, oe.data = .fields vs) (ha : EE X Γ Δ a (Ref ad)) (hb : EE X Γ Δ b P) (hP : ∀ h B v u, P.p h B v → RelV v u → u = cv) (hk : PySem.W.kitOne X.K (.ref D) cv = some k)
    (hg : Gl X "isinstance") (hm : X.mg "isinstance" = none) (hs : starEach [a, b] X.env = (false, eval a X.env) :: starEach [b] X.env := by rfl) (hs2 : starEach [b] X.env = (false, eval b X.env) :: starEach [] X.env := by rfl) (hpl : (backTo pos (starEach [b] X.env)).any (·.1) = false := by rfl) :
    EE X Γ Δ (.Call (.Name "isinstance" px) [a, b] [] pos) (Bo k) := fun W B H σ S s Q q =>
  wpE_of (pe_callB (call_isP Z hp hz hf) hg hm (by decide +kernel) (pa_cons pe_wp (pa_cons pe_wp pa_nil hs2) hs) (he := hs) (hpl := hpl)) (ha W B H σ S s _ fun v B1 H1 e1 h1 => hb W B1 H1 σ (S.ext e1) (s.mono e1.bb) _ fun u B2 H2 e2 h2 => by
    have ev : v = .ref ad := h1
    subst ev
    exact ⟨u, cv, k, rfl, fun w r => hP _ _ _ _ h2 r, hk, q _ B2 H2 (e1.trans e2) rfl⟩)
end
/-- a def of one parameter that answers, of the error of the class D that is handled, ans -/
structure FnE (P : Program) (w : World) (K : PySem.W.Frag) (mg : Str → Option Value) (base : Heap) (k : Nat) (f : Addr) (fd : FuncData) (x : Str) (D : Addr) (ans : Pr) : Prop where
  run : ∀ (A : Around) (outer : List Env) (s : Shared) (H : Hp) (Q : VK) (p : Addr × Obj), L2H.RoomH k A → L2H.Hot1 A p → L2N.Zn (.ref D) none p.2 → L2H.PinOk outer H s p → Env0 P w K mg base A outer s H → BindsTo s fd ⟨[.ref p.1], []⟩ [(x, .ref p.1)] → (∀ v H', Same H H' → ans.p h0 h0 v → Q v H') →
    codeAny (model P w) A (.call (.ref f) ⟨[.ref p.1], []⟩) (CR (L2N.CX P w) outer P w H s Q E0) s
theorem fn_goE {P : Program} {w : World} {K : PySem.W.Frag} {mg : Str → Option Value} {base : Heap} {x qual y : Str} {st : Stmt} {f D : Addr} {fd : FuncData} {N : List Str} {k : Nat} {ans : Pr} (F : FunD K x qual (defArgs st) (defBody st) (defScope st) [] [] f fd) (S : FnScope N [y] (defScope st)) (hans : Sc ans)
    (hbody : ∀ (cdv : Value) (A : Around) (outer : List Env) (s : Shared) (H : Hp) (p : Addr × Obj), L2H.RoomH k (A.deeper (envOfC qual (defScope st) s.heap.objs.size f cdv)) → L2H.Hot1 A p → L2N.Zn (.ref D) none p.2 →
      Go (L2H.cxH (L2N.CX P w) P w K mg base N qual (defScope st) f cdv A outer s H E0 p) [] (gam0 N [Ref p.1]) [] (defBody st) { rt := fun P' _ => P' = ans }) : FnE P w K mg base (k + 1) f fd y D ans := by
  obtain ⟨oc, od, dV, kV, doc, pm, an, cdv, ct, osl, rfl, lk, hcd, _, _⟩ := F.ex
  refine ⟨fun A outer s H Q p hr hot hz hpin e0 hb hq => ?_⟩
  have KX : K.In s.heap := e0.mod.kin.keeps fun b o e => (e0.bs b o e).1
  apply codeAny_call_function hr.depth (KX _ _ lk) rfl S.co S.gen rfl (PySem.W.codeRec_of KX hcd) (hb _ _ _ _ _)
  apply wpAny_newFunctionEnv_cells S.kind
  · intro q hq2
    have e1 : q = (y, .ref p.1) := List.mem_singleton.mp hq2
    subst e1
    exact (S.par y (List.mem_singleton.mpr rfl)).imp id fun z => ⟨z, PySem.W.cellsFrom_some _ _ _ (.inl z)⟩
  intro env he s1 xc
  subst he
  refine ⟨(e0.mod.nolimit.keeps fun b o e => (e0.bs b o e).1).keeps xc.toInCall.keep, codeAny_func ?_⟩
  have I : Inv (L2H.cxH (L2N.CX P w) P w K mg base N qual (defScope st) f cdv A outer s H E0 p) [] (L2.start N [.ref p.1]) H s1 := L2H.inv_startH (ps := [y]) (us := [.ref p.1]) (vs := [.ref p.1]) S hpin e0 rfl (.cons rfl .nil) xc
  have hpl : 1 ≤ N.length := by
    have := congrArg List.length S.pre
    rw [List.length_take] at this
    exact Nat.le_of_not_lt fun z => by simp at this; omega
  have g := hbody cdv A outer s H p (hr.deeper _) hot hz ⟨fun _ => none, H, []⟩ (fun cls d _ H' => E0 cls d H') (fun _ => none) H (L2.start N [.ref p.1]) { nx := fun _ _ => False, rt := Q } rfl (L2N.takes_of rfl rfl rfl rfl)
    (Stb.refl (W := ⟨fun _ => none, H, []⟩) (fun _ _ z => nomatch z) (fun _ z => nomatch z) List.nodup_nil fun _ z => nomatch z) (sl_start (by simpa using hpl) ⟨rfl, trivial⟩)
    ⟨fun _ _ _ _ _ q => q.elim, fun P' Δ' B' H' v q S' hv => hq v H' (fun a o e => S'.hh a o e (fun z => nomatch z)) (by cases q; exact hans _ _ _ _ _ hv), fun _ _ _ _ _ q => q.elim, fun _ _ _ _ _ q => q.elim, fun _ _ _ _ _ _ q => q.elim⟩
  refine wpAny_mono (g [] s1 I) (fun fl s' hs => ?_) fun e s' hs => hs
  cases fl with
  | ret u =>
    obtain ⟨v, σ', H', J, rv, q⟩ := hs
    exact ⟨v, H', J.os, J.bare, J.base, J.hok, rv, q⟩
  | next =>
    obtain ⟨_, _, _, q⟩ := hs
    exact q.elim
  | brk =>
    obtain ⟨_, _, _, q⟩ := hs
    exact q.elim
  | cont =>
    obtain ⟨_, _, _, q⟩ := hs
    exact q.elim
structure Fne (P : Program) (w : World) (K : PySem.W.Frag) (mg : Str → Option Value) (base : Heap) (x : Str) (D : Addr) (ans : Pr) (k : Nat) : Prop where
  ex : ∃ f fd y, FnE P w K mg base k f fd y D ans ∧ mg x = some (.ref f) ∧ PySem.W.keepIn K (.ref f) = true ∧ Binds K fd [y] []
/-- f(e) within the suite that holds e -/
theorem ee_callE {X : Cx} {Γ : Gam} {Δ : Del} {x : Str} {D ad : Addr} {oe : Obj} {ans : Pr} {k : Nat} {a : Expr} {pos q : Pos} (F : Fne X.prog X.w X.K X.mg X.base x D ans k) (hsc : Sc ans) (hr : L2H.RoomH k X.A) (hA : X.A.handled = some (.ref ad)) (hp : (ad, oe) ∈ X.pn) (hz : L2N.Zn (.ref D) none oe) (hf : ∃ vs, oe.data = .fields vs)
    (hg : Gl X x) (ha : EE X Γ Δ a (Ref ad)) (hdb : (x == ("__debug__" : Str)) = false := by decide) (hs : starEach [a] X.env = (false, eval a X.env) :: starEach [] X.env := by rfl) (hpl : (backTo pos (starEach [] X.env)).any (·.1) = false := by rfl) : EE X Γ Δ (.Call (.Name x q) [a] [] pos) ans := fun W B H σ S s Q qq pins st I => by
  obtain ⟨f, fd, y, F, hm, hk, hb⟩ := F.ex
  apply wpAny_Call_Name_kw (ld_glob I hg hm _ hdb)
  apply PySem.W.callWith_K (h₀ := X.base) I.ok.mod.kin hk _ hs hpl
  have pa : PA X [a] (tCons (wpE X a) tNil) := pa_cons pe_wp pa_nil hs
  refine thn (pa.run pos pins st σ H (fun vs H1 => vs = [.ref ad] ∧ ∃ B1, Ext B H B1 H1) I (ha W B H σ S s _ fun v B1 H1 e1 h1 => ⟨by have h1 : v = .ref ad := h1; rw [h1], B1, e1⟩)) fun us s1 ⟨vs, H1, I1, r, ev, B1, e1⟩ => ⟨I1.kIn, ?_⟩
  subst ev
  rw [Vals.ref1 r]
  have P1 := I1.pin (ad, oe) (List.mem_append_left _ hp)
  obtain ⟨vs0, hv⟩ := hf
  have hot : L2H.Hot1 X.A (ad, oe) := ⟨hA, vs0, hv, hz.2.2 vs0 hv⟩
  have hpin : L2H.PinOk X.stack H1 s1 (ad, oe) := ⟨P1.1, P1.2.1, fun hm => (List.mem_cons.mp (I1.stkSub ad hm)).elim P1.2.2.1 P1.2.2.2.1, P1.2.2.2.2⟩
  have bb := hb s1 [.ref ad] I1.kIn rfl
  refine wpAny_call (codeAny_mono (F.run X.A X.stack s1 H1 Q (ad, oe) hr hot hz hpin I1.env0 bb fun v H2 e2 hv2 => qq v B1 H2 (e1.trans ⟨Same.refl _, e2, e1.bh.trans e2, fun _ h _ => h⟩) (hsc _ _ _ _ _ hv2)) fun rr s2 hq => ?_)
  cases rr with
  | error e => exact passN pins σ H1 s1 e s2 I1 hq
  | ok fl =>
    cases fl with
    | ret u => exact I1.after hq
    | next => exact hq.elim
    | brk => exact hq.elim
    | cont => exact hq.elim
end Yb
set_option maxHeartbeats 2000000
namespace Yb
open PySem PySem.Spec PyProof.Rows L2
/-! ### a call that may raise and changes no entry -/
theorem em_call0 {X : Cx} {ms : List Addr} {Γ : Gam} {Δ : Del} {e : Expr} {C : Cn → Prop} {Ps : List Pr} (j : ∀ Wi, L2N.Takes X Wi → CJ X Γ Δ e C (WE Wi) Ps) (c : Cn) (hc : C c) (hp : c.ps = Ps := by rfl) (hΔ : c.Δ = [] := by rfl) :
    EM X ms Γ Δ e (fun P Δ' => (∃ D, c.out P D) ∧ Δ' = Δ) (fun v Δ' => (∃ D, c.exc v D) ∧ Δ' = Δ) := fun W Wi B H σ hm tk S s hx Q q =>
  j Wi tk W B H σ S s Q fun vs B1 H1 e1 h1 => by
    refine ⟨c, B1, hc, e1.bh, by rw [hp]; exact all_h0 h1, by rw [hΔ]; exact fun _ z => (List.not_mem_nil z).elim, by rw [hΔ]; exact List.nodup_nil, fun P' Δ' B' H' v o S' hv => ?_, fun x Δ' B' H' o S' => ?_⟩
    · rw [hΔ] at S'
      have e2 := e1.trans (Stb.pure S')
      exact q P' Δ v B' H' ⟨⟨_, o⟩, rfl⟩ (S.ext e2) e2.bb (P'.anti (fun a h => (S.ext e1).dm a h) hv)
    · rw [hΔ] at S'
      have e2 := e1.trans (Stb.pure S')
      exact hx x Δ B' H' ⟨⟨_, o⟩, rfl⟩ (S.ext e2) e2.bb
/-! ### defs where they stand -/
abbrev Fu (K : PySem.W.Frag) (x qual : Str) (st : Stmt) (f : Addr) (fd : FuncData) : Prop := FunD K x qual (defArgs st) (defBody st) (defScope st) [] [] f fd
section
variable {P : Program} {w : World} {K : PySem.W.Frag} {mg : Str → Option Value} {base : Heap} {x y : Str} {f Cl D : Addr} {fd : FuncData} {ps : List Str} {C : Cn → Prop} {k : Nat} {ans : Pr} {ds : List Value} {dvs : List V}
theorem fnc_mk (g : FnOk P w K mg base (L2N.CX P w) k f fd ps (spC C)) (hm : mg x = some (.ref f)) (kp : PySem.W.keepIn K (.ref f) = true) (b : Binds K fd ps []) : Fnc P w K mg base x C k := ⟨_, _, _, g, hm, kp, b⟩
theorem mtc_mk (cl : Cls K Cl) (g : FnOk P w K mg base (L2N.CX P w) k f fd ps (spC C)) (m : Meth K Cl x f) (b : Binds K fd ps []) : Mtc P w K mg base Cl x C k [] := ⟨cl, _, _, _, [], g, m, b, .nil⟩
theorem mtcD_mk (cl : Cls K Cl) (g : FnOk P w K mg base (L2N.CX P w) k f fd ps (spC C)) (m : Meth K Cl x f) (b : Binds K fd ps ds) (hd : Vals dvs ds) : Mtc P w K mg base Cl x C k dvs := ⟨cl, _, _, _, ds, g, m, b, hd⟩
theorem mkc_mk (g : FnOk P w K mg base (L2N.CX P w) k f fd ps (spC C)) (m : Mk K Cl f) (hm : mg x = some (.ref Cl)) (b : Binds K fd ps []) : Mkc P w K mg base x Cl C k := ⟨_, _, _, g, m, hm, b⟩
theorem fne_mk (g : FnE P w K mg base k f fd y D ans) (hm : mg x = some (.ref f)) (kp : PySem.W.keepIn K (.ref f) = true) (b : Binds K fd [y] []) : Fne P w K mg base x D ans k := ⟨_, _, _, g, hm, kp, b⟩
end
/-! ### the facts of the head, and those of the errors -/
inductive Fx where
  | exc (x : Str)
  | kit (x y : Str) (b : Bool)
  | kitT (x : Str) (t : String) (b : Bool)
def Fx.ok (K : PySem.W.Frag) : Fx → Bool
  | .exc x => He.eqO (PySem.W.findIn K (.ref (He.ga K x)) "__getattribute__") (some (some (.builtin "BaseException.__getattribute__"))) && (He.eqO (PySem.W.findIn K (.ref (He.ga K x)) "__getattr__") (some none) && (decide (PySem.W.subIn K (.ref (He.ga K x)) (.type "BaseException") = some true) &&
      (PySem.W.hasDictIn K (He.ga K x) && (He.eqO (PySem.W.findIn K (.ref (He.ga K x)) "__class__") (some (some (.builtin "object.__class__"))) && (He.eqO (PySem.W.specialIn K (.builtin "object.__class__") "__get__") (some (some (.builtin "getset_descriptor.__get__"))) &&
      (decide (PySem.W.takesIn K (.builtin "object.__class__") = some true) && decide (PySem.W.mroIn K (He.ga K x) (.type "object") = some true)))))))
  | .kit x y b => decide (PySem.W.kitOne K (.ref (He.ga K x)) (.ref (He.ga K y)) = some b)
  | .kitT x t b => decide (PySem.W.kitOne K (.ref (He.ga K x)) (.type t) = some b)
section
variable {K : PySem.W.Frag}
theorem fxExc {x : Str} (h : (Fx.exc x).ok K = true) : ExcC K (He.ga K x) := by
  obtain ⟨h1, h⟩ := He.ba h
  obtain ⟨h2, h⟩ := He.ba h
  obtain ⟨h3, h⟩ := He.ba h
  obtain ⟨h4, h⟩ := He.ba h
  obtain ⟨h5, h⟩ := He.ba h
  obtain ⟨h6, h⟩ := He.ba h
  obtain ⟨h7, h8⟩ := He.ba h
  exact ⟨He.eqO_ok h1, He.eqO_ok h2, of_decide_eq_true h3, h4, He.eqO_ok h5, He.eqO_ok h6, of_decide_eq_true h7, of_decide_eq_true h8⟩
theorem fxKit {x y : Str} {b : Bool} (h : (Fx.kit x y b).ok K = true) : PySem.W.kitOne K (.ref (He.ga K x)) (.ref (He.ga K y)) = some b := of_decide_eq_true h
theorem fxKitT {x : Str} {t : String} {b : Bool} (h : (Fx.kitT x t b).ok K = true) : PySem.W.kitOne K (.ref (He.ga K x)) (.type t) = some b := of_decide_eq_true h
end
abbrev AlX : Type := Bool × He.AlD
def obsX (fx : List Fx) (fa : List He.Fa) (fn : List He.DefD) (K : PySem.W.Frag) : AlX := (fx.all fun f => f.ok K, He.obsD fa fn K)
def SaysX (fx : List Fx) (fa : List He.Fa) (fn : List He.DefD) (K : PySem.W.Frag) : Prop := obsX fx fa fn K = (true, He.valD fn)
def obsXG (n : Nat) (fx : List Fx) (fa : List He.Fa) (fn : List He.DefD) (g : Addr → Option Obj) : AlX := obsX fx fa fn (He.frG g (He.asD g n))
def hookX (n : Nat) (fx : List Fx) (fa : List He.Fa) (fn : List He.DefD) : PySem.W.Hook where
  α := AlX
  obs := fun s => obsXG n fx fa fn s.heap.get?
  val := fun _ => (true, He.valD fn)
  says := fun _ h => ∃ K : PySem.W.Frag, K.In h ∧ SaysX fx fa fn K
  of := fun _ _ e => ⟨_, He.frG_in, e⟩
  keeps := fun _ _ _ ⟨K, hK, c⟩ k => ⟨K, PySem.W.Frag.In.keeps hK k, c⟩
theorem obsXG_eq {n : Nat} {fx : List Fx} {fa : List He.Fa} {fn : List He.DefD} {g : Addr → Option Obj} {s : Shared} (h : ∀ a, g a = s.heap.get? a) : obsXG n fx fa fn g = (hookX n fx fa fn).obs s := by
  have e : g = s.heap.get? := funext h
  rw [e] <;> rfl
theorem SaysX.d {fx : List Fx} {fa : List He.Fa} {fn : List He.DefD} {K : PySem.W.Frag} (c : SaysX fx fa fn K) : He.SaysD fa fn K := congrArg (fun z : AlX => z.2) c
theorem SaysX.x {fx : List Fx} {fa : List He.Fa} {fn : List He.DefD} {K : PySem.W.Frag} (c : SaysX fx fa fn K) (i : Nat) {f : Fx} (h : fx[i]? = some f := by rfl) : f.ok K = true :=
  List.all_eq_true.mp (congrArg (fun z : AlX => z.1) c) f (List.mem_of_getElem? h)
/-! ### the law -/
def c_law (K : PySem.W.Frag) (sc : List Int) : Cn := ⟨[Scr K sc], fun P _ => P = Bo true, [], fun _ _ => False⟩
def C_law (K : PySem.W.Frag) : Cn → Prop := fun c => ∃ sc : List Int, sc.length ≤ 63 ∧ c = c_law K sc
theorem law_sp {K : PySem.W.Frag} {H : Hp} {a : Addr} {ns : List Int} (hl : ns.length ≤ 63) (hS : SqL K H a (ns.map V.int)) : spC (C_law K) [.ref a] H (fun v _ => v = .bl true) fun _ _ _ => False :=
  ⟨c_law K ns, H, ⟨ns, hl, rfl⟩, Same.refl H, ⟨⟨a, rfl, hS⟩, trivial⟩, fun _ z => (List.not_mem_nil z).elim, List.nodup_nil, fun P' Δ' B' H' v o _ hv => by
    have o : P' = Bo true := o
    subst o
    exact hv, fun _ _ _ _ z _ => z⟩
theorem cx_no {P : Program} {w : World} : ∀ (H : Hp) (s : Shared) (e : Value) (s' : Shared), L2N.CX P w [] H s (fun _ _ _ => False) e s' → False := fun _ _ _ _ h => by
  obtain ⟨_, _, _, _, _, _, _, _, _, _, _, _, z⟩ := h
  exact z
end Yb
set_option maxHeartbeats 2000000
namespace Yb
open PySem PySem.Spec PyProof.Rows L2
/-! ### C(e, ..) whose __init__ may raise -/
theorem pe_makeS {X : Cx} {CX : CXT} {k : Nat} {f C : Addr} {fd : FuncData} {ps : List Str} {sp : Sp} {E : L2.St → XK} {x : Str} {p pos : Pos} {e : Expr} {es : List Expr} {t : TA} (M : Mk X.K C f) (F : FnOk X.prog X.w X.K X.mg X.base CX k f fd ps sp) (hr : Room (k + 1) X.A) (hg : Gl X x) (hm : X.mg x = some (.ref C)) (hb : Binds X.K fd ps [])
    (hx : ∀ σ, PassesAt CX X σ (E σ)) (ha : PA X (e :: es) t) (hdb : (x == ("__debug__" : Str)) = false := by decide) (he : starEach (e :: es) X.env = (false, eval e X.env) :: starEach es X.env := by rfl) (hpl : (backTo pos (starEach es X.env)).any (·.1) = false := by rfl) :
    PE X (.Call (.Name x p) (e :: es) [] pos) (fun σ H Q => t σ H fun vs H1 => ∀ a dx, H1 a = none → H1 dx = none → dx ≠ a → sp (.ref a :: vs) (upd (upd H1 dx (.own a)) a (.ins C dx [])) (fun v H2 => v = .non ∧ Q (.ref a) H2) (E σ)) := by
  refine ⟨fun pins s σ H Q I h => wpAny_Call_Name_kw (ld_glob I hg hm ?_ hdb)⟩
  refine PySem.W.callWith_K (h₀ := X.base) I.ok.mod.kin M.kp (thn (ha.run pos pins s σ H _ I h) fun us s1 ⟨vs, H1, J, r, q⟩ => ⟨J.kIn, ?_⟩) he hpl
  have J2 := Inv.made (C := C) J
  have hq := q _ _ (J.hok.fresh (Nat.le_succ s1.heap.objs.size)) (J.hok.fresh (Nat.le_refl s1.heap.objs.size)) (Nat.ne_of_lt (Nat.lt_succ_self _))
  have r2 : Vals (V.ref (s1.heap.objs.size + 1) :: vs) (Value.ref (s1.heap.objs.size + 1) :: us) := .cons rfl r
  have hl : (Value.ref (s1.heap.objs.size + 1) :: us).length = ps.length := r2.length.symm.trans (F.len _ _ _ _ hq)
  have hb2 := hb _ (Value.ref (s1.heap.objs.size + 1) :: us) J2.kIn (by rw [List.append_nil]; exact hl)
  rw [List.append_nil] at hb2
  refine wpAny_call (make_map (f := f) J.kIn M.makes M.init (beq_iff_eq.mp M.fn) (codeAny_mono (F.run _ X.stack _ _ ⟨Value.ref (s1.heap.objs.size + 1) :: us, []⟩ _ _ _ (E σ) (hr.make C us []) (J2.env0.make C us []) hb2 r2 hq) fun rr s2 hh => ?_))
  cases rr with
  | error er => exact hx σ pins _ _ er s2 J2 hh
  | ok fl =>
    cases fl with
    | ret u =>
      obtain ⟨v, H2, J3, rv, ev, q3⟩ := J2.after hh
      subst ev
      exact ⟨rv, .ref (s1.heap.objs.size + 1), H2, J3, rfl, q3⟩
    | next => exact hh.elim
    | brk => exact hh.elim
    | cont => exact hh.elim
section
variable {X : Cx} {ms : List Addr} {Γ : Gam} {Δ : Del} {K : Kk} {rest : List Stmt} {e a b o : Expr} {es : List Expr} {P P' : Pr} {Ps ps dps : List Pr} {pos pos' apos p2 : Pos} {x f m : Str} {C : Addr} {ns : List Str} {k j : Nat} {Cs : Cn → Prop}
theorem em_makeX {q : Pos} (F : Mkc X.prog X.w X.K X.mg X.base x C Cs k) (hr : Room (j + 1) X.A) (hk : k ≤ j) (hg : Gl X x) (ha : EA X Γ Δ (e :: es) Ps) (c : Addr → Cn) (hc : ∀ l, Cs (c l)) (G : Del → List Pr → Prop) (hp : ∀ l, (c l).ps = Ref l :: Ps := by intro _; rfl) (hΔ : ∀ l, (c l).Δ = [(l, MI C [] [])] := by intro _; rfl)
    (ho : ∀ l P Δ', (c l).out P Δ' → P = No ∧ ∃ Δn qs, Δ' = (l, MI C ns qs) :: Δn ∧ G Δn qs := by exact fun _ _ _ q => q) (hdb : (x == ("__debug__" : Str)) = false := by decide)
    (he : starEach (e :: es) X.env = (false, eval e X.env) :: starEach es X.env := by rfl) (hpl : (backTo pos (starEach es X.env)).any (·.1) = false := by rfl) :
    EM X ms Γ Δ (.Call (.Name x q) (e :: es) [] pos) (fun P Δ' => ∃ Δn qs, G Δn qs ∧ P = N (Iv C ns qs) ∧ Δ' = Δn ++ Δ ∧ ∀ z ∈ Δn, z.1 ∉ ms) (fun v Δ' => (∃ l D, (c l).exc v D) ∧ Δ' = Δ) := fun W Wi B H σ hm tk S s hx0 Q qq => by
  obtain ⟨f, fd, pn, F, M, mg, b⟩ := F.ex
  refine wpE_of (pe_makeS (E := WE Wi) M F (Room.mono hr (Nat.succ_le_succ hk)) hg mg b (fun σ => L2N.passAt tk σ) pa_wp hdb he hpl) (ha W B H σ S s _ fun vs B1 H1 e1 h1 => ?_)
  intro l dx hl hdx hne
  have S1 := S.ext e1
  have S2 := S1.ext (Ext.newH (o := .own l) S1.ex hdx)
  have hl2 : upd H1 dx (HO.own l) l = none := by rw [upd_ne (Ne.symm hne)]; exact hl
  obtain ⟨S3, hnm⟩ := S2.new (ob := MI C [] []) (o := .ins C dx []) hl2 ⟨dx, [], rfl, trivial⟩
  have S4 := S3.perm (List.perm_append_comm (l₁ := Δ) (l₂ := [(l, MI C [] [])]))
  have hb1 : B1 l = none := e1.bh.free hl
  refine ⟨c l, B1, hc l, S4.ex, ?_, ?_, ?_, fun P' Δ' B' H' v o S' hv => ?_, fun x Δ' B' H' o S' => ?_⟩
  · rw [hp l]
    exact ⟨rfl, all_h0 h1⟩
  · rw [hΔ l]
    intro z hz
    have ez : z = (l, MI C [] []) := by simpa using hz
    subst ez
    exact ⟨hb1, _, upd_same, dx, [], rfl, trivial⟩
  · rw [hΔ l]
    simp
  · rw [hΔ l] at S'
    obtain ⟨rfl, Δn, qs, rfl, g⟩ := ho l P' Δ' o
    have S5 := S4.call S'
    obtain ⟨o, k1, k2, ⟨dx', xs, rfl, k4⟩, S6, sm⟩ := S5.frz (k := 0) (a := l) (ob := MI C ns qs) rfl hnm
    refine ⟨hv, qq (N (Iv C ns qs)) (Δn ++ Δ) (.ref l) _ H' ⟨Δn, qs, g, rfl, rfl, fun z hz hzm => ?_⟩ S6 ((e1.bb.trans S'.bb).trans sm) ⟨⟨l, dx', xs, rfl, upd_same, k4.mono sm⟩, fun a z => by injection z with z; exact z ▸ k2⟩⟩
    have hzm' : z.1 ∈ W.ms := hm ▸ hzm
    rcases S'.ow z (List.mem_cons_of_mem _ hz) with w1 | w1
    · have e2 : z.1 = l := by simpa using w1
      exact hnm (e2 ▸ hzm')
    · have w1 : upd (upd H1 dx (HO.own l)) l (HO.ins C dx []) z.1 = none := w1
      have hne2 : z.1 ≠ l := fun q => by rw [q, upd_same] at w1; cases w1
      rw [upd_ne hne2] at w1
      have hne3 : z.1 ≠ dx := fun q => by rw [q, upd_same] at w1; cases w1
      rw [upd_ne hne3] at w1
      exact S1.dm _ (S1.msd _ hzm') w1
  · rw [hΔ l] at S'
    exact hx0 x Δ B' H' ⟨⟨l, _, o⟩, rfl⟩ ((S4.call S').sub (List.sublist_append_right Δ' Δ)) (e1.bb.trans S'.bb)
end
theorem perm_out {α : Type} {l : List α} {k : Nat} {x : α} (h : l[k]? = some x) : l.Perm (x :: l.eraseIdx k) := by
  induction l generalizing k with
  | nil => simp at h
  | cons y l ih =>
    cases k with
    | zero =>
      rw [List.getElem?_cons_zero] at h
      cases h
      exact .refl _
    | succ k =>
      rw [List.getElem?_cons_succ] at h
      exact ((ih h).cons y).trans (.swap x y _)
theorem perm_in {α : Type} {l : List α} {k : Nat} {x : α} (y : α) (h : l[k]? = some x) : (y :: l.eraseIdx k).Perm (l.set k y) := by
  have hk := (List.getElem?_eq_some_iff.mp h).1
  have e := perm_out (l := l.set k y) (k := k) (x := y) (List.getElem?_set_self hk)
  have e2 : (l.set k y).eraseIdx k = l.eraseIdx k := by
    rw [List.eraseIdx_eq_take_drop_succ, List.eraseIdx_eq_take_drop_succ]
    congr 1
    · rw [List.take_set_of_le (Nat.le_refl k)]
    · rw [List.drop_set_of_lt (Nat.lt_succ_self k)]
  rw [e2] at e
  exact e.symm
theorem set_id {α : Type} {l : List α} {k : Nat} {x : α} (h : l[k]? = some x) : l.set k x = l := by
  apply List.ext_getElem?
  intro i
  by_cases hi : k = i
  · subst hi
    rw [List.getElem?_set_self (List.getElem?_eq_some_iff.mp h).1, h]
  · rw [List.getElem?_set_ne hi]
/-- a call that changes the k-th entry, or raises -/
theorem em_callAt {X : Cx} {ms : List Addr} {Γ : Gam} {Δ : Del} {e : Expr} {C : Cn → Prop} {Ps : List Pr} (k : Nat) {a : Addr} {ob : Ob} (hk : Δ[k]? = some (a, ob)) (j : ∀ Wi, L2N.Takes X Wi → CJ X Γ Δ e C (WE Wi) Ps) (c : Cn) (hc : C c) (ho : ∀ P D, c.out P D → ∃ ob', D = [(a, ob')]) (hx : ∀ v D, c.exc v D → ∃ ob', D = [(a, ob')]) (hp : c.ps = Ps := by rfl) (hΔ : c.Δ = [(a, ob)] := by rfl) :
    EM X ms Γ Δ e (fun P Δ' => ∃ ob', c.out P [(a, ob')] ∧ Δ' = Δ.set k (a, ob')) (fun v Δ' => ∃ ob', c.exc v [(a, ob')] ∧ Δ' = Δ.set k (a, ob')) := fun W Wi B H σ hm tk S s hx0 Q q =>
  em_call (ms := ms) j c hc (rest := Δ.eraseIdx k) (by rw [hΔ]; exact perm_out hk) hp W Wi B H σ hm tk S s (fun v Δ' B' H' ⟨D, o, e⟩ S' e' => by
    obtain ⟨ob', rfl⟩ := hx v D o
    exact hx0 v _ B' H' ⟨ob', o, rfl⟩ (e ▸ S' |>.perm (perm_in _ hk)) e') Q fun P Δ' v B' H' ⟨D, o, e⟩ S' e' hv => by
    obtain ⟨ob', rfl⟩ := ho P D o
    exact q P _ v B' H' ⟨ob', o, rfl⟩ (e ▸ S' |>.perm (perm_in _ hk)) e' hv
/-- the classes of these names are no class of the error class D's -/
structure Nots (K : PySem.W.Frag) (mg : Str → Option Value) (D : Addr) (ns : List Str) : Prop where
  ok : ∀ x ∈ ns, ∃ C, mg x = some (.ref C) ∧ PySem.W.kitOne K (.ref D) (.ref C) = some false
/-- an error class D, what isinstance says of it, that it is caught -/
structure ErrT (K : PySem.W.Frag) (mg : Str → Option Value) (D : Addr) : Prop where
  ex : ExcC K D
  ve : PySem.W.kitOne K (.ref D) (.type "ValueError") = some true
structure IsC (K : PySem.W.Frag) (mg : Str → Option Value) (D : Addr) (x : Str) (b : Bool) : Prop where
  ok : ∃ C, mg x = some (.ref C) ∧ PySem.W.kitOne K (.ref D) (.ref C) = some b
structure Exm (K : PySem.W.Frag) (mg : Str → Option Value) (D : Addr) (x : Str) (b : Bool) : Prop where
  ok : ∃ C, mg x = some (.ref C) ∧ PySem.W.exmOne K (.ref D) (.ref C) = some b
theorem fnok0 {P : Program} {w : World} {K : PySem.W.Frag} {mg : Str → Option Value} {base : Heap} {k : Nat} {f : Addr} {fd : FuncData} {ps : List Str} {sp : Sp} (F : FnOk P w K mg base (L2N.CX P w) k f fd ps sp) : FnOk P w K mg base CX0 k f fd ps (fun vs H Q _ => sp vs H Q E0) :=
  ⟨fun vs H Q _ h => F.len vs H Q E0 h, fun A outer s H args us vs Q E hr e0 hb hv hs => codeAny_mono (F.run A outer s H args us vs Q E0 hr e0 hb hv hs) fun r s' h => by
    cases r with
    | ok fl => cases fl <;> exact h
    | error e =>
      obtain ⟨_, _, _, _, _, _, _, _, _, _, _, _, z⟩ := h
      exact z⟩
theorem suite_room {X : Cx} {k : Nat} {a : Addr} {pn : List (Addr × Obj)} (hr : Room k X.A) : L2H.RoomH k (X.suite a pn).A := ⟨hr.dp, hr.un⟩
end Yb
set_option maxHeartbeats 2000000
namespace Yb
open PySem PySem.Spec PyProof.Rows L2
/-! ### list.count of flat items -/
def rCountF (K : PySem.W.Frag) : V → List V → Hp → VK → Prop := fun x xs H Q => ∃ (a : Addr) (ys : List V) (y : V), x = V.ref a ∧ xs = [y] ∧ SqL K H a ys ∧ flatV y = true ∧ ys.all flatV = true ∧ Q (.int ((ys.countP fun z => eqV z y : Nat) : Int)) H
theorem countP_eqU {x : V} : ∀ {ys : List V} {us : List Value}, Vals ys us → ys.all flatV = true → us.countP (eqU x) = ys.countP fun z => eqV z x
  | _, _, .nil, _ => rfl
  | y :: ys, u :: us, .cons r t, f => by
    rw [List.all_cons, Bool.and_eq_true] at f
    rw [List.countP_cons, List.countP_cons, countP_eqU t f.2, eqU_of r f.1]
theorem mt_countF {X : Cx} : MtR X "list.count" (rCountF X.K) := by
  intro pins s σ H x xs v us Q I rx rxs h
  obtain ⟨a, ys, y, rfl, rfl, hs, fy, fys, q⟩ := h
  cases rx
  obtain ⟨uy, rfl, ry⟩ := rxs.one
  obtain ⟨its, rv, ⟨⟨cls, dd, data, sl⟩, n, ho, hc, hdn, hd⟩, hlen⟩ := I.list hs
  simp only at hc hd
  subst hc hd
  have hT : s.TypeIs (.ref a) "list" := ⟨_, ho, rfl⟩
  refine call_meets PySem.F.slot_list_count hT PySem.F.entry_list_count (PySem.F.args_list_count_2 _ _) (SeqAt.list_countAt a its.toArray n dd sl uy (eqU y)) ?_
  refine ⟨ho, fun u hu => mem_eqAt ry fy rv fys u (by simpa using hu), .int ((ys.countP fun z => eqV z y : Nat) : Int), H, I.tok _, ⟨s.toks, ?_⟩, q⟩
  show Value.int ((its.toArray.toList.countP (eqU y) : Nat) : Int) s.toks = _
  rw [← countP_eqU rv fys]
section
variable {X : Cx} {ms : List Addr} {Γ : Gam} {Δ : Del} {K : Kk} {rest : List Stmt} {e a b c o : Expr} {es : List Expr} {P P' P2 P3 : Pr} {Ps ps qs : List Pr} {pos pos' apos p2 : Pos} {k k' : Bool} {x y z : Str} {i j : Int} {id : String} {name : Str}
/-- o.name(b), o a list that is read -/
theorem ee_lm1 {r : V → List V → Hp → VK → Prop} (pa : PlainAttrs "list") (slot : Slot "list" name id) (hty : typeOf (.builtin id) = pure (.type "method_descriptor")) (hm : MtR X id r) (ho : ES X Γ Δ o ps) (hb : EE X Γ Δ b P')
    (hr : ∀ h B H l xs u, Same B H → SqL X.K H l xs → All h B ps xs → P'.p h B u → ∀ Q : VK, (∀ v B2 H2, Ext B H B2 H2 → P2.p h B2 v → Q v H2) → r (.ref l) [u] H Q)
    (hbase : attributeBase o name X.env (eval o X.env) = eval o X.env := by rfl) (hfew : ((backTo pos (starEach [b] X.env)).all (fun x => !x.1) && (backToKw pos (keywordEach [] X.env)).all (fun x => x.1.isSome) && decide (([b] : List Expr).length + ([] : List Keyword).length + (if ([] : List Keyword).isEmpty then 0 else 1) < 30)) = true := by rfl)
    (hline : (apos.endLine == pos.line) = true := by rfl) (hs : starEach [b] X.env = (false, eval b X.env) :: starEach [] X.env := by rfl) (hplain : (backTo pos (starEach [] X.env)).any (·.1) = false := by rfl) : EE X Γ Δ (.Call (.Attribute o name apos) [b] [] pos) P2 := fun W B H σ S s Q q =>
  wpE_of (pe_bm pa slot hty hm pe_wp (pa_cons pe_wp pa_nil hs) hbase hfew hline hs hplain) (ho W B H σ S s _ fun l xs B1 H1 e1 h1 h2 => ⟨.inl ⟨rfl, xs, h1⟩, hb W B1 H1 σ (S.ext e1) (s.mono e1.bb) _ fun u B2 H2 e2 h3 =>
    hr _ B2 H2 l xs u e2.bh (Same.seq e2.hh h1) (h2.mono e2.bb) h3 Q fun v B3 H3 e3 h4 => q v B3 H3 ((e1.trans e2).trans e3) h4⟩)
theorem flat_bools (bs : List Bool) : (bs.map V.bl).all flatV = true := by
  rw [List.all_map]; exact List.all_eq_true.mpr fun _ _ => rfl
theorem flat_strs (bs : List Str) : (bs.map V.str).all flatV = true := by
  rw [List.all_map]; exact List.all_eq_true.mpr fun _ _ => rfl
theorem count_bools (bs : List Bool) (k : Bool) : ((bs.map V.bl).countP fun z => eqV z (.bl k)) = bs.count k := by
  rw [List.countP_map]; rfl
theorem ee_countB {bs : List Bool} (ho : ES X Γ Δ o (bs.map Bo)) (hb : EE X Γ Δ b (Bo k)) (hbase : attributeBase o "count" X.env (eval o X.env) = eval o X.env := by rfl) (hfew : ((backTo pos (starEach [b] X.env)).all (fun x => !x.1) && (backToKw pos (keywordEach [] X.env)).all (fun x => x.1.isSome) && decide (([b] : List Expr).length + ([] : List Keyword).length + (if ([] : List Keyword).isEmpty then 0 else 1) < 30)) = true := by rfl)
    (hline : (apos.endLine == pos.line) = true := by rfl) (hs : starEach [b] X.env = (false, eval b X.env) :: starEach [] X.env := by rfl) (hplain : (backTo pos (starEach [] X.env)).any (·.1) = false := by rfl) : EE X Γ Δ (.Call (.Attribute o "count" apos) [b] [] pos) (I ((bs.count k : Nat) : Int)) :=
  ee_lm1 PySem.F.plainAttrs_list PySem.F.slot_list_count PySem.F.type_list_count mt_countF ho hb (fun h B H l xs u e h1 h2 h3 Q q => by
    have eu : u = .bl k := h3
    have ex := all_bools h2
    subst eu ex
    exact ⟨l, _, _, rfl, rfl, h1, rfl, flat_bools bs, by rw [count_bools]; exact q _ B H (Ext.refl e) rfl⟩) hbase hfew hline hs hplain
theorem ee_indexB {bs : List Bool} {n : Nat} (hn : bs[n]? = some k) (hno : ∀ m, m < n → bs[m]? = some (!k)) (ho : ES X Γ Δ o (bs.map Bo)) (hb : EE X Γ Δ b (Bo k)) (hbase : attributeBase o "index" X.env (eval o X.env) = eval o X.env := by rfl) (hfew : ((backTo pos (starEach [b] X.env)).all (fun x => !x.1) && (backToKw pos (keywordEach [] X.env)).all (fun x => x.1.isSome) && decide (([b] : List Expr).length + ([] : List Keyword).length + (if ([] : List Keyword).isEmpty then 0 else 1) < 30)) = true := by rfl)
    (hline : (apos.endLine == pos.line) = true := by rfl) (hs : starEach [b] X.env = (false, eval b X.env) :: starEach [] X.env := by rfl) (hplain : (backTo pos (starEach [] X.env)).any (·.1) = false := by rfl) : EE X Γ Δ (.Call (.Attribute o "index" apos) [b] [] pos) (I (n : Int)) :=
  ee_lm1 PySem.F.plainAttrs_list PySem.F.slot_list_index PySem.F.type_list_index mt_index ho hb (fun h B H l xs u e h1 h2 h3 Q q => by
    have eu : u = .bl k := h3
    have ex := all_bools h2
    subst eu ex
    refine ⟨l, _, .bl k, n, .bl k, rfl, rfl, h1, rfl, flat_bools bs, by rw [List.getElem?_map, hn]; rfl, by cases k <;> rfl, fun m z' hm hz => ?_, q _ B H (Ext.refl e) rfl⟩
    rw [List.getElem?_map, hno m hm] at hz
    have hz : some (V.bl (!k)) = some z' := hz
    cases hz
    cases k <;> rfl) hbase hfew hline hs hplain
theorem inV_bools (k : Bool) (bs : List Bool) : inV (.bl k) (bs.map V.bl) = decide (k ∈ bs) := by
  unfold inV
  rw [List.any_map, Bool.eq_iff_iff, List.any_eq_true, decide_eq_true_eq]
  constructor
  · rintro ⟨y, hy, e⟩
    have e2 : y = k := by simpa [eqV] using e
    exact e2 ▸ hy
  · intro h
    exact ⟨k, h, by simp [eqV]⟩
theorem inV_strs (t : Str) (bs : List Str) : inV (.str t) (bs.map V.str) = decide (t ∈ bs) := by
  unfold inV
  rw [List.any_map, Bool.eq_iff_iff, List.any_eq_true, decide_eq_true_eq]
  constructor
  · rintro ⟨y, hy, e⟩
    have e2 : y = t := by simpa [eqV] using e
    exact e2 ▸ hy
  · intro h
    exact ⟨t, h, by simp [eqV]⟩
theorem et_inB {bs : List Bool} (ha : EE X Γ Δ a (Bo k)) (hb : ES X Γ Δ b (bs.map Bo)) (hm : behindInMarks .In b = false := by rfl) : ET X Γ Δ (.Compare a [.In] [b] pos) (decide (k ∈ bs)) := fun W B H σ S s Q q =>
  wpT_of (pt_cmpR op_in_seq pe_wp pe_wp hm) (ha W B H σ S s _ fun v B1 H1 e1 h1 => hb W B1 H1 σ (S.ext e1) (s.mono e1.bb) _ fun l xs B2 H2 e2 h2 h3 => by
    have ev : v = .bl k := h1
    have ex := all_bools h3
    subst ev ex
    exact ⟨l, _, rfl, .inl h2, rfl, flat_bools bs, by rw [if_neg Bool.false_ne_true, inV_bools]; exact ⟨_, rfl, q B2 H2 (e1.trans e2)⟩⟩)
/-- a text in a tuple of texts -/
theorem et_inT {t : Str} {ts : List Str} (ha : EE X Γ Δ a (Sx t)) (hb : EE X Γ Δ b (T (ts.map Sx))) (hm : behindInMarks .In b = false := by rfl) : ET X Γ Δ (.Compare a [.In] [b] pos) (decide (t ∈ ts)) := fun W B H σ S s Q q =>
  wpT_of (pt_cmpR op_in_seq pe_wp pe_wp hm) (ha W B H σ S s _ fun v B1 H1 e1 h1 => hb W B1 H1 σ (S.ext e1) (s.mono e1.bb) _ fun u B2 H2 e2 h2 => by
    obtain ⟨l, xs, rfl, g1, g2⟩ := h2
    have ev : v = .str t := h1
    have ex := all_strs g2
    subst ev ex
    exact ⟨l, _, rfl, .inr (SqT.of (e2.bh _ _ g1)), rfl, flat_strs ts, by rw [if_neg Bool.false_ne_true, inV_strs]; exact ⟨_, rfl, q B2 H2 (e1.trans e2)⟩⟩)
/-- {} as a value that stands still -/
theorem ee_dict : EE X Γ Δ (.Dict [] [] pos) (N (DTv [])) := fun W B H σ S s Q q =>
  wpE_of pe_dnewT fun l hl => q _ _ _ (Ext.new (o := .dT []) S.ex hl) ⟨⟨l, rfl, upd_same⟩, S.frV hl⟩
/-- a list that is laid anew for the script -/
theorem ee_scrL {ns : List Int} (h : EE X Γ Δ e (L (ns.map I))) : EE X Γ Δ e (Scr X.K ns) := fun W B H σ S s Q q => h W B H σ S s Q fun v B1 H1 e1 ⟨a, xs, h1, h2, h3⟩ => q v B1 H1 e1 ⟨a, h1, by rw [← all_ints h3]; exact SqL.of h2⟩
/-- a, b = e; a, b, c = e -/
theorem go_tup2 {Ke : Pr → Del → Prop} {Kx : Value → Del → Prop} {kk : Nat} {pt px py : Pos} (j j' : Nat) (he : EM X ms Γ Δ e Ke Kx) (hxx : ∀ c Δ', Kx c Δ' → K.ex c Γ Δ') (hk : ∀ P Δ', Ke P Δ' → ∃ P1 P2, P = N (T [P1, P2]) ∧ Go X ms ((Γ.set j (some P1)).set j' (some P2)) Δ' rest K) (hN : X.N.Nodup)
    (hc : X.calm = true := by rfl) (hi : X.N[j]? = some x := by rfl) (hj : X.N[j']? = some y := by rfl) (hx : Loc X.env.scope x := by first | exact Or.inl rfl | exact Or.inr rfl) (hy : Loc X.env.scope y := by first | exact Or.inl rfl | exact Or.inr rfl)
    (hf : X.fn x = true ∨ X.env.scope.names.lookup x = some .local := by first | exact .inl rfl | exact .inr rfl) (hg : X.fn y = true ∨ X.env.scope.names.lookup y = some .local := by first | exact .inl rfl | exact .inr rfl)
    (hs2 : (assignEach [Expr.Name x px, Expr.Name y py] X.env).map (·.2) = assign (.Name x px) X.env :: (assignEach [Expr.Name y py] X.env).map (·.2) := by rfl) (hs3 : (assignEach [Expr.Name y py] X.env).map (·.2) = assign (.Name y py) X.env :: (assignEach [] X.env).map (·.2) := by rfl)
    (hn : (assignEach [Expr.Name x px, Expr.Name y py] X.env).length = 2 := by rfl) (hst : (assignEach [Expr.Name x px, Expr.Name y py] X.env).findIdx? (·.1) = none := by rfl)
    (hs : swapsWithSole [.Tuple [.Name x px, .Name y py] kk pt] e pos.line X.env = pure false := by rfl) (hw : swappedStores [.Tuple [.Name x px, .Name y py] kk pt] e X.env = pure none := by rfl) (h1 : (assignEach [.Tuple [.Name x px, .Name y py] kk pt] X.env).map (·.2) = [assign (.Tuple [.Name x px, .Name y py] kk pt) X.env] := by rfl) :
    Go X ms Γ Δ (.Assign [.Tuple [.Name x px, .Name y py] kk pt] e pos :: rest) K :=
  go_tupM (f := fun P Δ' Γ' => Go X ms Γ' Δ' rest K) he hxx ⟨_, pg_tup hc (pgs_cons (pg_name hN hi hx hf) (pgs_cons (pg_name hN hj hy hg) pgs_nil hs3) hs2) hn hst, fun P Δ' h B σ H v Q e s kp hv q => by
    obtain ⟨P1, P2, rfl, gg⟩ := hk P Δ' kp
    obtain ⟨⟨b, xs, rfl, g1, g2⟩, _⟩ := hv
    obtain ⟨u, w, rfl, k1, k2⟩ := g2.two
    exact ⟨b, _, rfl, SqT.of (e _ _ g1), rfl, u, _, rfl, w, _, rfl, rfl, q _ _ gg ((s.set j k1).set j' k2)⟩⟩
    (fun P Δ' Γ' _ g => g) hs hw h1
theorem All.three {h B : Hp} {vs : List V} (q : All h B [P, P2, P3] vs) : ∃ v u w, vs = [v, u, w] ∧ P.p h B v ∧ P2.p h B u ∧ P3.p h B w := by
  match vs, q with
  | [v, u, w], q => exact ⟨v, u, w, rfl, q.1, q.2.1, q.2.2.1⟩
theorem go_tup3 {Ke : Pr → Del → Prop} {Kx : Value → Del → Prop} {kk : Nat} {pt px py pz : Pos} (j j' j2 : Nat) (he : EM X ms Γ Δ e Ke Kx) (hxx : ∀ c Δ', Kx c Δ' → K.ex c Γ Δ') (hk : ∀ P Δ', Ke P Δ' → ∃ P1 P2 P3, P = N (T [P1, P2, P3]) ∧ Go X ms (((Γ.set j (some P1)).set j' (some P2)).set j2 (some P3)) Δ' rest K) (hN : X.N.Nodup)
    (hc : X.calm = true := by rfl) (hi : X.N[j]? = some x := by rfl) (hj : X.N[j']? = some y := by rfl) (hj2 : X.N[j2]? = some z := by rfl) (hx : Loc X.env.scope x := by first | exact Or.inl rfl | exact Or.inr rfl) (hy : Loc X.env.scope y := by first | exact Or.inl rfl | exact Or.inr rfl) (hz : Loc X.env.scope z := by first | exact Or.inl rfl | exact Or.inr rfl)
    (hf : X.fn x = true ∨ X.env.scope.names.lookup x = some .local := by first | exact .inl rfl | exact .inr rfl) (hg : X.fn y = true ∨ X.env.scope.names.lookup y = some .local := by first | exact .inl rfl | exact .inr rfl) (hg2 : X.fn z = true ∨ X.env.scope.names.lookup z = some .local := by first | exact .inl rfl | exact .inr rfl)
    (hs2 : (assignEach [Expr.Name x px, Expr.Name y py, Expr.Name z pz] X.env).map (·.2) = assign (.Name x px) X.env :: (assignEach [Expr.Name y py, Expr.Name z pz] X.env).map (·.2) := by rfl) (hs3 : (assignEach [Expr.Name y py, Expr.Name z pz] X.env).map (·.2) = assign (.Name y py) X.env :: (assignEach [Expr.Name z pz] X.env).map (·.2) := by rfl)
    (hs4 : (assignEach [Expr.Name z pz] X.env).map (·.2) = assign (.Name z pz) X.env :: (assignEach [] X.env).map (·.2) := by rfl) (hn : (assignEach [Expr.Name x px, Expr.Name y py, Expr.Name z pz] X.env).length = 3 := by rfl) (hst : (assignEach [Expr.Name x px, Expr.Name y py, Expr.Name z pz] X.env).findIdx? (·.1) = none := by rfl)
    (hs : swapsWithSole [.Tuple [.Name x px, .Name y py, .Name z pz] kk pt] e pos.line X.env = pure false := by rfl) (hw : swappedStores [.Tuple [.Name x px, .Name y py, .Name z pz] kk pt] e X.env = pure none := by rfl) (h1 : (assignEach [.Tuple [.Name x px, .Name y py, .Name z pz] kk pt] X.env).map (·.2) = [assign (.Tuple [.Name x px, .Name y py, .Name z pz] kk pt) X.env] := by rfl) :
    Go X ms Γ Δ (.Assign [.Tuple [.Name x px, .Name y py, .Name z pz] kk pt] e pos :: rest) K :=
  go_tupM (f := fun P Δ' Γ' => Go X ms Γ' Δ' rest K) he hxx ⟨_, pg_tup hc (pgs_cons (pg_name hN hi hx hf) (pgs_cons (pg_name hN hj hy hg) (pgs_cons (pg_name hN hj2 hz hg2) pgs_nil hs4) hs3) hs2) hn hst, fun P Δ' h B σ H v Q e s kp hv q => by
    obtain ⟨P1, P2, P3, rfl, gg⟩ := hk P Δ' kp
    obtain ⟨⟨b, xs, rfl, g1, g2⟩, _⟩ := hv
    obtain ⟨u, w, w2, rfl, k1, k2, k3⟩ := g2.three
    exact ⟨b, _, rfl, SqT.of (e _ _ g1), rfl, u, _, rfl, w, _, rfl, w2, _, rfl, rfl, q _ _ gg (((s.set j k1).set j' k2).set j2 k3)⟩⟩
    (fun P Δ' Γ' _ g => g) hs hw h1
/-- the comparison of values of unlike kinds: a text and a bool -/
theorem cmp_neSB {t : Str} : Cmp X .NotEq (Sx t) (Bo k) true := ⟨_, op_ne, fun _ v u B H e h1 h2 Q q => by
  have e1 : v = .str t := h1
  have e2 : u = .bl k := h2
  subst e1 e2
  exact ⟨rfl, q⟩⟩
theorem cmp_neBS {t : Str} : Cmp X .NotEq (Bo k) (Sx t) true := ⟨_, op_ne, fun _ v u B H e h1 h2 Q q => by
  have e1 : v = .bl k := h1
  have e2 : u = .str t := h2
  subst e1 e2
  exact ⟨rfl, q⟩⟩
end
end Yb
set_option maxHeartbeats 2000000
namespace Yb
open PySem PySem.Spec PyProof.Rows L2
/-! ### what a predicate entails -/
def Imp (P P' : Pr) : Prop := ∀ h B v, P.p h B v → P'.p h B v
def Imps : List Pr → List Pr → Prop
  | [], [] => True
  | P :: ps, P' :: qs => Imp P P' ∧ Imps ps qs
  | _, _ => False
theorem Imp.refl (P : Pr) : Imp P P := fun _ _ _ q => q
theorem imp_N (P : Pr) : Imp (N P) P := fun _ _ _ q => q.1
theorem Imps.all {h B : Hp} : ∀ {ps qs : List Pr} {vs : List V}, Imps ps qs → All h B ps vs → All h B qs vs
  | [], [], [], _, _ => trivial
  | _ :: _, _ :: _, _ :: _, q, a => ⟨q.1 _ _ _ a.1, Imps.all q.2 a.2⟩
  | [], _ :: _, _, q, _ => q.elim
  | _ :: _, [], _, q, _ => q.elim
  | [], [], _ :: _, _, a => a.elim
  | _ :: _, _ :: _, [], _, a => a.elim
theorem imps_map {α : Type} {R R' : α → Pr} (h : ∀ x, Imp (R x) (R' x)) : ∀ l : List α, Imps (l.map R) (l.map R')
  | [] => trivial
  | x :: l => ⟨h x, imps_map h l⟩
theorem imp_L {ps qs : List Pr} (h : Imps ps qs) : Imp (L ps) (L qs) := fun _ _ _ ⟨a, xs, h1, h2, h3⟩ => ⟨a, xs, h1, h2, h.all h3⟩
theorem imp_T {ps qs : List Pr} (h : Imps ps qs) : Imp (T ps) (T qs) := fun _ _ _ ⟨a, xs, h1, h2, h3⟩ => ⟨a, xs, h1, h2, h.all h3⟩
theorem imp_NN {P P' : Pr} (h : Imp P P') : Imp (N P) (N P') := fun _ _ _ q => ⟨h _ _ _ q.1, q.2⟩
/-! ### every entry of our own stands still from here on -/
theorem Stb.frzAll {W : Ws} : ∀ {Δ : Del} {B H : Hp}, Stb W Δ B H → (∀ e ∈ Δ, e.1 ∉ W.ms) → ∃ B', Stb W [] B' H ∧ Same B B' ∧ ∀ e ∈ Δ, W.H e.1 = none ∧ ∃ o, B' e.1 = some o ∧ e.2.p W.H B' o
  | [], B, H, S, _ => ⟨B, S, Same.refl B, fun _ h => (List.not_mem_nil h).elim⟩
  | e :: Δ, B, H, S, hm => by
    obtain ⟨o, h1, h2, h3, S2, sm⟩ := S.frz (k := 0) (a := e.1) (ob := e.2) rfl (hm e List.mem_cons_self)
    have S2 : Stb W Δ (upd B e.1 o) H := S2
    obtain ⟨B', S3, sm2, h4⟩ := Stb.frzAll S2 fun x hx => hm x (List.mem_cons_of_mem _ hx)
    refine ⟨B', S3, sm.trans sm2, fun x hx => ?_⟩
    rcases List.mem_cons.mp hx with rfl | hx
    · exact ⟨h2, o, sm2 _ _ upd_same, x.2.mono (sm.trans sm2) h3⟩
    · exact h4 x hx
/-! ### rows: a list of new lists -/
def ENR (Γ : Gam) (Δ : Del) (t : TE) (n : Nat) (rows : Nat → List Pr) : Prop := ∀ (W : Ws) (B H : Hp) (σ : L2.St), Stb W Δ B H → Sl Γ W.H B σ → ∀ Q : VK,
  (∀ (l : Addr) (as : List Addr) (B2 H2 : Hp), as.length = n → l ∉ W.ms → (∀ a ∈ as, a ∉ W.ms) → Stb W (Δ ++ (l, ML (as.map Ref)) :: as.zip ((List.range n).map fun k => ML (rows k))) B2 H2 → Same B B2 → Q (.ref l) H2) → t σ H Q
theorem all_refs {h B : Hp} : ∀ {as : List Addr} {vs : List V}, All h B (as.map Ref) vs → vs = as.map V.ref := fun q => all_map (fun _ _ q => q) q
theorem refs_all {h B : Hp} (as : List Addr) : All h B (as.map Ref) (as.map V.ref) := map_all (fun _ => rfl) as
section
variable {X : Cx} {ms : List Addr} {Γ : Gam} {Δ : Del} {a elt e : Expr} {P P' : Pr} {pos p2 pr pc px : Pos} {x y : Str} {scope : Scope} {K : Kk} {rest : List Stmt} {ps : List Pr}
theorem ee_imp (h : EE X Γ Δ e P) (i : Imp P P') : EE X Γ Δ e P' := fun W B H σ S s Q q => h W B H σ S s Q fun v B2 H2 e1 h1 => q v B2 H2 e1 (i _ _ _ h1)
theorem lcR_rows {n : Int} (rows : Nat → List Pr) (j : Nat) (ha : EE X Γ Δ a (I n)) (hn : n ≤ 40000) (hn0 : 0 ≤ n)
    (he : ∀ z : Nat, (z : Int) < n → ∀ Δ' (s : Shared) (H0 : Hp) (C : Addr) (cl : List (Str × Addr)) (fp : List Addr), EN (X.blk s H0 scope (compEnvC scope cl C X.env) fp) (Γ.set j (some (I (z : Int)))) Δ' elt (rows z)) :
    ENR Γ Δ (tLc (iRng1 (tCons (wpE X a) tNil)) (gName j) (wpIf X scope []) (wpB X scope elt) [j]) n.toNat rows := fun W B H σ S s Q q => by
  refine ha W B H σ S s _ fun w B1 H1 e1 h1 => ⟨n, by rw [show w = .int n from h1], by omega, by omega, fun D hD => ?_⟩
  obtain ⟨S0, hDm⟩ := (S.ext e1).new (ob := ML []) (o := .lst []) hD ⟨[], rfl, trivial⟩
  refine lc_range (lo := 0) (n := n.toNat) (fun i H' => ∃ (as : List Addr) (B' : Hp), as.length = i ∧ (∀ a ∈ as, a ∉ W.ms) ∧ Same B1 B' ∧ Stb W (Δ ++ (D, ML (as.map Ref)) :: as.zip ((List.range i).map fun k => ML (rows k))) B' H') ⟨[], B1, rfl, fun _ h => (List.not_mem_nil h).elim, Same.refl _, S0⟩
    (fun i H' hiv ⟨as, B', hl, hm, sm, S'⟩ => ?_) (fun H' ⟨as, B', hl, hm, sm, S'⟩ => q D as B' H' hl hDm hm S' (e1.bb.trans sm))
  have e0 : (0 : Int) + (i : Int) = (i : Int) := Int.zero_add _
  rw [e0]
  refine ⟨?_, ?_⟩
  · show ((σ.set j none).set j (some (V.int (i : Int)))).set j none = σ.set j none
    rw [List.set_set, List.set_set]
  · show wpB X scope elt ((wipe σ [j]).set j (some (V.int (i : Int)))) H' _
    intro s0 H0 C cl fp
    refine he i (by omega) _ s0 H0 C cl fp W B' H' _ S' (sl_wipe (P := I (i : Int)) (j := j) ((s.mono e1.bb).mono sm) rfl) _ fun l xs B2 H2 e2 g1 g2 g3 g4 => ?_
    obtain ⟨hlm, S2⟩ := mu_N S' e2 g1 g2 g3 g4
    have hk : (Δ ++ (D, ML (as.map Ref)) :: as.zip ((List.range i).map fun k => ML (rows k)) ++ [(l, ML (rows i))])[Δ.length]? = some (D, ML (as.map Ref)) := by
      rw [List.append_assoc, List.getElem?_append_right (Nat.le_refl _), Nat.sub_self]; rfl
    obtain ⟨_, o, k1, acc, rfl, k2⟩ := S2.at hk
    have eacc := all_refs k2
    subst eacc
    have S3 := S2.put (ob' := ML ((as ++ [l]).map Ref)) (o' := .lst ((as ++ [l]).map V.ref)) hk ⟨_, rfl, refs_all _⟩
    have eset : (Δ ++ (D, ML (as.map Ref)) :: as.zip ((List.range i).map fun k => ML (rows k)) ++ [(l, ML (rows i))]).set Δ.length (D, ML ((as ++ [l]).map Ref)) = Δ ++ (D, ML ((as ++ [l]).map Ref)) :: (as ++ [l]).zip ((List.range (i + 1)).map fun k => ML (rows k)) := by
      have e1 : (List.range (i + 1)).map (fun k => ML (rows k)) = (List.range i).map (fun k => ML (rows k)) ++ [ML (rows i)] := by rw [List.range_succ, List.map_append]; rfl
      rw [e1, List.zip_append (by rw [List.length_map, List.length_range]; exact hl), List.append_assoc, List.set_append_right _ _ (Nat.le_refl _), Nat.sub_self]
      rfl
    rw [eset] at S3
    have hfew : as.length < 40000 := by omega
    have e3 : (as ++ [l]).map V.ref = as.map V.ref ++ [V.ref l] := by rw [List.map_append]; rfl
    rw [e3] at S3
    refine ⟨_, k1, by rw [List.length_map]; exact sz_lt (by omega), as ++ [l], B2, by rw [List.length_append, hl]; rfl, fun b hb => ?_, sm.trans e2.bb, S3⟩
    rcases List.mem_append.mp hb with z | z
    · exact hm b z
    · rw [List.mem_singleton.mp z]; exact hlm
/-- y = [[..] for x in range(n)], y a local -/
theorem go_rows {n : Int} {py spos : Pos} (i : Nat) (rows : Nat → List Pr) (j : Nat) (hN : X.N.Nodup) (ha : EE X Γ Δ a (I n)) (hn : n ≤ 40000) (hn0 : 0 ≤ n) (hgl : Gl X "range") (hm : X.mg "range" = none) (ok : BlkOk X.N X.env.scope scope [(x, j)])
    (hg : ∀ (s : Shared) (H : Hp) (C : Addr) (cl : List (Str × Addr)) (fp : List Addr), PG (X.blk s H scope (compEnvC scope cl C X.env) fp) (.Name x px) (gName j))
    (he : ∀ z : Nat, (z : Int) < n → ∀ Δ' (s : Shared) (H0 : Hp) (C : Addr) (cl : List (Str × Addr)) (fp : List Addr), EN (X.blk s H0 scope (compEnvC scope cl C X.env) fp) (Γ.set j (some (I (z : Int)))) Δ' elt (rows z))
    (g : ∀ (l : Addr) (as : List Addr), as.length = n.toNat → l ∉ ms → (∀ a ∈ as, a ∉ ms) → Go X ms (Γ.set i (some (Ref l))) (Δ ++ (l, ML (as.map Ref)) :: as.zip ((List.range n.toNat).map fun k => ML (rows k))) rest K) (hc : X.calm = true := by rfl)
    (hy : X.N[i]? = some y := by rfl) (hyl : X.env.scope.names.lookup y = some .local := by rfl) (hsw : swapsWith (.ListComp elt [⟨.Name x px, .Call (.Name "range" pr) [a] [] pc, [], 0⟩] scope pos) (some (.Name y py)) spos.line X.env = pure true := by exact sw_true rfl rfl rfl (by decide +kernel))
    (hst : starEach [a] X.env = (false, eval a X.env) :: starEach [] X.env := by rfl) (hst2 : starEach [a] X.env = [(false, eval a X.env)] := by rfl) (hs : ∀ x, foldedSetIterable (.Call (.Name "range" pr) [a] [] pc) X.env x = pure x := by intro _; rfl) :
    Go X ms Γ Δ (.Assign [.Name y py] (.ListComp elt [⟨.Name x px, .Call (.Name "range" pr) [a] [] pc, [], 0⟩] scope pos) spos :: rest) K := by
  obtain ⟨t, h1, h2⟩ : ∃ t, PS X (.Assign [.Name y py] (.ListComp elt [⟨.Name x px, .Call (.Name "range" pr) [a] [] pc, [], 0⟩] scope pos) spos) (tAsg t (gName i)) ∧ ENR Γ Δ t n.toNat rows :=
    ⟨_, ps_setLc (own := [(x, j)]) (g := gName j) hc hN hy hyl hsw (pi_range1 hgl hm (pa_cons pe_wp pa_nil hst) hst2) ok hg (pts_if (Nat.zero_le 1)) pe_b hs, lcR_rows rows j ha hn hn0 he⟩
  intro W Wi B H σ D hms tk S s ok'
  exact wpSs_of (pss_cons h1 pss_wp) (h2 W B H σ S s _ fun l as B2 H2 q1 q2 q3 S2 sm => g l as q1 (hms ▸ q2) (fun a ha => hms ▸ q3 a ha) W Wi B2 H2 _ D hms tk S2 ((s.mono sm).set i rfl) ok')
theorem zip_set {α β : Type} : ∀ {as : List α} {bs : List β} {k : Nat} {a : α} {b : β}, as[k]? = some a → (as.zip bs).set k (a, b) = as.zip (bs.set k b)
  | [], _, k, _, _, h => by simp at h
  | _ :: _, [], _, _, _, _ => by simp
  | x :: as, y :: bs, 0, a, b, h => by
    rw [List.getElem?_cons_zero] at h
    cases h
    rfl
  | x :: as, y :: bs, k + 1, a, b, h => by
    rw [List.getElem?_cons_succ] at h
    show (x, y) :: (as.zip bs).set k (a, b) = (x, y) :: as.zip (bs.set k b)
    rw [zip_set h]
/-- the rows stand still from here on -/
theorem go_frzRows {sts : List Stmt} (i : Nat) {l : Addr} {as : List Addr} {rws : List (List Pr)} (hl : as.length = rws.length) (h0 : l ∉ ms) (h1 : ∀ a ∈ as, a ∉ ms) (hΓ : Γ[i]? = some (some (Ref l))) (g : Go X ms (Γ.set i (some (N (L (rws.map L))))) [] sts K) :
    Go X ms Γ ((l, ML (as.map Ref)) :: as.zip (rws.map ML)) sts K := fun W Wi B H σ D hm tk S s ok => by
  obtain ⟨B', S2, sm, hB⟩ := S.frzAll fun e he => by
    rcases List.mem_cons.mp he with rfl | he
    · rw [hm]; exact h0
    · rw [hm]; exact h1 _ (List.of_mem_zip he).1
  obtain ⟨hw, o, k1, xs, rfl, k2⟩ := hB (l, ML (as.map Ref)) List.mem_cons_self
  have ex := all_refs k2
  subst ex
  have key : ∀ {as : List Addr} {rws : List (List Pr)}, as.length = rws.length → (∀ e ∈ as.zip (rws.map ML), ∃ o, B' e.1 = some o ∧ e.2.p W.H B' o) → All W.H B' (rws.map L) (as.map V.ref) := by
    intro as
    induction as with
    | nil => intro rws hl _; cases rws with
      | nil => trivial
      | cons _ _ => cases hl
    | cons a as ih => intro rws hl hh; cases rws with
      | nil => cases hl
      | cons r rws =>
        obtain ⟨o, q1, ys, rfl, q2⟩ := hh (a, ML r) List.mem_cons_self
        exact ⟨⟨a, ys, rfl, q1, q2⟩, ih (by simpa using hl) fun e he => hh e (List.mem_cons_of_mem _ he)⟩
  have all := key hl fun e he => (hB e (List.mem_cons_of_mem _ he)).2
  obtain ⟨v, g1, g2⟩ := s.2 i _ hΓ
  have ev : v = .ref l := g2
  subst ev
  have hil : i < σ.length := (List.getElem?_eq_some_iff.mp g1).1
  have s2 := (s.mono sm).set (P := N (L (rws.map L))) (v := .ref l) i ⟨⟨l, _, rfl, k1, all⟩, fun a z => by injection z with z; exact z ▸ hw⟩
  rw [set_id g1] at s2
  exact g W Wi B' H σ D hm tk S2 s2 ok
end
end Yb
set_option maxHeartbeats 2000000
namespace Yb
open PySem PySem.Spec PyProof.Rows L2 RT
/-! ### list(reversed(a list)) -/
section
variable {prog : Program} {w : World} {A : Around} {E : Value → Shared → Prop} {s : Shared}
theorem extend_rev {R : Result → Shared → Prop} {it l : Addr} {items : Array Value} (hh : A.handled = none) (hit : s.heap.IsRevIter it l ((items.size : Int) - 1)) (hl : s.heap.IsList l items) (hne : l ≠ it) (hn : items.size ≤ sizeLine) (S : Addr) (c₀ : Nat) (hSi : S ≠ it) (hSl : S ≠ l)
    (hS : s.heap.get? S = some { cls := .type "list", data := .seq #[] c₀ })
    (hR : ∀ h' tk acc' c', (∀ b o, b ≠ S → b ≠ it → s.heap.get? b = some o → h'.get? b = some o) → h'.get? S = some { cls := .type "list", dict := none, data := .seq acc' c', slots := #[] } →
      ItemsOf (fun i v => items[items.size - 1 - i]? = some v) acc' items.size → R (.ok (.ret .none)) { s with heap := h', toks := tk }) :
    wpAny (model prog w) A.in1 (Builtin.List.listExtendWith (.ref S) (.ref it) .none)
      (fun fin s' => match fin with | .done f => R (.ok f) s' | .again c' => c'.quiet = true ∧ codeAny (model prog w) A c' R s') (fun e s' => R (.error e) s') s := by
  have W := (Walks.listRev (prog := prog) (w := w) (A := A.in1) hh it l hne items).toS
  have hSf : S ∉ [it, l] := by simp only [List.mem_cons, List.not_mem_nil, or_false, not_or]; exact ⟨hSi, hSl⟩
  have hT : s.TypeIs (.ref it) "list_reverseiterator" := Heap.IsRevIter.typeIs hit
  have h1 : Builtin.List.listSameRef (.ref S) (.ref it) = false := by simp [Builtin.List.listSameRef, hSi]
  unfold Builtin.List.listExtendWith
  refine wpAny_bind (wpAny_typeOf hT ?_)
  rw [if_neg (by rw [h1]; decide)]
  refine wpAny_bind (wpAny_pyIter_revIter hit ?_)
  refine wpAny_bind (wpAny_holding ?_)
  unfold Builtin.List.listLengthHint
  refine wpAny_bind (wpAny_specialOf hT nolen_lri ?_)
  show wpAny _ A.in1 (specialOf (Value.ref it) (Str.ofString "__length_hint__") >>= _) _ _ _
  refine wpAny_bind (wpAny_specialOf hT hint_lri ?_)
  generalize hid : ("list_reverseiterator.__length_hint__" : String) = id0
  wp_delta
  rw [show splitId id0 = some ("list_reverseiterator", "__length_hint__") from by subst hid; decide +kernel]
  subst hid
  refine wpAny_bind (wpAny_isInstance (b := true) hT (by rw [isSubtype_type]; kernel_rfl) ?_)
  refine wpAny_pure ?_
  rw [if_neg (by decide)]
  have e0 : ((items.size : Nat) : Int) - 1 - ((0 : Nat) : Int) = (items.size : Int) - 1 := by omega
  refine wpAny_pure ⟨plainId_quiet F.plain_extend_loop _, codeAny_extend_loopS W hn S hSf .none items.size 0 _ _ _ rfl (Nat.zero_le _) ⟨Nat.zero_le _, by rw [e0]; exact hit, hl⟩ hS (ItemsOf.nil _) fun s' acc' c' hm hS' hacc => ?_⟩
  rw [Moved.eq_with hm]
  refine hR s'.heap s'.toks acc' c' (fun b o hb hb2 e => hm.heap b o (fun hmem => ?_) e) hS' hacc
  rcases List.mem_cons.mp hmem with e' | hmem
  · exact hb e'
  · exact hb2 (List.mem_singleton.mp hmem)
theorem list_init_rev {R : Result → Shared → Prop} {it l : Addr} {items : Array Value} (hh : A.handled = none) (hit : s.heap.IsRevIter it l ((items.size : Int) - 1)) (hl : s.heap.IsList l items) (hne : l ≠ it) (hn : items.size ≤ sizeLine) (S : Addr) (hSi : S ≠ it) (hSl : S ≠ l)
    (hS : s.heap.get? S = some { cls := .type "list", data := .seq #[] })
    (hR : ∀ h' tk acc' c', (∀ b o, b ≠ S → b ≠ it → s.heap.get? b = some o → h'.get? b = some o) → h'.get? S = some { cls := .type "list", dict := none, data := .seq acc' c', slots := #[] } →
      ItemsOf (fun i v => items[items.size - 1 - i]? = some v) acc' items.size → R (.ok (.ret .none)) { s with heap := h', toks := tk }) :
    wpAny (model prog w) A.in1 (Builtin.«list.__init__» ⟨[.ref S, .ref it], []⟩)
      (fun fin s' => match fin with | .done f => R (.ok f) s' | .again c' => c'.quiet = true ∧ codeAny (model prog w) A c' R s') (fun e s' => R (.error e) s') s := by
  show wpAny _ _ (do let old ← Builtin.List.listItems (.ref S); Builtin.List.listUpdate (.ref S) (fun _ => #[]); letGo old.toList.reverse; Builtin.List.listExtendWith (.ref S) (.ref it) .none) _ _ s
  refine wpAny_bind ?_
  unfold Builtin.List.listItems
  refine wpAny_bind (wpAny_seqItems hS rfl (wpAny_pure ?_))
  show wpAny _ _ (updateSeq S (fun _ => #[]) >>= fun _ => letGo (#[] : Array Value).toList.reverse >>= fun _ => Builtin.List.listExtendWith (.ref S) (.ref it) .none) _ _ s
  refine wpAny_bind (wpAny_updateSeq hS rfl ?_)
  have hS₂ := Heap.get?_update_self (Obj.mapSeq (fun _ => (#[] : Array Value))) hS rfl
  have oth : ∀ b o, b ≠ S → s.heap.get? b = some o → (s.heap.update S (Obj.mapSeq (fun _ => (#[] : Array Value)))).get? b = some o :=
    fun b o hb e => (Heap.get?_update_other _ _ (Ne.symm hb)).trans e
  refine wpAny_bind (wpAny_letGo ?_)
  refine extend_rev (s := { s with heap := s.heap.update S (Obj.mapSeq (fun _ => (#[] : Array Value))) }) hh (hit.at fun o e => oth it o (Ne.symm hSi) e) (hl.at fun o e => oth l o (Ne.symm hSl) e) hne hn S _ hSi hSl hS₂ fun h' tk acc' c' hk hS' hacc => ?_
  exact hR h' tk acc' c' (fun b o hb hb2 e => hk b o hb hb2 (oth b o hb e)) hS' hacc
theorem call_list_rev {Q : Value → Shared → Prop} {it l : Addr} {items : Array Value} (hh : A.handled = none) (hit : s.heap.IsRevIter it l ((items.size : Int) - 1)) (hl : s.heap.IsList l items) (hne : l ≠ it) (hn : items.size ≤ sizeLine)
    (hQ : ∀ h' tk acc' c', (∀ b o, b ≠ it → s.heap.get? b = some o → h'.get? b = some o) →
      h'.get? s.heap.objs.size = some { cls := .type "list", dict := none, data := .seq acc' c', slots := #[] } → ItemsOf (fun i v => items[items.size - 1 - i]? = some v) acc' items.size → Q (.ref s.heap.objs.size) { s with heap := h', toks := tk }) :
    wpAny (model prog w) A (call (.type "list") [.ref it]) Q E s := by
  refine callType_codes (Q₁ := fun obj s₁ => obj = .ref s.heap.objs.size ∧ s₁ = { s with heap := s.heap.push { cls := .type "list", data := .seq #[] } }) F.called_list (F.typeCall_list_1 _) F.entry_list_init
    (code_list_new _ ⟨rfl, rfl⟩) fun obj s₁ h₁ => ?_
  obtain ⟨rfl, rfl⟩ := h₁
  obtain ⟨oi, hoi, _⟩ := id hit
  obtain ⟨ol, hol, _⟩ := id hl
  have hS : (s.heap.push { cls := .type "list", data := .seq #[] }).get? s.heap.objs.size = some { cls := .type "list", data := .seq #[] } := Heap.get?_push_size _ rfl
  refine ⟨⟨_, hS, rfl⟩, F.args_list_init_2 _ _, list_init_rev (A := A.in1) (s := { s with heap := s.heap.push { cls := .type "list", data := .seq #[] } }) hh (hit.at fun o e => Heap.get?_push_of_some _ e) (hl.push _) hne hn _ (Nat.ne_of_gt (Heap.lt_size hoi)) (Nat.ne_of_gt (Heap.lt_size hol)) hS fun h' tk acc' c' hk hS' hacc => ?_⟩
  exact ⟨rfl, hQ h' tk acc' c' (fun b o hb e => hk b o (Nat.ne_of_lt (Heap.lt_size e)) hb (Heap.get?_push_of_some _ e)) hS' hacc⟩
end
section
variable {X : Cx}
def tListRev (K : PySem.W.Frag) (te : TE) : TE := fun σ H Q => te σ H fun v H1 => ∃ (a : Addr) (xs : List V), v = .ref a ∧ SqL K H1 a xs ∧ ∀ q, H1 q = none → Q (.ref q) (upd H1 q (.lst xs.reverse))
theorem pe_listRev {e : Expr} {te : TE} {p p2 pos pos2 : Pos} (hc : X.calm = true) (hg : Gl X "list") (hm : X.mg "list" = none) (hg2 : Gl X "reversed") (hm2 : X.mg "reversed" = none) (he : PE X e te)
    (hs : starEach [e] X.env = (false, eval e X.env) :: starEach [] X.env := by rfl)
    (hs2 : starEach [.Call (.Name "reversed" p2) [e] [] pos2] X.env = (false, eval (.Call (.Name "reversed" p2) [e] [] pos2) X.env) :: starEach [] X.env := by rfl) :
    PE X (.Call (.Name "list" p) [.Call (.Name "reversed" p2) [e] [] pos2] [] pos) (tListRev X.K te) := by
  refine ⟨fun pins s σ H Q I h => ?_⟩
  refine Call_ (ld_blt I hg hm (show bootBuiltins "list" = some (.type "list") by decide +kernel) (PyProof.Rows.callWith_type1 (args_cons (Call_ (ld_blt I hg2 hm2 PyProof.Rows.boot_reversed (PyProof.Rows.callWith_type1 (args_cons (thn (he.run pins s σ H _ I h) fun u s1 ⟨v, H1, I1, r1, q1⟩ => args_nil ?_) hs) hs rfl))) hs2) hs2 rfl))
  obtain ⟨a, xs, ev, hq, q⟩ := q1
  subst ev
  obtain rfl : u = Value.ref a := r1
  obtain ⟨its, rv, p', hz⟩ := I1.list hq
  refine call_reversed_list p'.isList (args_nil ?_)
  have hl := p'.isList
  obtain ⟨ol, hol, _⟩ := id hl
  have hne : a ≠ s1.heap.objs.size := Nat.ne_of_lt (Heap.lt_size hol)
  have hn : its.toArray.size ≤ sizeLine := by rw [List.size_toArray, ← rv.length]; exact hz
  refine call_list_rev (s := { s1 with heap := s1.heap.push (revObj a ((its.toArray.size : Int) - 1)) }) (I1.ok.hd hc) ⟨_, Heap.get?_push_size _ rfl, rfl, rfl⟩ (hl.push _) hne hn fun h' tk acc c' hk hS hi => ?_
  have hS' : h'.get? (s1.heap.push (revObj a ((its.toArray.size : Int) - 1))).objs.size = _ := hS
  have hsz : (s1.heap.push (revObj a ((its.toArray.size : Int) - 1))).objs.size = s1.heap.objs.size + 1 := by simp [Heap.push]
  rw [hsz] at hS' ⊢
  exact ⟨.ref _, upd H1 _ (.lst xs.reverse), I1.laid (t' := tk) (fun c o e => hk c o (Nat.ne_of_lt (Heap.lt_size e)) (Heap.get?_push_of_some _ e)) (Nat.le_succ _) (show ObjOk X.prog X.w _ _ _ (.lst xs.reverse) from ⟨by rw [List.length_reverse]; exact hz, acc.toList, c', vals_rev rv hi, by rw [Array.toArray_toList]; exact hS'⟩), rfl, q _ (I1.hok.fresh (Nat.le_succ _))⟩
end
section
variable {X : Cx} {Γ : Gam} {Δ : Del} {e : Expr} {ps : List Pr} {p p2 pos pos2 : Pos}
theorem en_listRev (hc : X.calm = true) (ha : ES X Γ Δ e ps) (hg : Gl X "list") (hm : X.mg "list" = none) (hg2 : Gl X "reversed") (hm2 : X.mg "reversed" = none)
    (hs : starEach [e] X.env = (false, eval e X.env) :: starEach [] X.env := by rfl)
    (hs2 : starEach [.Call (.Name "reversed" p2) [e] [] pos2] X.env = (false, eval (.Call (.Name "reversed" p2) [e] [] pos2) X.env) :: starEach [] X.env := by rfl) :
    EN X Γ Δ (.Call (.Name "list" p) [.Call (.Name "reversed" p2) [e] [] pos2] [] pos) ps.reverse := fun W B H σ S s Q q =>
  wpE_of (pe_listRev hc hg hm hg2 hm2 pe_wp hs hs2) (ha W B H σ S s _ fun l xs B1 H1 e1 h1 h2 => ⟨l, xs, rfl, h1, en_fin e1 h2.rev q⟩)
end
end Yb
set_option maxHeartbeats 2000000
namespace Yb
open PySem PySem.Spec PyProof.Rows L2
section
variable {X : Cx} {ms : List Addr} {Γ : Gam} {Δ : Del} {K : Kk} {rest : List Stmt} {e a b o : Expr} {es : List Expr} {P P' : Pr} {Ps ps qs dps : List Pr} {pos pos' apos p2 : Pos} {x f m : Str} {C : Addr} {ns : List Str} {k j : Nat} {Cs : Cn → Prop}
/-- a new instance that may change -/
theorem em_makeM {q : Pos} {Kx : Value → Del → Prop} (F : Mkc X.prog X.w X.K X.mg X.base x C Cs k) (hr : Room (j + 1) X.A) (hk : k ≤ j) (hg : Gl X x) (ha : EA X Γ Δ (e :: es) Ps) (c : Addr → Cn) (hc : ∀ l, Cs (c l)) (G : Del → List Pr → Prop) {ps' : List Pr} (hbr : Brs Δ Ps ps') (hp : ∀ l, (c l).ps = Ref l :: ps' := by intro _; rfl) (hΔ : ∀ l, (c l).Δ = [(l, MI C [] [])] := by intro _; rfl)
    (ho : ∀ l P Δ', (c l).out P Δ' → P = No ∧ ∃ Δn qs, Δ' = (l, MI C ns qs) :: Δn ∧ G Δn qs := by exact fun _ _ _ q => q) (hx : ∀ l v Δ', ¬ (c l).exc v Δ' := by exact fun _ _ _ q => q)
    (hsb : ∀ Δn qs, G Δn qs → ∀ h B B' o l, (∀ a, h a = none → B' a = B a) → ((l, MI C ns qs) : Ent).2.p h B o → ((l, MI C ns qs) : Ent).2.p h B' o) (hsb2 : ∀ Δn qs, G Δn qs → ∀ z ∈ Δn, ∀ h B B' o, (∀ a, h a = none → B' a = B a) → z.2.p h B o → z.2.p h B' o)
    (hdb : (x == ("__debug__" : Str)) = false := by decide)
    (he : starEach (e :: es) X.env = (false, eval e X.env) :: starEach es X.env := by rfl) (hpl : (backTo pos (starEach es X.env)).any (·.1) = false := by rfl) :
    EM X ms Γ Δ (.Call (.Name x q) (e :: es) [] pos) (fun P Δ' => ∃ l Δn qs, G Δn qs ∧ P = Ref l ∧ Δ' = (l, MI C ns qs) :: Δn ++ Δ ∧ l ∉ ms ∧ ∀ z ∈ Δn, z.1 ∉ ms) Kx := fun W Wi B H σ hm tk S s hx0 Q qq => by
  obtain ⟨f, fd, pn, F, M, mg, b⟩ := F.ex
  refine wpE_of (pe_make (E := E0) M F (Room.mono hr (Nat.succ_le_succ hk)) hg mg b .nil passN pa_wp hdb he hpl) (ha W B H σ S s _ fun vs B1 H1 e1 h1 => ?_)
  intro l dx hl hdx hne
  have S1 := S.ext e1
  have S2 := S1.ext (Ext.newH (o := .own l) S1.ex hdx)
  have hl2 : upd H1 dx (HO.own l) l = none := by rw [upd_ne (Ne.symm hne)]; exact hl
  obtain ⟨S3, hnm⟩ := S2.new (ob := MI C [] []) (o := .ins C dx []) hl2 ⟨dx, [], rfl, trivial⟩
  have hb1 : B1 l = none := e1.bh.free hl
  have hH : ∀ a o, H1 a = some o → upd (upd H1 dx (HO.own l)) l (HO.ins C dx []) a = some o := fun a o h => by
    rw [upd_ne (ne_of_none h hl), upd_ne (ne_of_none h hdx)]; exact h
  -- what is lent: the entries as they stand
  obtain ⟨Bp, g1, g2, g3, g4⟩ := borrow S1
  have hm' : ∀ e ∈ Δ, ∃ o, H1 e.1 = some o ∧ e.2.p h0 B1 o := fun x hx => by
    obtain ⟨_, o, h2, h3⟩ := S1.mu x hx
    exact ⟨o, h2, x.2.anti (fun a z => absurd rfl z) h3⟩
  have inn : ∀ a, a ∈ Δ.map (·.1) → B1 a = none ∧ H1 a ≠ none := fun a h => by
    obtain ⟨x, hx, rfl⟩ := List.mem_map.mp h
    obtain ⟨h1, o, h2, _⟩ := S1.mu x hx
    exact ⟨h1, by rw [h2]; intro z; cases z⟩
  have bl : Bp l = none := by
    by_cases z : l ∈ Δ.map (·.1)
    · exact absurd hl (inn l z).2
    · rw [g4 l z]; exact hb1
  rw [List.append_nil]
  refine ⟨c l, Bp, hc l, fun a o h => hH a o (g2 a o h), ?_, ?_, ?_, fun P' Δ' B' H' v o S' hv => ?_, fun x Δ' B' H' o _ => hx l x Δ' o⟩
  · rw [hp l]
    exact ⟨rfl, Brs.all e1.bh hm' g1 g3 hbr (all_h0 h1)⟩
  · rw [hΔ l]
    intro z hz
    have ez : z = (l, MI C [] []) := by simpa using hz
    subst ez
    exact ⟨bl, _, upd_same, dx, [], rfl, trivial⟩
  · rw [hΔ l]
    simp
  · rw [hΔ l] at S'
    obtain ⟨rfl, Δn, qs, rfl, g⟩ := ho l P' Δ' o
    -- back without what was lent
    let B2 : Hp := fun a => if a ∈ Δ.map (·.1) then none else B' a
    have b2i : ∀ a, a ∈ Δ.map (·.1) → B2 a = none := fun a h => if_pos h
    have b2o : ∀ a, a ∉ Δ.map (·.1) → B2 a = B' a := fun a h => if_neg h
    have newE : ∀ z ∈ (l, MI C ns qs) :: Δn, W.H z.1 = none ∧ z.1 ∉ Δ.map (·.1) := fun z hz => by
      rcases S'.ow z hz with w1 | w1
      · have e2 : z.1 = l := by simpa using w1
        exact ⟨by rw [e2]; exact S1.fresh hl, fun q => by rw [e2] at q; exact (inn l q).2 hl⟩
      · have w1 : upd (upd H1 dx (HO.own l)) l (HO.ins C dx []) z.1 = none := w1
        have hne2 : z.1 ≠ l := fun q => by rw [q, upd_same] at w1; cases w1
        rw [upd_ne hne2] at w1
        have hne3 : z.1 ≠ dx := fun q => by rw [q, upd_same] at w1; cases w1
        rw [upd_ne hne3] at w1
        exact ⟨S1.fresh w1, fun q => (inn _ q).2 w1⟩
    have bn : ∀ a, upd (upd H1 dx (HO.own l)) l (HO.ins C dx []) a = none → B2 a = B' a := fun a h => b2o a fun z => by
      have := (inn a z).2
      cases e : H1 a with
      | none => exact this e
      | some o => rw [hH a o e] at h; cases h
    have hkeep : ∀ a o, H1 a = some o → H' a = some o := fun a o h => S'.hh a o (hH a o h) fun z => by
      have e2 : a = l := by simpa using z
      rw [e2, hl] at h; cases h
    have S5 : Stb W ((l, MI C ns qs) :: Δn ++ Δ) B2 H' := by
      refine ⟨fun a o h => ?_, fun x hx => ?_, ?_, fun a o h => ?_, fun a o h n => hkeep a o (S1.hh a o h n), fun a h z => S1.dm a h (by
          cases e : H1 a with
          | none => rfl
          | some o => rw [hkeep a o e] at z; cases z), fun a h n => ?_, fun x hx => ?_, S1.msd⟩
      · by_cases z : a ∈ Δ.map (·.1)
        · rw [b2i a z] at h; cases h
        · rw [b2o a z] at h; exact S'.ex a o h
      · rcases List.mem_append.mp hx with hx | hx
        · obtain ⟨k1, o, k2, k3⟩ := S'.mu x hx
          refine ⟨by rw [b2o _ (newE x hx).2]; exact k1, o, k2, ?_⟩
          have k4 := x.2.anti (h' := W.H) (fun a h z => by
            have := S1.dm a h
            cases e : H1 a with
            | none => exact this e
            | some o =>
              have z : upd (upd H1 dx (HO.own l)) l (HO.ins C dx []) a = none := z
              rw [hH a o e] at z; cases z) k3
          rcases List.mem_cons.mp hx with rfl | hx2
          · exact MI C ns qs |>.anti (h := upd (upd H1 dx (HO.own l)) l (HO.ins C dx [])) (fun a h z => by
              have := S1.dm a h
              cases e : H1 a with
              | none => exact this e
              | some o =>
                have z : upd (upd H1 dx (HO.own l)) l (HO.ins C dx []) a = none := z
                rw [hH a o e] at z; cases z) (hsb Δn qs g _ B' B2 o l bn k3)
          · exact x.2.anti (h := upd (upd H1 dx (HO.own l)) l (HO.ins C dx [])) (fun a h z => by
              have := S1.dm a h
              cases e : H1 a with
              | none => exact this e
              | some o =>
                have z : upd (upd H1 dx (HO.own l)) l (HO.ins C dx []) a = none := z
                rw [hH a o e] at z; cases z) (hsb2 Δn qs g x hx2 _ B' B2 o bn k3)
        · obtain ⟨k1, o, k2, k3⟩ := S1.mu x hx
          refine ⟨b2i _ (List.mem_map_of_mem hx), o, hkeep _ _ k2, x.2.mono (fun a o h => ?_) k3⟩
          have na : a ∉ Δ.map (·.1) := fun z => by rw [(inn a z).1] at h; cases h
          rw [b2o a na]
          exact S'.bb a o (g1 a o h)
      · rw [List.map_append]
        refine List.nodup_append.mpr ⟨S'.nd, S1.nd, fun a ha b hb e => ?_⟩
        obtain ⟨x, hx, rfl⟩ := List.mem_map.mp ha
        exact (newE x hx).2 (e ▸ hb)
      · have na : a ∉ Δ.map (·.1) := fun z => by
          have := S1.bb a o h
          rw [(inn a z).1] at this; cases this
        rw [b2o a na]
        exact S'.bb a o (g1 a o (S1.bb a o h))
      · by_cases z : a ∈ Δ.map (·.1)
        · exact b2i a z
        · rw [b2o a z]
          refine S'.fr a ((g4 a z).trans (S1.fr a h n)) ?_
          show upd (upd H1 dx (HO.own l)) l (HO.ins C dx []) a ≠ none
          have := S1.dm a n
          cases e : H1 a with
          | none => exact absurd e this
          | some o => rw [hH a o e]; intro q; cases q
      · rcases List.mem_append.mp hx with hx | hx
        · exact .inr (newE x hx).1
        · exact S1.ow x hx
    have sm : Same B B2 := fun a o h => by
      have na : a ∉ Δ.map (·.1) := fun z => by
        have := e1.bb a o h
        rw [(inn a z).1] at this; cases this
      rw [b2o a na]
      exact S'.bb a o (g1 a o (e1.bb a o h))
    have nms : ∀ z ∈ (l, MI C ns qs) :: Δn, z.1 ∉ ms := fun z hz q => S1.msd z.1 (hm ▸ q) (newE z hz).1
    exact ⟨hv, qq (Ref l) _ (.ref l) B2 H' ⟨l, Δn, qs, g, rfl, rfl, nms _ List.mem_cons_self, fun z hz => nms z (List.mem_cons_of_mem _ hz)⟩ S5 sm rfl⟩
/-- an instance that may change, lent -/
theorem br_G {Δ : Del} {C : Addr} {ns : List Str} {ps qs : List Pr} (n : Nat) {a : Addr} (h : Δ[n]? = some (a, MI C ns ps)) (hb : Brs Δ ps qs) : Br Δ (Ref a) (Iv C ns qs) := ⟨fun B H Bp v e hm e2 hbb hv => by
  have ev : v = .ref a := hv
  subst ev
  have hmem := List.mem_of_getElem? h
  obtain ⟨o, h1, dx, xs, rfl, h2⟩ := hm _ hmem
  exact ⟨a, dx, xs, rfl, (hbb _ hmem).trans h1, hb.all e hm e2 hbb h2⟩⟩
/-- xs.pop(), xs an entry -/
theorem em_pop {Kx : Value → Del → Prop} (n : Nat) {l : Addr} (ho : EE X Γ Δ o (Ref l)) (hk : Δ[n]? = some (l, ML ps)) (hP : ps[ps.length - 1]? = some P)
    (hbase : attributeBase o "pop" X.env (eval o X.env) = eval o X.env := by rfl) (hline : (apos.endLine == p2.line) = true := by rfl) :
    EM X ms Γ Δ (.Call (.Attribute o "pop" apos) [] [] p2) (fun P' Δ' => P' = P ∧ Δ' = Δ.set n (l, ML ps.dropLast)) Kx := fun W Wi B H σ hm tk S s hx Q q =>
  wpE_of (pe_bm0 PySem.F.plainAttrs_list PySem.F.slot_list_pop PySem.F.type_list_pop mt_pop pe_wp hbase hline) (ho W B H σ S s _ fun w B1 H1 e1 g1 => by
    have S1 := S.ext e1
    obtain ⟨_, ob, k1, xs, rfl, k2⟩ := S1.at hk
    have ew : w = .ref l := g1
    subst ew
    have hl := k2.len
    obtain ⟨v, h1, h2⟩ := k2.get hP
    rw [hl] at h1
    refine ⟨.inl ⟨rfl, xs, SqL.of k1⟩, l, xs, v, rfl, rfl, k1, h1, ?_⟩
    exact q P _ v B1 _ ⟨rfl, rfl⟩ (S1.put hk ⟨_, rfl, k2.dropLast⟩) e1.bb h2)
/-- xs.pop(i), xs an entry -/
theorem em_popAt {Kx : Value → Del → Prop} (n i : Nat) {l : Addr} (ho : EE X Γ Δ o (Ref l)) (he : EE X Γ Δ e (I (i : Int))) (hk : Δ[n]? = some (l, ML ps)) (hP : ps[i]? = some P) (hz : ps.length ≤ 100000)
    (hbase : attributeBase o "pop" X.env (eval o X.env) = eval o X.env := by rfl)
    (hfew : ((backTo p2 (starEach [e] X.env)).all (fun x => !x.1) && (backToKw p2 (keywordEach [] X.env)).all (fun x => x.1.isSome) && decide (([e] : List Expr).length + ([] : List Keyword).length + (if ([] : List Keyword).isEmpty then 0 else 1) < 30)) = true := by rfl)
    (hline : (apos.endLine == p2.line) = true := by rfl) (hs1 : starEach [e] X.env = (false, eval e X.env) :: starEach [] X.env := by rfl) (hplain : (backTo p2 (starEach [] X.env)).any (·.1) = false := by rfl) :
    EM X ms Γ Δ (.Call (.Attribute o "pop" apos) [e] [] p2) (fun P' Δ' => P' = P ∧ Δ' = Δ.set n (l, ML (ps.eraseIdx i))) Kx := fun W Wi B H σ hm tk S s hx Q q =>
  wpE_of (pe_bm PySem.F.plainAttrs_list PySem.F.slot_list_pop PySem.F.type_list_pop mt_popAt pe_wp (pa_cons pe_wp pa_nil hs1) hbase hfew hline hs1 hplain) (ho W B H σ S s _ fun w B1 H1 e1 g1 => by
    have S1 := S.ext e1
    obtain ⟨_, ob, k1, xs, rfl, k2⟩ := S1.at hk
    have ew : w = .ref l := g1
    subst ew
    refine ⟨.inl ⟨rfl, xs, SqL.of k1⟩, he W B1 H1 σ S1 (s.mono e1.bb) _ fun u B2 H2 e2 g2 => ?_⟩
    have S2 := S1.ext e2
    have eu : u = .int (i : Int) := g2
    subst eu
    have k3 := k2.mono e2.bb
    have hl := k3.len
    obtain ⟨v, h1, h2⟩ := k3.get hP
    have hil : i < xs.length := (List.getElem?_eq_some_iff.mp h1).1
    refine ⟨l, xs, (i : Int), i, v, rfl, rfl, e2.hh _ _ k1, by omega, by omega, by unfold seqIndex?; simp; omega, h1, ?_⟩
    exact q P _ v B2 _ ⟨rfl, rfl⟩ (S2.put hk ⟨_, rfl, k3.erase i⟩) (e1.bb.trans e2.bb) h2)
end
end Yb
namespace Yb
open PySem PySem.Spec PyProof.Rows L2
/-! ### an entry told in less -/
theorem Stb.impE {W : Ws} {Δ Δ' : Del} {B H : Hp} (S : Stb W Δ B H) (hm : Δ'.map (·.1) = Δ.map (·.1)) (h : ∀ x ∈ Δ', ∃ y ∈ Δ, y.1 = x.1 ∧ ∀ h B o, y.2.p h B o → x.2.p h B o) : Stb W Δ' B H :=
  ⟨S.ex, fun x hx => by
    obtain ⟨y, hy, e, i⟩ := h x hx
    obtain ⟨h1, o, h2, h3⟩ := S.mu y hy
    exact ⟨e ▸ h1, o, e ▸ h2, i _ _ _ h3⟩, by rw [hm]; exact S.nd, S.bb, S.hh, S.dm, S.fr, fun x hx => by
    obtain ⟨y, hy, e, _⟩ := h x hx
    exact e ▸ S.ow y hy, S.msd⟩
theorem go_impE {X : Cx} {ms : List Addr} {Γ : Gam} {Δ : Del} {sts : List Stmt} {K : Kk} (n : Nat) {a : Addr} {ob ob' : Ob} (hk : Δ[n]? = some (a, ob)) (hi : ∀ h B o, ob.p h B o → ob'.p h B o) (g : Go X ms Γ (Δ.set n (a, ob')) sts K) : Go X ms Γ Δ sts K := fun W Wi B H σ D hm tk S s ok => by
  refine g W Wi B H σ D hm tk (S.impE ?_ fun x hx => ?_) s ok
  · rw [List.map_set]
    apply List.ext_getElem?
    intro i
    by_cases hi : n = i
    · subst hi
      rw [List.getElem?_set_self (by rw [List.length_map]; exact (List.getElem?_eq_some_iff.mp hk).1), List.getElem?_map, hk]
      rfl
    · rw [List.getElem?_set_ne hi]
  · rcases List.mem_or_eq_of_mem_set hx with z | z
    · exact ⟨x, z, rfl, fun _ _ _ q => q⟩
    · subst z
      exact ⟨(a, ob), List.mem_of_getElem? hk, rfl, hi⟩
theorem imp_MI {C : Addr} {ns : List Str} {ps qs : List Pr} (h : Imps ps qs) : ∀ x B o, (MI C ns ps).p x B o → (MI C ns qs).p x B o := fun _ _ _ ⟨dx, xs, h1, h2⟩ => ⟨dx, xs, h1, h.all h2⟩
theorem sb_MI {C : Addr} {ns : List Str} {qs : List Pr} (hs : Sbs qs) {h B B' : Hp} {o : HO} (e : ∀ a, h a = none → B' a = B a) (q : (MI C ns qs).p h B o) : (MI C ns qs).p h B' o := by
  obtain ⟨dx, xs, h1, h2⟩ := q
  exact ⟨dx, xs, h1, hs.all e h2⟩
theorem sb_ML {qs : List Pr} (hs : Sbs qs) {h B B' : Hp} {o : HO} (e : ∀ a, h a = none → B' a = B a) (q : (ML qs).p h B o) : (ML qs).p h B' o := by
  obtain ⟨xs, h1, h2⟩ := q
  exact ⟨xs, h1, hs.all e h2⟩
end Yb
set_option maxHeartbeats 2000000
namespace Yb
open PySem PySem.Spec PyProof.Rows L2
section
variable {X : Cx} {ms : List Addr} {Γ : Gam} {Δ : Del} {K : Kk} {rest : List Stmt} {e a b c o : Expr} {es : List Expr} {P P' P2 : Pr} {Ps ps qs dps : List Pr} {pos pos' apos p2 : Pos} {x f m : Str} {k : Bool} {j : Nat} {Ke : Pr → Del → Prop} {Kx : Value → Del → Prop}
/-- [e1, e2], both with effects; the list itself stands still -/
theorem em_lst2 {Ke2 : Pr → Del → Pr → Del → Prop} (h1 : EM X ms Γ Δ a Ke Kx) (h2 : ∀ P1 Δ1, Ke P1 Δ1 → EM X ms Γ Δ1 b (Ke2 P1 Δ1) Kx) (hs : starEach [a, b] X.env = (false, eval a X.env) :: starEach [b] X.env := by rfl) (hs2 : starEach [b] X.env = (false, eval b X.env) :: starEach [] X.env := by rfl) :
    EM X ms Γ Δ (.List [a, b] pos) (fun P Δ' => ∃ P1 P2 Δ1, Ke P1 Δ1 ∧ Ke2 P1 Δ1 P2 Δ' ∧ P = N (L [P1, P2])) Kx := fun W Wi B H σ hm tk S s hx Q q =>
  wpE_of (pe_lst (pa_cons pe_wp (pa_cons pe_wp pa_nil hs2) hs)) (h1 W Wi B H σ hm tk S s hx _ fun P1 Δ1 v B1 H1 k1 S1 e1 g1 => h2 P1 Δ1 k1 W Wi B1 H1 σ hm tk S1 (s.mono e1) (fun c Δ' B' H' kx S' e' => hx c Δ' B' H' kx S' (e1.trans e')) _ fun P2 Δ2 u B2 H2 k2 S2 e2 g2 =>
    ⟨by show 2 ≤ sizeLine; decide, fun l hl => by
      have e3 := Ext.new (o := .lst [v, u]) S2.ex hl
      exact q _ Δ2 _ _ _ ⟨P1, P2, Δ1, k1, k2, rfl⟩ (S2.ext e3) ((e1.trans e2).trans e3.bb) ⟨⟨l, [v, u], rfl, upd_same, P1.mono (e2.trans e3.bb) g1, P2.mono e3.bb g2, trivial⟩, S2.frV hl⟩⟩)
/-- a and b, a true, b with effects -/
theorem em_and (ha : EE X Γ Δ a (Bo true)) (hb : EM X ms Γ Δ b Ke Kx) : EM X ms Γ Δ (.BoolOp .And [a, b] pos) Ke Kx := fun W Wi B H σ hm tk S s hx Q q =>
  wpE_of (pe_and pe_wp (pe_one pe_wp)) (ha W B H σ S s _ fun v B1 H1 e1 h1 => ⟨true, h1, hb W Wi B1 H1 σ hm tk (S.ext e1) (s.mono e1.bb) (fun c Δ' B' H' kx S' e' => hx c Δ' B' H' kx S' (e1.bb.trans e')) Q fun P Δ' v B' H' kp S' e' hv => q P Δ' v B' H' kp S' (e1.bb.trans e') hv⟩)
/-- the left without, the right with effects -/
theorem em_cmpR {op : CmpOp} (Rk : Bool → Del → Prop) (ha : EE X Γ Δ a P) (hb : EM X ms Γ Δ b Ke Kx) (hc : ∀ P' Δ', Ke P' Δ' → ∃ k, Cmp X op P P' k ∧ Rk k Δ') (hm : behindInMarks op b = false := by first | exact nomark _ | rfl) :
    EM X ms Γ Δ (.Compare a [op] [b] pos) (fun R Δ' => ∃ k, R = Bo k ∧ Rk k Δ') Kx := fun W Wi B H σ hms tk S s hx Q q => by
  refine wpE_of (pe_cmp pc_wp hm) fun pins st I => ?_
  refine thn (ha W B H σ S s (fun v H1 => ∃ B1, Ext B H B1 H1 ∧ P.p W.H B1 v) (fun v B1 H1 e1 h1 => ⟨B1, e1, h1⟩) pins st I) fun v s1 ⟨x, H1, I1, r1, B1, e1, h1⟩ => ?_
  refine thn (hb W Wi B1 H1 σ hms tk (S.ext e1) (s.mono e1.bb) (fun c Δ' B' H' kx S' e' => hx c Δ' B' H' kx S' (e1.bb.trans e')) (fun y H2 => ∃ P' Δ' B2, Ke P' Δ' ∧ Stb W Δ' B2 H2 ∧ Same B1 B2 ∧ P'.p W.H B2 y) (fun P' Δ' y B2 H2 kp S2 e2 h2 => ⟨P', Δ', B2, kp, S2, e2, h2⟩) pins s1 I1) fun w2 s2 ⟨y, H2, I2, r2, P', Δ', B2, kp, S2, e2, h2⟩ => ?_
  obtain ⟨k, ⟨r0, ho, hr⟩, rk⟩ := hc P' Δ' kp
  exact ho pins s2 σ H2 x y v w2 Q I2 r1 r2 (hr W.H x y B2 H2 S2.ex (P.mono e2 h1) h2 Q (q (Bo k) Δ' _ B2 H2 ⟨k, rfl, rk⟩ S2 (e1.bb.trans e2) rfl))
end
end Yb
namespace Yb
theorem perm_mid {α : Type} (A B C D : List α) : (A ++ (B ++ (C ++ D))).Perm (A ++ (C ++ (B ++ D))) := by
  refine List.Perm.append_left A ?_
  rw [← List.append_assoc, ← List.append_assoc]
  exact List.Perm.append_right D List.perm_append_comm
end Yb
set_option maxHeartbeats 2000000
namespace Yb
open PySem PySem.Spec PyProof.Rows L2
theorem br_T {Δ : Del} {ps qs : List Pr} (h : Brs Δ ps qs) : Br Δ (T ps) (T qs) := ⟨fun B H Bp v e hm e2 hb ⟨a, xs, h1, h2, h3⟩ => ⟨a, xs, h1, e2 _ _ h2, h.all e hm e2 hb h3⟩⟩
theorem br_NX {Δ : Del} {P Q : Pr} (h : Br Δ P Q) : Br Δ (N P) Q := ⟨fun B H Bp v e hm e2 hb q => h.ok B H Bp v e hm e2 hb q.1⟩
theorem sb_NI {C : Addr} {ns : List Str} {ps : List Pr} (h : Sbs ps) : Sb (N (Iv C ns ps)) := fun _ _ _ _ e ⟨⟨a, dx, xs, h1, h2, h3⟩, n⟩ => ⟨⟨a, dx, xs, h1, (e a (n a h1)).trans h2, h.all e h3⟩, n⟩
section
variable {X : Cx} {ms : List Addr} {Γ : Gam} {Δ : Del} {K : Kk} {rest : List Stmt} {e a b o : Expr} {es : List Expr} {P P' Pa : Pr} {Ps ps qs dps : List Pr} {pos pos' apos p2 : Pos} {x f m : Str} {C : Cn → Prop} {k j : Nat}
theorem ee_lenT {px : Pos} (ha : EE X Γ Δ a (T ps)) (hg : Gl X "len") (hm : X.mg "len" = none) (hs : starEach [a] X.env = (false, eval a X.env) :: starEach [] X.env := by rfl) : EE X Γ Δ (.Call (.Name "len" px) [a] [] pos) (I (ps.length : Int)) := fun W B H σ S s Q q =>
  wpE_of (pe_callB call_len_seq hg hm PySem.boot_len (pa_cons pe_wp pa_nil hs) (he := hs)) (ha W B H σ S s _ fun v B1 H1 e1 ⟨l, xs, h0, h1, h2⟩ => ⟨l, xs, by rw [h0], .inr (SqT.of (e1.bh _ _ h1)), by
    rw [← h2.len]
    exact q _ B1 H1 e1 rfl⟩)
/-- a call whose answer is a new tuple of a plain value and a new list of plain values: the list may change -/
theorem em_callU {Kx : Value → Del → Prop} (j : CJ X Γ Δ e C (fun _ => E0) Ps) (c : Cn) (hc : C c) (hp : Brs Δ Ps c.ps) (ha : Sc Pa) (hsc : Scs ps) (hΔ : c.Δ = [] := by rfl) (ho : ∀ P' Δ', c.out P' Δ' → P' = N (T [Pa, N (L ps)]) := by exact fun _ _ q => q.1) (hx : ∀ v Δ', c.exc v Δ' → False := by exact fun _ _ q => q) :
    EM X ms Γ Δ e (fun P' Δ' => ∃ l, l ∉ ms ∧ P' = N (T [Pa, Ref l]) ∧ Δ' = Δ ++ [(l, ML ps)]) Kx := fun W Wi B H σ hm tk S s hx0 Q q =>
  j W B H σ S s Q fun vs B1 H1 e1 h1 => by
    have S1 := S.ext e1
    obtain ⟨Bp, g1, g2, g3, g4⟩ := borrow S1
    have hm' : ∀ e ∈ Δ, ∃ o, H1 e.1 = some o ∧ e.2.p h0 B1 o := fun x hx => by
      obtain ⟨_, o, h2, h3⟩ := S1.mu x hx
      exact ⟨o, h2, x.2.anti (fun a z => absurd rfl z) h3⟩
    refine ⟨c, Bp, hc, g2, Brs.all e1.bh hm' g1 g3 hp (all_h0 h1), by rw [hΔ]; exact fun _ z => (List.not_mem_nil z).elim, by rw [hΔ]; exact List.nodup_nil, fun P' Δ' B' H' v o S' hv => ?_, fun x Δ' B' H' o _ => (hx x Δ' o).elim⟩
    rw [hΔ] at S'
    have e2 := Stb.pure S'
    obtain rfl := ho P' Δ' o
    obtain ⟨⟨t, xs, rfl, k1, k2⟩, k3⟩ := hv
    obtain ⟨u, w, rfl, m1, ⟨l, ys, rfl, m2, m3⟩, m4⟩ := k2.two
    have ht : H1 t = none := k3 t rfl
    have hl : H1 l = none := m4 l rfl
    have hne : l ≠ t := fun z => by rw [z, k1] at m2; cases m2
    have b1t : B1 t = none := e1.bh.free ht
    have b1l : B1 l = none := e1.bh.free hl
    have e3 : Ext B1 H1 (upd B1 t (.tup [u, .ref l])) H' := ⟨same_new b1t, e2.hh, fun a o h => by
        by_cases z : a = t
        · rw [z, upd_same] at h
          rw [z, ← h]
          exact e2.bh _ _ k1
        · rw [upd_ne z] at h
          exact e2.hh _ _ (e1.bh _ _ h), fun a h n => by
        have z : a ≠ t := fun z => n (by rw [z]; exact ht)
        rw [upd_ne z]; exact h⟩
    obtain ⟨n1, S2⟩ := mu_N (ps := ps) (l := l) (xs := ys) S1 e3 (e2.bh _ _ m2) (by rw [upd_ne hne]; exact b1l) hl (hsc.all m3)
    exact q _ _ (.ref t) _ H' ⟨l, hm ▸ n1, rfl, rfl⟩ S2 (e1.bb.trans e3.bb) ⟨⟨t, _, rfl, upd_same, ha _ _ _ _ _ m1, rfl, trivial⟩, S1.frV ht⟩
/-- a call that reads what may change and makes new entries -/
theorem em_callN {Kx : Value → Del → Prop} (j : CJ X Γ Δ e C (fun _ => E0) Ps) (c : Cn) (hc : C c) (hp : Brs Δ Ps c.ps) (hsb : ∀ P D, c.out P D → Sb P) (hsb2 : ∀ P D, c.out P D → ∀ z ∈ D, ∀ h B B' o, (∀ a, h a = none → B' a = B a) → z.2.p h B o → z.2.p h B' o)
    (hΔ : c.Δ = [] := by rfl) (hx : ∀ v Δ', c.exc v Δ' → False := by exact fun _ _ q => q) :
    EM X ms Γ Δ e (fun P' Δ' => ∃ D, c.out P' D ∧ Δ' = D ++ Δ ∧ ∀ z ∈ D, z.1 ∉ ms) Kx := fun W Wi B H σ hm tk S s hx0 Q q =>
  j W B H σ S s Q fun vs B1 H1 e1 h1 => by
    have S1 := S.ext e1
    obtain ⟨Bp, g1, g2, g3, g4⟩ := borrow S1
    have hm' : ∀ e ∈ Δ, ∃ o, H1 e.1 = some o ∧ e.2.p h0 B1 o := fun x hx => by
      obtain ⟨_, o, h2, h3⟩ := S1.mu x hx
      exact ⟨o, h2, x.2.anti (fun a z => absurd rfl z) h3⟩
    have inn : ∀ a, a ∈ Δ.map (·.1) → B1 a = none ∧ H1 a ≠ none := fun a h => by
      obtain ⟨x, hx, rfl⟩ := List.mem_map.mp h
      obtain ⟨h1, o, h2, _⟩ := S1.mu x hx
      exact ⟨h1, by rw [h2]; intro z; cases z⟩
    refine ⟨c, Bp, hc, g2, Brs.all e1.bh hm' g1 g3 hp (all_h0 h1), by rw [hΔ]; exact fun _ z => (List.not_mem_nil z).elim, by rw [hΔ]; exact List.nodup_nil, fun P' D B' H' v o S' hv => ?_, fun x Δ' B' H' o _ => (hx x Δ' o).elim⟩
    rw [hΔ] at S'
    let B2 : Hp := fun a => if a ∈ Δ.map (·.1) then none else B' a
    have b2i : ∀ a, a ∈ Δ.map (·.1) → B2 a = none := fun a h => if_pos h
    have b2o : ∀ a, a ∉ Δ.map (·.1) → B2 a = B' a := fun a h => if_neg h
    have newE : ∀ z ∈ D, H1 z.1 = none := fun z hz => by
      rcases S'.ow z hz with w1 | w1
      · exact absurd w1 List.not_mem_nil
      · exact w1
    have nin : ∀ z ∈ D, z.1 ∉ Δ.map (·.1) := fun z hz q => (inn _ q).2 (newE z hz)
    have bn : ∀ a, H1 a = none → B2 a = B' a := fun a h => b2o a fun z => (inn a z).2 h
    have hkeep : ∀ a o, H1 a = some o → H' a = some o := fun a o h => S'.hh a o h List.not_mem_nil
    have S5 : Stb W (D ++ Δ) B2 H' := by
      refine ⟨fun a o h => ?_, fun x hx => ?_, ?_, fun a o h => ?_, fun a o h n => hkeep a o (S1.hh a o h n), fun a h z => S1.dm a h (by
          cases e : H1 a with
          | none => rfl
          | some o => rw [hkeep a o e] at z; cases z), fun a h n => ?_, fun x hx => ?_, S1.msd⟩
      · by_cases z : a ∈ Δ.map (·.1)
        · rw [b2i a z] at h; cases h
        · rw [b2o a z] at h; exact S'.ex a o h
      · rcases List.mem_append.mp hx with hx | hx
        · obtain ⟨k1, u, k2, k3⟩ := S'.mu x hx
          exact ⟨by rw [b2o _ (nin x hx)]; exact k1, u, k2, x.2.anti (fun a h => S1.dm a h) (hsb2 P' D o x hx _ B' B2 u bn k3)⟩
        · obtain ⟨k1, u, k2, k3⟩ := S1.mu x hx
          refine ⟨b2i _ (List.mem_map_of_mem hx), u, hkeep _ _ k2, x.2.mono (fun a o h => ?_) k3⟩
          have na : a ∉ Δ.map (·.1) := fun z => by rw [(inn a z).1] at h; cases h
          rw [b2o a na]
          exact S'.bb a o (g1 a o h)
      · rw [List.map_append]
        refine List.nodup_append.mpr ⟨S'.nd, S1.nd, fun a ha b hb e => ?_⟩
        obtain ⟨x, hx, rfl⟩ := List.mem_map.mp ha
        exact nin x hx (e ▸ hb)
      · have na : a ∉ Δ.map (·.1) := fun z => by
          have := S1.bb a o h
          rw [(inn a z).1] at this; cases this
        rw [b2o a na]
        exact S'.bb a o (g1 a o (S1.bb a o h))
      · by_cases z : a ∈ Δ.map (·.1)
        · exact b2i a z
        · rw [b2o a z]
          exact S'.fr a ((g4 a z).trans (S1.fr a h n)) (S1.dm a n)
      · rcases List.mem_append.mp hx with hx | hx
        · exact .inr (S1.fresh (newE x hx))
        · exact S1.ow x hx
    have sm : Same B B2 := fun a o h => by
      have na : a ∉ Δ.map (·.1) := fun z => by
        have := e1.bb a o h
        rw [(inn a z).1] at this; cases this
      rw [b2o a na]
      exact S'.bb a o (g1 a o (e1.bb a o h))
    have nms : ∀ z ∈ D, z.1 ∉ ms := fun z hz q => S1.msd z.1 (hm ▸ q) (S1.fresh (newE z hz))
    exact q P' _ v B2 H' ⟨D, o, rfl, nms⟩ S5 sm (P'.anti (fun a h => S1.dm a h) (hsb P' D o _ B' _ _ bn hv))
end
end Yb
set_option maxHeartbeats 2000000
open PySem PySem.Spec PyProof.Rows L2
namespace Yb
variable {X : Cx} {ms : List Addr} {Γ : Gam} {Δ : Del} {o e : Expr} {apos pos : Pos} {rest : List Stmt}
theorem ee_join {s : Str} {ys : List Str} (ho : EE X Γ Δ o (Sx s)) (he : ES X Γ Δ e (ys.map Sx)) (hz : (ys.map (·.length)).sum + ys.length * s.length ≤ 16777216) (hs : starEach [e] X.env = [(false, eval e X.env)] := by rfl) (hbase : attributeBase o "join" X.env (eval o X.env) = eval o X.env := by rfl) (hline : (apos.endLine == pos.line) = true := by rfl) :
    EE X Γ Δ (.Call (.Attribute o "join" apos) [e] [] pos) (Sx (Str.join s ys)) := fun W B H σ S st Q q =>
  wpE_of (pe_join pe_wp pe_wp hs hbase hline) (ho W B H σ S st _ fun v B1 H1 e1 h1 => ⟨⟨s, h1⟩, he W B1 H1 σ (S.ext e1) (st.mono e1.bb) _ fun l xs B2 H2 e2 h2 h3 =>
    ⟨s, l, ys, h1, rfl, .inl (by rw [← all_strs h3]; exact h2), hz, q _ B2 H2 (e1.trans e2) (by rw [TL.join_eq]; rfl)⟩⟩)
theorem en_split {s t : Str} (ho : EE X Γ Δ o (Sx s)) (he : EE X Γ Δ e (Sx t)) (ht : (t.length == 0) = false) (hz : s.length + 2 ≤ sizeLine) (hs : starEach [e] X.env = [(false, eval e X.env)] := by rfl) (hbase : attributeBase o "split" X.env (eval o X.env) = eval o X.env := by rfl) (hline : (apos.endLine == pos.line) = true := by rfl) :
    EN X Γ Δ (.Call (.Attribute o "split" apos) [e] [] pos) ((Txt.split s t).map Sx) := fun W B H σ S st Q q =>
  wpE_of (pe_split pe_wp pe_wp hs hbase hline) (ho W B H σ S st _ fun v B1 H1 e1 h1 => ⟨⟨s, h1⟩, he W B1 H1 σ (S.ext e1) (st.mono e1.bb) _ fun u B2 H2 e2 h2 =>
    ⟨s, t, h1, by rw [show u = .str t from h2], ht, hz, en_fin (e1.trans e2) (strs_all _) q⟩⟩)
end Yb
set_option maxHeartbeats 2000000
open PySem PySem.Spec PyProof.Rows L2
namespace Yb
variable {X : Cx} {ms : List Addr} {Γ : Gam} {Δ : Del} {o e a b : Expr} {apos pos p2 : Pos} {rest : List Stmt}
theorem ee_slS {z : Str} {lo hi : Option Expr} {i j : Option Int} (ha : EE X Γ Δ a (Sx z)) (hl : EO X Γ Δ lo i) (hh : EO X Γ Δ hi j) (hz : z.length ≤ sizeLine) : EE X Γ Δ (.Subscript a (.Slice lo hi none p2) pos) (Sx (cutS z i j)) := fun W B H σ S s Q q =>
  wpE_of (pe_slice sl_str pe_wp po_wp po_wp) (ha W B H σ S s _ fun v B1 H1 e1 h1 => hl W B1 H1 σ (S.ext e1) (s.mono e1.bb) _ fun B2 H2 e2 => hh W B2 H2 σ ((S.ext e1).ext e2) ((s.mono e1.bb).mono e2.bb) _ fun B3 H3 e3 =>
    ⟨z, h1, hz, q _ B3 H3 ((e1.trans e2).trans e3) rfl⟩)
theorem et_inSp {z : Str} (ha : EE X Γ Δ a (Sx " ")) (hb : EE X Γ Δ b (Sx z)) (hm : behindInMarks .In b = false := by rfl) : ET X Γ Δ (.Compare a [.In] [b] pos) (decide (32 ∈ TL.tl z)) := fun W B H σ S s Q q =>
  wpT_of (pt_cmpR op_in_sign pe_wp pe_wp hm) (ha W B H σ S s _ fun v B1 H1 e1 h1 => hb W B1 H1 σ (S.ext e1) (s.mono e1.bb) _ fun u B2 H2 e2 h2 => ⟨32, z, (show v = .str (Str.ofString " ") from h1).trans (by rw [show (Str.ofString " ") = ⟨#[32]⟩ from by decide +kernel]), h2, ⟨_, rfl, q B2 H2 (e1.trans e2)⟩⟩)
theorem ee_find {s t : Str} (ho : EE X Γ Δ o (Sx s)) (he : EE X Γ Δ e (Sx t)) (hs : starEach [e] X.env = [(false, eval e X.env)] := by rfl) (hbase : attributeBase o "find" X.env (eval o X.env) = eval o X.env := by rfl) (hline : (apos.endLine == pos.line) = true := by rfl) :
    EE X Γ Δ (.Call (.Attribute o "find" apos) [e] [] pos) (I (Txt.find s t)) := fun W B H σ S st Q q =>
  wpE_of (pe_m1 F.slot_str_find F.type_str_find mt_find pe_wp pe_wp hs hbase hline) (ho W B H σ S st _ fun v B1 H1 e1 h1 => ⟨⟨s, h1⟩, he W B1 H1 σ (S.ext e1) (st.mono e1.bb) _ fun u B2 H2 e2 h2 =>
    ⟨s, t, h1, by rw [show u = .str t from h2], q _ B2 H2 (e1.trans e2) rfl⟩⟩)
theorem ee_upper {s : Str} (ho : EE X Γ Δ o (Sx s)) (hz : s.length ≤ 5592405) (hbase : attributeBase o "upper" X.env (eval o X.env) = eval o X.env := by rfl) (hline : (apos.endLine == pos.line) = true := by rfl) :
    EE X Γ Δ (.Call (.Attribute o "upper" apos) [] [] pos) (Sx (Txt.upper s)) := fun W B H σ S st Q q =>
  wpE_of (pe_upper pe_wp hbase hline) (ho W B H σ S st _ fun v B1 H1 e1 h1 => ⟨⟨s, h1⟩, s, h1, rfl, hz, q _ B1 H1 e1 rfl⟩)
end Yb
set_option maxHeartbeats 4000000
namespace Lp
open PySem PySem.Spec PyProof.Rows L2 Yb
def top (i : Nat) : Stmt := PySem.Challenge.pw_lampyard_k17_unread.main.body.getD i (.Pass ⟨0, 0, 0, 0⟩)
abbrev nOthers : List Str := ["Alone", "NoLamp", "NoYard", "NoPress", "Shy", "Tied", "TooMany", "Untied"]
abbrev yMost : Str := "MOST_yard"
abbrev s_Yard_init : Stmt := inClass (top 14) 0
theorem sc_Yard_init : FnScope ["self", "many", "k"] ["self", "many"] (defScope s_Yard_init) := ⟨rfl, rfl, rfl, by decide +kernel, rfl, by decide +kernel, by decide +kernel⟩
abbrev s_Yard_ask : Stmt := inClass (top 14) 1
theorem sc_Yard_ask : FnScope ["self", "lamp"] ["self", "lamp"] (defScope s_Yard_ask) := ⟨rfl, rfl, rfl, by decide +kernel, rfl, by decide +kernel, by decide +kernel⟩
abbrev s_Yard_ask_two : Stmt := inClass (top 14) 2
theorem sc_Yard_ask_two : FnScope ["self", "one", "other"] ["self", "one", "other"] (defScope s_Yard_ask_two) := ⟨rfl, rfl, rfl, by decide +kernel, rfl, by decide +kernel, by decide +kernel⟩
abbrev s_Yard_is_tied : Stmt := inClass (top 14) 3
theorem sc_Yard_is_tied : FnScope ["self", "one", "other"] ["self", "one", "other"] (defScope s_Yard_is_tied) := ⟨rfl, rfl, rfl, by decide +kernel, rfl, by decide +kernel, by decide +kernel⟩
abbrev s_Yard_tie : Stmt := inClass (top 14) 4
theorem sc_Yard_tie : FnScope ["self", "one", "other"] ["self", "one", "other"] (defScope s_Yard_tie) := ⟨rfl, rfl, rfl, by decide +kernel, rfl, by decide +kernel, by decide +kernel⟩
abbrev s_Yard_set_shy : Stmt := inClass (top 14) 6
theorem sc_Yard_set_shy : FnScope ["self", "lamp", "answer"] ["self", "lamp", "answer"] (defScope s_Yard_set_shy) := ⟨rfl, rfl, rfl, by decide +kernel, rfl, by decide +kernel, by decide +kernel⟩
abbrev s_number_of : Stmt := top 17
theorem sc_number_of : FnScope ["word", "lamp", "other"] ["word", "lamp"] (defScope s_number_of) := ⟨rfl, rfl, rfl, by decide +kernel, rfl, by decide +kernel, by decide +kernel⟩
abbrev s_read_lamp : Stmt := top 18
theorem sc_read_lamp : FnScope ["yard", "lamp", "line", "words", "last", "word", "other"] ["yard", "lamp", "line"] (defScope s_read_lamp) := ⟨rfl, rfl, rfl, by decide +kernel, rfl, by decide +kernel, by decide +kernel⟩
abbrev s_read : Stmt := top 19
theorem sc_read : FnScope ["text", "lines", "yard", "lamp"] ["text"] (defScope s_read) := ⟨rfl, rfl, rfl, by decide +kernel, rfl, by decide +kernel, by decide +kernel⟩
abbrev s__law_cell_at : Stmt := top 21
theorem sc__law_cell_at : FnScope ["script", "k"] ["script", "k"] (defScope s__law_cell_at) := ⟨rfl, rfl, rfl, by decide +kernel, rfl, by decide +kernel, by decide +kernel⟩
abbrev s__law_mix : Stmt := top 22
theorem sc__law_mix : FnScope ["cell", "k", "seed"] ["cell", "k"] (defScope s__law_mix) := ⟨rfl, rfl, rfl, by decide +kernel, rfl, by decide +kernel, by decide +kernel⟩
abbrev s__law_many : Stmt := top 23
theorem sc__law_many : FnScope ["cell"] ["cell"] (defScope s__law_many) := ⟨rfl, rfl, rfl, by decide +kernel, rfl, by decide +kernel, by decide +kernel⟩
abbrev s__law_drawn : Stmt := top 24
theorem sc__law_drawn : FnScope ["script", "many", "much", "ties", "other", "one", "drawn", "shy", "k"] ["script"] (defScope s__law_drawn) := ⟨rfl, rfl, rfl, by decide +kernel, rfl, by decide +kernel, by decide +kernel⟩
abbrev s__law_text : Stmt := top 25
theorem sc__law_text : FnScope ["many", "ties", "shy", "found", "lamp", "line", "other"] ["many", "ties", "shy"] (defScope s__law_text) := ⟨rfl, rfl, rfl, by decide +kernel, rfl, by decide +kernel, by decide +kernel⟩
abbrev s__law_others : Stmt := top 26
theorem sc__law_others : FnScope ["e", "kinds"] ["e"] (defScope s__law_others) := ⟨rfl, rfl, rfl, by decide +kernel, rfl, by decide +kernel, by decide +kernel⟩
abbrev s__law_refused : Stmt := top 27
theorem sc__law_refused : FnScope ["text", "turn", "e"] ["text"] (defScope s__law_refused) := ⟨rfl, rfl, rfl, by decide +kernel, rfl, by decide +kernel, by decide +kernel⟩
abbrev s__law_bad_line : Stmt := top 28
theorem sc__law_bad_line : FnScope ["line", "at", "fault", "cell"] ["line", "at", "fault", "cell"] (defScope s__law_bad_line) := ⟨rfl, rfl, rfl, by decide +kernel, rfl, by decide +kernel, by decide +kernel⟩
abbrev s_law : Stmt := top 29
theorem sc_law : FnScope ["script", "many", "ties", "shy", "rows", "text", "cell", "fault", "at", "bad", "k"] ["script"] (defScope s_law) := ⟨rfl, rfl, rfl, by decide +kernel, rfl, by decide +kernel, by decide +kernel⟩
/-! ### the yard -/
abbrev yns : List Str := ["many", "ties", "hides"]
/-- what the top has left: built-ins' names free, the yard's class, the errors -/
structure Bl (mg : Str → Option Value) : Prop where
  len : mg "len" = none
  list : mg "list" = none
  range : mg "range" = none
  min : mg "min" = none
  max : mg "max" = none
  str : mg "str" = none
  int : mg "int" = none
  bool : mg "bool" = none
  tuple : mg "tuple" = none
  all : mg "all" = none
  any : mg "any" = none
  sorted : mg "sorted" = none
  isi : mg "isinstance" = none
  rev : mg "reversed" = none
  ve : mg "ValueError" = none
structure Yt (K : PySem.W.Frag) (mg : Str → Option Value) (CY cNY cNL cAl cTi cUn : Addr) : Prop where
  cl : Cls K CY
  nm : NoAttr K CY "many"
  nt : NoAttr K CY "ties"
  nh : NoAttr K CY "hides"
  most : ∃ t, mg yMost = some (.int 24 t)
  ny : ExcT K mg "NoYard" cNY
  nl : ExcT K mg "NoLamp" cNL
  al : ExcT K mg "Alone" cAl
  ti : ExcT K mg "Tied" cTi
  un : ExcT K mg "Untied" cUn
/-- a number that is a lamp's -/
def okL (n lamp : Int) : Prop := 0 ≤ lamp ∧ lamp < n
def pair (i j : Int) : Int × Int := (if j < i then j else i, if j > i then j else i)
def c_ask (CY cNL : Addr) (n lamp : Int) (q r : Pr) : Cn := ⟨[Iv CY yns [I n, q, r], I lamp], fun P _ => P = No ∧ okL n lamp, [], fun v _ => v = .ref cNL ∧ ¬ okL n lamp⟩
def C_ask (CY cNL : Addr) : Cn → Prop := fun c => ∃ (n lamp : Int) (q r : Pr), Hi q ∧ Hi r ∧ c = c_ask CY cNL n lamp q r
def exc2 (cNL cAl : Addr) (n i j : Int) (v : Value) : Prop := (v = .ref cNL ∧ ¬ (okL n i ∧ okL n j)) ∨ (v = .ref cAl ∧ (okL n i ∧ okL n j) ∧ i = j)
def ok2 (n i j : Int) : Prop := (okL n i ∧ okL n j) ∧ i ≠ j
def c_two (CY cNL cAl : Addr) (n i j : Int) (q r : Pr) : Cn := ⟨[Iv CY yns [I n, q, r], I i, I j], fun P _ => P = No ∧ ok2 n i j, [], fun v _ => exc2 cNL cAl n i j v⟩
def C_two (CY cNL cAl : Addr) : Cn → Prop := fun c => ∃ (n i j : Int) (q r : Pr), Hi q ∧ Hi r ∧ c = c_two CY cNL cAl n i j q r
def c_istied (CY cNL cAl : Addr) (n i j : Int) (ks : List (Int × Int)) (r : Pr) : Cn := ⟨[Iv CY yns [I n, DTv ks, r], I i, I j], fun P _ => P = Bo (decide (pair i j ∈ ks)) ∧ ok2 n i j, [], fun v _ => exc2 cNL cAl n i j v⟩
def C_istied (CY cNL cAl : Addr) : Cn → Prop := fun c => ∃ (n i j : Int) (ks : List (Int × Int)) (r : Pr), Hi r ∧ c = c_istied CY cNL cAl n i j ks r
def c_tie (CY cNL cAl cTi : Addr) (n i j : Int) (ks : List (Int × Int)) (d : Addr) (r : Pr) : Cn := ⟨[Iv CY yns [I n, Ref d, r], I i, I j], fun P D => P = No ∧ ok2 n i j ∧ ¬ pair i j ∈ ks ∧ D = [(d, MT (ks ++ [pair i j]))], [(d, MT ks)],
  fun v D => (exc2 cNL cAl n i j v ∨ (v = .ref cTi ∧ ok2 n i j ∧ pair i j ∈ ks)) ∧ D = [(d, MT ks)]⟩
def C_tie (CY cNL cAl cTi : Addr) : Cn → Prop := fun c => ∃ (n i j : Int) (ks : List (Int × Int)) (d : Addr) (r : Pr), Hi r ∧ ks.length < 5000 ∧ c = c_tie CY cNL cAl cTi n i j ks d r
def c_untie (CY cNL cAl cUn : Addr) (n i j : Int) (ks : List (Int × Int)) (d : Addr) (r : Pr) : Cn := ⟨[Iv CY yns [I n, Ref d, r], I i, I j], fun P D => P = No ∧ ok2 n i j ∧ pair i j ∈ ks ∧ D = [(d, MT (ks.filter fun q => decide (q ≠ pair i j)))], [(d, MT ks)],
  fun v D => (exc2 cNL cAl n i j v ∨ (v = .ref cUn ∧ ok2 n i j ∧ ¬ pair i j ∈ ks)) ∧ D = [(d, MT ks)]⟩
def C_untie (CY cNL cAl cUn : Addr) : Cn → Prop := fun c => ∃ (n i j : Int) (ks : List (Int × Int)) (d : Addr) (r : Pr), Hi r ∧ c = c_untie CY cNL cAl cUn n i j ks d r
def c_setshy (CY cNL : Addr) (lamp : Int) (t : Bool) (hs : List Bool) (l : Addr) (q : Pr) : Cn := ⟨[Iv CY yns [I (hs.length : Int), q, Ref l], I lamp, Bo t], fun P D => P = No ∧ okL (hs.length : Int) lamp ∧ D = [(l, ML ((hs.set lamp.toNat t).map Bo))], [(l, ML (hs.map Bo))],
  fun v D => (v = .ref cNL ∧ ¬ okL (hs.length : Int) lamp) ∧ D = [(l, ML (hs.map Bo))]⟩
def C_setshy (CY cNL : Addr) : Cn → Prop := fun c => ∃ (lamp : Int) (t : Bool) (hs : List Bool) (l : Addr) (q : Pr), Hi q ∧ c = c_setshy CY cNL lamp t hs l q
def c_isshy (CY cNL : Addr) (lamp : Int) (hs : List Bool) (q : Pr) : Cn := ⟨[Iv CY yns [I (hs.length : Int), q, L (hs.map Bo)], I lamp], fun P _ => okL (hs.length : Int) lamp ∧ P = Bo (hs.getD lamp.toNat false), [], fun v _ => v = .ref cNL ∧ ¬ okL (hs.length : Int) lamp⟩
def C_isshy (CY cNL : Addr) : Cn → Prop := fun c => ∃ (lamp : Int) (hs : List Bool) (q : Pr), Hi q ∧ c = c_isshy CY cNL lamp hs q
/-- what a button turns -/
def hit (hs : List Bool) (ks : List (Int × Int)) (lamp o : Nat) : Bool := if o = lamp then !hs.getD lamp false else decide (pair (lamp : Int) (o : Int) ∈ ks)
def trn (hs : List Bool) (ks : List (Int × Int)) (lamp : Nat) : List Nat := (List.range hs.length).filter (hit hs ks lamp)
/-- a lamp -/
def In (k : Nat) : Pr := I (k : Int)
def c_turns (CY cNL : Addr) (lamp : Int) (hs : List Bool) (ks : List (Int × Int)) : Cn := ⟨[Iv CY yns [I (hs.length : Int), DTv ks, L (hs.map Bo)], I lamp], fun P _ => okL (hs.length : Int) lamp ∧ P = N (L ((trn hs ks lamp.toNat).map In)), [], fun v _ => v = .ref cNL ∧ ¬ okL (hs.length : Int) lamp⟩
def C_turns (CY cNL : Addr) : Cn → Prop := fun c => ∃ (lamp : Int) (hs : List Bool) (ks : List (Int × Int)), hs.length ≤ 24 ∧ c = c_turns CY cNL lamp hs ks
def c_init (CY cNY : Addr) (n : Int) (x : Addr) : Cn := ⟨[Ref x, I n], fun P D => (1 ≤ n ∧ n ≤ 24) ∧ P = No ∧ ∃ d l, D = [(x, MI CY yns [I n, Ref d, Ref l]), (d, MT []), (l, ML ((List.replicate n.toNat false).map Bo))], [(x, MI CY [] [])],
  fun v D => (¬ (1 ≤ n ∧ n ≤ 24) ∧ v = .ref cNY) ∧ D = [(x, MI CY [] [])]⟩
def C_init (CY cNY : Addr) : Cn → Prop := fun c => ∃ (n : Int) (x : Addr), c = c_init CY cNY n x
theorem ixN_ok {n : Nat} {i : Int} (h : okL (n : Int) i) : ixN n i = some i.toNat := by
  unfold ixN
  rw [if_pos h.1, if_pos h.2]
theorem atI_map {α : Type} {R : α → Pr} {l : List α} {i : Int} (d : α) (h : okL (l.length : Int) i) : atI (l.map R) i = some (R (l.getD i.toNat d)) := by
  unfold atI
  rw [List.length_map, ixN_ok h]
  have hi : i.toNat < l.length := by unfold okL at h; omega
  show (l.map R)[i.toNat]? = _
  rw [List.getElem?_map, List.getD_eq_getElem?_getD, List.getElem?_eq_getElem hi]
  rfl
theorem filt_true {α : Type} (l : List α) : l.filter (fun _ => true) = l := List.filter_eq_self.mpr fun _ _ => rfl
section
variable {P : Program} {w : World} {K : PySem.W.Frag} {mg : Str → Option Value} {base : Heap} {CY cNY cNL cAl cTi cUn : Addr}
theorem ok_ask {f : Addr} {fd : FuncData} (F : Fu K "ask" "Yard.ask" s_Yard_ask f fd) (T : Yt K mg CY cNY cNL cAl cTi cUn) : FnOk P w K mg base (L2N.CX P w) 1 f fd ["self", "lamp"] (spC (C_ask CY cNL)) := by
  refine fn_go F sc_Yard_ask (fun c ⟨n, lamp, q, r, hq, hr, e⟩ => by subst e; exact ⟨rfl, ⟨hi_Iv ⟨hi_I, hq, hr, trivial⟩, hi_I, trivial⟩, trivial⟩) fun c ⟨n, lamp, q, r, hq, hr, e⟩ cdv A outer s H E hr => ?_
  subst e
  refine go_if (et_not (et_chain op_le op_lt ee_int (ee_var 1 rfl) fun _ => ee_fld (ee_var 0 rfl) T.cl T.nm 0 rfl rfl)) (fun h => go_raise T.nl ⟨rfl, ?_⟩) (fun h => go_nil (go_nil ⟨rfl, ?_⟩))
  · simp at h; unfold okL; omega
  · simp at h; unfold okL; omega
end
section
variable {P : Program} {w : World} {K : PySem.W.Frag} {mg : Str → Option Value} {base : Heap} {CY cNY cNL cAl cTi cUn : Addr}
theorem ok_two {f : Addr} {fd : FuncData} (F : Fu K "ask_two" "Yard.ask_two" s_Yard_ask_two f fd) (T : Yt K mg CY cNY cNL cAl cTi cUn) (M : Mtc P w K mg base CY "ask" (C_ask CY cNL) 1 []) : FnOk P w K mg base (L2N.CX P w) 2 f fd ["self", "one", "other"] (spC (C_two CY cNL cAl)) := by
  refine fn_go F sc_Yard_ask_two (fun c ⟨n, i, j, q, r, hq, hr, e⟩ => by subst e; exact ⟨rfl, ⟨hi_Iv ⟨hi_I, hq, hr, trivial⟩, hi_I, hi_I, trivial⟩, trivial⟩) fun c ⟨n, i, j, q, r, hq, hr', e⟩ cdv A outer s H E hr => ?_
  subst e
  refine go_exprM (em_call (cj_methX M hr (by decide) (ee_var 0 rfl) (rcv_I rfl) (ea_cons (ee_var 1 rfl) ea_nil)) (c_ask CY cNL n i q r) ⟨n, i, q, r, hq, hr', rfl⟩ (.refl _)) (fun v Δ' ⟨Δc, ⟨h1, h2⟩, h3⟩ => .inl ⟨h1, fun z => h2 z.1⟩) fun P1 Δ1 ⟨Δc, ⟨h1, h2⟩, h3⟩ => ?_
  refine go_exprM (em_call (cj_methX M hr (by decide) (ee_var 0 rfl) (rcv_I rfl) (ea_cons (ee_var 2 rfl) ea_nil)) (c_ask CY cNL n j q r) ⟨n, j, q, r, hq, hr', rfl⟩ (.refl _)) (fun v Δ' ⟨Δc, ⟨g1, g2⟩, g3⟩ => .inl ⟨g1, fun z => g2 z.2⟩) fun P2 Δ2 ⟨Δc', ⟨g1, g2⟩, g3⟩ => ?_
  refine go_if (et_cmp cmp_eq (ee_var 1 rfl) (ee_var 2 rfl)) (fun h => go_raise T.al (.inr ⟨rfl, ⟨h2, g2⟩, by simpa using h⟩)) (fun h => go_nil (go_nil ⟨rfl, ⟨h2, g2⟩, by simpa using h⟩))
end
section
variable {P : Program} {w : World} {K : PySem.W.Frag} {mg : Str → Option Value} {base : Heap} {CY cNY cNL cAl cTi cUn : Addr}
theorem ok_istied {f : Addr} {fd : FuncData} (F : Fu K "is_tied" "Yard.is_tied" s_Yard_is_tied f fd) (T : Yt K mg CY cNY cNL cAl cTi cUn) (b : Bl mg) (M : Mtc P w K mg base CY "ask_two" (C_two CY cNL cAl) 2 []) : FnOk P w K mg base (L2N.CX P w) 3 f fd ["self", "one", "other"] (spC (C_istied CY cNL cAl)) := by
  refine fn_go F sc_Yard_is_tied (fun c ⟨n, i, j, ks, r, hr, e⟩ => by subst e; exact ⟨rfl, ⟨hi_Iv ⟨hi_I, hi_DTv, hr, trivial⟩, hi_I, hi_I, trivial⟩, trivial⟩) fun c ⟨n, i, j, ks, r, hr', e⟩ cdv A outer s H E hr => ?_
  subst e
  refine go_exprM (em_call (cj_methX M hr (by decide) (ee_var 0 rfl) (rcv_I rfl) (ea_cons (ee_var 1 rfl) (ea_cons (ee_var 2 rfl) ea_nil))) (c_two CY cNL cAl n i j (DTv ks) r) ⟨n, i, j, DTv ks, r, hi_DTv, hr', rfl⟩ (.refl _)) (fun v Δ' ⟨Δc, h1, h3⟩ => h1) fun P1 Δ1 ⟨Δc, ⟨h1, h2⟩, h3⟩ => ?_
  exact go_ret (ee_inD (hu_of hr) (ee_un (ee_tup (ea_cons (ee_min2 rfl (ee_var 1 rfl) (ee_var 2 rfl) rfl b.min) (ea_cons (ee_max2 rfl (ee_var 1 rfl) (ee_var 2 rfl) rfl b.max) ea_nil)))) (ed_V (ee_fld (ee_var 0 rfl) T.cl T.nt 1 rfl rfl))) ⟨rfl, h2⟩
end
section
variable {P : Program} {w : World} {K : PySem.W.Frag} {mg : Str → Option Value} {base : Heap} {CY cNY cNL cAl cTi cUn : Addr}
theorem ok_tie {f : Addr} {fd : FuncData} (F : Fu K "tie" "Yard.tie" s_Yard_tie f fd) (T : Yt K mg CY cNY cNL cAl cTi cUn) (b : Bl mg) (M : Mtc P w K mg base CY "is_tied" (C_istied CY cNL cAl) 3 []) : FnOk P w K mg base (L2N.CX P w) 4 f fd ["self", "one", "other"] (spC (C_tie CY cNL cAl cTi)) := by
  refine fn_go F sc_Yard_tie (fun c ⟨n, i, j, ks, d, r, hr, hz, e⟩ => by subst e; exact ⟨rfl, ⟨hi_Iv ⟨hi_I, hi_Ref, hr, trivial⟩, hi_I, hi_I, trivial⟩, hi_MT, trivial⟩) fun c ⟨n, i, j, ks, d, r, hr', hz, e⟩ cdv A outer s H E hr => ?_
  subst e
  refine go_ifM (etm_val (em_callB (cj_methX M hr (by decide) (ee_var 0 rfl) (rcv_I rfl) (ea_cons (ee_var 1 rfl) (ea_cons (ee_var 2 rfl) ea_nil))) (c_istied CY cNL cAl n i j ks r) ⟨n, i, j, ks, r, hr', rfl⟩ (bc (br_I (bc br_ (bc (br_D 0 rfl) (bc br_ bn)))) (bc br_ (bc br_ bn))) (fun _ _ q => by rw [q.1]; exact sb_Bo)) (fun _ _ ⟨⟨_, q, _⟩, _⟩ => ⟨_, q⟩))
    (fun v Δ' ⟨⟨_, h1⟩, h2⟩ => ⟨.inl h1, h2⟩) (fun Δ' ⟨⟨_, h1, h2⟩, h3⟩ => ?_) (fun Δ' ⟨⟨_, h1, h2⟩, h3⟩ => ?_)
  · have hin : pair i j ∈ ks := of_decide_eq_true (bo_inj h1).symm
    exact go_raise T.ti ⟨.inr ⟨rfl, h2, hin⟩, h3⟩
  · have hin : pair i j ∉ ks := of_decide_eq_false (bo_inj h1).symm
    subst h3
    refine go_nil (go_dput 0 (hu_of hr) ee_bl (ee_fld (ee_var 0 rfl) T.cl T.nt 1 rfl rfl) (ee_un (ee_tup (ea_cons (ee_min2 rfl (ee_var 1 rfl) (ee_var 2 rfl) rfl b.min) (ea_cons (ee_max2 rfl (ee_var 1 rfl) (ee_var 2 rfl) rfl b.max) ea_nil)))) rfl hin (by omega) (go_nil ⟨rfl, h2, hin, rfl⟩))
end
section
variable {P : Program} {w : World} {K : PySem.W.Frag} {mg : Str → Option Value} {base : Heap} {CY cNY cNL cAl cTi cUn : Addr}
theorem ok_setshy {dvs : List V} {f : Addr} {fd : FuncData} (F : FunD K "set_shy" "Yard.set_shy" (defArgs s_Yard_set_shy) (defBody s_Yard_set_shy) (defScope s_Yard_set_shy) dvs [] f fd) (T : Yt K mg CY cNY cNL cAl cTi cUn) (M : Mtc P w K mg base CY "ask" (C_ask CY cNL) 1 []) : FnOk P w K mg base (L2N.CX P w) 2 f fd ["self", "lamp", "answer"] (spC (C_setshy CY cNL)) := by
  refine fn_go F sc_Yard_set_shy (fun c ⟨lamp, t, hs, l, q, hq, e⟩ => by subst e; exact ⟨rfl, ⟨hi_Iv ⟨hi_I, hq, hi_Ref, trivial⟩, hi_I, hi_Bo, trivial⟩, hi_ML (His.map (fun _ => hi_Bo) _), trivial⟩) fun c ⟨lamp, t, hs, l, q, hq, e⟩ cdv A outer s H E hr => ?_
  subst e
  refine go_exprM (em_call0 (cj_methX M hr (by decide) (ee_var 0 rfl) (rcv_I rfl) (ea_cons (ee_var 1 rfl) ea_nil)) (c_ask CY cNL (hs.length : Int) lamp q (Ref l)) ⟨_, lamp, q, Ref l, hq, hi_Ref, rfl⟩) (fun v Δ' ⟨⟨_, h1⟩, h3⟩ => (show (v = .ref cNL ∧ ¬ okL (hs.length : Int) lamp) ∧ Δ' = [(l, ML (hs.map Bo))] from ⟨h1, h3⟩)) fun P1 Δ1 ⟨⟨_, _, h2⟩, h3⟩ => ?_
  subst h3
  refine go_ix 0 (ee_var 2 rfl) (ee_fld (ee_var 0 rfl) T.cl T.nh 2 rfl rfl) (ee_var 1 rfl) rfl (by rw [List.length_map]; exact ixN_ok h2) (go_nil ⟨rfl, h2, ?_⟩)
  show [(l, ML ((hs.map Bo).set lamp.toNat (Bo t)))] = _
  rw [List.map_set]
theorem setshy_b {f : Addr} {fd : FuncData} (F : FunD K "set_shy" "Yard.set_shy" (defArgs s_Yard_set_shy) (defBody s_Yard_set_shy) (defScope s_Yard_set_shy) [.bl true] [] f fd) : Binds K fd ["self", "lamp", "answer"] [] ∧ ∃ ds, Vals [V.bl true] ds ∧ Binds K fd ["self", "lamp", "answer"] ds := by
  constructor
  · obtain ⟨ds, h1, h2⟩ := F.binds1 (ps := ["self", "lamp", "answer"]) 3 1 (by decide) rfl fun T kV doc pm an cdv ct us its h1 h2 => match us, its, h1, h2 with
      | [_, _, _], [_], _, _ => ⟨_, rfl, rfl⟩
    cases h1
    exact h2
  · exact F.binds1 (ps := ["self", "lamp", "answer"]) 2 0 (by decide) rfl fun T kV doc pm an cdv ct us its h1 h2 => match us, its, h1, h2 with
      | [_, _], [_], _, _ => ⟨_, rfl, rfl⟩
end
section
variable {P : Program} {w : World} {K : PySem.W.Frag} {mg : Str → Option Value} {base : Heap} {CY cNY cNL cAl cTi cUn : Addr}
theorem ok_init {f : Addr} {fd : FuncData} (F : Fu K "__init__" "Yard.__init__" s_Yard_init f fd) (T : Yt K mg CY cNY cNL cAl cTi cUn) (b : Bl mg) : FnOk P w K mg base (L2N.CX P w) 1 f fd ["self", "many"] (spC (C_init CY cNY)) := by
  refine fn_go F sc_Yard_init (fun c ⟨n, x, e⟩ => by subst e; exact ⟨rfl, ⟨hi_Ref, hi_I, trivial⟩, hi_MI trivial, trivial⟩) fun c ⟨n, x, e⟩ cdv A outer s H E hr => ?_
  subst e
  obtain ⟨tm, hmost⟩ := T.most
  refine go_if (et_not (et_chain op_le op_le ee_int (ee_var 1 rfl) fun _ => ee_globI rfl hmost)) (fun h => go_raise T.ny ⟨⟨?_, rfl⟩, rfl⟩) (fun h => go_nil ?_)
  · simp at h; omega
  have hn : 1 ≤ n ∧ n ≤ 24 := by simp at h; omega
  refine go_fldN 0 (ee_var 1 rfl) (ee_var 0 rfl) rfl T.cl T.nm rfl rfl (by decide) ?_
  refine go_fldM 0 em_dict (fun _ _ q => q) (fun P' Δ' ⟨d, _, _, e2⟩ => ee_var 0 rfl) (fun P' Δ' ⟨d, _, _, e2⟩ => by subst e2; rfl) T.cl T.nt rfl rfl (by decide) fun P' Δ' ⟨d, hd, e1, e2⟩ => ?_
  subst e1 e2
  refine go_fldM 0 (em_N (en_cast (en_lcR (fun _ => true) (fun _ => Bo false) 2 sc_Yard_init.nd (ee_var 1 rfl) (by omega) (by omega) rfl b.range (blkOk_by (N := ["self", "many", "k"]) (sc := defScope s_Yard_init) (by decide +kernel)) (fun _ _ _ _ _ => pg_name (i := 2) sc_Yard_init.nd rfl (Or.inl rfl)) (fun _ _ => rfl) (fun _ _ _ => fun _ _ _ _ _ => ee_bl)) (qs := (List.replicate n.toNat false).map Bo) (by rw [filt_true, List.map_replicate]; exact (List.map_const' ..).trans (by rw [List.length_range])))) (fun _ _ q => q) (fun P' Δ' _ => ee_var 0 rfl) (fun P' Δ' ⟨l, _, _, e2⟩ => by subst e2; rfl) T.cl T.nh rfl rfl (by decide) fun P' Δ' ⟨l, hl, e1, e2⟩ => ?_
  subst e1 e2
  exact go_nil ⟨hn, rfl, d, l, rfl⟩
end
/-! a yard in use: live (its dict and its list are entries) -/
abbrev YM (CY : Addr) (n : Int) (d l : Addr) : Pr := Iv CY yns [I n, Ref d, Ref l]
abbrev YV (CY : Addr) (hs : List Bool) (ks : List (Int × Int)) : Pr := Iv CY yns [I (hs.length : Int), DTv ks, L (hs.map Bo)]
theorem hu64 {k : Nat} {A : Around} (hr : Room k A) : A.units + 64 < cLine := Nat.lt_of_le_of_lt (Nat.add_le_add_left (by decide : 64 ≤ 64) _) hr.units
theorem hu65 {k : Nat} {A : Around} (hr : Room k A) : A.units + 65 < cLine := by have := hr.un; omega
section
variable {X : Cx} {ms : List Addr} {Γ : Gam} {Δ : Del} {o e e2 : Expr} {apos pos : Pos} {pl : Sem Bool} {CY cNL cAl cTi cUn d l : Addr} {hs : List Bool} {ks : List (Int × Int)} {i jj n : Int} {j kl kd : Nat}
theorem yl_isshy (kl : Nat) (M : Mtc X.prog X.w X.K X.mg X.base CY "is_shy" (C_isshy CY cNL) 2 []) (hr : Room j X.A) (hk : 2 ≤ j) (ho : EE X Γ Δ o (YM CY (hs.length : Int) d l)) (he : EE X Γ Δ e (I i)) (hl : Δ[kl]? = some (l, ML (hs.map Bo))) (h : okL (hs.length : Int) i)
    (hst : starEach [e] X.env = (false, eval e X.env) :: starEach [] X.env := by rfl) (hpl : (backTo pos (starEach [] X.env)).any (·.1) = false := by rfl) (ht : eval (.Call (.Attribute o "is_shy" apos) [e] [] pos) X.env = mcall X o "is_shy" apos pos [e] pl := by rfl) :
    EE X Γ Δ (.Call (.Attribute o "is_shy" apos) [e] [] pos) (Bo (hs.getD i.toNat false)) :=
  ee_callB (cj_meth M hr hk ho (rcv_I rfl) (ea_cons he ea_nil hst) hst hpl ht) (c_isshy CY cNL i hs (Ref d)) ⟨i, hs, Ref d, hi_Ref, rfl⟩ (bc (br_I (bc br_ (bc br_ (bc (br_L kl hl) bn)))) (bc br_ bn)) sb_Bo rfl (fun _ _ q => q.2) (fun _ _ q => q.2 h)
theorem yl_turns (kd kl : Nat) (M : Mtc X.prog X.w X.K X.mg X.base CY "turns" (C_turns CY cNL) 2 []) (hr : Room j X.A) (hk : 2 ≤ j) (ho : EE X Γ Δ o (YM CY (hs.length : Int) d l)) (he : EE X Γ Δ e (I i)) (hd : Δ[kd]? = some (d, MT ks)) (hl : Δ[kl]? = some (l, ML (hs.map Bo))) (h : okL (hs.length : Int) i) (hz : hs.length ≤ 24)
    (hst : starEach [e] X.env = (false, eval e X.env) :: starEach [] X.env := by rfl) (hpl : (backTo pos (starEach [] X.env)).any (·.1) = false := by rfl) (ht : eval (.Call (.Attribute o "turns" apos) [e] [] pos) X.env = mcall X o "turns" apos pos [e] pl := by rfl) :
    EN X Γ Δ (.Call (.Attribute o "turns" apos) [e] [] pos) ((trn hs ks i.toNat).map In) :=
  en_callB (cj_meth M hr hk ho (rcv_I rfl) (ea_cons he ea_nil hst) hst hpl ht) (c_turns CY cNL i hs ks) ⟨i, hs, ks, hz, rfl⟩ (bc (br_I (bc br_ (bc (br_D kd hd) (bc (br_L kl hl) bn)))) (bc br_ bn)) (Scs.map (fun _ => sc_I) _) rfl (fun _ _ q => q.2) (fun _ _ q => q.2 h)
theorem yl_istied (kd : Nat) (M : Mtc X.prog X.w X.K X.mg X.base CY "is_tied" (C_istied CY cNL cAl) 3 []) (hr : Room j X.A) (hk : 3 ≤ j) (ho : EE X Γ Δ o (YM CY n d l)) (he : EE X Γ Δ e (I i)) (he2 : EE X Γ Δ e2 (I jj)) (hd : Δ[kd]? = some (d, MT ks)) (h : ok2 n i jj)
    (hs1 : starEach [e2] X.env = (false, eval e2 X.env) :: starEach [] X.env := by rfl) (hst : starEach [e, e2] X.env = (false, eval e X.env) :: starEach [e2] X.env := by rfl) (hpl : (backTo pos (starEach [e2] X.env)).any (·.1) = false := by rfl) (ht : eval (.Call (.Attribute o "is_tied" apos) [e, e2] [] pos) X.env = mcall X o "is_tied" apos pos [e, e2] pl := by rfl) :
    EE X Γ Δ (.Call (.Attribute o "is_tied" apos) [e, e2] [] pos) (Bo (decide (pair i jj ∈ ks))) :=
  ee_callB (cj_meth M hr hk ho (rcv_I rfl) (ea_cons he (ea_cons he2 ea_nil hs1) hst) hst hpl ht) (c_istied CY cNL cAl n i jj ks (Ref l)) ⟨n, i, jj, ks, Ref l, hi_Ref, rfl⟩ (bc (br_I (bc br_ (bc (br_D kd hd) (bc br_ bn)))) (bc br_ (bc br_ bn))) sb_Bo rfl (fun _ _ q => q.1) (fun _ _ q => q.elim (fun z => z.2 h.1) fun z => h.2 z.2.2)
theorem yl_istiedX (kd : Nat) (M : Mtc X.prog X.w X.K X.mg X.base CY "is_tied" (C_istied CY cNL cAl) 3 []) (hr : Room j X.A) (hk : 3 ≤ j) (ho : EE X Γ Δ o (YM CY n d l)) (he : EE X Γ Δ e (I i)) (he2 : EE X Γ Δ e2 (I jj)) (hd : Δ[kd]? = some (d, MT ks))
    (hs1 : starEach [e2] X.env = (false, eval e2 X.env) :: starEach [] X.env := by rfl) (hst : starEach [e, e2] X.env = (false, eval e X.env) :: starEach [e2] X.env := by rfl) (hpl : (backTo pos (starEach [e2] X.env)).any (·.1) = false := by rfl) (ht : eval (.Call (.Attribute o "is_tied" apos) [e, e2] [] pos) X.env = mcall X o "is_tied" apos pos [e, e2] pl := by rfl) :
    EM X ms Γ Δ (.Call (.Attribute o "is_tied" apos) [e, e2] [] pos) (fun P Δ' => (P = Bo (decide (pair i jj ∈ ks)) ∧ ok2 n i jj) ∧ Δ' = Δ) (fun v Δ' => exc2 cNL cAl n i jj v ∧ Δ' = Δ) :=
  em_imp (em_callB (cj_methX M hr hk ho (rcv_I rfl) (ea_cons he (ea_cons he2 ea_nil hs1) hst) hst hpl ht) (c_istied CY cNL cAl n i jj ks (Ref l)) ⟨n, i, jj, ks, Ref l, hi_Ref, rfl⟩ (bc (br_I (bc br_ (bc (br_D kd hd) (bc br_ bn)))) (bc br_ (bc br_ bn))) (fun _ _ q => by rw [q.1]; exact sb_Bo)) (fun _ _ ⟨⟨_, q⟩, e⟩ => ⟨q, e⟩) (fun _ _ ⟨⟨_, q⟩, e⟩ => ⟨q, e⟩)
theorem yl_tieX (kd : Nat) (M : Mtc X.prog X.w X.K X.mg X.base CY "tie" (C_tie CY cNL cAl cTi) 4 []) (hr : Room j X.A) (hk : 4 ≤ j) (ho : EE X Γ Δ o (YM CY n d l)) (he : EE X Γ Δ e (I i)) (he2 : EE X Γ Δ e2 (I jj)) (hd : Δ[kd]? = some (d, MT ks)) (hz : ks.length < 5000)
    (hs1 : starEach [e2] X.env = (false, eval e2 X.env) :: starEach [] X.env := by rfl) (hst : starEach [e, e2] X.env = (false, eval e X.env) :: starEach [e2] X.env := by rfl) (hpl : (backTo pos (starEach [e2] X.env)).any (·.1) = false := by rfl) (ht : eval (.Call (.Attribute o "tie" apos) [e, e2] [] pos) X.env = mcall X o "tie" apos pos [e, e2] pl := by rfl) :
    EM X ms Γ Δ (.Call (.Attribute o "tie" apos) [e, e2] [] pos) (fun P Δ' => (P = No ∧ ok2 n i jj ∧ pair i jj ∉ ks) ∧ Δ' = Δ.set kd (d, MT (ks ++ [pair i jj]))) (fun v Δ' => (exc2 cNL cAl n i jj v ∨ (v = .ref cTi ∧ ok2 n i jj ∧ pair i jj ∈ ks)) ∧ Δ' = Δ) :=
  em_imp (em_callAt kd hd (cj_methX M hr hk ho (rcv_I rfl) (ea_cons he (ea_cons he2 ea_nil hs1) hst) hst hpl ht) (c_tie CY cNL cAl cTi n i jj ks d (Ref l)) ⟨n, i, jj, ks, d, Ref l, hi_Ref, hz, rfl⟩ (fun _ _ q => ⟨_, q.2.2.2⟩) (fun _ _ q => ⟨_, q.2⟩)) (fun P Δ' ⟨ob, ⟨q1, q2, q3, q4⟩, e⟩ => by
    injection q4 with q4 _
    rw [e, q4]
    exact ⟨⟨q1, q2, q3⟩, rfl⟩) (fun v Δ' ⟨ob, ⟨q1, q4⟩, e⟩ => by
    injection q4 with q4 _
    rw [e, q4, set_id hd]
    exact ⟨q1, rfl⟩)
theorem yl_untieX (kd : Nat) (M : Mtc X.prog X.w X.K X.mg X.base CY "untie" (C_untie CY cNL cAl cUn) 4 []) (hr : Room j X.A) (hk : 4 ≤ j) (ho : EE X Γ Δ o (YM CY n d l)) (he : EE X Γ Δ e (I i)) (he2 : EE X Γ Δ e2 (I jj)) (hd : Δ[kd]? = some (d, MT ks))
    (hs1 : starEach [e2] X.env = (false, eval e2 X.env) :: starEach [] X.env := by rfl) (hst : starEach [e, e2] X.env = (false, eval e X.env) :: starEach [e2] X.env := by rfl) (hpl : (backTo pos (starEach [e2] X.env)).any (·.1) = false := by rfl) (ht : eval (.Call (.Attribute o "untie" apos) [e, e2] [] pos) X.env = mcall X o "untie" apos pos [e, e2] pl := by rfl) :
    EM X ms Γ Δ (.Call (.Attribute o "untie" apos) [e, e2] [] pos) (fun P Δ' => (P = No ∧ ok2 n i jj ∧ pair i jj ∈ ks) ∧ Δ' = Δ.set kd (d, MT (ks.filter fun q => decide (q ≠ pair i jj)))) (fun v Δ' => (exc2 cNL cAl n i jj v ∨ (v = .ref cUn ∧ ok2 n i jj ∧ pair i jj ∉ ks)) ∧ Δ' = Δ) :=
  em_imp (em_callAt kd hd (cj_methX M hr hk ho (rcv_I rfl) (ea_cons he (ea_cons he2 ea_nil hs1) hst) hst hpl ht) (c_untie CY cNL cAl cUn n i jj ks d (Ref l)) ⟨n, i, jj, ks, d, Ref l, hi_Ref, rfl⟩ (fun _ _ q => ⟨_, q.2.2.2⟩) (fun _ _ q => ⟨_, q.2⟩)) (fun P Δ' ⟨ob, ⟨q1, q2, q3, q4⟩, e⟩ => by
    injection q4 with q4 _
    rw [e, q4]
    exact ⟨⟨q1, q2, q3⟩, rfl⟩) (fun v Δ' ⟨ob, ⟨q1, q4⟩, e⟩ => by
    injection q4 with q4 _
    rw [e, q4, set_id hd]
    exact ⟨q1, rfl⟩)
theorem yl_setshyX (kl : Nat) {t : Bool} (M : Mtc X.prog X.w X.K X.mg X.base CY "set_shy" (C_setshy CY cNL) 2 []) (hr : Room j X.A) (hk : 2 ≤ j) (ho : EE X Γ Δ o (YM CY (hs.length : Int) d l)) (he : EE X Γ Δ e (I i)) (he2 : EE X Γ Δ e2 (Bo t)) (hl : Δ[kl]? = some (l, ML (hs.map Bo)))
    (hs1 : starEach [e2] X.env = (false, eval e2 X.env) :: starEach [] X.env := by rfl) (hst : starEach [e, e2] X.env = (false, eval e X.env) :: starEach [e2] X.env := by rfl) (hpl : (backTo pos (starEach [e2] X.env)).any (·.1) = false := by rfl) (ht : eval (.Call (.Attribute o "set_shy" apos) [e, e2] [] pos) X.env = mcall X o "set_shy" apos pos [e, e2] pl := by rfl) :
    EM X ms Γ Δ (.Call (.Attribute o "set_shy" apos) [e, e2] [] pos) (fun P Δ' => (P = No ∧ okL (hs.length : Int) i) ∧ Δ' = Δ.set kl (l, ML ((hs.set i.toNat t).map Bo))) (fun v Δ' => (v = .ref cNL ∧ ¬ okL (hs.length : Int) i) ∧ Δ' = Δ) :=
  em_imp (em_callAt kl hl (cj_methX M hr hk ho (rcv_I rfl) (ea_cons he (ea_cons he2 ea_nil hs1) hst) hst hpl ht) (c_setshy CY cNL i t hs l (Ref d)) ⟨i, t, hs, l, Ref d, hi_Ref, rfl⟩ (fun _ _ q => ⟨_, q.2.2⟩) (fun _ _ q => ⟨_, q.2⟩)) (fun P Δ' ⟨ob, ⟨q1, q2, q4⟩, e⟩ => by
    injection q4 with q4 _
    rw [e, q4]
    exact ⟨⟨q1, q2⟩, rfl⟩) (fun v Δ' ⟨ob, ⟨q1, q4⟩, e⟩ => by
    injection q4 with q4 _
    rw [e, q4, set_id hl]
    exact ⟨q1, rfl⟩)
theorem yl_setshyD (kl : Nat) (M : Mtc X.prog X.w X.K X.mg X.base CY "set_shy" (C_setshy CY cNL) 2 [.bl true]) (hr : Room j X.A) (hk : 2 ≤ j) (ho : EE X Γ Δ o (YM CY (hs.length : Int) d l)) (he : EE X Γ Δ e (I i)) (hl : Δ[kl]? = some (l, ML (hs.map Bo)))
    (hst : starEach [e] X.env = (false, eval e X.env) :: starEach [] X.env := by rfl) (hpl : (backTo pos (starEach [] X.env)).any (·.1) = false := by rfl) (ht : eval (.Call (.Attribute o "set_shy" apos) [e] [] pos) X.env = mcall X o "set_shy" apos pos [e] pl := by rfl) :
    EM X ms Γ Δ (.Call (.Attribute o "set_shy" apos) [e] [] pos) (fun P Δ' => (P = No ∧ okL (hs.length : Int) i) ∧ Δ' = Δ.set kl (l, ML ((hs.set i.toNat true).map Bo))) (fun v Δ' => (v = .ref cNL ∧ ¬ okL (hs.length : Int) i) ∧ Δ' = Δ) :=
  em_imp (em_callAt kl hl (cj_methXD M hr hk ho (rcv_I rfl) (ea_cons he ea_nil hst) [Bo true] (fun _ _ => ⟨rfl, trivial⟩) hst hpl ht) (c_setshy CY cNL i true hs l (Ref d)) ⟨i, true, hs, l, Ref d, hi_Ref, rfl⟩ (fun _ _ q => ⟨_, q.2.2⟩) (fun _ _ q => ⟨_, q.2⟩)) (fun P Δ' ⟨ob, ⟨q1, q2, q4⟩, e⟩ => by
    injection q4 with q4 _
    rw [e, q4]
    exact ⟨⟨q1, q2⟩, rfl⟩) (fun v Δ' ⟨ob, ⟨q1, q4⟩, e⟩ => by
    injection q4 with q4 _
    rw [e, q4, set_id hl]
    exact ⟨q1, rfl⟩)
end
def cellAt (sc : List Int) (k : Nat) : Int := sc.getD k 0
section
variable {P : Program} {w : World} {K : PySem.W.Frag} {mg : Str → Option Value} {base : Heap}
def C_cell (K : PySem.W.Frag) : Cn → Prop := fun c => ∃ (sc : List Int) (k : Nat), c = ⟨[Scr K sc, I (k : Int)], fun P Δ => P = I (cellAt sc k), [], fun _ _ => False⟩
theorem ok_cell {f : Addr} {fd : FuncData} (F : Fu K "_law_cell_at" "_law_cell_at" s__law_cell_at f fd) (b : Bl mg) : FnOk P w K mg base (L2N.CX P w) 1 f fd ["script", "k"] (spC (C_cell K)) := by
  refine fn_go F sc__law_cell_at (fun c ⟨sc, k, e⟩ => by subst e; exact ⟨rfl, ⟨hi_Scr, hi_I, trivial⟩, trivial⟩) fun c ⟨sc, k, e⟩ cdv A outer s H E hr => ?_
  subst e
  refine go_if (et_cmp cmp_lt (ee_var 1 rfl) (ee_len (es_scr (ee_var 0 rfl)) rfl b.len)) (fun h => ?_) (fun h => ?_)
  · have hk : k < sc.length := by simpa using h
    exact go_ret (ee_ix (es_scr (ee_var 0 rfl)) (ee_var 1 rfl) (P := I (cellAt sc k)) (atI_nat (by simp [cellAt, hk]))) rfl
  · have hk : ¬ k < sc.length := by simpa using h
    refine go_nil (go_ret ee_int ?_)
    have : cellAt sc k = 0 := by unfold cellAt; rw [List.getD_eq_getElem?_getD, List.getElem?_eq_none (by omega)]; rfl
    rw [this]
end
def mix (cell k : Int) : Int :=
  let a := (cell + 7919 * (k + 3)) % 2147483647
  let b := (a * a + 104729 * k + 5) % 2147483629
  b * b % 2147483587
section
variable {P : Program} {w : World} {K : PySem.W.Frag} {mg : Str → Option Value} {base : Heap}
def C_mix : Cn → Prop := fun c => ∃ (cell k : Int), c = ⟨[I cell, I k], fun P Δ => P = I (mix cell k), [], fun _ _ => False⟩
theorem ok_mix {f : Addr} {fd : FuncData} (F : Fu K "_law_mix" "_law_mix" s__law_mix f fd) : FnOk P w K mg base (L2N.CX P w) 1 f fd ["cell", "k"] (spC C_mix) := by
  refine fn_go F sc__law_mix (fun c ⟨sc, k, e⟩ => by subst e; exact ⟨rfl, ⟨hi_I, hi_I, trivial⟩, trivial⟩) fun c ⟨sc, k, e⟩ cdv A outer s H E hr => ?_
  subst e
  refine go_set 2 (ee_mod (ee_add (ee_var 0 rfl) (ee_mul ee_int (ee_add (ee_var 1 rfl) ee_int) (by left; decide))) ee_int) sc__law_mix.nd ?_
  refine go_set 2 (ee_mod (ee_add (ee_add (ee_mul (ee_var 2 rfl) (ee_var 2 rfl) (by left; constructor <;> omega)) (ee_mul ee_int (ee_var 1 rfl) (by left; decide))) ee_int) ee_int) sc__law_mix.nd ?_
  exact go_ret (ee_mod (ee_mul (ee_var 2 rfl) (ee_var 2 rfl) (by left; constructor <;> omega)) ee_int) rfl
end
def manyF (cell : Int) : Int := if cell % 4 = 3 then 1 + cell / 4 % 24 else 1 + cell / 4 % 10
theorem manyF_ok (cell : Int) : 1 ≤ manyF cell ∧ manyF cell ≤ 24 := by unfold manyF; split <;> omega
section
variable {P : Program} {w : World} {K : PySem.W.Frag} {mg : Str → Option Value} {base : Heap}
def C_many : Cn → Prop := fun c => ∃ cell : Int, c = ⟨[I cell], fun P Δ => P = I (manyF cell), [], fun _ _ => False⟩
theorem ok_many {f : Addr} {fd : FuncData} (F : Fu K "_law_many" "_law_many" s__law_many f fd) : FnOk P w K mg base (L2N.CX P w) 1 f fd ["cell"] (spC C_many) := by
  refine fn_go F sc__law_many (fun c ⟨sc, e⟩ => by subst e; exact ⟨rfl, ⟨hi_I, trivial⟩, trivial⟩) fun c ⟨sc, e⟩ cdv A outer s H E hr => ?_
  subst e
  refine go_if (et_cmp cmp_eq (ee_mod (ee_var 0 rfl) ee_int) ee_int) (fun h => go_ret (ee_add ee_int (ee_mod (ee_div (ee_var 0 rfl) ee_int) ee_int)) ?_) (fun h => go_nil (go_ret (ee_add ee_int (ee_mod (ee_div (ee_var 0 rfl) ee_int) ee_int)) ?_))
  · unfold manyF; rw [if_pos (of_decide_eq_true h)]
  · unfold manyF; rw [if_neg (of_decide_eq_false h)]
end
/-- a tie as a tuple -/
def tP (p : Int × Int) : Pr := T [I p.1, I p.2]
theorem hi_tP {p : Int × Int} : Hi (tP p) := hi_T ⟨hi_I, hi_I, trivial⟩
theorem dat_tP {K : PySem.W.Frag} {p : Int × Int} : Dat K (tP p) (pD p) := dat_T ⟨dat_I, dat_I, trivial⟩
/-- ties as they are drawn: ordered pairs of lamps, no two alike -/
structure TiesOk (n : Int) (ties : List (Int × Int)) : Prop where
  lt : ∀ p ∈ ties, 0 ≤ p.1 ∧ p.1 < p.2 ∧ p.2 < n
  nd : ties.Nodup
  few : ties.length ≤ 576
def tblI (m : Int) : Int := if m = 0 then 0 else if m = 1 then 2 else if m = 2 then 4 else if m = 3 then 6 else 12
theorem atI_five {P0 P1 P2 P3 P4 : Pr} {i : Int} (h : 0 ≤ i ∧ i < 5) : atI [P0, P1, P2, P3, P4] i = some (if i = 0 then P0 else if i = 1 then P1 else if i = 2 then P2 else if i = 3 then P3 else P4) := by
  obtain rfl | rfl | rfl | rfl | rfl : i = 0 ∨ i = 1 ∨ i = 2 ∨ i = 3 ∨ i = 4 := by omega
  all_goals rfl
def tieOn (sc : List Int) (o i : Nat) : Bool := decide (mix (cellAt sc (2 + o % 8) + 5003 * (o : Int)) (i : Int) / 7 % 12 < tblI (cellAt sc 1 % 5))
def tieRow (sc : List Int) (o i : Nat) : List (Int × Int) := ((List.range i).filter (tieOn sc o)).map fun (i : Nat) => ((i : Int), (o : Int))
def tiesF (sc : List Int) (n : Nat) : List (Int × Int) := (List.range n).flatMap fun o => tieRow sc o o
theorem tiesF_succ (sc : List Int) (n : Nat) : tiesF sc (n + 1) = tiesF sc n ++ tieRow sc n n := by
  unfold tiesF
  rw [List.range_succ, List.flatMap_append]
  simp
theorem tieRow_succ (sc : List Int) (o i : Nat) : tieRow sc o (i + 1) = tieRow sc o i ++ if tieOn sc o i = true then [((i : Int), (o : Int))] else [] := by
  unfold tieRow
  rw [List.range_succ, List.filter_append, List.map_append]
  by_cases h : tieOn sc o i = true
  · rw [if_pos h, List.filter_cons_of_pos h]; rfl
  · rw [if_neg h, List.filter_cons_of_neg h]; rfl
theorem tieRow_len (sc : List Int) (o i : Nat) : (tieRow sc o i).length ≤ i := by
  unfold tieRow
  rw [List.length_map]
  exact Nat.le_trans (List.length_filter_le _ _) (by rw [List.length_range]; exact Nat.le_refl i)
theorem tiesF_len (sc : List Int) : ∀ n, (tiesF sc n).length ≤ n * n
  | 0 => Nat.le_refl _
  | n + 1 => by
    rw [tiesF_succ, List.length_append]
    have h1 := tiesF_len sc n
    have h2 := tieRow_len sc n n
    have e : (n + 1) * (n + 1) = n * n + 2 * n + 1 := by rw [Nat.add_mul, Nat.mul_add]; omega
    omega
theorem tiesF_half (sc : List Int) : ∀ n, 2 * (tiesF sc n).length ≤ n * n
  | 0 => Nat.le_refl _
  | n + 1 => by
    rw [tiesF_succ, List.length_append]
    have h1 := tiesF_half sc n
    have h2 := tieRow_len sc n n
    have e : (n + 1) * (n + 1) = n * n + 2 * n + 1 := by rw [Nat.add_mul, Nat.mul_add]; omega
    omega
theorem tiesF_few (sc : List Int) {n : Nat} (h : n ≤ 24) : (tiesF sc n).length ≤ 288 := by
  have h1 := tiesF_half sc n
  have h2 : n * n ≤ 24 * 24 := Nat.mul_le_mul h h
  omega
theorem mem_tieRow {sc : List Int} {o i : Nat} {p : Int × Int} (h : p ∈ tieRow sc o i) : ∃ k : Nat, k < i ∧ p = ((k : Int), (o : Int)) := by
  unfold tieRow at h
  obtain ⟨k, hk, e⟩ := List.mem_map.mp h
  exact ⟨k, List.mem_range.mp (List.mem_filter.mp hk).1, e.symm⟩
theorem mem_tiesF {sc : List Int} {n : Nat} {p : Int × Int} (h : p ∈ tiesF sc n) : ∃ k o : Nat, k < o ∧ o < n ∧ p = ((k : Int), (o : Int)) := by
  unfold tiesF at h
  obtain ⟨o, ho, hp⟩ := List.mem_flatMap.mp h
  obtain ⟨k, hk, e⟩ := mem_tieRow hp
  exact ⟨k, o, hk, List.mem_range.mp ho, e⟩
theorem tiesF_nd (sc : List Int) : ∀ n, (tiesF sc n).Nodup
  | 0 => List.nodup_nil
  | n + 1 => by
    rw [tiesF_succ]
    refine List.nodup_append.mpr ⟨tiesF_nd sc n, ?_, fun a ha b hb e => ?_⟩
    · unfold tieRow
      exact List.Pairwise.map _ (fun a b h e => h (by injection e with e _; exact Int.ofNat.inj e)) ((List.nodup_range (n := n)).filter (tieOn sc n))
    · obtain ⟨k, o, h1, h2, e1⟩ := mem_tiesF ha
      obtain ⟨k', h3, e2⟩ := mem_tieRow hb
      rw [e, e2] at e1
      injection e1 with _ e1
      have := Int.ofNat.inj e1
      omega
theorem tiesF_ok (sc : List Int) {n : Nat} (h : n ≤ 24) : TiesOk (n : Int) (tiesF sc n) := ⟨fun p hp => by
    obtain ⟨k, o, h1, h2, rfl⟩ := mem_tiesF hp
    exact ⟨Int.natCast_nonneg k, by show (k : Int) < (o : Int); omega, by show (o : Int) < (n : Int); omega⟩, tiesF_nd sc n, Nat.le_trans (tiesF_len sc n) (Nat.mul_le_mul h h)⟩
def shyF (sc : List Int) (n : Nat) : List Bool := if cellAt sc 1 / 5 % 3 = 1 then (List.range n).map fun (k : Nat) => decide (mix (cellAt sc 10) (k : Int) / 7 % 3 = 0) else List.replicate n false
theorem shyF_len (sc : List Int) (n : Nat) : (shyF sc n).length = n := by
  unfold shyF
  split
  · rw [List.length_map, List.length_range]
  · exact List.length_replicate
section
variable {P : Program} {w : World} {K : PySem.W.Frag} {mg : Str → Option Value} {base : Heap} {CY cNY cNL cAl cTi cUn : Addr}
def c_drawn (K : PySem.W.Frag) (sc : List Int) : Cn := ⟨[Scr K sc], fun P D => ∃ a b, P = N (T [I (manyF (cellAt sc 0)), Ref a, Ref b]) ∧ D = [(a, ML ((tiesF sc (manyF (cellAt sc 0)).toNat).map tP)), (b, ML ((shyF sc (manyF (cellAt sc 0)).toNat).map Bo))], [], fun _ _ => False⟩
def C_drawn (K : PySem.W.Frag) : Cn → Prop := fun c => ∃ sc : List Int, c = c_drawn K sc
theorem ok_drawn {f : Addr} {fd : FuncData} (F : Fu K "_law_drawn" "_law_drawn" s__law_drawn f fd) (b : Bl mg) (Mc : Fnc P w K mg base "_law_cell_at" (C_cell K) 1) (Mx : Fnc P w K mg base "_law_mix" C_mix 1) (Mm : Fnc P w K mg base "_law_many" C_many 1) : FnOk P w K mg base (L2N.CX P w) 2 f fd ["script"] (spC (C_drawn K)) := by
  refine fn_go F sc__law_drawn (fun c ⟨sc, e⟩ => by subst e; exact ⟨rfl, ⟨hi_Scr, trivial⟩, trivial⟩) fun c ⟨sc, e⟩ cdv A outer s H E hr => ?_
  subst e
  unfold c_drawn
  have hn := manyF_ok (cellAt sc 0)
  refine go_set 1 (ee_call (P := I (manyF (cellAt sc 0))) (cj_fn0 Mm hr (by decide) rfl (ea_cons (ee_call (P := I (cellAt sc 0)) (cj_fn0 Mc hr (by decide) rfl (ea_cons (ee_var 0 rfl) (ea_cons ee_int ea_nil))) _ ⟨sc, 0, rfl⟩ (ho := fun _ _ q => q)) ea_nil)) _ ⟨_, rfl⟩ (ho := fun _ _ q => q)) sc__law_drawn.nd ?_
  generalize manyF (cellAt sc 0) = n at hn
  obtain ⟨m, rfl⟩ : ∃ m : Nat, n = (m : Int) := ⟨n.toNat, by omega⟩
  rw [Int.toNat_natCast]
  refine go_set 2 (ee_mod (ee_call (P := I (cellAt sc 1)) (cj_fn0 Mc hr (by decide) rfl (ea_cons (ee_var 0 rfl) (ea_cons ee_int ea_nil))) _ ⟨sc, 1, rfl⟩ (ho := fun _ _ q => q)) ee_int) sc__law_drawn.nd ?_
  refine go_setM (Kx := fun _ _ => False) 3 (em_N (en_lst ea_nil)) sc__law_drawn.nd (fun _ _ q => q) fun P1 Δ1 ⟨a, ha, e1, e2⟩ => ?_
  subst e1 e2
  let Γ0 : Gam := [some (Scr K sc), some (I (m : Int)), some (I (cellAt sc 1 % 5)), some (Ref a), none, none, none, none, none]
  have w0 : ∀ {g4 g5 g6 : Option Pr}, Wk [some (Scr K sc), some (I (m : Int)), some (I (cellAt sc 1 % 5)), some (Ref a), g4, g5, g6, none, none] Γ0 := ⟨.inr rfl, .inr rfl, .inr rfl, .inr rfl, .inl rfl, .inl rfl, .inl rfl, .inl rfl, .inl rfl, trivial⟩
  refine go_forR 4 (fun _ => Γ0) (fun i => [(a, ML ((tiesF sc i).map tP))]) (fun _ => True) (passes_of rfl) sc__law_drawn.nd (ee_var 1 rfl) (by omega) (by omega) ⟨w0, rfl, trivial⟩ rfl b.range (fun o ho _ => ?_) (fun _ => ?_)
  · have hlo := tiesF_len sc o
    have ho24 : o ≤ 24 := by omega
    have hoo : o * o ≤ 24 * 24 := Nat.mul_le_mul ho24 ho24
    refine go_forR 5 (fun _ => [some (Scr K sc), some (I (m : Int)), some (I (cellAt sc 1 % 5)), some (Ref a), some (I (o : Int)), none, none, none, none]) (fun i => [(a, ML ((tiesF sc o ++ tieRow sc o i).map tP))]) (fun _ => True) (passes_of rfl) sc__law_drawn.nd (ee_var 4 rfl) (by omega) (by omega) ⟨⟨.inr rfl, .inr rfl, .inr rfl, .inr rfl, .inr rfl, .inl rfl, .inl rfl, .inl rfl, .inl rfl, trivial⟩, by show [_] = [_]; unfold tieRow; simp, trivial⟩ rfl b.range (fun i hi _ => ?_) (fun _ => go_nil ⟨w0, by rw [Int.toNat_natCast, ← tiesF_succ], trivial⟩)
    have hli := tieRow_len sc o i
    refine go_set 6 (ee_div (ee_call (P := I (mix (cellAt sc (2 + o % 8) + 5003 * (o : Int)) (i : Int))) (cj_fn0 Mx hr (by decide) rfl (ea_cons (ee_add (ee_call (P := I (cellAt sc (2 + o % 8))) (cj_fn0 Mc hr (by decide) rfl (ea_cons (ee_var 0 rfl) (ea_cons (ee_cast (ee_add ee_int (ee_mod (ee_var 4 rfl) ee_int)) (P' := I ((2 + o % 8 : Nat) : Int)) (by congr 1)) ea_nil))) _ ⟨sc, 2 + o % 8, rfl⟩ (ho := fun _ _ q => q)) (ee_mul ee_int (ee_var 4 rfl) (.inl (by decide)))) (ea_cons (ee_var 5 rfl) ea_nil))) _ ⟨_, _, rfl⟩ (ho := fun _ _ q => q)) ee_int) sc__law_drawn.nd ?_
    refine go_if (et_cmp cmp_lt (ee_mod (ee_var 6 rfl) ee_int) (ee_cast (ee_ix (es_C (ec_N (en_lst (ea_cons ee_int (ea_cons ee_int (ea_cons ee_int (ea_cons ee_int (ea_cons ee_int ea_nil)))))))) (ee_var 2 rfl) (atI_five ⟨by omega, by omega⟩)) (P' := I (tblI (cellAt sc 1 % 5))) (by unfold tblI; split; rfl; split; rfl; split; rfl; split; rfl; rfl))) (fun h => ?_) (fun h => ?_)
    · have h1 : tieOn sc o i = true := h
      refine go_app 0 (ee_var 3 rfl) (ee_un (ee_tup (ea_cons (ee_var 5 rfl) (ea_cons (ee_var 4 rfl) ea_nil)))) rfl (by rw [List.length_map, List.length_append]; omega) (go_nil (go_nil ⟨⟨.inr rfl, .inr rfl, .inr rfl, .inr rfl, .inr rfl, .inl rfl, .inl rfl, .inr rfl, .inr rfl, trivial⟩, ?_, trivial⟩))
      rw [tieRow_succ, if_pos h1, ← List.append_assoc, List.map_append (l₂ := [((i : Int), (o : Int))])]
      rfl
    · have h1 : ¬ tieOn sc o i = true := by
        have h : tieOn sc o i = false := h
        rw [h]; decide
      refine go_nil (go_nil ⟨⟨.inr rfl, .inr rfl, .inr rfl, .inr rfl, .inr rfl, .inl rfl, .inl rfl, .inr rfl, .inr rfl, trivial⟩, ?_, trivial⟩)
      rw [tieRow_succ, if_neg h1, List.append_nil]
  · rw [Int.toNat_natCast]
    refine go_lcM (lcsR 7 (fun _ => true) (fun _ => Bo false) 8 sc__law_drawn.nd (ee_var 1 rfl) (by omega) (by omega) rfl b.range (blkOk_by (N := ["script", "many", "much", "ties", "other", "one", "drawn", "shy", "k"]) (sc := defScope s__law_drawn) (by decide +kernel)) (fun _ _ _ _ _ => pg_name (i := 8) sc__law_drawn.nd rfl (Or.inl rfl)) (fun _ _ => rfl) (fun _ _ _ => fun _ _ _ _ _ => ee_bl)) fun b1 hb1 => ?_
    have hnm : ∀ {l : Addr}, l ∉ (List.map (fun x : Ent => x.1) ([] : Del)) := fun h => List.not_mem_nil h
    refine go_ifc (fun Γ' Δ' => ∃ bb, Wk Γ' (Γ0.set 7 (some (Ref bb))) ∧ Δ' = [(a, ML ((tiesF sc m).map tP)), (bb, ML ((shyF sc m).map Bo))]) (et_cmp cmp_eq (ee_mod (ee_div (ee_call (P := I (cellAt sc 1)) (cj_fn0 Mc hr (by decide) rfl (ea_cons (ee_var 0 rfl) (ea_cons ee_int ea_nil))) _ ⟨sc, 1, rfl⟩ (ho := fun _ _ q => q)) ee_int) ee_int) ee_int) (fun h => ?_) (fun h => ?_) (fun Γ' Δ' ⟨bb, h1, h2⟩ => ?_)
    · refine go_lcM (lcsR 7 (fun _ => true) (fun k => Bo (decide (mix (cellAt sc 10) (k : Int) / 7 % 3 = 0))) 8 sc__law_drawn.nd (ee_var 1 rfl) (by omega) (by omega) rfl b.range (blkOk_by (N := ["script", "many", "much", "ties", "other", "one", "drawn", "shy", "k"]) (sc := defScope s__law_drawn) (by decide +kernel)) (fun _ _ _ _ _ => pg_name (i := 8) sc__law_drawn.nd rfl (Or.inl rfl)) (fun _ _ => rfl) (fun z _ _ => fun _ _ _ _ _ => ee_cmp cmp_eq (ee_mod (ee_div (ee_call (P := I (mix (cellAt sc 10) (z : Int))) (cj_fn0 Mx hr (by decide) rfl (ea_cons (ee_call (P := I (cellAt sc 10)) (cj_fn0 Mc hr (by decide) rfl (ea_cons (ee_var 0 rfl) (ea_cons ee_int ea_nil))) _ ⟨sc, 10, rfl⟩ (ho := fun _ _ q => q)) (ea_cons (ee_var 8 rfl) ea_nil))) _ ⟨_, _, rfl⟩ (ho := fun _ _ q => q)) ee_int) ee_int) ee_int)) fun b2 hb2 => ?_
      refine go_drop (Δ' := [(a, ML ((tiesF sc m).map tP)), (b2, ML (((List.range (m : Int).toNat).filter fun _ => true).map fun (k : Nat) => Bo (decide (mix (cellAt sc 10) (k : Int) / 7 % 3 = 0))))]) ((List.sublist_cons_self _ _).cons_cons _) (go_nil ⟨b2, ⟨.inr rfl, .inr rfl, .inr rfl, .inr rfl, .inl rfl, .inl rfl, .inl rfl, .inr rfl, .inl rfl, trivial⟩, ?_⟩)
      have e : ((List.range (m : Int).toNat).filter fun _ => true).map (fun (k : Nat) => Bo (decide (mix (cellAt sc 10) (k : Int) / 7 % 3 = 0))) = (shyF sc m).map Bo := by
        unfold shyF
        rw [filt_true, if_pos (of_decide_eq_true h), List.map_map, Int.toNat_natCast]
        rfl
      rw [e]
    · refine go_nil ⟨b1, ⟨.inr rfl, .inr rfl, .inr rfl, .inr rfl, .inl rfl, .inl rfl, .inl rfl, .inr rfl, .inl rfl, trivial⟩, ?_⟩
      have e : ((List.range (m : Int).toNat).filter fun _ => true).map (fun _ => Bo false) = (shyF sc m).map Bo := by
        unfold shyF
        rw [filt_true, if_neg (of_decide_eq_false h), List.map_replicate, Int.toNat_natCast]
        exact (List.map_const' ..).trans (by rw [List.length_range])
      rw [e]; rfl
    · subst h2
      exact go_wk h1 (go_ret (ee_tup (ea_cons (ee_var 1 rfl) (ea_cons (ee_var 3 rfl) (ea_cons (ee_var 7 rfl) ea_nil)))) ⟨a, bb, rfl, rfl⟩)
end
theorem atI_two' {P Q : Pr} {i : Int} (h : 0 ≤ i ∧ i < 2) : atI [P, Q] i = some (if i = 0 then P else Q) := by
  obtain rfl | rfl : i = 0 ∨ i = 1 := by omega
  · rfl
  · rfl
theorem pair_lt {p : Int × Int} (h : p.1 < p.2) : pair p.1 p.2 = p ∧ pair p.2 p.1 = p := by
  unfold pair
  constructor
  · rw [if_neg (by omega), if_pos (by omega)]
  · rw [if_pos (by omega), if_neg (by omega)]
/-- the shy lamps, those ahead of i being set -/
def hF (shy : List Bool) (i : Nat) : List Bool := shy.take i ++ List.replicate (shy.length - i) false
theorem hF_len {shy : List Bool} {i : Nat} (h : i ≤ shy.length) : (hF shy i).length = shy.length := by
  unfold hF
  rw [List.length_append, List.length_take, List.length_replicate]
  omega
theorem hF_all (shy : List Bool) : hF shy shy.length = shy := by
  unfold hF
  rw [List.take_length, Nat.sub_self]
  exact List.append_nil _
theorem hF_succ {shy : List Bool} {i : Nat} (h : i < shy.length) : hF shy (i + 1) = (hF shy i).set i (shy.getD i false) := by
  apply List.ext_getElem?
  intro k
  have hl : i < (hF shy i).length := by rw [hF_len (by omega)]; exact h
  unfold hF at hl ⊢
  by_cases hk : i = k
  · subst hk
    rw [List.getElem?_set_self hl, List.getElem?_append_left (by rw [List.length_take]; omega), List.getElem?_take_of_lt (by omega), List.getD_eq_getElem?_getD, List.getElem?_eq_getElem h]
    rfl
  · rw [List.getElem?_set_ne hk]
    by_cases h1 : k < i
    · rw [List.getElem?_append_left (by rw [List.length_take]; omega), List.getElem?_append_left (by rw [List.length_take]; omega), List.getElem?_take_of_lt (by omega), List.getElem?_take_of_lt h1]
    · rw [List.getElem?_append_right (by rw [List.length_take]; omega), List.getElem?_append_right (by rw [List.length_take]; omega), List.length_take, List.length_take, List.getElem?_replicate, List.getElem?_replicate]
      by_cases h2 : k < shy.length
      · rw [if_pos (by omega), if_pos (by omega)]
      · rw [if_neg (by omega), if_neg (by omega)]
theorem set_getD {l : List Bool} {i : Nat} (h : i < l.length) : l.set i (l.getD i false) = l := by
  apply set_id
  rw [List.getD_eq_getElem?_getD, List.getElem?_eq_getElem h]; rfl
/-- the turnings of all buttons -/
def trnsP (shy : List Bool) (ties : List (Int × Int)) : Pr := L ((List.range shy.length).map fun i => L ((trn shy ties i).map In))
theorem map_In (xs : List Nat) : xs.map In = (xs.map fun (k : Nat) => (k : Int)).map I := by rw [List.map_map]; rfl
theorem map_natI {xs ys : List Nat} : (xs.map fun (k : Nat) => (k : Int)) = ys.map (fun (k : Nat) => (k : Int)) ↔ xs = ys := ⟨fun h => by
  induction xs generalizing ys with
  | nil => cases ys with
    | nil => rfl
    | cons y ys => cases h
  | cons x xs ih => cases ys with
    | nil => cases h
    | cons y ys =>
      rw [List.map_cons, List.map_cons] at h
      injection h with h1 h2
      rw [Int.ofNat.inj h1, ih h2], fun h => by rw [h]⟩
theorem trn_len (hs : List Bool) (ks : List (Int × Int)) (i : Nat) : (trn hs ks i).length ≤ hs.length := Nat.le_trans (List.length_filter_le _ _) (by rw [List.length_range]; exact Nat.le_refl _)
theorem trn_congr (hs : List Bool) {ks ks' : List (Int × Int)} (h : ∀ p, p ∈ ks ↔ p ∈ ks') (i : Nat) : trn hs ks i = trn hs ks' i := by
  unfold trn
  refine List.filter_congr fun o _ => ?_
  unfold hit
  split
  · rfl
  · exact decide_eq_decide.mpr (h _)
theorem atI_trns {shy : List Bool} {ties : List (Int × Int)} {i : Nat} (h : i < shy.length) : atI ((List.range shy.length).map fun i => L ((trn shy ties i).map In)) (i : Int) = some (L ((trn shy ties i).map In)) := atI_nat (by rw [List.getElem?_map, List.getElem?_range h]; rfl)
theorem sc_In {k : Nat} : Sc (In k) := sc_I
section
variable {X : Cx} {ms : List Addr} {Γ : Gam} {Δ : Del} {K : Kk} {rest : List Stmt} {a e e2 : Expr} {q pos : Pos} {sc : List Int} {j : Nat} {x y : Int}
theorem ee_cell (k : Nat) (M : Fnc X.prog X.w X.K X.mg X.base "_law_cell_at" (C_cell X.K) 1) (hr : Room j X.A) (hk : 1 ≤ j) (ha : EE X Γ Δ a (Scr X.K sc)) (he : EE X Γ Δ e (I (k : Int))) (hg : Gl X "_law_cell_at" := by rfl)
    (hs : starEach [e] X.env = (false, eval e X.env) :: starEach [] X.env := by rfl) (he2 : starEach [a, e] X.env = (false, eval a X.env) :: starEach [e] X.env := by rfl) (hpl : (backTo pos (starEach [e] X.env)).any (·.1) = false := by rfl) :
    EE X Γ Δ (.Call (.Name "_law_cell_at" q) [a, e] [] pos) (I (cellAt sc k)) :=
  ee_call (P := I (cellAt sc k)) (cj_fn0 M hr hk hg (ea_cons ha (ea_cons he ea_nil hs) he2) (by decide) he2 hpl) _ ⟨sc, k, rfl⟩ (ho := fun _ _ q => q)
theorem ee_mixC (M : Fnc X.prog X.w X.K X.mg X.base "_law_mix" C_mix 1) (hr : Room j X.A) (hk : 1 ≤ j) (ha : EE X Γ Δ a (I x)) (he : EE X Γ Δ e (I y)) (hg : Gl X "_law_mix" := by rfl)
    (hs : starEach [e] X.env = (false, eval e X.env) :: starEach [] X.env := by rfl) (he2 : starEach [a, e] X.env = (false, eval a X.env) :: starEach [e] X.env := by rfl) (hpl : (backTo pos (starEach [e] X.env)).any (·.1) = false := by rfl) :
    EE X Γ Δ (.Call (.Name "_law_mix" q) [a, e] [] pos) (I (mix x y)) :=
  ee_call (P := I (mix x y)) (cj_fn0 M hr hk hg (ea_cons ha (ea_cons he ea_nil hs) he2) (by decide) he2 hpl) _ ⟨x, y, rfl⟩ (ho := fun _ _ q => q)
end
theorem map_get {α β : Type} {R : α → β} {l : List α} {i : Nat} {P : β} (h : (l.map R)[i]? = some P) : ∃ z, l[i]? = some z ∧ P = R z := by
  rw [List.getElem?_map] at h
  cases e : l[i]? with
  | none => rw [e] at h; cases h
  | some z => rw [e] at h; exact ⟨z, rfl, (Option.some.inj h).symm⟩
theorem hi_In {k : Nat} : Hi (In k) := hi_I
theorem hi_bools (l : List Bool) : Hi (L (l.map Bo)) := hi_L (His.map (fun _ => hi_Bo) _)
theorem hi_nats (l : List Nat) : Hi (L (l.map In)) := hi_L (His.map (fun _ => hi_In) _)
theorem hi_ints (l : List Int) : Hi (L (l.map I)) := hi_L (His.map (fun _ => hi_I) _)
theorem hi_tPs (l : List (Int × Int)) : Hi (L (l.map tP)) := hi_L (His.map (fun _ => hi_tP) _)
theorem hi_YV {CY : Addr} {hs : List Bool} {ks : List (Int × Int)} : Hi (YV CY hs ks) := hi_Iv ⟨hi_I, hi_DTv, hi_bools _, trivial⟩
theorem hi_rows (l : List (List Nat)) : Hi (L (l.map fun r => L (r.map In))) := hi_L (His.map (fun _ => hi_nats _) _)
theorem hi_trnsP {hs : List Bool} {ks : List (Int × Int)} : Hi (trnsP hs ks) := hi_L (His.map (fun _ => hi_nats _) _)
theorem natP {x n : Nat} (h : x < n) : okL (n : Int) (x : Int) := ⟨by omega, by omega⟩
theorem rep_cast {n : Nat} {b : Bool} {m : Int} (h : m.toNat = n) : ((List.range m.toNat).filter fun _ => true).map (fun _ => Bo b) = (List.replicate n b).map Bo := by
  rw [filt_true, h, List.map_replicate]
  exact (List.map_const' ..).trans (by rw [List.length_range])
section
variable {X : Cx} {ms : List Addr} {Γ : Gam} {Δ : Del} {a b e : Expr} {pos : Pos} {j : Nat}
theorem dat_bools {K : PySem.W.Frag} (l : List Bool) : Dat K (L (l.map Bo)) (.list (l.map .bool)) := dat_L (dats_map (fun _ => dat_Bo) l)
theorem dat_nats {K : PySem.W.Frag} (l : List Nat) : Dat K (L (l.map In)) (.list ((l.map fun (k : Nat) => (k : Int)).map .int)) := by
  rw [map_In]
  exact dat_L (dats_map (fun _ => dat_I) _)
theorem et_neBs {xs ys : List Bool} (hr : Room j X.A) (ha : EE X Γ Δ a (L (xs.map Bo))) (hb : EE X Γ Δ b (L (ys.map Bo))) (hm : behindInMarks .NotEq b = false := by first | exact nomark _ | rfl) : ET X Γ Δ (.Compare a [.NotEq] [b] pos) (!decide (xs = ys)) :=
  et_neD (hu64 hr) (edt ha (dat_bools xs)) (edt hb (dat_bools ys)) (shaped_bools _) (shaped_bools _) (eqv_bools xs ys) hm
theorem et_eqBs {xs ys : List Bool} (hr : Room j X.A) (ha : EE X Γ Δ a (L (xs.map Bo))) (hb : EE X Γ Δ b (L (ys.map Bo))) (hm : behindInMarks .Eq b = false := by first | exact nomark _ | rfl) : ET X Γ Δ (.Compare a [.Eq] [b] pos) (decide (xs = ys)) :=
  et_eqD (hu64 hr) (edt ha (dat_bools xs)) (edt hb (dat_bools ys)) (shaped_bools _) (shaped_bools _) (eqv_bools xs ys) hm
theorem ee_eqBs {xs ys : List Bool} (hr : Room j X.A) (ha : EE X Γ Δ a (L (xs.map Bo))) (hb : EE X Γ Δ b (L (ys.map Bo))) (hm : behindInMarks .Eq b = false := by first | exact nomark _ | rfl) : EE X Γ Δ (.Compare a [.Eq] [b] pos) (Bo (decide (xs = ys))) :=
  ee_eqD (hu64 hr) (edt ha (dat_bools xs)) (edt hb (dat_bools ys)) (shaped_bools _) (shaped_bools _) (eqv_bools xs ys) hm
theorem eqv_natsL (xs ys : List Nat) : PyData.eqv (.list ((xs.map fun (k : Nat) => (k : Int)).map .int)) (.list ((ys.map fun (k : Nat) => (k : Int)).map .int)) = decide (xs = ys) := by
  rw [eqv_ints, decide_eq_decide.mpr (map_natI (xs := xs) (ys := ys))]
theorem et_neNs {xs ys : List Nat} (hr : Room j X.A) (ha : EE X Γ Δ a (L (xs.map In))) (hb : EE X Γ Δ b (L (ys.map In))) (hm : behindInMarks .NotEq b = false := by first | exact nomark _ | rfl) : ET X Γ Δ (.Compare a [.NotEq] [b] pos) (!decide (xs = ys)) :=
  et_neD (hu64 hr) (edt ha (dat_nats xs)) (edt hb (dat_nats ys)) (shaped_ints _) (shaped_ints _) (eqv_natsL xs ys) hm
theorem ee_nats {xs : List Nat} (h : EE X Γ Δ a (L (xs.map In))) : EE X Γ Δ a (L ((xs.map fun (k : Nat) => (k : Int)).map I)) := ee_cast h (by rw [map_In])
end
theorem toNat_nats (xs : List Nat) : (xs.map fun (k : Nat) => (k : Int)).map Int.toNat = xs := by
  rw [List.map_map]
  exact (List.map_congr_left (g := id) fun x _ => Int.toNat_natCast x).trans (List.map_id xs)
/-! texts, plainly -/
abbrev tS (k : Nat) : Str := Str.ofString (toString ((k : Nat) : Int))
theorem len_app (a b : Str) : (a ++ b).length = a.length + b.length := by
  rw [TL.len_tl, TL.len_tl, TL.len_tl, TL.tl_append, List.length_append]
theorem tS_len {k : Nat} (h : k < 100) : (tS k).length ≤ 2 := by
  rw [TL.len_tl, TL.tl_num]
  exact TL.numL_len (by decide) h
theorem join_snoc (s : Str) : ∀ (ws : List Str) (x : Str), ws ≠ [] → Str.join s (ws ++ [x]) = Str.join s ws ++ s ++ x
  | [], _, h => absurd rfl h
  | [w], x, _ => rfl
  | w :: v :: ws, x, _ => by
    show w ++ s ++ Str.join s (v :: ws ++ [x]) = w ++ s ++ Str.join s (v :: ws) ++ s ++ x
    rw [join_snoc s (v :: ws) x (by simp)]
    refine TL.ext_tl ?_
    simp only [TL.tl_append, List.append_assoc]
def w0 (b : Bool) : Str := if b = true then "shy" else "lamp"
def tiedB (ks : List (Int × Int)) (lamp o : Nat) : Bool := decide (pair (o : Int) (lamp : Int) ∈ ks)
def wds (hs : List Bool) (ks : List (Int × Int)) (lamp i : Nat) : List Str := w0 (hs.getD lamp false) :: ((List.range i).filter (tiedB ks lamp)).map tS
def lineF (hs : List Bool) (ks : List (Int × Int)) (lamp : Nat) : Str := Str.join " " (wds hs ks lamp lamp)
def linesF (hs : List Bool) (ks : List (Int × Int)) (i : Nat) : List Str := (List.range i).map (lineF hs ks)
def textF (hs : List Bool) (ks : List (Int × Int)) : Str := Str.join "\n" (linesF hs ks hs.length)
theorem wds_succ (hs : List Bool) (ks : List (Int × Int)) (lamp i : Nat) : wds hs ks lamp (i + 1) = wds hs ks lamp i ++ if tiedB ks lamp i = true then [tS i] else [] := by
  unfold wds
  rw [List.range_succ, List.filter_append, List.map_append, List.cons_append]
  by_cases h : tiedB ks lamp i = true
  · rw [if_pos h, List.filter_cons_of_pos h]; rfl
  · rw [if_neg h, List.filter_cons_of_neg h]; rfl
theorem wds_ne (hs : List Bool) (ks : List (Int × Int)) (lamp i : Nat) : wds hs ks lamp i ≠ [] := by unfold wds; exact List.cons_ne_nil _ _
theorem w0_len (b : Bool) : (w0 b).length ≤ 4 := by cases b <;> decide +kernel
theorem sp_len : (Str.ofString " ").length = 1 := by decide +kernel
theorem nl_len : (Str.ofString "\n").length = 1 := by decide +kernel
theorem wds_len {hs : List Bool} {ks : List (Int × Int)} {lamp : Nat} : ∀ {i : Nat}, i ≤ 24 → (Str.join " " (wds hs ks lamp i)).length ≤ 4 + 3 * i
  | 0, _ => w0_len _
  | i + 1, h => by
    have ih := wds_len (hs := hs) (ks := ks) (lamp := lamp) (i := i) (by omega)
    rw [wds_succ]
    by_cases z : tiedB ks lamp i = true
    · rw [if_pos z, join_snoc _ _ _ (wds_ne _ _ _ _), len_app, len_app, sp_len]
      have := tS_len (k := i) (by omega)
      omega
    · rw [if_neg z, List.append_nil]; omega
theorem wds_sum {hs : List Bool} {ks : List (Int × Int)} {lamp : Nat} : ∀ {i : Nat}, i ≤ 24 → ((wds hs ks lamp i).map (·.length)).sum ≤ 4 + 2 * i ∧ (wds hs ks lamp i).length ≤ 1 + i
  | 0, _ => ⟨by have := w0_len (hs.getD lamp false); show _ + 0 ≤ 4; omega, Nat.le_refl 1⟩
  | i + 1, h => by
    have ih := wds_sum (hs := hs) (ks := ks) (lamp := lamp) (i := i) (by omega)
    rw [wds_succ]
    by_cases z : tiedB ks lamp i = true
    · rw [if_pos z, List.map_append, List.sum_append, List.length_append]
      have := tS_len (k := i) (by omega)
      have e : (List.map (fun x => Str.length x) [tS i]).sum = (tS i).length + 0 := rfl
      have e2 : [tS i].length = 1 := rfl
      rw [e, e2]
      omega
    · rw [if_neg z, List.append_nil]; omega
theorem lines_sum {hs : List Bool} {ks : List (Int × Int)} : ∀ {i : Nat}, i ≤ 24 → ((linesF hs ks i).map (·.length)).sum ≤ 76 * i
  | 0, _ => Nat.le_refl 0
  | i + 1, h => by
    have ih := lines_sum (hs := hs) (ks := ks) (i := i) (by omega)
    unfold linesF at ih ⊢
    rw [List.range_succ, List.map_append, List.map_append, List.sum_append]
    have h2 : (lineF hs ks i).length ≤ 4 + 3 * i := wds_len (hs := hs) (ks := ks) (lamp := i) (i := i) (by omega)
    have e : (List.map (fun x => Str.length x) (List.map (lineF hs ks) [i])).sum = (lineF hs ks i).length + 0 := rfl
    rw [e]
    omega
theorem lines_len (hs : List Bool) (ks : List (Int × Int)) (i : Nat) : (linesF hs ks i).length = i := by unfold linesF; rw [List.length_map, List.length_range]
theorem lines_succ (hs : List Bool) (ks : List (Int × Int)) (i : Nat) : linesF hs ks (i + 1) = linesF hs ks i ++ [lineF hs ks i] := by unfold linesF; rw [List.range_succ, List.map_append]; rfl
theorem text_ok {hs : List Bool} {ks : List (Int × Int)} (h : hs.length ≤ 24) : ((linesF hs ks hs.length).map (·.length)).sum + (linesF hs ks hs.length).length * (Str.ofString "\n").length ≤ 16777216 := by
  have := lines_sum (hs := hs) (ks := ks) h
  rw [lines_len, nl_len]
  omega
theorem log_ok {k : Nat} (h : k ≤ 24) : ((k : Nat) : Int).natAbs.log2 < 1920 := by
  have := Nat.log2_le_self k
  rw [Int.natAbs_natCast]
  omega
theorem sz24 {n : Nat} (h : n ≤ 100000) : n ≤ sizeLine := by unfold sizeLine; omega
theorem tied_in {ties : List (Int × Int)} {lamp o : Nat} (h : o < lamp) : tiedB ties lamp o = decide (((o : Int), (lamp : Int)) ∈ ties) := by
  unfold tiedB
  rw [(pair_lt (p := ((o : Int), (lamp : Int))) (by show (o : Int) < (lamp : Int); omega)).1]
theorem hi_strs (l : List Str) : Hi (L (l.map Sx)) := hi_L (His.map (fun _ => hi_Sx) _)
section
variable {P : Program} {w : World} {K : PySem.W.Frag} {mg : Str → Option Value} {base : Heap} {CY cNY cNL cAl cTi cUn : Addr}
def c_ltext (ties : List (Int × Int)) (shy : List Bool) : Cn := ⟨[I (shy.length : Int), L (ties.map tP), L (shy.map Bo)], fun P _ => P = N (L ((linesF shy ties shy.length).map Sx)), [], fun _ _ => False⟩
def C_ltext : Cn → Prop := fun c => ∃ (ties : List (Int × Int)) (shy : List Bool), shy.length ≤ 24 ∧ c = c_ltext ties shy
theorem ok_ltext {f : Addr} {fd : FuncData} (F : Fu K "_law_text" "_law_text" s__law_text f fd) (b : Bl mg) : FnOk P w K mg base (L2N.CX P w) 1 f fd ["many", "ties", "shy"] (spC C_ltext) := by
  refine fn_go F sc__law_text (fun c ⟨ties, shy, h1, e⟩ => by subst e; exact ⟨rfl, ⟨hi_I, hi_L (His.map (fun _ => hi_tP) _), hi_L (His.map (fun _ => hi_Bo) _), trivial⟩, trivial⟩) fun c ⟨ties, shy, hn, e⟩ cdv A outer s H E hr => ?_
  subst e
  refine go_setM (Kx := fun _ _ => False) 3 (em_N (en_lst ea_nil)) sc__law_text.nd (fun _ _ q => q) fun P' Δ' ⟨fo, hfm, e1, e2⟩ => ?_
  subst e1 e2
  let Γ0 : Gam := [some (I (shy.length : Int)), some (L (ties.map tP)), some (L (shy.map Bo)), some (Ref fo), none, none, none]
  refine go_forR 4 (fun _ => Γ0) (fun i => [(fo, ML ((linesF shy ties i).map Sx))]) (fun _ => True) (passes_of rfl) sc__law_text.nd (ee_var 0 rfl) (by omega) (by omega) ⟨Wk.refl _, rfl, trivial⟩ rfl b.range (fun i hi _ => ?_) (fun _ => ?_)
  · have hil : i < shy.length := by omega
    refine go_set 5 (ee_ifx (P := Sx (w0 (shy.getD i false))) (k := shy.getD i false) (et_val (ee_ix (es_L (ee_var 2 rfl)) (ee_var 4 rfl) (atI_map false (natP hil)))) (fun h => ee_cast ee_str (by rw [h]; rfl)) (fun h => ee_cast ee_str (by rw [h]; rfl))) sc__law_text.nd ?_
    refine go_forR 6 (fun j => [some (I (shy.length : Int)), some (L (ties.map tP)), some (L (shy.map Bo)), some (Ref fo), some (In i), some (Sx (Str.join " " (wds shy ties i j))), none]) (fun _ => [(fo, ML ((linesF shy ties i).map Sx))]) (fun _ => True) (passes_of rfl) sc__law_text.nd (ee_var 4 rfl) (by omega) (by omega) ⟨⟨.inr rfl, .inr rfl, .inr rfl, .inr rfl, .inr rfl, .inr rfl, .inr rfl, trivial⟩, rfl, trivial⟩ rfl b.range (fun j hj _ => ?_) (fun _ => ?_)
    · have hji : j < i := by omega
      have es := wds_succ shy ties i j
      have hwl := wds_len (hs := shy) (ks := ties) (lamp := i) (i := j) (by omega)
      refine go_if (et_cast (k' := tiedB ties i j) (et_inDt (k := decide (((j : Int), (i : Int)) ∈ ties)) (hu65 hr) (edt (ee_tup (ea_cons (ee_var 6 rfl) (ea_cons (ee_var 4 rfl) ea_nil))) (dat_N (dat_tP (p := ((j : Int), (i : Int)))))) (edt (ee_var 1 rfl) (dat_L (dats_map (fun _ => dat_tP) ties))) (pD_shaped _) (shaped_pairs ties) (any_pairs ties _)) (tied_in hji).symm) (fun h => ?_) (fun h => ?_)
      · rw [if_pos h] at es
        have e2 : Str.join " " (wds shy ties i (j + 1)) = Str.join " " (wds shy ties i j) ++ " " ++ tS j := by rw [es]; exact join_snoc _ _ _ (wds_ne _ _ _ _)
        have htl := tS_len (k := j) (by omega)
        refine go_set 5 (ee_cats (ee_cats (ee_var 5 rfl) ee_str (by rw [sp_len]; exact sz24 (by omega))) (ee_strI (ee_var 6 rfl) (log_ok (by omega)) rfl b.str) (by rw [len_app, sp_len]; exact sz24 (Nat.le_trans (Nat.add_le_add_left htl _) (by omega)))) sc__law_text.nd (go_nil (go_nil ⟨?_, rfl, trivial⟩))
        show Wk _ [some (I (shy.length : Int)), some (L (ties.map tP)), some (L (shy.map Bo)), some (Ref fo), some (In i), some (Sx (Str.join " " (wds shy ties i (j + 1)))), none]
        rw [e2]
        exact ⟨.inr rfl, .inr rfl, .inr rfl, .inr rfl, .inr rfl, .inr rfl, .inl rfl, trivial⟩
      · rw [if_neg (by rw [h]; decide), List.append_nil] at es
        refine go_nil (go_nil ⟨?_, rfl, trivial⟩)
        show Wk _ [some (I (shy.length : Int)), some (L (ties.map tP)), some (L (shy.map Bo)), some (Ref fo), some (In i), some (Sx (Str.join " " (wds shy ties i (j + 1)))), none]
        rw [es]
        exact ⟨.inr rfl, .inr rfl, .inr rfl, .inr rfl, .inr rfl, .inr rfl, .inl rfl, trivial⟩
    · rw [Int.toNat_natCast]
      refine go_app 0 (ee_var 3 rfl) (ee_var 5 rfl) rfl (by rw [List.length_map, lines_len]; omega) ?_
      refine go_nil ⟨⟨.inr rfl, .inr rfl, .inr rfl, .inr rfl, .inl rfl, .inl rfl, .inr rfl, trivial⟩, ?_, trivial⟩
      show _ = [(fo, ML ((linesF shy ties (i + 1)).map Sx))]
      rw [lines_succ, List.map_append]; rfl
  · rw [Int.toNat_natCast]
    exact go_frz 0 3 rfl hfm rfl (go_ret (ee_var 3 rfl) rfl)
end
/-! reading, plainly -/
def numF (w : Str) (lamp : Nat) : Option Nat := (List.range lamp).find? fun o => decide (w = tS o)
theorem numF_some {w : Str} {lamp o : Nat} (h : numF w lamp = some o) : o < lamp ∧ w = tS o := by
  unfold numF at h
  have h1 := List.mem_of_find?_eq_some h
  have h2 := List.find?_some h
  exact ⟨List.mem_range.mp h1, of_decide_eq_true h2⟩
theorem tS_inj {m n : Nat} (h : tS m = tS n) : m = n := TL.numL_inj (by rw [← TL.tl_num, ← TL.tl_num]; exact congrArg TL.tl h)
theorem numF_at {w : Str} {lamp o : Nat} (h : o < lamp) (e : w = tS o) : numF w lamp = some o := by
  cases q : numF w lamp with
  | none =>
    unfold numF at q
    have := List.find?_eq_none.mp q o (List.mem_range.mpr h)
    rw [e] at this
    simp at this
  | some k =>
    have := (numF_some q).2
    rw [e] at this
    rw [tS_inj this]
theorem numF_none {w : Str} {lamp : Nat} (h : ∀ o, o < lamp → w ≠ tS o) : numF w lamp = none := by
  unfold numF
  exact List.find?_eq_none.mpr fun o ho => by rw [decide_eq_false (h o (List.mem_range.mp ho))]; decide
def rlStep (lamp : Nat) (st : Option (List Nat × Int)) (w : Str) : Option (List Nat × Int) := match st with
  | none => none
  | some (os, last) => match numF w lamp with
    | none => none
    | some o => if (o : Int) ≤ last then none else some (os ++ [o], (o : Int))
def rlW (lamp : Nat) (ws : List Str) : Option (List Nat × Int) := ws.foldl (rlStep lamp) (some ([], -1))
def rlF (lamp : Nat) (ws : List Str) : Option (Bool × List Nat) := match ws with
  | [] => none
  | w :: ws => if w ≠ "lamp" ∧ w ≠ "shy" then none else match rlW lamp ws with
    | none => none
    | some st => some (decide (w = "shy"), st.1)
theorem rlF_bad {lamp : Nat} {w : Str} {ws : List Str} (h : w ≠ "lamp" ∧ w ≠ "shy") : rlF lamp (w :: ws) = none := by
  show (if w ≠ Str.ofString "lamp" ∧ w ≠ Str.ofString "shy" then none else _) = none
  exact if_pos h
theorem rlF_go {lamp : Nat} {w : Str} {ws : List Str} (h : ¬ (w ≠ "lamp" ∧ w ≠ "shy")) : rlF lamp (w :: ws) = match rlW lamp ws with | none => none | some st => some (decide (w = "shy"), st.1) := by
  show (if w ≠ Str.ofString "lamp" ∧ w ≠ Str.ofString "shy" then none else _) = _
  exact if_neg h
theorem rl_stuck (lamp : Nat) : ∀ ws : List Str, ws.foldl (rlStep lamp) none = none
  | [] => rfl
  | _ :: ws => rl_stuck lamp ws
theorem rlW_succ {lamp : Nat} {ws : List Str} {i : Nat} {w : Str} (h : ws[i]? = some w) : rlW lamp (ws.take (i + 1)) = rlStep lamp (rlW lamp (ws.take i)) w := by
  unfold rlW
  rw [List.take_succ, h, List.foldl_append]; rfl
theorem rlW_cut {lamp : Nat} {ws : List Str} {i : Nat} (h : rlW lamp (ws.take i) = none) : rlW lamp ws = none := by
  have e : rlW lamp ws = (ws.drop i).foldl (rlStep lamp) (rlW lamp (ws.take i)) := by
    unfold rlW
    rw [← List.foldl_append, List.take_append_drop]
  rw [e, h, rl_stuck]
theorem rlW_inv {lamp : Nat} : ∀ (ws : List Str) {os : List Nat} {last : Int}, ws.foldl (rlStep lamp) (some (os, last)) = none ∨ ∃ st, ws.foldl (rlStep lamp) (some (os, last)) = some st ∧ ((∀ o ∈ os, o < lamp ∧ (o : Int) ≤ last) → (os.length : Int) ≤ last + 1 → -1 ≤ last → last < (lamp : Int) → (∀ o ∈ st.1, o < lamp ∧ (o : Int) ≤ st.2) ∧ (st.1.length : Int) ≤ st.2 + 1 ∧ -1 ≤ st.2 ∧ st.2 < (lamp : Int))
  | [], os, last => .inr ⟨(os, last), rfl, fun h1 h2 h3 h4 => ⟨h1, h2, h3, h4⟩⟩
  | w :: ws, os, last => by
    show (ws.foldl (rlStep lamp) (rlStep lamp (some (os, last)) w) = none ∨ _)
    cases q : numF w lamp with
    | none =>
      have e : rlStep lamp (some (os, last)) w = none := by unfold rlStep; rw [q]
      rw [e]; exact .inl (rl_stuck _ _)
    | some o =>
      have hl := (numF_some q).1
      by_cases z : (o : Int) ≤ last
      · have e : rlStep lamp (some (os, last)) w = none := by unfold rlStep; rw [q]; exact if_pos z
        rw [e]; exact .inl (rl_stuck _ _)
      · have e : rlStep lamp (some (os, last)) w = some (os ++ [o], (o : Int)) := by unfold rlStep; rw [q]; exact if_neg z
        have e2 : (w :: ws).foldl (rlStep lamp) (some (os, last)) = ws.foldl (rlStep lamp) (some (os ++ [o], (o : Int))) := by rw [List.foldl_cons, e]
        rw [e2, e]
        rcases rlW_inv ws (os := os ++ [o]) (last := (o : Int)) with h | ⟨st, h1, h2⟩
        · exact .inl h
        · refine .inr ⟨st, h1, fun g1 g2 g3 g4 => h2 (fun x hx => ?_) ?_ (by omega) (by omega)⟩
          · rcases List.mem_append.mp hx with y | y
            · have := g1 x y; exact ⟨this.1, by omega⟩
            · rw [List.mem_singleton.mp y]; exact ⟨hl, Int.le_refl _⟩
          · rw [List.length_append]
            show ((os.length + 1 : Nat) : Int) ≤ _
            omega
theorem rlW_ok {lamp : Nat} {ws : List Str} {st : List Nat × Int} (h : rlW lamp ws = some st) : (∀ o ∈ st.1, o < lamp ∧ (o : Int) ≤ st.2) ∧ (st.1.length : Int) ≤ st.2 + 1 ∧ -1 ≤ st.2 ∧ st.2 < (lamp : Int) := by
  rcases rlW_inv (lamp := lamp) ws (os := []) (last := -1) with e | ⟨st', e, k⟩
  · have h : ws.foldl (rlStep lamp) (some ([], -1)) = some st := h
    rw [e] at h; cases h
  · have h : ws.foldl (rlStep lamp) (some ([], -1)) = some st := h
    rw [e] at h
    cases h
    exact k (fun _ z => absurd z List.not_mem_nil) (by decide) (by decide) (by omega)
def tieTo (lamp : Nat) (o : Nat) : Int × Int := ((o : Int), (lamp : Int))
def rdStep (wss : List (List Str)) (st : Option (List Bool × List (Int × Int))) (lamp : Nat) : Option (List Bool × List (Int × Int)) := match st with
  | none => none
  | some (hs, ks) => match rlF lamp (wss.getD lamp []) with
    | none => none
    | some (b, os) => some (hs.set lamp b, ks ++ os.map (tieTo lamp))
def rdS (wss : List (List Str)) (i : Nat) : Option (List Bool × List (Int × Int)) := (List.range i).foldl (rdStep wss) (some (List.replicate wss.length false, []))
def readF (wss : List (List Str)) : Option (List Bool × List (Int × Int)) := if 24 < wss.length then none else rdS wss wss.length
theorem rdS_succ (wss : List (List Str)) (i : Nat) : rdS wss (i + 1) = rdStep wss (rdS wss i) i := by
  unfold rdS
  rw [List.range_succ, List.foldl_append]; rfl
theorem rdS_stuck {wss : List (List Str)} {i j : Nat} (h : rdS wss i = none) (hj : i ≤ j) : rdS wss j = none := by
  induction j with
  | zero => have : i = 0 := by omega
            rw [this] at h; exact h
  | succ j ih =>
    rcases Nat.lt_or_ge i (j + 1) with z | z
    · rw [rdS_succ, ih (by omega)]; rfl
    · have : i = j + 1 := by omega
      rw [this] at h; exact h
theorem readF_bad {wss : List (List Str)} {lamp : Nat} (hl : lamp < wss.length) (h : rlF lamp (wss.getD lamp []) = none) : readF wss = none := by
  unfold readF
  split
  · rfl
  · have : rdS wss (lamp + 1) = none := by
      rw [rdS_succ]
      unfold rdStep
      cases rdS wss lamp with
      | none => rfl
      | some st => rw [h]
    exact rdS_stuck this hl
theorem rdS_ok {wss : List (List Str)} : ∀ {i : Nat} {hs : List Bool} {ks : List (Int × Int)}, i ≤ 24 → rdS wss i = some (hs, ks) → hs.length = wss.length ∧ (∀ p ∈ ks, p.2 < (i : Int)) ∧ ks.length ≤ 24 * i
  | 0, hs, ks, _, h => by
    cases h
    exact ⟨List.length_replicate, fun p z => absurd z List.not_mem_nil, Nat.zero_le _⟩
  | i + 1, hs, ks, hi, h => by
    rw [rdS_succ] at h
    cases q : rdS wss i with
    | none => rw [q] at h; cases h
    | some st =>
      obtain ⟨hs0, ks0⟩ := st
      obtain ⟨a1, a2, a3⟩ := rdS_ok (by omega) q
      rw [q] at h
      have h : (match rlF i (wss.getD i []) with | none => none | some (b, os) => some (hs0.set i b, ks0 ++ os.map (tieTo i))) = some (hs, ks) := h
      cases r : rlF i (wss.getD i []) with
      | none => rw [r] at h; cases h
      | some bo =>
        obtain ⟨b, os⟩ := bo
        rw [r] at h
        cases h
        have hos : os.length ≤ 24 := by
          unfold rlF at r
          split at r
          · cases r
          · split at r
            · cases r
            · split at r
              · cases r
              · rename_i st hst
                cases r
                have := rlW_ok hst
                omega
        refine ⟨by rw [List.length_set, a1], fun p hp => ?_, by rw [List.length_append, List.length_map]; omega⟩
        rcases List.mem_append.mp hp with z | z
        · have := a2 p z; omega
        · obtain ⟨o, _, rfl⟩ := List.mem_map.mp z
          show (i : Int) < _
          omega
/-- the words of a line, and the lines of a text, keep off what parts them -/
def okW (x : Str) : Prop := 32 ∉ TL.tl x ∧ 10 ∉ TL.tl x
theorem split_line {ws : List Str} (hn : ws ≠ []) (h : ∀ x ∈ ws, okW x) : Txt.split (Str.join " " ws) " " = ws := by
  rw [← TL.join_eq]
  exact TL.split_join (s := 32) (S := []) (by decide +kernel) (by decide +kernel) hn fun p hp => (h p hp).1
theorem line_nl : ∀ {ws : List Str}, (∀ x ∈ ws, okW x) → 10 ∉ TL.tl (Str.join " " ws)
  | [], _ => by decide +kernel
  | [w], h => (h w List.mem_cons_self).2
  | w :: v :: ws, h => by
    show 10 ∉ TL.tl (w ++ " " ++ Str.join " " (v :: ws))
    rw [TL.tl_append, TL.tl_append]
    intro z
    rcases List.mem_append.mp z with z | z
    · rcases List.mem_append.mp z with z | z
      · exact (h w List.mem_cons_self).2 z
      · exact absurd z (by decide +kernel)
    · exact line_nl (fun x hx => h x (List.mem_cons_of_mem _ hx)) z
theorem split_text {wss : List (List Str)} (hn : wss ≠ []) (h : ∀ ws ∈ wss, ∀ x ∈ ws, okW x) : Txt.split (Str.join "\n" (wss.map (Str.join " "))) "\n" = wss.map (Str.join " ") := by
  rw [← TL.join_eq]
  exact TL.split_join (s := 10) (S := []) (by decide +kernel) (by decide +kernel) (fun z => hn (List.map_eq_nil_iff.mp z)) fun p hp => by
    obtain ⟨ws, hw, rfl⟩ := List.mem_map.mp hp
    exact line_nl (h ws hw)
structure okT (wss : List (List Str)) : Prop where
  ne : wss ≠ []
  few : wss.length ≤ 1000
  wne : ∀ ws ∈ wss, ws ≠ []
  wok : ∀ ws ∈ wss, ∀ x ∈ ws, okW x
  lsz : ∀ ws ∈ wss, (Str.join " " ws).length ≤ 100000 ∧ ws.length ≤ 1000
  tsz : (Str.join "\n" (wss.map (Str.join " "))).length ≤ 1000000
section
variable {X : Cx} {ms : List Addr} {K : Kk} {Γ : Gam}
theorem go_frzY {sts : List Stmt} (i : Nat) {CY d l : Addr} {n : Int} {ks : List (Int × Int)} {hs : List Bool} (hn : n = (hs.length : Int)) (h0 : d ∉ ms) (h1 : l ∉ ms) (hΓ : Γ[i]? = some (some (N (YM CY n d l)))) (g : Go X ms (Γ.set i (some (N (YV CY hs ks)))) [] sts K) : Go X ms Γ [(d, MT ks), (l, ML (hs.map Bo))] sts K := fun W Wi B H σ D hm tk S s ok => by
  obtain ⟨B', S2, sm, hB⟩ := S.frzAll fun e he => by
    rcases List.mem_cons.mp he with rfl | he
    · rw [hm]; exact h0
    · rw [List.mem_singleton.mp he, hm]; exact h1
  obtain ⟨_, o, k1, k0⟩ := hB (d, MT ks) List.mem_cons_self
  have k0 : o = .dT (enc ks) := k0
  obtain ⟨_, o2, k2, xs, k4, k3⟩ := hB (l, ML (hs.map Bo)) (List.mem_cons_of_mem _ List.mem_cons_self)
  obtain ⟨v, j1, ⟨⟨a, dx, ys, e, q2, q3⟩, q4⟩⟩ := s.2 i _ hΓ
  subst e
  have hil : i < σ.length := (List.getElem?_eq_some_iff.mp j1).1
  have hset : σ.set i (some (.ref a)) = σ := by
    apply List.ext_getElem?
    intro j
    by_cases hj : i = j
    · subst hj
      rw [List.getElem?_set_self hil, j1]
    · rw [List.getElem?_set_ne hj]
  match ys, q3 with
  | [y0, y1, y2], ⟨r0, r1, r2, _⟩ =>
    have r0 : y0 = .int n := r0
    have r1 : y1 = .ref d := r1
    have r2 : y2 = .ref l := r2
    subst r0 r1 r2 k0 k4
    have new : (N (YV CY hs ks)).p W.H B' (.ref a) := ⟨⟨a, dx, [_, _, _], rfl, sm _ _ q2, ⟨by rw [hn]; rfl, ⟨d, rfl, k1⟩, ⟨l, xs, rfl, k2, k3⟩, trivial⟩⟩, q4⟩
    have s2 := (s.mono sm).set (P := N (YV CY hs ks)) (v := .ref a) i new
    rw [hset] at s2
    exact g W Wi B' H σ D hm tk S2 s2 ok
end
section
variable {P : Program} {w : World} {K : PySem.W.Frag} {mg : Str → Option Value} {base : Heap} {CY cNY cNL cAl cTi cUn cNN : Addr}
def c_numof (cNN : Addr) (wd : Str) (lamp : Nat) : Cn := ⟨[Sx wd, In lamp], fun P _ => ∃ o, numF wd lamp = some o ∧ P = In o, [], fun v _ => v = .ref cNN ∧ numF wd lamp = none⟩
def C_numof (cNN : Addr) : Cn → Prop := fun c => ∃ (wd : Str) (lamp : Nat), lamp ≤ 24 ∧ c = c_numof cNN wd lamp
theorem ok_numof {f : Addr} {fd : FuncData} (F : Fu K "number_of" "number_of" s_number_of f fd) (b : Bl mg) (XN : ExcT K mg "NoNote" cNN) : FnOk P w K mg base (L2N.CX P w) 1 f fd ["word", "lamp"] (spC (C_numof cNN)) := by
  refine fn_go F sc_number_of (fun c ⟨wd, lamp, h1, e⟩ => by subst e; exact ⟨rfl, ⟨hi_Sx, hi_I, trivial⟩, trivial⟩) fun c ⟨wd, lamp, h1, e⟩ cdv A outer s H E hr => ?_
  subst e
  refine go_forR 2 (fun _ => [some (Sx wd), some (In lamp), none]) (fun _ => []) (fun i => ∀ o, o < i → wd ≠ tS o) (passes_of rfl) sc_number_of.nd (ee_var 1 rfl) (by omega) (by omega) ⟨Wk.refl _, rfl, fun o z => absurd z (Nat.not_lt_zero _)⟩ rfl b.range (fun i hi hp => ?_) (fun hp => ?_)
  · refine go_if (et_cmp cmp_eqS (ee_var 0 rfl) (ee_strI (ee_var 2 rfl) (log_ok (by omega)) rfl b.str)) (fun h => go_ret (ee_var 2 rfl) ⟨i, numF_at (by omega) (of_decide_eq_true h), rfl⟩) (fun h => go_nil (go_nil ⟨⟨.inr rfl, .inr rfl, .inl rfl, trivial⟩, rfl, fun o ho => ?_⟩))
    rcases Nat.lt_or_ge o i with z | z
    · exact hp o z
    · have : o = i := by omega
      rw [this]; exact of_decide_eq_false h
  · exact go_raise XN ⟨rfl, numF_none fun o ho => hp o (by omega)⟩
def c_rdlamp (CY cNN : Addr) (hs : List Bool) (ks : List (Int × Int)) (lamp : Nat) (ws : List Str) (d l : Addr) : Cn := ⟨[YM CY (hs.length : Int) d l, In lamp, Sx (Str.join " " ws)], fun P D => ∃ b os, rlF lamp ws = some (b, os) ∧ P = No ∧ D = [(d, MT (ks ++ os.map (tieTo lamp))), (l, ML ((hs.set lamp b).map Bo))], [(d, MT ks), (l, ML (hs.map Bo))], fun v D => v = .ref cNN ∧ rlF lamp ws = none ∧ ∃ (ks' : List (Int × Int)) (hs' : List Bool), D = [(d, MT ks'), (l, ML (hs'.map Bo))]⟩
def C_rdlamp (CY cNN : Addr) : Cn → Prop := fun c => ∃ (hs : List Bool) (ks : List (Int × Int)) (lamp : Nat) (ws : List Str) (d l : Addr), hs.length ≤ 24 ∧ lamp < hs.length ∧ ks.length ≤ 600 ∧ (∀ p ∈ ks, p.2 < (lamp : Int)) ∧ ws ≠ [] ∧ (∀ x ∈ ws, okW x) ∧ (Str.join " " ws).length ≤ 100000 ∧ ws.length ≤ 1000 ∧ c = c_rdlamp CY cNN hs ks lamp ws d l
theorem ok_rdlamp {f : Addr} {fd : FuncData} (F : Fu K "read_lamp" "read_lamp" s_read_lamp f fd) (b : Bl mg) (XN : ExcT K mg "NoNote" cNN) (Mn : Fnc P w K mg base "number_of" (C_numof cNN) 1) (Ms : Mtc P w K mg base CY "set_shy" (C_setshy CY cNL) 2 []) (Mt : Mtc P w K mg base CY "tie" (C_tie CY cNL cAl cTi) 4 []) : FnOk P w K mg base (L2N.CX P w) 5 f fd ["yard", "lamp", "line"] (spC (C_rdlamp CY cNN)) := by
  refine fn_go F sc_read_lamp (fun c ⟨hs, ks, lamp, ws, d, l, h1, h2, h3, h4, h5, h6, h7, h8, e⟩ => by subst e; exact ⟨rfl, ⟨hi_Iv ⟨hi_I, hi_Ref, hi_Ref, trivial⟩, hi_I, hi_Sx, trivial⟩, hi_MT, hi_ML (His.map (fun _ => hi_Bo) _), trivial⟩) fun c ⟨hs, ks, lamp, ws, d, l, hn, hlp, hks, hk2, hne, hwo, hsz, hwl, e⟩ cdv A outer s H E hr => ?_
  subst e
  have hok : okL (hs.length : Int) (lamp : Int) := natP hlp
  refine go_set 3 (ee_N (en_cast (en_split (ee_var 2 rfl) ee_str (by decide +kernel) (by unfold sizeLine; omega)) (congrArg (List.map Sx) (split_line hne hwo)))) sc_read_lamp.nd ?_
  cases ws with
  | nil => exact absurd rfl hne
  | cons w0 ws =>
  have hfail : ∀ {ks' : List (Int × Int)} {hs' : List Bool}, rlF lamp (w0 :: ws) = none → (c_rdlamp CY cNN hs ks lamp (w0 :: ws) d l).exc (.ref cNN) [(d, MT ks'), (l, ML (hs'.map Bo))] := fun h => ⟨rfl, h, _, _, rfl⟩
  have hat : atI ((w0 :: ws).map Sx) ((0 : Nat) : Int) = some (Sx w0) := atI_nat rfl
  have hat : atI ((w0 :: ws).map Sx) 0 = some (Sx w0) := hat
  refine go_if (et_w (ew_and (et_cmp cmp_neS (ee_ix (es_L (ee_un (ee_var 3 rfl))) ee_int hat) ee_str) fun _ => ew_and1 (et_cmp cmp_neS (ee_ix (es_L (ee_un (ee_var 3 rfl))) ee_int hat) ee_str))) (fun h => go_raise XN (hfail ?_)) (fun h => go_nil ?_)
  · have h2 : w0 ≠ "lamp" ∧ w0 ≠ "shy" := by simpa using h
    exact rlF_bad h2
  have hw : ¬ (w0 ≠ "lamp" ∧ w0 ≠ "shy") := by simpa using h
  have hrl : rlF lamp (w0 :: ws) = match rlW lamp ws with | none => none | some st => some (decide (w0 = "shy"), st.1) := rlF_go hw
  refine go_exprM (yl_setshyX 1 (hs := hs) Ms hr (by decide) (ee_var 0 rfl) (ee_var 1 rfl) (ee_cmp cmp_eqS (ee_ix (es_L (ee_un (ee_var 3 rfl))) ee_int hat) ee_str) rfl) (fun v Δ' ⟨⟨_, q⟩, _⟩ => absurd hok q) fun P' Δ' ⟨_, e⟩ => ?_
  subst e
  generalize hb : decide (w0 = "shy") = bb at hrl
  refine go_set 4 (ee_neg ee_int) sc_read_lamp.nd ?_
  let stF : Nat → List Nat × Int := fun i => (rlW lamp (ws.take i)).getD ([], -1)
  let Γf : Nat → Gam := fun i => [some (YM CY (hs.length : Int) d l), some (In lamp), some (Sx (Str.join " " (w0 :: ws))), some (N (L ((w0 :: ws).map Sx))), some (I (stF i).2), none, none]
  let Δf : Nat → Del := fun i => [(d, MT (ks ++ (stF i).1.map (tieTo lamp))), (l, ML ((hs.set lamp bb).map Bo))]
  have hst0 : stF 0 = ([], -1) := rfl
  have ec : cut ((w0 :: ws).map Sx) (some 1) none = ws.map Sx := by
    unfold cut
    have h1 : HT.sIx ((w0 :: ws).map Sx).length 0 (some 1) = 1 := by
      unfold HT.sIx
      rw [List.length_map, List.length_cons]
      show (if (1 : Int) < 0 then _ else _) = _
      rw [if_neg (by omega)]
      omega
    have h2 : HT.sIx ((w0 :: ws).map Sx).length ((w0 :: ws).map Sx).length none = ((w0 :: ws).map Sx).length := rfl
    rw [h1, h2, List.take_of_length_le (by rw [List.length_drop]; exact Nat.le_refl _)]
    rfl
  show Go _ _ [some (YM CY (hs.length : Int) d l), some (In lamp), some (Sx (Str.join " " (w0 :: ws))), some (N (L ((w0 :: ws).map Sx))), some (I (-1)), none, none] [(d, MT ks), (l, ML ((hs.set lamp bb).map Bo))] _ _
  refine go_forL (ps := ws.map Sx) 5 Γf Δf (fun i => rlW lamp (ws.take i) = some (stF i)) (passes_of rfl) sc_read_lamp.nd (ef_L (ee_un (ee_N (en_cast (en_sl (es_L (ee_un (ee_var 3 rfl))) (eo_some ee_int) eo_none) ec)))) ⟨⟨.inr rfl, .inr rfl, .inr rfl, .inr rfl, .inr rfl, .inr rfl, .inr rfl, trivial⟩, by show _ = [(d, MT (ks ++ [])), _]; rw [List.append_nil], rfl⟩ (fun i P hP hp => ?_) (fun hp => ?_)
  · obtain ⟨wd, hwd, rfl⟩ := map_get hP
    have es := rlW_succ (lamp := lamp) hwd
    obtain ⟨k1, k2, k3, k4⟩ := rlW_ok hp
    have esF : stF (i + 1) = (rlW lamp (ws.take (i + 1))).getD ([], -1) := rfl
    rw [hp] at es
    generalize hsi : stF i = st at hp es k1 k2 k3 k4
    obtain ⟨os, last⟩ := st
    show Go _ _ [some (YM CY (hs.length : Int) d l), some (In lamp), some (Sx (Str.join " " (w0 :: ws))), some (N (L ((w0 :: ws).map Sx))), some (I (stF i).2), some (Sx wd), none] [(d, MT (ks ++ (stF i).1.map (tieTo lamp))), (l, ML ((hs.set lamp bb).map Bo))] _ _
    rw [hsi]
    have hbad : rlStep lamp (some (os, last)) wd = none → rlF lamp (w0 :: ws) = none := fun z => by
      rw [hrl, rlW_cut (i := i + 1) (es.trans z)]
    refine go_setM 6 (em_call0 (cj_fn Mn hr (by decide) (by rfl) (ea_cons (ee_var 5 rfl) (ea_cons (ee_var 1 rfl) ea_nil))) (c_numof cNN wd lamp) ⟨wd, lamp, by omega, rfl⟩) sc_read_lamp.nd (fun v Δ' ⟨⟨_, q1, q2⟩, e⟩ => ?_) fun P' Δ' ⟨⟨_, o, q1, q2⟩, e⟩ => ?_
    · subst e q1
      exact hfail (hbad (by unfold rlStep; rw [q2]))
    subst e q2
    have hol := (numF_some q1).1
    refine go_if (et_cmp cmp_le (ee_var 6 rfl) (ee_var 4 rfl)) (fun h => go_raise XN (hfail (hbad ?_))) (fun h => go_nil ?_)
    · unfold rlStep; rw [q1]; exact if_pos (of_decide_eq_true h)
    have hnl : ¬ (o : Int) ≤ last := of_decide_eq_false h
    have es2 : rlW lamp (ws.take (i + 1)) = some (os ++ [o], (o : Int)) := by
      rw [es]; unfold rlStep; rw [q1]; exact if_neg hnl
    have hpr := (pair_lt (p := ((o : Int), (lamp : Int))) (by show (o : Int) < (lamp : Int); omega)).1
    have hpr : pair (o : Int) (lamp : Int) = tieTo lamp o := hpr
    have hnin : tieTo lamp o ∉ ks ++ os.map (tieTo lamp) := fun z => by
      rcases List.mem_append.mp z with z | z
      · have := hk2 _ z
        have : (lamp : Int) < (lamp : Int) := this
        omega
      · obtain ⟨x, hx, e⟩ := List.mem_map.mp z
        have : (x : Int) = (o : Int) := congrArg Prod.fst e
        have := (k1 x hx).2
        omega
    refine go_exprM (yl_tieX 0 Mt hr (by decide) (ee_var 0 rfl) (ee_var 6 rfl) (ee_var 1 rfl) rfl (by rw [List.length_append, List.length_map]; omega)) (fun v Δ' ⟨q, e⟩ => ?_) fun P' Δ' ⟨_, e⟩ => ?_
    · rcases q with (⟨_, q⟩ | ⟨_, _, q⟩) | ⟨_, _, q⟩
      · exact absurd ⟨natP (by omega), hok⟩ q
      · omega
      · rw [hpr] at q
        exact absurd q hnin
    · subst e
      rw [hpr]
      have e4 : stF (i + 1) = (os ++ [o], (o : Int)) := by rw [esF, es2]; rfl
      refine go_set 4 (ee_var 6 rfl) sc_read_lamp.nd (go_nil ⟨?_, ?_, by rw [es2, e4]⟩)
      · show Wk _ [some (YM CY (hs.length : Int) d l), some (In lamp), some (Sx (Str.join " " (w0 :: ws))), some (N (L ((w0 :: ws).map Sx))), some (I (stF (i + 1)).2), none, none]
        rw [e4]
        exact ⟨.inr rfl, .inr rfl, .inr rfl, .inr rfl, .inr rfl, .inl rfl, .inl rfl, trivial⟩
      · show _ = [(d, MT (ks ++ (stF (i + 1)).1.map (tieTo lamp))), (l, ML ((hs.set lamp bb).map Bo))]
        rw [e4, List.map_append, ← List.append_assoc]
        rfl
  · rw [List.length_map, List.take_length] at hp
    rw [hp] at hrl
    refine go_nil ⟨bb, _, hrl, rfl, ?_⟩
    rw [List.length_map]
def c_read (CY cNN : Addr) (wss : List (List Str)) : Cn := ⟨[Sx (Str.join "\n" (wss.map (Str.join " ")))], fun P D => ∃ hs ks d l, readF wss = some (hs, ks) ∧ P = N (YM CY (hs.length : Int) d l) ∧ D = [(d, MT ks), (l, ML (hs.map Bo))], [], fun v _ => v = .ref cNN ∧ readF wss = none⟩
def C_read (CY cNN : Addr) : Cn → Prop := fun c => ∃ wss : List (List Str), okT wss ∧ c = c_read CY cNN wss
theorem ok_read {f : Addr} {fd : FuncData} (F : Fu K "read" "read" s_read f fd) (b : Bl mg) (T' : Yt K mg CY cNY cNL cAl cTi cUn) (XN : ExcT K mg "NoNote" cNN) (hmost : ∃ t, mg ("MOST_notes" : Str) = some (.int 24 t)) (M : Mkc P w K mg base "Yard" CY (C_init CY cNY) 1) (Mr : Fnc P w K mg base "read_lamp" (C_rdlamp CY cNN) 5) : FnOk P w K mg base (L2N.CX P w) 6 f fd ["text"] (spC (C_read CY cNN)) := by
  refine fn_go F sc_read (fun c ⟨wss, h1, e⟩ => by subst e; exact ⟨rfl, ⟨hi_Sx, trivial⟩, trivial⟩) fun c ⟨wss, OT, e⟩ cdv A outer s H E hr => ?_
  subst e
  refine go_set 1 (ee_N (en_cast (en_split (ee_var 0 rfl) ee_str (by decide +kernel) (by have := OT.tsz; unfold sizeLine; omega)) (congrArg (List.map Sx) (split_text OT.ne OT.wok)))) sc_read.nd ?_
  have hfw := OT.few
  have hpos : 0 < wss.length := List.length_pos_iff.mpr OT.ne
  have elen : ((((wss.map (Str.join " ")).map Sx).length : Nat) : Int) = (wss.length : Int) := by rw [List.length_map, List.length_map]
  obtain ⟨tm, hmost⟩ := hmost
  refine go_if (et_cmp cmp_gt (ee_cast (ee_len (es_L (ee_un (ee_var 1 rfl))) rfl b.len) (P' := I (wss.length : Int)) (by rw [elen])) (ee_globI rfl hmost)) (fun h => go_raise XN ⟨rfl, ?_⟩) (fun h => go_nil ?_)
  · have h2 : (24 : Int) < (wss.length : Int) := of_decide_eq_true h
    unfold readF
    rw [if_pos (by omega)]
  have h24 : wss.length ≤ 24 := by have h2 : ¬ (24 : Int) < (wss.length : Int) := of_decide_eq_false h; omega
  have hrF : readF wss = rdS wss wss.length := by unfold readF; rw [if_neg (by omega)]
  have hnI : 1 ≤ (wss.length : Int) ∧ (wss.length : Int) ≤ 24 := by omega
  refine go_setM 2 (em_makeX (ns := yns) M hr (by decide) (by rfl) (ea_cons (ee_cast (ee_len (es_L (ee_un (ee_var 1 rfl))) (by rfl) b.len) (P' := I (wss.length : Int)) (by rw [elen])) ea_nil) (fun l => c_init CY cNY (wss.length : Int) l) (fun l => ⟨_, l, rfl⟩) (fun Δn qs => ∃ d l, Δn = [(d, MT []), (l, ML ((List.replicate wss.length false).map Bo))] ∧ qs = [I (wss.length : Int), Ref d, Ref l]) (ho := fun l P' Δ' o => ⟨o.2.1, let ⟨d, l', e⟩ := o.2.2; ⟨_, _, e, d, l', rfl, rfl⟩⟩)) sc_read.nd (fun v Δ' ⟨⟨l, D, ⟨q, _⟩, _⟩, _⟩ => absurd hnI q) fun P' Δ' ⟨Δn, qs, ⟨d, l, e1, e2⟩, e3, e4, e5⟩ => ?_
  subst e1 e2 e3 e4
  have hd : d ∉ _ := e5 _ List.mem_cons_self
  have hl : l ∉ _ := e5 _ (List.mem_cons_of_mem _ List.mem_cons_self)
  let stF : Nat → List Bool × List (Int × Int) := fun i => (rdS wss i).getD ([], [])
  let Γ0 : Gam := [some (Sx (Str.join "\n" (wss.map (Str.join " ")))), some (N (L ((wss.map (Str.join " ")).map Sx))), some (N (YM CY (wss.length : Int) d l)), none]
  refine go_forR 3 (fun _ => Γ0) (fun i => [(d, MT (stF i).2), (l, ML ((stF i).1.map Bo))]) (fun i => rdS wss i = some (stF i)) (passes_of rfl) sc_read.nd (ee_cast (ee_len (es_L (ee_un (ee_var 1 rfl))) rfl b.len) (P' := I (wss.length : Int)) (by rw [elen])) (by omega) (by omega) ⟨Wk.refl _, rfl, rfl⟩ rfl b.range (fun i hi hp => ?_) (fun hp => ?_)
  · have hil : i < wss.length := by omega
    have esF : stF (i + 1) = (rdS wss (i + 1)).getD ([], []) := rfl
    have es := rdS_succ wss i
    rw [hp] at es
    generalize hsi : stF i = st at hp es
    obtain ⟨hs, ks⟩ := st
    obtain ⟨k1, k2, k3⟩ := rdS_ok (by omega) hp
    have hw : wss[i]? = some wss[i] := List.getElem?_eq_getElem hil
    have hgd : wss.getD i [] = wss[i] := by rw [List.getD_eq_getElem?_getD, hw]; rfl
    generalize wss[i] = ws at hw hgd
    have hwm := List.mem_of_getElem? hw
    have hat : atI ((wss.map (Str.join " ")).map Sx) (i : Int) = some (Sx (Str.join " " ws)) := atI_nat (by rw [List.getElem?_map, List.getElem?_map, hw]; rfl)
    show Go _ _ [some (Sx (Str.join "\n" (wss.map (Str.join " ")))), some (N (L ((wss.map (Str.join " ")).map Sx))), some (N (YM CY (wss.length : Int) d l)), some (I (i : Int))] [(d, MT ks), (l, ML (hs.map Bo))] _ _
    have hkl : ks.length ≤ 600 := by omega
    refine go_exprM (em_call (cj_fn Mr hr (by decide) (by rfl) (ea_cons (ee_cast (P' := YM CY (hs.length : Int) d l) (ee_un (ee_var 2 rfl)) (by rw [k1])) (ea_cons (ee_var 3 rfl) (ea_cons (ee_ix (es_L (ee_un (ee_var 1 rfl))) (ee_var 3 rfl) hat) ea_nil)))) (c_rdlamp CY cNN hs ks i ws d l) ⟨hs, ks, i, ws, d, l, by omega, by omega, hkl, k2, OT.wne _ hwm, OT.wok _ hwm, (OT.lsz _ hwm).1, (OT.lsz _ hwm).2, rfl⟩ (rest := []) (List.Perm.refl _)) (fun v Δ' ⟨D, ⟨q1, q2, _⟩, _⟩ => ⟨q1, ?_⟩) fun P' Δ' ⟨D, ⟨bb, os, q1, _, q3⟩, e⟩ => ?_
    · exact readF_bad hil (by rw [hgd]; exact q2)
    subst q3 e
    have es2 : rdS wss (i + 1) = some (hs.set i bb, ks ++ os.map (tieTo i)) := by
      rw [es]; unfold rdStep; rw [hgd, q1]
    have e4 : stF (i + 1) = (hs.set i bb, ks ++ os.map (tieTo i)) := by rw [esF, es2]; rfl
    refine go_nil ⟨⟨.inr rfl, .inr rfl, .inr rfl, .inl rfl, trivial⟩, ?_, by rw [es2, e4]⟩
    show _ = [(d, MT (stF (i + 1)).2), (l, ML ((stF (i + 1)).1.map Bo))]
    rw [e4]; rfl
  · rw [Int.toNat_natCast] at hp
    show Go _ _ Γ0 [(d, MT (stF (wss.length : Int).toNat).2), (l, ML ((stF (wss.length : Int).toNat).1.map Bo))] _ _
    rw [Int.toNat_natCast]
    generalize stF wss.length = st at hp
    obtain ⟨hs, ks⟩ := st
    obtain ⟨k1, _, _⟩ := rdS_ok h24 hp
    refine go_ret (ee_var 2 rfl) ⟨hs, ks, d, l, hrF.trans hp, by rw [k1], rfl⟩
def c_readV (CY cNN : Addr) (wss : List (List Str)) : Cn := ⟨[Sx (Str.join "\n" (wss.map (Str.join " ")))], fun P D => ∃ hs ks , readF wss = some (hs, ks) ∧ P = N (YV CY hs ks) ∧ hs.length = wss.length, [], fun v _ => v = .ref cNN ∧ readF wss = none⟩
def C_readV (CY cNN : Addr) : Cn → Prop := fun c => ∃ wss : List (List Str), okT wss ∧ c = c_readV CY cNN wss
theorem ok_readV {f : Addr} {fd : FuncData} (F : Fu K "read" "read" s_read f fd) (b : Bl mg) (T' : Yt K mg CY cNY cNL cAl cTi cUn) (XN : ExcT K mg "NoNote" cNN) (hmost : ∃ t, mg ("MOST_notes" : Str) = some (.int 24 t)) (M : Mkc P w K mg base "Yard" CY (C_init CY cNY) 1) (Mr : Fnc P w K mg base "read_lamp" (C_rdlamp CY cNN) 5) : FnOk P w K mg base (L2N.CX P w) 6 f fd ["text"] (spC (C_readV CY cNN)) := by
  refine fn_go F sc_read (fun c ⟨wss, h1, e⟩ => by subst e; exact ⟨rfl, ⟨hi_Sx, trivial⟩, trivial⟩) fun c ⟨wss, OT, e⟩ cdv A outer s H E hr => ?_
  subst e
  refine go_set 1 (ee_N (en_cast (en_split (ee_var 0 rfl) ee_str (by decide +kernel) (by have := OT.tsz; unfold sizeLine; omega)) (congrArg (List.map Sx) (split_text OT.ne OT.wok)))) sc_read.nd ?_
  have hfw := OT.few
  have hpos : 0 < wss.length := List.length_pos_iff.mpr OT.ne
  have elen : ((((wss.map (Str.join " ")).map Sx).length : Nat) : Int) = (wss.length : Int) := by rw [List.length_map, List.length_map]
  obtain ⟨tm, hmost⟩ := hmost
  refine go_if (et_cmp cmp_gt (ee_cast (ee_len (es_L (ee_un (ee_var 1 rfl))) rfl b.len) (P' := I (wss.length : Int)) (by rw [elen])) (ee_globI rfl hmost)) (fun h => go_raise XN ⟨rfl, ?_⟩) (fun h => go_nil ?_)
  · have h2 : (24 : Int) < (wss.length : Int) := of_decide_eq_true h
    unfold readF
    rw [if_pos (by omega)]
  have h24 : wss.length ≤ 24 := by have h2 : ¬ (24 : Int) < (wss.length : Int) := of_decide_eq_false h; omega
  have hrF : readF wss = rdS wss wss.length := by unfold readF; rw [if_neg (by omega)]
  have hnI : 1 ≤ (wss.length : Int) ∧ (wss.length : Int) ≤ 24 := by omega
  refine go_setM 2 (em_makeX (ns := yns) M hr (by decide) (by rfl) (ea_cons (ee_cast (ee_len (es_L (ee_un (ee_var 1 rfl))) (by rfl) b.len) (P' := I (wss.length : Int)) (by rw [elen])) ea_nil) (fun l => c_init CY cNY (wss.length : Int) l) (fun l => ⟨_, l, rfl⟩) (fun Δn qs => ∃ d l, Δn = [(d, MT []), (l, ML ((List.replicate wss.length false).map Bo))] ∧ qs = [I (wss.length : Int), Ref d, Ref l]) (ho := fun l P' Δ' o => ⟨o.2.1, let ⟨d, l', e⟩ := o.2.2; ⟨_, _, e, d, l', rfl, rfl⟩⟩)) sc_read.nd (fun v Δ' ⟨⟨l, D, ⟨q, _⟩, _⟩, _⟩ => absurd hnI q) fun P' Δ' ⟨Δn, qs, ⟨d, l, e1, e2⟩, e3, e4, e5⟩ => ?_
  subst e1 e2 e3 e4
  have hd : d ∉ _ := e5 _ List.mem_cons_self
  have hl : l ∉ _ := e5 _ (List.mem_cons_of_mem _ List.mem_cons_self)
  let stF : Nat → List Bool × List (Int × Int) := fun i => (rdS wss i).getD ([], [])
  let Γ0 : Gam := [some (Sx (Str.join "\n" (wss.map (Str.join " ")))), some (N (L ((wss.map (Str.join " ")).map Sx))), some (N (YM CY (wss.length : Int) d l)), none]
  refine go_forR 3 (fun _ => Γ0) (fun i => [(d, MT (stF i).2), (l, ML ((stF i).1.map Bo))]) (fun i => rdS wss i = some (stF i)) (passes_of rfl) sc_read.nd (ee_cast (ee_len (es_L (ee_un (ee_var 1 rfl))) rfl b.len) (P' := I (wss.length : Int)) (by rw [elen])) (by omega) (by omega) ⟨Wk.refl _, rfl, rfl⟩ rfl b.range (fun i hi hp => ?_) (fun hp => ?_)
  · have hil : i < wss.length := by omega
    have esF : stF (i + 1) = (rdS wss (i + 1)).getD ([], []) := rfl
    have es := rdS_succ wss i
    rw [hp] at es
    generalize hsi : stF i = st at hp es
    obtain ⟨hs, ks⟩ := st
    obtain ⟨k1, k2, k3⟩ := rdS_ok (by omega) hp
    have hw : wss[i]? = some wss[i] := List.getElem?_eq_getElem hil
    have hgd : wss.getD i [] = wss[i] := by rw [List.getD_eq_getElem?_getD, hw]; rfl
    generalize wss[i] = ws at hw hgd
    have hwm := List.mem_of_getElem? hw
    have hat : atI ((wss.map (Str.join " ")).map Sx) (i : Int) = some (Sx (Str.join " " ws)) := atI_nat (by rw [List.getElem?_map, List.getElem?_map, hw]; rfl)
    show Go _ _ [some (Sx (Str.join "\n" (wss.map (Str.join " ")))), some (N (L ((wss.map (Str.join " ")).map Sx))), some (N (YM CY (wss.length : Int) d l)), some (I (i : Int))] [(d, MT ks), (l, ML (hs.map Bo))] _ _
    have hkl : ks.length ≤ 600 := by omega
    refine go_exprM (em_call (cj_fn Mr hr (by decide) (by rfl) (ea_cons (ee_cast (P' := YM CY (hs.length : Int) d l) (ee_un (ee_var 2 rfl)) (by rw [k1])) (ea_cons (ee_var 3 rfl) (ea_cons (ee_ix (es_L (ee_un (ee_var 1 rfl))) (ee_var 3 rfl) hat) ea_nil)))) (c_rdlamp CY cNN hs ks i ws d l) ⟨hs, ks, i, ws, d, l, by omega, by omega, hkl, k2, OT.wne _ hwm, OT.wok _ hwm, (OT.lsz _ hwm).1, (OT.lsz _ hwm).2, rfl⟩ (rest := []) (List.Perm.refl _)) (fun v Δ' ⟨D, ⟨q1, q2, _⟩, _⟩ => ⟨q1, ?_⟩) fun P' Δ' ⟨D, ⟨bb, os, q1, _, q3⟩, e⟩ => ?_
    · exact readF_bad hil (by rw [hgd]; exact q2)
    subst q3 e
    have es2 : rdS wss (i + 1) = some (hs.set i bb, ks ++ os.map (tieTo i)) := by
      rw [es]; unfold rdStep; rw [hgd, q1]
    have e4 : stF (i + 1) = (hs.set i bb, ks ++ os.map (tieTo i)) := by rw [esF, es2]; rfl
    refine go_nil ⟨⟨.inr rfl, .inr rfl, .inr rfl, .inl rfl, trivial⟩, ?_, by rw [es2, e4]⟩
    show _ = [(d, MT (stF (i + 1)).2), (l, ML ((stF (i + 1)).1.map Bo))]
    rw [e4]; rfl
  · rw [Int.toNat_natCast] at hp
    show Go _ _ Γ0 [(d, MT (stF (wss.length : Int).toNat).2), (l, ML ((stF (wss.length : Int).toNat).1.map Bo))] _ _
    rw [Int.toNat_natCast]
    generalize stF wss.length = st at hp
    obtain ⟨hs, ks⟩ := st
    obtain ⟨k1, _, _⟩ := rdS_ok h24 hp
    exact go_frzY 2 (by rw [k1]) hd hl rfl (go_ret (ee_var 2 rfl) ⟨hs, ks, hrF.trans hp, rfl, k1⟩)
end
/-! a text that writes a yard, read -/
def wssF (hs : List Bool) (ks : List (Int × Int)) : List (List Str) := (List.range hs.length).map fun lamp => wds hs ks lamp lamp
theorem wss_len (hs : List Bool) (ks : List (Int × Int)) : (wssF hs ks).length = hs.length := by unfold wssF; rw [List.length_map, List.length_range]
theorem wss_lines (hs : List Bool) (ks : List (Int × Int)) : (wssF hs ks).map (Str.join " ") = linesF hs ks hs.length := by unfold wssF linesF; rw [List.map_map]; rfl
theorem wss_text (hs : List Bool) (ks : List (Int × Int)) : Str.join "\n" ((wssF hs ks).map (Str.join " ")) = textF hs ks := by rw [wss_lines]; rfl
theorem okW_w0 (b : Bool) : okW (w0 b) := by cases b <;> exact ⟨by decide +kernel, by decide +kernel⟩
theorem okW_tS (k : Nat) : okW (tS k) := ⟨by rw [TL.tl_num]; exact TL.numL_free (.inl (by decide)), by rw [TL.tl_num]; exact TL.numL_free (.inl (by decide))⟩
theorem okW_wds {hs : List Bool} {ks : List (Int × Int)} {lamp i : Nat} : ∀ x ∈ wds hs ks lamp i, okW x := fun x hx => by
  unfold wds at hx
  rcases List.mem_cons.mp hx with rfl | hx
  · exact okW_w0 _
  · obtain ⟨k, _, rfl⟩ := List.mem_map.mp hx
    exact okW_tS k
theorem join_len (s : Str) : ∀ ys : List Str, (Str.join s ys).length ≤ (ys.map (·.length)).sum + ys.length * s.length
  | [] => Nat.zero_le _
  | [x] => by show x.length ≤ x.length + 0 + 1 * s.length; omega
  | x :: y :: ys => by
    have ih := join_len s (y :: ys)
    show (x ++ s ++ Str.join s (y :: ys)).length ≤ x.length + ((y :: ys).map (·.length)).sum + ((y :: ys).length + 1) * s.length
    rw [len_app, len_app, Nat.add_mul]
    omega
theorem text_len {hs : List Bool} {ks : List (Int × Int)} (h : hs.length ≤ 24) : (textF hs ks).length ≤ 2000 := by
  have h1 := join_len "\n" (linesF hs ks hs.length)
  have h2 := lines_sum (hs := hs) (ks := ks) h
  rw [lines_len, nl_len] at h1
  have h1 : (textF hs ks).length ≤ ((linesF hs ks hs.length).map (·.length)).sum + hs.length * 1 := h1
  omega
theorem okT_wss {hs : List Bool} {ks : List (Int × Int)} (h : 1 ≤ hs.length ∧ hs.length ≤ 24) : okT (wssF hs ks) := by
  have key : ∀ ws ∈ wssF hs ks, ∃ lamp, lamp < hs.length ∧ ws = wds hs ks lamp lamp := fun ws hw => by
    obtain ⟨lamp, hl, rfl⟩ := List.mem_map.mp hw
    exact ⟨lamp, List.mem_range.mp hl, rfl⟩
  refine ⟨fun z => ?_, by rw [wss_len]; omega, fun ws hw => ?_, fun ws hw => ?_, fun ws hw => ?_, ?_⟩
  · have := wss_len hs ks
    rw [z] at this
    have : 0 = hs.length := this
    omega
  · obtain ⟨lamp, _, rfl⟩ := key ws hw; exact wds_ne _ _ _ _
  · obtain ⟨lamp, _, rfl⟩ := key ws hw; exact okW_wds
  · obtain ⟨lamp, hl, rfl⟩ := key ws hw
    have h1 := wds_len (hs := hs) (ks := ks) (lamp := lamp) (i := lamp) (by omega)
    have h2 := (wds_sum (hs := hs) (ks := ks) (lamp := lamp) (i := lamp) (by omega)).2
    omega
  · rw [wss_text]
    have := text_len (ks := ks) h.2
    omega
theorem rlW_up {lamp : Nat} (f : Nat → Bool) : ∀ {j : Nat}, j ≤ lamp → ∃ last : Int, rlW lamp (((List.range j).filter f).map tS) = some ((List.range j).filter f, last) ∧ last < (j : Int)
  | 0, _ => ⟨-1, rfl, by decide⟩
  | j + 1, h => by
    obtain ⟨last, h1, h2⟩ := rlW_up (lamp := lamp) f (j := j) (by omega)
    by_cases z : f j = true
    · have e : (List.range (j + 1)).filter f = (List.range j).filter f ++ [j] := by rw [List.range_succ, List.filter_append, List.filter_cons_of_pos z]; rfl
      refine ⟨(j : Int), ?_, by omega⟩
      rw [e, List.map_append]
      unfold rlW at h1 ⊢
      rw [List.foldl_append, h1]
      show rlStep lamp (some ((List.range j).filter f, last)) (tS j) = _
      unfold rlStep
      rw [numF_at (w := tS j) (o := j) (lamp := lamp) (by omega) rfl]
      exact if_neg (by omega)
    · have e : (List.range (j + 1)).filter f = (List.range j).filter f := by rw [List.range_succ, List.filter_append, List.filter_cons_of_neg z]; exact List.append_nil _
      rw [e]
      exact ⟨last, h1, by omega⟩
theorem rlF_wds (hs : List Bool) (ks : List (Int × Int)) (lamp : Nat) : rlF lamp (wds hs ks lamp lamp) = some (hs.getD lamp false, (List.range lamp).filter (tiedB ks lamp)) := by
  obtain ⟨last, h1, _⟩ := rlW_up (lamp := lamp) (tiedB ks lamp) (j := lamp) (Nat.le_refl _)
  unfold wds
  have hw : ¬ (w0 (hs.getD lamp false) ≠ "lamp" ∧ w0 (hs.getD lamp false) ≠ "shy") := by
    cases hs.getD lamp false
    · exact fun z => z.1 rfl
    · exact fun z => z.2 rfl
  rw [rlF_go hw, h1]
  have e : decide (w0 (hs.getD lamp false) = "shy") = hs.getD lamp false := by
    cases hs.getD lamp false
    · exact decide_eq_false (by decide +kernel)
    · exact decide_eq_true rfl
  rw [e]
def ksF (ks : List (Int × Int)) (i : Nat) : List (Int × Int) := (List.range i).flatMap fun lamp => ((List.range lamp).filter (tiedB ks lamp)).map (tieTo lamp)
theorem rdS_wss {hs : List Bool} {ks : List (Int × Int)} : ∀ {i : Nat}, i ≤ hs.length → rdS (wssF hs ks) i = some (hF hs i, ksF ks i)
  | 0, _ => by
    unfold rdS
    rw [wss_len]
    show some (List.replicate hs.length false, []) = some (hs.take 0 ++ List.replicate (hs.length - 0) false, [])
    rfl
  | i + 1, h => by
    rw [rdS_succ, rdS_wss (by omega)]
    have e : (wssF hs ks).getD i [] = wds hs ks i i := by
      unfold wssF
      rw [List.getD_eq_getElem?_getD, List.getElem?_map, List.getElem?_range (by omega)]; rfl
    unfold rdStep
    rw [e, rlF_wds, hF_succ (by omega)]
    unfold ksF
    rw [List.range_succ, List.flatMap_append]
    simp
theorem readF_wss {hs : List Bool} {ks : List (Int × Int)} (h : hs.length ≤ 24) : readF (wssF hs ks) = some (hs, ksF ks hs.length) := by
  unfold readF
  rw [wss_len, if_neg (by omega), rdS_wss (Nat.le_refl _), hF_all]
theorem mem_ksF {n : Nat} {ties : List (Int × Int)} (T : TiesOk (n : Int) ties) (p : Int × Int) : p ∈ ksF ties n ↔ p ∈ ties := by
  unfold ksF
  rw [List.mem_flatMap]
  constructor
  · rintro ⟨lamp, hl, hp⟩
    obtain ⟨o, ho, rfl⟩ := List.mem_map.mp hp
    obtain ⟨h1, h2⟩ := List.mem_filter.mp ho
    rw [tied_in (List.mem_range.mp h1)] at h2
    exact of_decide_eq_true h2
  · intro hp
    obtain ⟨l1, l2, l3⟩ := T.lt p hp
    obtain ⟨x, hx⟩ : ∃ x : Nat, p.1 = (x : Int) := ⟨p.1.toNat, by omega⟩
    obtain ⟨y, hy⟩ : ∃ y : Nat, p.2 = (y : Int) := ⟨p.2.toNat, by omega⟩
    have hpe : p = ((x : Int), (y : Int)) := Prod.ext hx hy
    refine ⟨y, List.mem_range.mpr (by omega), List.mem_map.mpr ⟨x, List.mem_filter.mpr ⟨List.mem_range.mpr (by omega), ?_⟩, hpe.symm⟩⟩
    rw [tied_in (by omega), ← hpe]
    exact decide_eq_true hp
/-! spoiled lines, plainly -/
theorem tl_sp : TL.tl " " = [32] := by decide +kernel
theorem tl_lamp : TL.tl "lamp" = [108, 97, 109, 112] := by decide +kernel
theorem tl_shy : TL.tl "shy" = [115, 104, 121] := by decide +kernel
def FW (ws : List Str) : List Nat := ws.flatMap fun x => 32 :: TL.tl x
theorem FW_cons (x : Str) (ws : List Str) : FW (x :: ws) = 32 :: (TL.tl x ++ FW ws) := rfl
theorem FW_nil : FW [] = [] := rfl
theorem FW_app (a b : List Str) : FW (a ++ b) = FW a ++ FW b := List.flatMap_append
theorem tl_line (w : Str) (ws : List Str) : TL.tl (Str.join " " (w :: ws)) = TL.tl w ++ FW ws := by
  induction ws generalizing w with
  | nil => show TL.tl w = TL.tl w ++ []; rw [List.append_nil]
  | cons v ws ih =>
    show TL.tl (w ++ " " ++ Str.join " " (v :: ws)) = _
    rw [TL.tl_append, TL.tl_append, ih v, tl_sp, FW_cons]
    simp
theorem tl_cutlo (z : Str) (k : Nat) : TL.tl (cutS z (some (k : Int)) none) = (TL.tl z).drop k := by
  have h1 : HT.sIx z.length 0 (some (k : Int)) = min k z.length := by
    unfold HT.sIx
    show (if (k : Int) < 0 then _ else _) = _
    rw [if_neg (by omega)]
    omega
  have h2 : HT.sIx z.length z.length none = z.length := rfl
  unfold cutS
  rw [h1, h2]
  show ((TL.tl z).drop (min k z.length)).take (z.length - min k z.length) = _
  rw [TL.len_tl]
  rcases Nat.le_total k (TL.tl z).length with h | h
  · rw [Nat.min_eq_left h, List.take_of_length_le (by rw [List.length_drop]; exact Nat.le_refl _)]
  · rw [Nat.min_eq_right h, List.drop_of_length_le (Nat.le_refl _), List.drop_of_length_le h, List.take_nil]
theorem tl_cuthi (z : Str) (k : Nat) : TL.tl (cutS z none (some (k : Int))) = (TL.tl z).take k := by
  have h1 : HT.sIx z.length z.length (some (k : Int)) = min k z.length := by
    unfold HT.sIx
    show (if (k : Int) < 0 then _ else _) = _
    rw [if_neg (by omega)]
    omega
  have h2 : HT.sIx z.length 0 none = 0 := rfl
  unfold cutS
  rw [h1, h2]
  show ((TL.tl z).drop 0).take (min k z.length - 0) = _
  rw [TL.len_tl, Nat.sub_zero, List.drop_zero]
  rcases Nat.le_total k (TL.tl z).length with h | h
  · rw [Nat.min_eq_left h]
  · rw [Nat.min_eq_right h, List.take_of_length_le (Nat.le_refl _), List.take_of_length_le h]
theorem tS_dig {n c : Nat} (h : c ∈ TL.tl (tS n)) : 48 ≤ c ∧ c ≤ 57 := by
  rw [TL.tl_num] at h
  exact TL.numL_digits n c h
theorem numF_free {x : Str} {lamp c : Nat} (h : c ∈ TL.tl x) (hc : c < 48 ∨ 57 < c) : numF x lamp = none := numF_none fun o _ e => by
  rw [e] at h
  have := tS_dig h
  omega
theorem numF_empty {lamp : Nat} : numF "" lamp = none := numF_none fun o _ e => TL.numL_ne o (((congrArg TL.tl e).trans (TL.tl_num o)).symm.trans (by decide +kernel))
theorem numF_big {m lamp : Nat} (h : lamp ≤ m) : numF (tS m) lamp = none := numF_none fun o ho e => by have := tS_inj e; omega
theorem numF_zero {m lamp : Nat} : numF ("0" ++ tS m) lamp = none := numF_none fun o _ e => by
  have e1 : TL.tl ("0" ++ tS m) = TL.tl (tS o) := congrArg TL.tl e
  rw [TL.tl_append, show TL.tl "0" = [48] from by decide +kernel, TL.tl_num, TL.tl_num] at e1
  have e1 : 48 :: TL.numL m = TL.numL o := e1
  have v : NumText.digitsVal (48 :: TL.numL m) = NumText.digitsVal (TL.numL m) := rfl
  rw [e1, TL.numL_val, TL.numL_val] at v
  rw [v] at e1
  have := congrArg List.length e1
  rw [List.length_cons] at this
  omega
theorem rlF_app {lamp : Nat} {w x : Str} {us vs : List Str} (h : numF x lamp = none) : rlF lamp (w :: (us ++ x :: vs)) = none := by
  by_cases hw : w ≠ "lamp" ∧ w ≠ "shy"
  · exact rlF_bad hw
  · rw [rlF_go hw]
    have e : rlW lamp (us ++ x :: vs) = none := by
      unfold rlW
      rw [List.foldl_append, List.foldl_cons]
      have : ∀ st, rlStep lamp st x = none := fun st => by
        unfold rlStep
        cases st with
        | none => rfl
        | some st => obtain ⟨os, last⟩ := st; rw [h]
      rw [this, rl_stuck]
    rw [e]
theorem rlF_long {lamp : Nat} {w : Str} {ws : List Str} (h : 5 ≤ w.length) : rlF lamp (w :: ws) = none := rlF_bad ⟨fun e => by rw [e] at h; revert h; decide +kernel, fun e => by rw [e] at h; revert h; decide +kernel⟩
theorem okW_app {a b : Str} (ha : okW a) (hb : okW b) : okW (a ++ b) := ⟨by rw [TL.tl_append]; exact fun z => (List.mem_append.mp z).elim ha.1 hb.1, by rw [TL.tl_append]; exact fun z => (List.mem_append.mp z).elim ha.2 hb.2⟩
def badOk (lamp : Nat) (s : Str) : Prop := ∃ (w : Str) (ws : List Str), s = Str.join " " (w :: ws) ∧ (∀ x ∈ w :: ws, okW x) ∧ (w :: ws).length ≤ 100 ∧ s.length ≤ 1000 ∧ rlF lamp (w :: ws) = none
theorem mkBad {lamp : Nat} {s : Str} (w : Str) (ws : List Str) (h : TL.tl s = TL.tl w ++ FW ws) (h2 : okW w) (h3 : ∀ x ∈ ws, okW x) (h4 : ws.length ≤ 99) (h5 : s.length ≤ 1000) (h6 : rlF lamp (w :: ws) = none) : badOk lamp s :=
  ⟨w, ws, TL.ext_tl (h.trans (tl_line w ws).symm), fun x hx => (List.mem_cons.mp hx).elim (fun e => e ▸ h2) (h3 x), by rw [List.length_cons]; omega, h5, h6⟩
def od (k : Nat) : Str := (["+0", "-1", "x", "0x", "1_0", "0.", "(0)"] : List Str).getD k "x"
theorem od_ok (k : Nat) (h : k < 7) : okW (od k) ∧ (od k).length ≤ 3 ∧ ∃ c, c ∈ TL.tl (od k) ∧ (c < 48 ∨ 57 < c) := by
  have : k = 0 ∨ k = 1 ∨ k = 2 ∨ k = 3 ∨ k = 4 ∨ k = 5 ∨ k = 6 := by omega
  rcases this with rfl | rfl | rfl | rfl | rfl | rfl | rfl
  · exact ⟨⟨by decide +kernel, by decide +kernel⟩, by decide +kernel, 43, by decide +kernel, by decide⟩
  · exact ⟨⟨by decide +kernel, by decide +kernel⟩, by decide +kernel, 45, by decide +kernel, by decide⟩
  · exact ⟨⟨by decide +kernel, by decide +kernel⟩, by decide +kernel, 120, by decide +kernel, by decide⟩
  · exact ⟨⟨by decide +kernel, by decide +kernel⟩, by decide +kernel, 120, by decide +kernel, by decide⟩
  · exact ⟨⟨by decide +kernel, by decide +kernel⟩, by decide +kernel, 95, by decide +kernel, by decide⟩
  · exact ⟨⟨by decide +kernel, by decide +kernel⟩, by decide +kernel, 46, by decide +kernel, by decide⟩
  · exact ⟨⟨by decide +kernel, by decide +kernel⟩, by decide +kernel, 40, by decide +kernel, by decide⟩
def badF (L : Str) (n : Nat) (fault : Int) (cell : Nat) : Str :=
  if fault = 0 then "lamps" ++ cutS L (some 4) none else
  if fault = 1 then Txt.upper L else
  if fault = 2 then (if 32 ∈ TL.tl L then cutS L (some (Txt.find L " " + 1)) none else "") else
  if fault = 3 then cutS L none (some 3) ++ " " ++ cutS L (some 3) none else
  if fault = 4 then L ++ " " else
  if fault = 5 then " " ++ L else
  if fault = 6 then L ++ "\t0" else
  if fault = 7 then L ++ " " ++ tS (n + cell % 40) else
  if fault = 8 then L ++ " 0" ++ tS (cell % 24) else
  if fault = 9 then L ++ " " ++ od (cell % 7) else
  if fault = 10 then L ++ "  0" else
  if fault = 11 ∧ 0 < n then "lamp " ++ tS (cell % n) ++ " " ++ tS (cell % n) else
  if fault = 12 ∧ 1 < n then "shy " ++ tS (n - 1) ++ " " ++ tS (cell % (n - 1)) else
  L ++ " " ++ L
theorem find_sp {x : Str} (h : 32 ∈ TL.tl x) : ∃ i : Nat, Txt.find x " " = (i : Int) ∧ (TL.tl x)[i]? = some 32 ∧ ∀ k, k < i → (TL.tl x)[k]? ≠ some 32 := by
  have es : Str.ofString " " = ⟨#[32]⟩ := by decide +kernel
  rw [es]
  rcases PyProof.Rows.find_whole x ⟨#[32]⟩ with ⟨_, q⟩ | ⟨i, h1, h2, h3⟩
  · obtain ⟨k, hk⟩ := List.mem_iff_getElem?.mp h
    exact absurd ((PySem.StrLaws.subAt_one x 32 k).mpr hk) (q k)
  · exact ⟨i, h1, (PySem.StrLaws.subAt_one x 32 i).mp h2, fun k hk z => h3 k hk ((PySem.StrLaws.subAt_one x 32 k).mpr z)⟩
theorem badF_ok {b : Bool} {os : List Nat} {n cell : Nat} {fault : Int} (hos : ∀ o ∈ os, o < 100) (hl : os.length ≤ 24) (hn : n ≤ 24) (hL : (Str.join " " (w0 b :: os.map tS)).length ≤ 100) : badOk n (badF (Str.join " " (w0 b :: os.map tS)) n fault cell) := by
  obtain ⟨nums, hnu⟩ : ∃ nums, nums = os.map tS := ⟨_, rfl⟩
  have hnl : nums.length ≤ 24 := by rw [hnu, List.length_map]; exact hl
  have hno : ∀ x ∈ nums, okW x := fun x hx => by
    rw [hnu] at hx
    obtain ⟨k, _, rfl⟩ := List.mem_map.mp hx
    exact okW_tS k
  have hnd : ∀ x ∈ nums, ∃ k, x = tS k := fun x hx => by
    rw [hnu] at hx
    obtain ⟨k, _, rfl⟩ := List.mem_map.mp hx
    exact ⟨k, rfl⟩
  rw [← hnu] at hL ⊢
  clear hnu hos hl
  have eL := tl_line (w0 b) nums
  have hwn : numF (w0 b) n = none := by
    cases b
    · exact numF_free (c := 108) (by decide +kernel) (.inr (by decide))
    · exact numF_free (c := 104) (by decide +kernel) (.inr (by decide))
  have okb : okW (w0 b) := okW_w0 b
  have okE : okW "" := ⟨by decide +kernel, by decide +kernel⟩
  have hend : ∀ {x : Str}, okW x → ∀ y ∈ nums ++ [x], okW y := fun hx y hy => (List.mem_append.mp hy).elim (hno y) fun z => (List.mem_singleton.mp z) ▸ hx
  have hend2 : ∀ {x z : Str}, okW x → okW z → ∀ y ∈ nums ++ [x, z], okW y := fun hx hz y hy => (List.mem_append.mp hy).elim (hno y) fun q => (List.mem_cons.mp q).elim (fun e => e ▸ hx) fun q => (List.mem_singleton.mp q) ▸ hz
  generalize hLL : Str.join " " (w0 b :: nums) = L at hL eL
  have c4 : TL.tl (cutS L (some 4) none) = (TL.tl L).drop 4 := tl_cutlo L 4
  have c3 : TL.tl (cutS L (some 3) none) = (TL.tl L).drop 3 := tl_cutlo L 3
  have d3 : TL.tl (cutS L none (some 3)) = (TL.tl L).take 3 := tl_cuthi L 3
  have l4 := cutS_length L (some 4) none
  have l3 := cutS_length L (some 3) none
  have m3 := cutS_length L none (some 3)
  unfold badF
  by_cases h0 : fault = 0
  · rw [if_pos h0]
    have sz : (Str.ofString "lamps" ++ cutS L (some 4) none).length ≤ 1000 := by
      rw [len_app, show (Str.ofString "lamps").length = 5 from by decide +kernel]; omega
    have okl : okW "lamps" := ⟨by decide +kernel, by decide +kernel⟩
    cases b with
    | false =>
      refine mkBad "lamps" nums ?_ okl hno (by omega) sz (rlF_long (by decide +kernel))
      rw [TL.tl_append, c4, eL, show w0 false = Str.ofString "lamp" from rfl, tl_lamp]; rfl
    | true =>
      cases nums with
      | nil =>
        refine mkBad "lamps" [] ?_ okl (fun x hx => absurd hx List.not_mem_nil) (by decide) sz (rlF_long (by decide +kernel))
        rw [TL.tl_append, c4, eL, show w0 true = Str.ofString "shy" from rfl, tl_shy]; rfl
      | cons x nums =>
        refine mkBad ("lamps" ++ x) nums ?_ (okW_app okl (hno x List.mem_cons_self)) (fun y hy => hno y (List.mem_cons_of_mem _ hy)) (by rw [List.length_cons] at hnl; omega) sz (rlF_long (by rw [len_app, show (Str.ofString "lamps").length = 5 from by decide +kernel]; omega))
        rw [TL.tl_append, c4, eL, show w0 true = Str.ofString "shy" from rfl, tl_shy, FW_cons, TL.tl_append, List.append_assoc]; rfl
  rw [if_neg h0]
  by_cases h1 : fault = 1
  · rw [if_pos h1]
    have key : ∀ {ws : List Str}, (∀ x ∈ ws, ∃ k, x = tS k) → (FW ws).map PyProof.Rows.up1 = FW ws ∧ ∀ c ∈ FW ws, c < 128 := by
      intro ws
      induction ws with
      | nil => exact fun _ => ⟨rfl, fun c hc => absurd hc List.not_mem_nil⟩
      | cons x ws ih =>
        intro h
        obtain ⟨i1, i2⟩ := ih fun y hy => h y (List.mem_cons_of_mem _ hy)
        obtain ⟨k, rfl⟩ := h x List.mem_cons_self
        have hd : (TL.tl (tS k)).map PyProof.Rows.up1 = TL.tl (tS k) := by
          have : ∀ c ∈ TL.tl (tS k), PyProof.Rows.up1 c = c := fun c hc => by
            have := tS_dig hc
            unfold PyProof.Rows.up1
            rw [if_neg (by omega)]
          exact (List.map_congr_left this).trans (List.map_id' _)
        rw [FW_cons]
        constructor
        · rw [List.map_cons, List.map_append, hd, i1]; rfl
        · intro c hc
          rcases List.mem_cons.mp hc with rfl | hc
          · decide
          · rcases List.mem_append.mp hc with hc | hc
            · have := tS_dig hc; omega
            · exact i2 c hc
    obtain ⟨k1, k2⟩ := key hnd
    have hall : (TL.tl L).all (· < 128) = true := by
      rw [eL, List.all_append, Bool.and_eq_true]
      refine ⟨by cases b <;> decide +kernel, List.all_eq_true.mpr fun c hc => decide_eq_true (k2 c hc)⟩
    have eu : Txt.upper L = ⟨((TL.tl L).map PyProof.Rows.up1).toArray⟩ := by
      have := SX.upper_S hall
      exact this
    have lu : (Txt.upper L).length = L.length := by rw [eu, TL.len_tl, TL.len_tl, TL.tl_mk, List.length_map]
    refine mkBad ⟨((TL.tl (w0 b)).map PyProof.Rows.up1).toArray⟩ nums ?_ (by cases b <;> exact ⟨by decide +kernel, by decide +kernel⟩) hno (by omega) (by omega) (rlF_bad (by cases b <;> decide +kernel))
    rw [eu, TL.tl_mk, TL.tl_mk]
    show (TL.tl L).map PyProof.Rows.up1 = _
    rw [eL, List.map_append, k1]
  rw [if_neg h1]
  by_cases h2 : fault = 2
  · rw [if_pos h2]
    by_cases h32 : 32 ∈ TL.tl L
    · rw [if_pos h32]
      obtain ⟨i, f1, f2, f3⟩ := find_sp h32
      have ef : TL.tl (cutS L (some (Txt.find L " " + 1)) none) = (TL.tl L).drop (i + 1) := by
        rw [f1]; exact tl_cutlo L (i + 1)
      have lf := cutS_length L (some (Txt.find L " " + 1)) none
      cases nums with
      | nil =>
        rw [eL, FW_nil, List.append_nil] at h32
        exact absurd h32 okb.1
      | cons x nums =>
        have hi : i = (TL.tl (w0 b)).length := by
          rw [eL, FW_cons] at f2 f3
          rcases Nat.lt_trichotomy i (TL.tl (w0 b)).length with z | z | z
          · rw [List.getElem?_append_left z] at f2
            exact absurd (List.mem_of_getElem? f2) okb.1
          · exact z
          · have := f3 _ z
            rw [List.getElem?_append_right (Nat.le_refl _), Nat.sub_self] at this
            exact absurd rfl this
        obtain ⟨k, hk⟩ := hnd x List.mem_cons_self
        refine mkBad x nums ?_ (hno x List.mem_cons_self) (fun y hy => hno y (List.mem_cons_of_mem _ hy)) (by rw [List.length_cons] at hnl; omega) (by omega) (rlF_bad ?_)
        · rw [ef, eL, FW_cons, hi, List.drop_append]
          simp
        · rw [hk]
          constructor
          · intro e
            have := tS_dig (n := k) (c := 108) (by rw [e]; decide +kernel)
            omega
          · intro e
            have := tS_dig (n := k) (c := 115) (by rw [e]; decide +kernel)
            omega
    · rw [if_neg h32]
      exact mkBad "" [] (by decide +kernel) okE (fun x hx => absurd hx List.not_mem_nil) (by decide) (by decide +kernel) (rlF_bad (by decide +kernel))
  rw [if_neg h2]
  by_cases h3 : fault = 3
  · rw [if_pos h3]
    have sz : (cutS L none (some 3) ++ " " ++ cutS L (some 3) none).length ≤ 1000 := by
      rw [len_app, len_app, sp_len]; omega
    cases b with
    | false =>
      refine mkBad "lam" ("p" :: nums) ?_ ⟨by decide +kernel, by decide +kernel⟩ (fun y hy => (List.mem_cons.mp hy).elim (fun e => e ▸ ⟨by decide +kernel, by decide +kernel⟩) (hno y)) (by rw [List.length_cons]; omega) sz (rlF_bad (by decide +kernel))
      rw [TL.tl_append, TL.tl_append, c3, d3, eL, show w0 false = Str.ofString "lamp" from rfl, tl_lamp, tl_sp, FW_cons, show TL.tl "lam" = [108, 97, 109] from by decide +kernel, show TL.tl "p" = [112] from by decide +kernel]; rfl
    | true =>
      refine mkBad "shy" ("" :: nums) ?_ ⟨by decide +kernel, by decide +kernel⟩ (fun y hy => (List.mem_cons.mp hy).elim (fun e => e ▸ okE) (hno y)) (by rw [List.length_cons]; omega) sz (rlF_app (us := []) numF_empty)
      rw [TL.tl_append, TL.tl_append, c3, d3, eL, show w0 true = Str.ofString "shy" from rfl, tl_shy, tl_sp, FW_cons, show TL.tl "" = [] from by decide +kernel]; rfl
  rw [if_neg h3]
  by_cases h4 : fault = 4
  · rw [if_pos h4]
    refine mkBad (w0 b) (nums ++ [Str.ofString ""]) ?_ okb (hend okE) (by rw [List.length_append]; show _ + 1 ≤ 99; omega) (by rw [len_app, sp_len]; omega) (rlF_app numF_empty)
    rw [TL.tl_append, eL, FW_app, tl_sp, FW_cons, show TL.tl "" = [] from by decide +kernel, List.append_assoc]; rfl
  rw [if_neg h4]
  by_cases h5 : fault = 5
  · rw [if_pos h5]
    refine mkBad "" (w0 b :: nums) ?_ okE (fun y hy => (List.mem_cons.mp hy).elim (fun e => e ▸ okb) (hno y)) (by rw [List.length_cons]; omega) (by rw [len_app, sp_len]; omega) (rlF_bad (by decide +kernel))
    rw [TL.tl_append, eL, tl_sp, FW_cons, show TL.tl "" = [] from by decide +kernel]; rfl
  rw [if_neg h5]
  by_cases h6 : fault = 6
  · rw [if_pos h6]
    have sz : (L ++ "\t0").length ≤ 1000 := by rw [len_app, show (Str.ofString "\t0").length = 2 from by decide +kernel]; omega
    have okt : okW "\t0" := ⟨by decide +kernel, by decide +kernel⟩
    rcases List.eq_nil_or_concat nums with e | ⟨us, x, e⟩
    · refine mkBad (w0 b ++ "\t0") [] ?_ (okW_app okb okt) (fun x hx => absurd hx List.not_mem_nil) (by decide) sz (rlF_long (by cases b <;> decide +kernel))
      rw [TL.tl_append, eL, e, FW_nil, TL.tl_append, List.append_nil, List.append_nil]
    · have e : nums = us ++ [x] := by rw [e, List.concat_eq_append]
      have hx := hno x (by rw [e]; exact List.mem_append_right _ List.mem_cons_self)
      refine mkBad (w0 b) (us ++ [x ++ "\t0"]) ?_ okb (fun y hy => (List.mem_append.mp hy).elim (fun z => hno y (by rw [e]; exact List.mem_append_left _ z)) fun z => (List.mem_singleton.mp z) ▸ okW_app hx okt) (by rw [e, List.length_append] at hnl; rw [List.length_append]; show _ + 1 ≤ 99; have : [x].length = 1 := rfl; omega) sz (rlF_app (numF_free (c := 9) (by rw [TL.tl_append]; exact List.mem_append_right _ (by decide +kernel)) (.inl (by decide))))
      rw [TL.tl_append, eL, e, FW_app, FW_app, FW_cons, FW_cons, FW_nil, TL.tl_append]
      simp
  rw [if_neg h6]
  by_cases h7 : fault = 7
  · rw [if_pos h7]
    have hm := okW_tS (n + cell % 40)
    have := tS_len (k := n + cell % 40) (by omega)
    refine mkBad (w0 b) (nums ++ [tS (n + cell % 40)]) ?_ okb (hend hm) (by rw [List.length_append]; show _ + 1 ≤ 99; omega) (by rw [len_app, len_app, sp_len]; omega) (rlF_app (numF_big (by omega)))
    rw [TL.tl_append, TL.tl_append, eL, FW_app, tl_sp, FW_cons, FW_nil]
    simp
  rw [if_neg h7]
  by_cases h8 : fault = 8
  · rw [if_pos h8]
    have hm := okW_tS (cell % 24)
    have ok0 : okW "0" := ⟨by decide +kernel, by decide +kernel⟩
    have := tS_len (k := cell % 24) (by omega)
    refine mkBad (w0 b) (nums ++ ["0" ++ tS (cell % 24)]) ?_ okb (hend (okW_app ok0 hm)) (by rw [List.length_append]; show _ + 1 ≤ 99; omega) (by rw [len_app, len_app, show (Str.ofString " 0").length = 2 from by decide +kernel]; omega) (rlF_app numF_zero)
    rw [TL.tl_append, TL.tl_append, eL, FW_app, FW_cons, FW_nil, TL.tl_append, show TL.tl " 0" = [32, 48] from by decide +kernel, show TL.tl "0" = [48] from by decide +kernel]
    simp
  rw [if_neg h8]
  by_cases h9 : fault = 9
  · rw [if_pos h9]
    obtain ⟨o1, o2, c, o3, o4⟩ := od_ok (cell % 7) (Nat.mod_lt _ (by decide))
    refine mkBad (w0 b) (nums ++ [od (cell % 7)]) ?_ okb (hend o1) (by rw [List.length_append]; show _ + 1 ≤ 99; omega) (by rw [len_app, len_app, sp_len]; omega) (rlF_app (numF_free o3 o4))
    rw [TL.tl_append, TL.tl_append, eL, FW_app, tl_sp, FW_cons, FW_nil]
    simp
  rw [if_neg h9]
  by_cases h10 : fault = 10
  · rw [if_pos h10]
    have ok0 : okW "0" := ⟨by decide +kernel, by decide +kernel⟩
    refine mkBad (w0 b) (nums ++ [Str.ofString "", Str.ofString "0"]) ?_ okb (hend2 okE ok0) (by rw [List.length_append]; show _ + 2 ≤ 99; omega) (by rw [len_app, show (Str.ofString "  0").length = 3 from by decide +kernel]; omega) (rlF_app numF_empty)
    rw [TL.tl_append, eL, FW_app, FW_cons, FW_cons, FW_nil, show TL.tl "  0" = [32, 32, 48] from by decide +kernel, show TL.tl "" = [] from by decide +kernel, show TL.tl "0" = [48] from by decide +kernel]
    simp
  rw [if_neg h10]
  by_cases h11 : fault = 11 ∧ 0 < n
  · rw [if_pos h11]
    have hlt := Nat.mod_lt cell h11.2
    generalize cell % n = a at hlt
    have ha := okW_tS a
    have := tS_len (k := a) (by omega)
    refine mkBad "lamp" [tS a, tS a] ?_ ⟨by decide +kernel, by decide +kernel⟩ (fun y hy => by
      rcases List.mem_cons.mp hy with rfl | hy
      · exact ha
      · rw [List.mem_singleton.mp hy]; exact ha) (by show 2 ≤ 99; decide) (by rw [len_app, len_app, len_app, sp_len, show (Str.ofString "lamp ").length = 5 from by decide +kernel]; omega) ?_
    · rw [TL.tl_append, TL.tl_append, TL.tl_append, FW_cons, FW_cons, FW_nil, tl_sp, tl_lamp, show TL.tl "lamp " = [108, 97, 109, 112, 32] from by decide +kernel]
      simp
    · rw [rlF_go (fun z => z.1 rfl)]
      have e1 : rlStep n (some ([], -1)) (tS a) = some ([a], (a : Int)) := by
        unfold rlStep; rw [numF_at (w := tS a) (o := a) hlt rfl]; exact if_neg (by omega)
      have e2 : rlStep n (some ([a], (a : Int))) (tS a) = none := by
        unfold rlStep; rw [numF_at (w := tS a) (o := a) hlt rfl]; exact if_pos (Int.le_refl _)
      have e : rlW n [tS a, tS a] = none := by
        unfold rlW
        rw [List.foldl_cons, e1, List.foldl_cons, e2]; rfl
      rw [e]
  rw [if_neg h11]
  by_cases h12 : fault = 12 ∧ 1 < n
  · rw [if_pos h12]
    have hlt := Nat.mod_lt cell (by omega : n - 1 > 0)
    generalize cell % (n - 1) = a at hlt
    have ha := okW_tS a
    have hb := okW_tS (n - 1)
    have := tS_len (k := a) (by omega)
    have := tS_len (k := n - 1) (by omega)
    refine mkBad "shy" [tS (n - 1), tS a] ?_ ⟨by decide +kernel, by decide +kernel⟩ (fun y hy => by
      rcases List.mem_cons.mp hy with rfl | hy
      · exact hb
      · rw [List.mem_singleton.mp hy]; exact ha) (by show 2 ≤ 99; decide) (by rw [len_app, len_app, len_app, sp_len, show (Str.ofString "shy ").length = 4 from by decide +kernel]; omega) ?_
    · rw [TL.tl_append, TL.tl_append, TL.tl_append, FW_cons, FW_cons, FW_nil, tl_sp, tl_shy, show TL.tl "shy " = [115, 104, 121, 32] from by decide +kernel]
      simp
    · rw [rlF_go (fun z => z.2 rfl)]
      have e1 : rlStep n (some ([], -1)) (tS (n - 1)) = some ([n - 1], ((n - 1 : Nat) : Int)) := by
        unfold rlStep; rw [numF_at (w := tS (n - 1)) (o := n - 1) (lamp := n) (by omega) rfl]; exact if_neg (by omega)
      have e2 : rlStep n (some ([n - 1], ((n - 1 : Nat) : Int))) (tS a) = none := by
        unfold rlStep; rw [numF_at (w := tS a) (o := a) (lamp := n) (by omega) rfl]; exact if_pos (by omega)
      have e : rlW n [tS (n - 1), tS a] = none := by
        unfold rlW
        rw [List.foldl_cons, e1, List.foldl_cons, e2]; rfl
      rw [e]
  rw [if_neg h12]
  refine mkBad (w0 b) (nums ++ (w0 b :: nums)) ?_ okb (fun y hy => (List.mem_append.mp hy).elim (hno y) fun q => (List.mem_cons.mp q).elim (fun e => e ▸ okb) (hno y)) (by rw [List.length_append, List.length_cons]; omega) (by rw [len_app, len_app, sp_len]; omega) (rlF_app hwn)
  rw [TL.tl_append, TL.tl_append, eL, FW_app, FW_cons, tl_sp]
  simp
theorem cl0 : (Str.ofString "lamps").length = 5 := by decide +kernel
theorem cl1 : (Str.ofString "\t0").length = 2 := by decide +kernel
theorem cl2 : (Str.ofString " 0").length = 2 := by decide +kernel
theorem cl3 : (Str.ofString "  0").length = 3 := by decide +kernel
theorem cl4 : (Str.ofString "lamp ").length = 5 := by decide +kernel
theorem cl5 : (Str.ofString "shy ").length = 4 := by decide +kernel
theorem lg {k : Nat} (h : k ≤ 100) : ((k : Nat) : Int).natAbs.log2 < 1920 := by
  have := Nat.log2_le_self k
  rw [Int.natAbs_natCast]
  omega
theorem od_at {k : Nat} (h : k < 7) : atI [Sx "+0", Sx "-1", Sx "x", Sx "0x", Sx "1_0", Sx "0.", Sx "(0)"] (k : Int) = some (Sx (od k)) := by
  have : k = 0 ∨ k = 1 ∨ k = 2 ∨ k = 3 ∨ k = 4 ∨ k = 5 ∨ k = 6 := by omega
  rcases this with rfl | rfl | rfl | rfl | rfl | rfl | rfl <;> rfl
section
variable {P : Program} {w : World} {K : PySem.W.Frag} {mg : Str → Option Value} {base : Heap} {CY cNY cNL cAl cTi cUn cNN : Addr}
def c_badline (L : Str) (n : Nat) (fault : Int) (cell : Nat) : Cn := ⟨[Sx L, In n, I fault, In cell], fun P _ => P = Sx (badF L n fault cell), [], fun _ _ => False⟩
def C_badline : Cn → Prop := fun c => ∃ (L : Str) (n : Nat) (fault : Int) (cell : Nat), L.length ≤ 100 ∧ n ≤ 24 ∧ c = c_badline L n fault cell
theorem ok_badline {f : Addr} {fd : FuncData} (F : Fu K "_law_bad_line" "_law_bad_line" s__law_bad_line f fd) (b : Bl mg) : FnOk P w K mg base (L2N.CX P w) 1 f fd ["line", "at", "fault", "cell"] (spC C_badline) := by
  refine fn_go F sc__law_bad_line (fun c ⟨L, n, fault, cell, h1, h2, e⟩ => by subst e; exact ⟨rfl, ⟨hi_Sx, hi_I, hi_I, hi_I, trivial⟩, trivial⟩) fun c ⟨L, n, fault, cell, hL, hn, e⟩ cdv A outer s H E hr => ?_
  subst e
  have l4 := cutS_length L (some 4) none
  have l3 := cutS_length L (some 3) none
  have m3 := cutS_length L none (some 3)
  have t1 : (Str.ofString (toString ((n + cell % 40 : Nat) : Int))).length ≤ 2 := tS_len (k := n + cell % 40) (by omega)
  have t2 : (Str.ofString (toString ((cell % 24 : Nat) : Int))).length ≤ 2 := tS_len (k := cell % 24) (by omega)
  have t3 := (od_ok (cell % 7) (Nat.mod_lt _ (by decide))).2.1
  refine go_if (et_cmp cmp_eq (ee_var 2 rfl) ee_int) (fun h => ?_) (fun h => go_nil ?_)
  · have hk : fault = 0 := of_decide_eq_true h
    refine go_ret (ee_cats ee_str (ee_slS (ee_var 0 rfl) (eo_some ee_int) eo_none (sz24 (by omega))) (by simp only [len_app, sp_len, cl0, cl1, cl2, cl3, cl4, cl5]; exact sz24 (by omega))) ?_
    show Sx _ = Sx (badF L n fault cell)
    unfold badF
    rw [if_pos hk]
  have h0 : ¬ fault = 0 := of_decide_eq_false h
  refine go_if (et_cmp cmp_eq (ee_var 2 rfl) ee_int) (fun h => ?_) (fun h => go_nil ?_)
  · have hk : fault = 1 := of_decide_eq_true h
    refine go_ret (ee_upper (ee_var 0 rfl) (by omega)) ?_
    show Sx _ = Sx (badF L n fault cell)
    unfold badF
    rw [if_neg h0, if_pos hk]
  have h1 : ¬ fault = 1 := of_decide_eq_false h
  refine go_if (et_cmp cmp_eq (ee_var 2 rfl) ee_int) (fun h => ?_) (fun h => go_nil ?_)
  · have hk : fault = 2 := of_decide_eq_true h
    refine go_ret (ee_ifx (P := Sx (if 32 ∈ TL.tl L then cutS L (some (Txt.find L " " + 1)) none else "")) (et_inSp ee_str (ee_var 0 rfl)) (fun z => ee_cast (ee_slS (ee_var 0 rfl) (eo_some (ee_add (ee_find (ee_var 0 rfl) ee_str) ee_int)) eo_none (sz24 (by omega))) (by rw [if_pos (of_decide_eq_true z)])) (fun z => ee_cast ee_str (by rw [if_neg (of_decide_eq_false z)]))) ?_
    show Sx _ = Sx (badF L n fault cell)
    unfold badF
    rw [if_neg h0, if_neg h1, if_pos hk]
  have h2 : ¬ fault = 2 := of_decide_eq_false h
  refine go_if (et_cmp cmp_eq (ee_var 2 rfl) ee_int) (fun h => ?_) (fun h => go_nil ?_)
  · have hk : fault = 3 := of_decide_eq_true h
    refine go_ret (ee_cats (ee_cats (ee_slS (ee_var 0 rfl) eo_none (eo_some ee_int) (sz24 (by omega))) ee_str (by simp only [len_app, sp_len, cl0, cl1, cl2, cl3, cl4, cl5]; exact sz24 (by omega))) (ee_slS (ee_var 0 rfl) (eo_some ee_int) eo_none (sz24 (by omega))) (by simp only [len_app, sp_len, cl0, cl1, cl2, cl3, cl4, cl5]; exact sz24 (by omega))) ?_
    show Sx _ = Sx (badF L n fault cell)
    unfold badF
    rw [if_neg h0, if_neg h1, if_neg h2, if_pos hk]
  have h3 : ¬ fault = 3 := of_decide_eq_false h
  refine go_if (et_cmp cmp_eq (ee_var 2 rfl) ee_int) (fun h => ?_) (fun h => go_nil ?_)
  · have hk : fault = 4 := of_decide_eq_true h
    refine go_ret (ee_cats (ee_var 0 rfl) ee_str (by simp only [len_app, sp_len, cl0, cl1, cl2, cl3, cl4, cl5]; exact sz24 (by omega))) ?_
    show Sx _ = Sx (badF L n fault cell)
    unfold badF
    rw [if_neg h0, if_neg h1, if_neg h2, if_neg h3, if_pos hk]
  have h4 : ¬ fault = 4 := of_decide_eq_false h
  refine go_if (et_cmp cmp_eq (ee_var 2 rfl) ee_int) (fun h => ?_) (fun h => go_nil ?_)
  · have hk : fault = 5 := of_decide_eq_true h
    refine go_ret (ee_cats ee_str (ee_var 0 rfl) (by simp only [len_app, sp_len, cl0, cl1, cl2, cl3, cl4, cl5]; exact sz24 (by omega))) ?_
    show Sx _ = Sx (badF L n fault cell)
    unfold badF
    rw [if_neg h0, if_neg h1, if_neg h2, if_neg h3, if_neg h4, if_pos hk]
  have h5 : ¬ fault = 5 := of_decide_eq_false h
  refine go_if (et_cmp cmp_eq (ee_var 2 rfl) ee_int) (fun h => ?_) (fun h => go_nil ?_)
  · have hk : fault = 6 := of_decide_eq_true h
    refine go_ret (ee_cats (ee_var 0 rfl) ee_str (by simp only [len_app, sp_len, cl0, cl1, cl2, cl3, cl4, cl5]; exact sz24 (by omega))) ?_
    show Sx _ = Sx (badF L n fault cell)
    unfold badF
    rw [if_neg h0, if_neg h1, if_neg h2, if_neg h3, if_neg h4, if_neg h5, if_pos hk]
  have h6 : ¬ fault = 6 := of_decide_eq_false h
  refine go_if (et_cmp cmp_eq (ee_var 2 rfl) ee_int) (fun h => ?_) (fun h => go_nil ?_)
  · have hk : fault = 7 := of_decide_eq_true h
    refine go_ret (ee_cats (ee_cats (ee_var 0 rfl) ee_str (by simp only [len_app, sp_len, cl0, cl1, cl2, cl3, cl4, cl5]; exact sz24 (by omega))) (ee_strI (ee_cast (P' := I ((n + cell % 40 : Nat) : Int)) (ee_add (ee_var 1 rfl) (ee_mod (ee_var 3 rfl) ee_int)) (congrArg I (by omega))) (lg (by have := Nat.mod_lt cell (by decide : 40 > 0); have := Nat.mod_lt cell (by decide : 24 > 0); omega)) rfl b.str) (by simp only [len_app, sp_len, cl0, cl1, cl2, cl3, cl4, cl5]; exact sz24 (by omega))) ?_
    show Sx _ = Sx (badF L n fault cell)
    unfold badF
    rw [if_neg h0, if_neg h1, if_neg h2, if_neg h3, if_neg h4, if_neg h5, if_neg h6, if_pos hk]
  have h7 : ¬ fault = 7 := of_decide_eq_false h
  refine go_if (et_cmp cmp_eq (ee_var 2 rfl) ee_int) (fun h => ?_) (fun h => go_nil ?_)
  · have hk : fault = 8 := of_decide_eq_true h
    refine go_ret (ee_cats (ee_cats (ee_var 0 rfl) ee_str (by simp only [len_app, sp_len, cl0, cl1, cl2, cl3, cl4, cl5]; exact sz24 (by omega))) (ee_strI (ee_cast (P' := I ((cell % 24 : Nat) : Int)) (ee_mod (ee_var 3 rfl) ee_int) (congrArg I (by omega))) (lg (by have := Nat.mod_lt cell (by decide : 40 > 0); have := Nat.mod_lt cell (by decide : 24 > 0); omega)) rfl b.str) (by simp only [len_app, sp_len, cl0, cl1, cl2, cl3, cl4, cl5]; exact sz24 (by omega))) ?_
    show Sx _ = Sx (badF L n fault cell)
    unfold badF
    rw [if_neg h0, if_neg h1, if_neg h2, if_neg h3, if_neg h4, if_neg h5, if_neg h6, if_neg h7, if_pos hk]
  have h8 : ¬ fault = 8 := of_decide_eq_false h
  refine go_if (et_cmp cmp_eq (ee_var 2 rfl) ee_int) (fun h => ?_) (fun h => go_nil ?_)
  · have hk : fault = 9 := of_decide_eq_true h
    refine go_ret (ee_cats (ee_cats (ee_var 0 rfl) ee_str (by simp only [len_app, sp_len, cl0, cl1, cl2, cl3, cl4, cl5]; exact sz24 (by omega))) (ee_ix (P := Sx (od (cell % 7))) (es_C (ec_N (en_lst (ea_cons ee_str (ea_cons ee_str (ea_cons ee_str (ea_cons ee_str (ea_cons ee_str (ea_cons ee_str (ea_cons ee_str ea_nil)))))))))) (ee_cast (P' := I ((cell % 7 : Nat) : Int)) (ee_mod (ee_var 3 rfl) ee_int) (congrArg I (by omega))) (od_at (Nat.mod_lt _ (by decide)))) (by simp only [len_app, sp_len, cl0, cl1, cl2, cl3, cl4, cl5]; exact sz24 (by omega))) ?_
    show Sx _ = Sx (badF L n fault cell)
    unfold badF
    rw [if_neg h0, if_neg h1, if_neg h2, if_neg h3, if_neg h4, if_neg h5, if_neg h6, if_neg h7, if_neg h8, if_pos hk]
  have h9 : ¬ fault = 9 := of_decide_eq_false h
  refine go_if (et_cmp cmp_eq (ee_var 2 rfl) ee_int) (fun h => ?_) (fun h => go_nil ?_)
  · have hk : fault = 10 := of_decide_eq_true h
    refine go_ret (ee_cats (ee_var 0 rfl) ee_str (by simp only [len_app, sp_len, cl0, cl1, cl2, cl3, cl4, cl5]; exact sz24 (by omega))) ?_
    show Sx _ = Sx (badF L n fault cell)
    unfold badF
    rw [if_neg h0, if_neg h1, if_neg h2, if_neg h3, if_neg h4, if_neg h5, if_neg h6, if_neg h7, if_neg h8, if_neg h9, if_pos hk]
  have h10 : ¬ fault = 10 := of_decide_eq_false h
  refine go_if (et_w (ew_and (et_cmp cmp_eq (ee_var 2 rfl) ee_int) fun _ => ew_and1 (et_cmp cmp_gt (ee_var 1 rfl) ee_int))) (fun h => ?_) (fun h => go_nil ?_)
  · have hk : fault = 11 ∧ 0 < n := by simp at h; omega
    have hn0 := hk.2
    have hm := Nat.mod_lt cell hn0
    have t4 : (Str.ofString (toString ((cell % n : Nat) : Int))).length ≤ 2 := tS_len (k := cell % n) (by omega)
    refine go_ret (ee_cats (ee_cats (ee_cats ee_str (ee_strI (ee_cast (P' := I ((cell % n : Nat) : Int)) (ee_mod (ee_var 3 rfl) (ee_var 1 rfl) (by omega)) (congrArg I (by rw [Int.natCast_emod]))) (lg (by have := Nat.mod_lt cell (by decide : 40 > 0); have := Nat.mod_lt cell (by decide : 24 > 0); omega)) rfl b.str) (by simp only [len_app, sp_len, cl0, cl1, cl2, cl3, cl4, cl5]; exact sz24 (by omega))) ee_str (by simp only [len_app, sp_len, cl0, cl1, cl2, cl3, cl4, cl5]; exact sz24 (by omega))) (ee_strI (ee_cast (P' := I ((cell % n : Nat) : Int)) (ee_mod (ee_var 3 rfl) (ee_var 1 rfl) (by omega)) (congrArg I (by rw [Int.natCast_emod]))) (lg (by have := Nat.mod_lt cell (by decide : 40 > 0); have := Nat.mod_lt cell (by decide : 24 > 0); omega)) rfl b.str) (by simp only [len_app, sp_len, cl0, cl1, cl2, cl3, cl4, cl5]; exact sz24 (by omega))) ?_
    show Sx _ = Sx (badF L n fault cell)
    unfold badF
    rw [if_neg h0, if_neg h1, if_neg h2, if_neg h3, if_neg h4, if_neg h5, if_neg h6, if_neg h7, if_neg h8, if_neg h9, if_neg h10, if_pos hk]
  have h11 : ¬ (fault = 11 ∧ 0 < n) := by simp at h; omega
  refine go_if (et_w (ew_and (et_cmp cmp_eq (ee_var 2 rfl) ee_int) fun _ => ew_and1 (et_cmp cmp_gt (ee_var 1 rfl) ee_int))) (fun h => ?_) (fun h => go_nil ?_)
  · have hk : fault = 12 ∧ 1 < n := by simp at h; omega
    have hn0 := hk.2
    have hm := Nat.mod_lt cell (by omega : n - 1 > 0)
    have t4 : (Str.ofString (toString ((cell % (n - 1) : Nat) : Int))).length ≤ 2 := tS_len (k := cell % (n - 1)) (by omega)
    have t5 : (Str.ofString (toString ((n - 1 : Nat) : Int))).length ≤ 2 := tS_len (k := n - 1) (by omega)
    refine go_ret (ee_cats (ee_cats (ee_cats ee_str (ee_strI (ee_cast (P' := I ((n - 1 : Nat) : Int)) (ee_sub (ee_var 1 rfl) ee_int) (congrArg I (by omega))) (lg (by have := Nat.mod_lt cell (by decide : 40 > 0); have := Nat.mod_lt cell (by decide : 24 > 0); omega)) rfl b.str) (by simp only [len_app, sp_len, cl0, cl1, cl2, cl3, cl4, cl5]; exact sz24 (by omega))) ee_str (by simp only [len_app, sp_len, cl0, cl1, cl2, cl3, cl4, cl5]; exact sz24 (by omega))) (ee_strI (ee_cast (P' := I ((cell % (n - 1) : Nat) : Int)) (ee_mod (ee_var 3 rfl) (ee_sub (ee_var 1 rfl) ee_int) (by omega)) (congrArg I (by rw [Int.natCast_emod, Int.natCast_sub (by omega)]; rfl))) (lg (by have := Nat.mod_lt cell (by decide : 40 > 0); have := Nat.mod_lt cell (by decide : 24 > 0); omega)) rfl b.str) (by simp only [len_app, sp_len, cl0, cl1, cl2, cl3, cl4, cl5]; exact sz24 (by omega))) ?_
    show Sx _ = Sx (badF L n fault cell)
    unfold badF
    rw [if_neg h0, if_neg h1, if_neg h2, if_neg h3, if_neg h4, if_neg h5, if_neg h6, if_neg h7, if_neg h8, if_neg h9, if_neg h10, if_neg h11, if_pos hk]
  have h12 : ¬ (fault = 12 ∧ 1 < n) := by simp at h; omega
  refine go_ret (ee_cats (ee_cats (ee_var 0 rfl) ee_str (by simp only [len_app, sp_len, cl0, cl1, cl2, cl3, cl4, cl5]; exact sz24 (by omega))) (ee_var 0 rfl) (by simp only [len_app, sp_len, cl0, cl1, cl2, cl3, cl4, cl5]; exact sz24 (by omega))) ?_
  show Sx _ = Sx (badF L n fault cell)
  unfold badF
  rw [if_neg h0, if_neg h1, if_neg h2, if_neg h3, if_neg h4, if_neg h5, if_neg h6, if_neg h7, if_neg h8, if_neg h9, if_neg h10, if_neg h11, if_neg h12]
end
section
variable {P : Program} {w : World} {K : PySem.W.Frag} {mg : Str → Option Value} {base : Heap}
theorem ok_others {D f : Addr} {fd : FuncData} (F : Fu K "_law_others" "_law_others" s__law_others f fd) (b : Bl mg) (Z : ErrT K mg D) (Nn : Nots K mg D nOthers) : FnE P w K mg base 1 f fd "e" D (Bo false) := by
  refine fn_goE F sc__law_others sc_Bo fun cdv A outer s H p hr hot hz => ?_
  have hf : ∃ vs, p.2.data = .fields vs := by obtain ⟨_, vs, h, _⟩ := hot; exact ⟨vs, h⟩
  have hc : L2H.HotC (L2H.cxH (L2N.CX P w) P w K mg base ["e", "kinds"] "_law_others" (defScope s__law_others) f cdv A outer s H E0 p) := ⟨p, hot, List.mem_singleton.mpr rfl⟩
  have k : ∀ x ∈ nOthers, ∃ C, mg x = some (.ref C) ∧ PySem.W.kitOne K (.ref D) (.ref C) = some false := Nn.ok
  obtain ⟨C1, m1, k1⟩ := k _ (List.mem_iff_getElem?.mpr ⟨0, rfl⟩)
  obtain ⟨C2, m2, k2⟩ := k _ (List.mem_iff_getElem?.mpr ⟨1, rfl⟩)
  obtain ⟨C3, m3, k3⟩ := k _ (List.mem_iff_getElem?.mpr ⟨2, rfl⟩)
  obtain ⟨C4, m4, k4⟩ := k _ (List.mem_iff_getElem?.mpr ⟨3, rfl⟩)
  obtain ⟨C5, m5, k5⟩ := k _ (List.mem_iff_getElem?.mpr ⟨4, rfl⟩)
  obtain ⟨C6, m6, k6⟩ := k _ (List.mem_iff_getElem?.mpr ⟨5, rfl⟩)
  obtain ⟨C7, m7, k7⟩ := k _ (List.mem_iff_getElem?.mpr ⟨6, rfl⟩)
  obtain ⟨C8, m8, k8⟩ := k _ (List.mem_iff_getElem?.mpr ⟨7, rfl⟩)
  have hp : (p.1, p.2) ∈ [p] := List.mem_singleton.mpr rfl
  refine go_set 1 (ee_N (en_lst (ea_cons (ee_isP Z.ex hp hz hf (ee_var 0 rfl) (ee_globC rfl m1) rel_Ref k1 rfl b.isi) (ea_cons (ee_isP Z.ex hp hz hf (ee_var 0 rfl) (ee_globC rfl m2) rel_Ref k2 rfl b.isi) (ea_cons (ee_isP Z.ex hp hz hf (ee_var 0 rfl) (ee_globC rfl m3) rel_Ref k3 rfl b.isi) (ea_cons (ee_isP Z.ex hp hz hf (ee_var 0 rfl) (ee_globC rfl m4) rel_Ref k4 rfl b.isi) ea_nil)))))) sc__law_others.nd ?_
  refine go_set 1 (ee_N (en_cat (ec_L (ee_un (ee_var 1 rfl))) (ec_N (en_lst (ea_cons (ee_isP Z.ex hp hz hf (ee_var 0 rfl) (ee_globC rfl m5) rel_Ref k5 rfl b.isi) (ea_cons (ee_isP Z.ex hp hz hf (ee_var 0 rfl) (ee_globC rfl m6) rel_Ref k6 rfl b.isi) (ea_cons (ee_isP Z.ex hp hz hf (ee_var 0 rfl) (ee_globC rfl m7) rel_Ref k7 rfl b.isi) (ea_cons (ee_isP Z.ex hp hz hf (ee_var 0 rfl) (ee_globC rfl m8) rel_Ref k8 rfl b.isi) ea_nil)))))) (by decide))) sc__law_others.nd ?_
  exact go_ret (ee_anyH (bs := [false, false, false, false, false, false, false, false]) hc (es_L (ee_un (ee_var 1 rfl))) rfl b.any) rfl
end
theorem sum_le (l : List Str) (m : Nat) (h : ∀ x ∈ l, x.length ≤ m) : (l.map (·.length)).sum ≤ m * l.length := by
  induction l with
  | nil => exact Nat.zero_le _
  | cons x l ih =>
    have h1 := h x List.mem_cons_self
    have h2 := ih fun y hy => h y (List.mem_cons_of_mem _ hy)
    show x.length + (l.map (·.length)).sum ≤ m * (l.length + 1)
    rw [Nat.mul_add]
    omega
theorem okT_of {wss : List (List Str)} (h1 : wss ≠ []) (h2 : wss.length ≤ 100) (h : ∀ ws ∈ wss, ws ≠ [] ∧ (∀ x ∈ ws, okW x) ∧ (Str.join " " ws).length ≤ 1000 ∧ ws.length ≤ 100) : okT wss ∧ ((wss.map (Str.join " ")).map (·.length)).sum + (wss.map (Str.join " ")).length * (Str.ofString "\n").length ≤ 16777216 := by
  have hs := sum_le (wss.map (Str.join " ")) 1000 fun x hx => by
    obtain ⟨ws, hw, rfl⟩ := List.mem_map.mp hx
    exact (h ws hw).2.2.1
  rw [List.length_map] at hs
  refine ⟨⟨h1, by omega, fun ws hw => (h ws hw).1, fun ws hw => (h ws hw).2.1, fun ws hw => ⟨by have := (h ws hw).2.2.1; omega, by have := (h ws hw).2.2.2; omega⟩, ?_⟩, ?_⟩
  · have := join_len "\n" (wss.map (Str.join " "))
    rw [List.length_map, nl_len] at this
    omega
  · rw [List.length_map, nl_len]
    omega
theorem okE : okW "" := ⟨by decide +kernel, by decide +kernel⟩
theorem wss_ok {hs : List Bool} {ks : List (Int × Int)} (h : hs.length ≤ 24) : ∀ ws ∈ wssF hs ks, ws ≠ [] ∧ (∀ x ∈ ws, okW x) ∧ (Str.join " " ws).length ≤ 1000 ∧ ws.length ≤ 100 := fun ws hw => by
  obtain ⟨lamp, hl, rfl⟩ := List.mem_map.mp hw
  have hl := List.mem_range.mp hl
  have h1 := wds_len (hs := hs) (ks := ks) (lamp := lamp) (i := lamp) (by omega)
  have h2 := (wds_sum (hs := hs) (ks := ks) (lamp := lamp) (i := lamp) (by omega)).2
  exact ⟨wds_ne _ _ _ _, okW_wds, by omega, by omega⟩
def t16 (k : Nat) : Str := (["", "\n", " ", "0", "lamp\n\nlamp"] : List Str).getD k ""
def w16 (k : Nat) : List (List Str) := ([[[""]], [[""], [""]], [["", ""]], [["0"]], [["lamp"], [""], ["lamp"]]] : List (List (List Str))).getD k []
theorem t16_at {k : Nat} (h : k < 5) : atI [Sx "", Sx "\n", Sx " ", Sx "0", Sx "lamp\n\nlamp"] (k : Int) = some (Sx (t16 k)) := by
  have : k = 0 ∨ k = 1 ∨ k = 2 ∨ k = 3 ∨ k = 4 := by omega
  rcases this with rfl | rfl | rfl | rfl | rfl <;> rfl
theorem w16_ok {k : Nat} (h : k < 5) : t16 k = Str.join "\n" ((w16 k).map (Str.join " ")) ∧ okT (w16 k) ∧ readF (w16 k) = none := by
  have ok1 : okW "lamp" := ⟨by decide +kernel, by decide +kernel⟩
  have ok0 : okW "0" := ⟨by decide +kernel, by decide +kernel⟩
  have one : ∀ {x : Str}, okW x → x.length ≤ 10 → ([x] : List Str) ≠ [] ∧ (∀ y ∈ [x], okW y) ∧ (Str.join " " [x]).length ≤ 1000 ∧ [x].length ≤ 100 := fun hx hl => ⟨by simp, fun y hy => (List.mem_singleton.mp hy) ▸ hx, by show _ ≤ 1000; exact Nat.le_trans hl (by decide), by show 1 ≤ 100; decide⟩
  have badE : ∀ lamp, rlF lamp [Str.ofString ""] = none := fun lamp => rlF_bad (by decide +kernel)
  have : k = 0 ∨ k = 1 ∨ k = 2 ∨ k = 3 ∨ k = 4 := by omega
  rcases this with rfl | rfl | rfl | rfl | rfl
  · refine ⟨by decide +kernel, (okT_of (by simp [w16]) (by decide) fun ws hw => ?_).1, readF_bad (lamp := 0) (by decide) (badE 0)⟩
    rw [List.mem_singleton.mp hw]; exact one okE (by decide +kernel)
  · refine ⟨by decide +kernel, (okT_of (by simp [w16]) (by decide) fun ws hw => ?_).1, readF_bad (lamp := 0) (by decide) (badE 0)⟩
    have : ws = [Str.ofString ""] := (List.mem_cons.mp hw).elim id fun z => List.mem_singleton.mp z
    rw [this]; exact one okE (by decide +kernel)
  · refine ⟨by decide +kernel, (okT_of (by simp [w16]) (by decide) fun ws hw => ?_).1, readF_bad (lamp := 0) (by decide) (rlF_bad (by decide +kernel))⟩
    rw [List.mem_singleton.mp hw]
    exact ⟨by simp, fun y hy => by
      have : y = Str.ofString "" := (List.mem_cons.mp hy).elim id fun z => List.mem_singleton.mp z
      rw [this]; exact okE, by decide +kernel, by decide⟩
  · refine ⟨by decide +kernel, (okT_of (by simp [w16]) (by decide) fun ws hw => ?_).1, readF_bad (lamp := 0) (by decide) (rlF_bad (by decide +kernel))⟩
    rw [List.mem_singleton.mp hw]; exact one ok0 (by decide +kernel)
  · refine ⟨by decide +kernel, (okT_of (by simp [w16]) (by decide) fun ws hw => ?_).1, readF_bad (lamp := 1) (by decide) (badE 1)⟩
    rcases List.mem_cons.mp hw with rfl | hw
    · exact one ok1 (by decide +kernel)
    rcases List.mem_cons.mp hw with rfl | hw
    · exact one okE (by decide +kernel)
    · rw [List.mem_singleton.mp hw]; exact one ok1 (by decide +kernel)
section
variable {P : Program} {w : World} {K : PySem.W.Frag} {mg : Str → Option Value} {base : Heap} {CY cNY cNL cAl cTi cUn cNN : Addr}
def c_refused17 (wss : List (List Str)) : Cn := ⟨[Sx (Str.join "\n" (wss.map (Str.join " ")))], fun P _ => P = Bo true, [], fun _ _ => False⟩
def C_refused17 : Cn → Prop := fun x => ∃ wss : List (List Str), okT wss ∧ readF wss = none ∧ x = c_refused17 wss
theorem ok_refused17 {f : Addr} {fd : FuncData} (F : Fu K "_law_refused" "_law_refused" s__law_refused f fd) (b : Bl mg) (Ma : Fnc P w K mg base "read" (C_readV CY cNN) 6) (O : Fne P w K mg base "_law_others" cNN (Bo false) 1) (Z : ErrT K mg cNN) (I1 : IsC K mg cNN "LampError" true) (X1 : Exm K mg cNN "NoNote" true) : FnOk P w K mg base (L2N.CX P w) 7 f fd ["text"] (spC C_refused17) := by
  refine fn_go F sc__law_refused (fun c ⟨wss, h1, h2, e⟩ => by subst e; exact ⟨rfl, ⟨hi_Sx, trivial⟩, trivial⟩) fun c ⟨wss, hT, hno, e⟩ cdv A outer s H E hr => ?_
  subst e
  obtain ⟨CE, mE, kE⟩ := I1.ok
  obtain ⟨CN, mN, xN⟩ := X1.ok
  refine go_forR 1 (fun _ => [some (Sx (Str.join "\n" (wss.map (Str.join " ")))), none, none]) (fun _ => []) (fun _ => True) (passes_of rfl) sc__law_refused.nd ee_int (by decide) (by decide) ⟨Wk.refl _, rfl, trivial⟩ rfl b.range (fun i hi _ => ?_) (fun _ => go_ret ee_bl rfl)
  refine go_try 2 sc__law_refused.nd mN fun pn xe po => ?_
  refine go_exprM (em_call0 (cj_fn Ma hr (by decide) (by rfl) (ea_cons (ee_var 0 rfl) ea_nil)) (c_readV CY cNN wss) ⟨wss, hT, rfl⟩) (fun v Δ' ⟨⟨_, q, _⟩, e⟩ => ?_) fun P' Δ' ⟨⟨_, hs, ks, q, _⟩, _⟩ => by rw [hno] at q; cases q
  subst e q
  refine ⟨cNN, true, rfl, xN, fun _ => ?_, fun z => nomatch z⟩
  intro a oe pn' hz hf
  refine go_if (et_w (ew_or (et_not (et_val (ee_isE Z.ex hz hf (ee_var 2 rfl) (ee_globC rfl mE) rel_Ref kE rfl b.isi))) fun _ => ew_or (et_not (et_val (ee_isE Z.ex hz hf (ee_var 2 rfl) (ee_bty rfl b.ve (by decide +kernel)) rel_Ty Z.ve rfl b.isi))) fun _ => ew_or1 (et_val (ee_callE O sc_Bo ((suite_room hr).mono (by decide)) rfl List.mem_cons_self hz hf rfl (ee_var 2 rfl))))) (fun h => nomatch h) fun _ => ?_
  exact go_nil (go_nil (go_nil ⟨⟨.inr rfl, .inl rfl, .inr rfl, trivial⟩, rfl, trivial⟩))
theorem ok_law {f : Addr} {fd : FuncData} (F : Fu K "law" "law" s_law f fd) (b : Bl mg) (T : Yt K mg CY cNY cNL cAl cTi cUn) (Mc : Fnc P w K mg base "_law_cell_at" (C_cell K) 1) (Md : Fnc P w K mg base "_law_drawn" (C_drawn K) 2) (Mt : Fnc P w K mg base "_law_text" C_ltext 1) (Mb : Fnc P w K mg base "_law_bad_line" C_badline 1) (Mrv : Fnc P w K mg base "read" (C_readV CY cNN) 6) (Mr : Fnc P w K mg base "_law_refused" C_refused17 7) : FnOk P w K mg base (L2N.CX P w) 8 f fd ["script"] (spC (Yb.C_law K)) := by
  refine fn_go F sc_law (fun c ⟨sc, h63, e⟩ => by subst e; exact ⟨rfl, ⟨hi_Scr, trivial⟩, trivial⟩) fun c ⟨sc, h63, e⟩ cdv A outer s H E hr => ?_
  subst e
  refine go_tup3 1 2 3 (em_call (cj_fn Md hr (by decide) (by rfl) (ea_cons (ee_var 0 rfl) ea_nil)) (c_drawn K sc) ⟨sc, rfl⟩ (rest := []) (List.Perm.refl _)) (fun _ _ ⟨_, q, _⟩ => q.elim) (fun P' Δ' ⟨D, ⟨tiA, shA, e1, e2⟩, e3⟩ => ⟨_, _, _, e1, ?_⟩) sc_law.nd
  subst e2 e3
  refine go_frz 0 2 rfl List.not_mem_nil rfl (go_frz 0 3 rfl List.not_mem_nil rfl ?_)
  have hn := manyF_ok (cellAt sc 0)
  have hsl := shyF_len sc (manyF (cellAt sc 0)).toNat
  have TO : TiesOk ((shyF sc (manyF (cellAt sc 0)).toNat).length : Int) (tiesF sc (manyF (cellAt sc 0)).toNat) := by
    rw [hsl]
    exact tiesF_ok sc (by omega)
  have hfw : (tiesF sc (manyF (cellAt sc 0)).toNat).length ≤ 288 := tiesF_few sc (by omega)
  have hnn : manyF (cellAt sc 0) = ((shyF sc (manyF (cellAt sc 0)).toNat).length : Int) := by omega
  generalize shyF sc (manyF (cellAt sc 0)).toNat = shy at TO hsl hnn
  generalize tiesF sc (manyF (cellAt sc 0)).toNat = ties at TO hfw
  generalize manyF (cellAt sc 0) = n at hn hsl hnn
  subst hnn
  have hn24 : 1 ≤ shy.length ∧ shy.length ≤ 24 := by omega
  have hn0 : (0 : Int) < (shy.length : Int) := by omega
  have hrd := readF_wss (hs := shy) (ks := ties) hn24.2
  have hOT := okT_wss (hs := shy) (ks := ties) hn24
  have hwl := wss_len shy ties
  have hlt := lines_len shy ties shy.length
  refine go_setM (Kx := fun _ _ => False) 4 (em_N (en_call (ps := (linesF shy ties shy.length).map Sx) (cj_fn0 Mt hr (by decide) (by rfl) (ea_cons (ee_var 1 rfl) (ea_cons (ee_un (ee_var 2 rfl)) (ea_cons (ee_un (ee_var 3 rfl)) ea_nil)))) (c_ltext ties shy) ⟨ties, shy, hn24.2, rfl⟩ (Scs.map (fun _ => sc_Sx) _) (ho := fun _ _ q => q))) sc_law.nd (fun _ _ q => q) fun P' Δ' ⟨ro, hrm, e1, e2⟩ => ?_
  subst e1 e2
  show Go _ _ [some (Scr K sc), some (I (shy.length : Int)), some (N (L (ties.map tP))), some (N (L (shy.map Bo))), some (Ref ro), none, none, none, none, none, none] [(ro, ML ((linesF shy ties shy.length).map Sx))] _ _
  refine go_set 5 (ee_cast (P' := Sx (Str.join "\n" ((wssF shy ties).map (Str.join " ")))) (ee_join (ys := linesF shy ties shy.length) ee_str (es_M 0 (ee_var 4 rfl) rfl) (text_ok hn24.2)) (by rw [wss_lines])) sc_law.nd ?_
  obtain ⟨cl, hcl⟩ : ∃ cl : Nat, cellAt sc 13 % 1000003 = (cl : Int) := ⟨(cellAt sc 13 % 1000003).toNat, by have := Int.emod_nonneg (cellAt sc 13) (by decide : (1000003 : Int) ≠ 0); omega⟩
  refine go_set 6 (ee_cast (P' := In cl) (ee_mod (ee_cell 13 Mc hr (by decide) (ee_var 0 rfl) ee_int) ee_int) (congrArg I hcl)) sc_law.nd ?_
  have hf0 := Int.emod_nonneg (cellAt sc 12) (by decide : (17 : Int) ≠ 0)
  have hf1 := Int.emod_lt_of_pos (cellAt sc 12) (by decide : (0 : Int) < 17)
  refine go_set 7 (ee_mod (ee_cell 12 Mc hr (by decide) (ee_var 0 rfl) ee_int) ee_int) sc_law.nd ?_
  generalize cellAt sc 12 % 17 = fault at hf0 hf1
  obtain ⟨a, ha⟩ : ∃ a : Nat, (cl : Int) / 41 % (shy.length : Int) = (a : Int) := ⟨((cl : Int) / 41 % (shy.length : Int)).toNat, by have := Int.emod_nonneg ((cl : Int) / 41) (by omega : (shy.length : Int) ≠ 0); omega⟩
  have hal : a < shy.length := by have := Int.emod_lt_of_pos ((cl : Int) / 41) hn0; omega
  refine go_set 8 (ee_cast (P' := In a) (ee_mod (ee_div (ee_var 6 rfl) ee_int) (ee_var 1 rfl) hn0) (congrArg I ha)) sc_law.nd ?_
  have hg : (linesF shy ties shy.length)[a]? = some (lineF shy ties a) := by
    unfold linesF
    rw [List.getElem?_map, List.getElem?_range hal]; rfl
  have hat : atI ((linesF shy ties shy.length).map Sx) (a : Int) = some (Sx (lineF shy ties a)) := atI_nat (by rw [List.getElem?_map, hg]; rfl)
  have hLl : (lineF shy ties a).length ≤ 100 := by
    have h1 : (lineF shy ties a).length ≤ 4 + 3 * a := wds_len (hs := shy) (ks := ties) (lamp := a) (i := a) (by omega)
    omega
  have hbo : badOk a (badF (lineF shy ties a) a fault cl) := badF_ok (b := shy.getD a false) (os := (List.range a).filter (tiedB ties a)) (fun o ho => by have := List.mem_range.mp (List.mem_filter.mp ho).1; omega) (Nat.le_trans (List.length_filter_le _ _) (by rw [List.length_range]; omega)) (by omega) hLl
  refine go_ix 0 (ee_ifx (P := Sx (if fault < 14 then badF (lineF shy ties a) a fault cl else lineF shy ties a)) (et_cmp cmp_lt (ee_var 7 rfl) ee_int) (fun h => ee_cast (ee_call (P := Sx (badF (lineF shy ties a) a fault cl)) (cj_fn0 Mb hr (by decide) (by rfl) (ea_cons (ee_ix (es_M 0 (ee_var 4 rfl) rfl) (ee_var 8 rfl) hat) (ea_cons (ee_var 8 rfl) (ea_cons (ee_var 7 rfl) (ea_cons (ee_var 6 rfl) ea_nil))))) (c_badline (lineF shy ties a) a fault cl) ⟨_, _, _, _, hLl, by omega, rfl⟩ (ho := fun _ _ q => q)) (by rw [if_pos (of_decide_eq_true h)])) (fun h => ee_cast (ee_ix (es_M 0 (ee_var 4 rfl) rfl) (ee_var 8 rfl) hat) (by rw [if_neg (of_decide_eq_false h)]))) (ee_var 4 rfl) (ee_var 8 rfl) rfl (by rw [List.length_map, hlt]; exact ixN_ok (natP hal)) ?_
  have hsame : (wssF shy ties).set a (wds shy ties a a) = wssF shy ties := by
    apply List.ext_getElem?
    intro k
    by_cases hk : a = k
    · subst hk
      rw [List.getElem?_set_self (by rw [hwl]; exact hal)]
      unfold wssF
      rw [List.getElem?_map, List.getElem?_range hal]; rfl
    · rw [List.getElem?_set_ne hk]
  obtain ⟨ws, hws, hwo, hwl2, hwl3⟩ : ∃ ws : List Str, (if fault < 14 then badF (lineF shy ties a) a fault cl else lineF shy ties a) = Str.join " " ws ∧ (ws ≠ [] ∧ (∀ x ∈ ws, okW x) ∧ (Str.join " " ws).length ≤ 1000 ∧ ws.length ≤ 100) ∧ (fault < 14 → rlF a ws = none) ∧ (¬ fault < 14 → ws = wds shy ties a a) := by
    by_cases h : fault < 14
    · obtain ⟨w1, ws1, b1, b2, b3, b4, b5⟩ := hbo
      exact ⟨w1 :: ws1, by rw [if_pos h]; exact b1, ⟨List.cons_ne_nil _ _, b2, b1 ▸ b4, b3⟩, fun _ => b5, fun z => absurd h z⟩
    · exact ⟨wds shy ties a a, by rw [if_neg h]; rfl, ⟨wds_ne _ _ _ _, okW_wds, Nat.le_trans hLl (by decide), by have := (wds_sum (hs := shy) (ks := ties) (lamp := a) (i := a) (by omega)).2; omega⟩, fun z => absurd z h, fun _ => rfl⟩
  have eset : ((linesF shy ties shy.length).map Sx).set (a : Int).toNat (Sx (if fault < 14 then badF (lineF shy ties a) a fault cl else lineF shy ties a)) = (((wssF shy ties).set a ws).map (Str.join " ")).map Sx := by
    rw [hws, List.map_set, List.map_set, wss_lines]; rfl
  show Go _ _ [some (Scr K sc), some (I (shy.length : Int)), some (N (L (ties.map tP))), some (N (L (shy.map Bo))), some (Ref ro), some (Sx (Str.join "\n" ((wssF shy ties).map (Str.join " ")))), some (In cl), some (I fault), some (In a), none, none] [(ro, ML (((linesF shy ties shy.length).map Sx).set (a : Int).toNat (Sx (if fault < 14 then badF (lineF shy ties a) a fault cl else lineF shy ties a))))] _ _
  rw [eset]
  have okset := okT_of (wss := (wssF shy ties).set a ws) (fun z => by
    have := congrArg List.length z
    rw [List.length_set, hwl] at this
    have : shy.length = 0 := this
    omega) (by rw [List.length_set, hwl]; omega) (fun v hv => by
      rcases List.mem_or_eq_of_mem_set hv with z | z
      · exact wss_ok hn24.2 v z
      · rw [z]; exact hwo)
  refine go_set 9 (ee_join (ys := ((wssF shy ties).set a ws).map (Str.join " ")) ee_str (es_M 0 (ee_var 4 rfl) rfl) okset.2) sc_law.nd ?_
  show Go _ _ [some (Scr K sc), some (I (shy.length : Int)), some (N (L (ties.map tP))), some (N (L (shy.map Bo))), some (Ref ro), some (Sx (Str.join "\n" ((wssF shy ties).map (Str.join " ")))), some (In cl), some (I fault), some (In a), some (Sx (Str.join "\n" (((wssF shy ties).set a ws).map (Str.join " ")))), none] _ _ _
  by_cases hlow : fault < 14
  · refine go_if (et_cast (k' := false) (et_cmp cmp_eq (ee_var 7 rfl) ee_int) (decide_eq_false (by omega))) (fun h => nomatch h) (fun _ => go_nil ?_)
    refine go_if (et_cast (k' := false) (et_cmp cmp_eq (ee_var 7 rfl) ee_int) (decide_eq_false (by omega))) (fun h => nomatch h) (fun _ => go_nil ?_)
    refine go_if (et_cast (k' := false) (et_cmp cmp_eq (ee_var 7 rfl) ee_int) (decide_eq_false (by omega))) (fun h => nomatch h) (fun _ => go_nil ?_)
    have hbad : readF ((wssF shy ties).set a ws) = none := readF_bad (lamp := a) (by rw [List.length_set, hwl]; exact hal) (by rw [List.getD_eq_getElem?_getD, List.getElem?_set_self (by rw [hwl]; exact hal)]; exact hwl2 hlow)
    exact go_ret (ee_and (ee_call (P := Bo true) (cj_fn0 Mr hr (by decide) (by rfl) (ea_cons (ee_var 9 rfl) ea_nil)) (c_refused17 ((wssF shy ties).set a ws)) ⟨_, okset.1, hbad, rfl⟩ (ho := fun _ _ q => q)) fun _ => ee_one (ee_cmp cmp_eq (ee_fld (ee_un (ee_call (P := N (YV CY shy (ksF ties shy.length))) (cj_fn0 Mrv hr (by decide) (by rfl) (ea_cons (ee_var 5 rfl) ea_nil)) (c_readV CY cNN (wssF shy ties)) ⟨_, hOT, rfl⟩ (ho := fun P' Δ' ⟨hs, ks, q1, e1, e2⟩ => by rw [hrd] at q1; cases q1; exact e1) (hx := fun _ _ q => by have := q.2; rw [hrd] at this; cases this))) T.cl T.nm 0 rfl rfl) (ee_var 1 rfl))) (by show Bo _ = Bo true; rw [decide_eq_true rfl]; rfl)
  have hsw := hwl3 hlow
  rw [hsw, hsame]
  by_cases h14 : fault = 14
  · refine go_if (et_cast (k' := true) (et_cmp cmp_eq (ee_var 7 rfl) ee_int) (decide_eq_true h14)) (fun _ => ?_) (fun h => nomatch h)
    have ok14 := okT_of (wss := wssF shy ties ++ [[Str.ofString ""]]) (by simp) (by rw [List.length_append, hwl]; show _ + 1 ≤ 100; omega) (fun v hv => by
      rcases List.mem_append.mp hv with z | z
      · exact wss_ok hn24.2 v z
      · rw [List.mem_singleton.mp z]
        exact ⟨by simp, fun y hy => (List.mem_singleton.mp hy) ▸ okE, by decide +kernel, by decide⟩)
    have e14 : Str.join "\n" ((wssF shy ties).map (Str.join " ")) ++ "\n" = Str.join "\n" ((wssF shy ties ++ [[Str.ofString ""]]).map (Str.join " ")) := by
      rw [List.map_append]
      show _ = Str.join "\n" ((wssF shy ties).map (Str.join " ") ++ [Str.ofString ""])
      rw [join_snoc _ _ _ (fun z => by have := congrArg List.length z; rw [List.length_map, hwl] at this; have : shy.length = 0 := this; omega)]
      refine TL.ext_tl ?_
      rw [TL.tl_append (_ ++ _), show TL.tl (Str.ofString "") = [] from by decide +kernel, List.append_nil]
    have hbad : readF (wssF shy ties ++ [[Str.ofString ""]]) = none := readF_bad (lamp := shy.length) (by rw [List.length_append, hwl]; show _ < _ + 1; omega) (by
      rw [List.getD_eq_getElem?_getD, List.getElem?_append_right (by rw [hwl]; exact Nat.le_refl _), hwl, Nat.sub_self]
      exact rlF_bad (by decide +kernel))
    refine go_set 9 (ee_cast (ee_cats (ee_var 5 rfl) ee_str (by rw [nl_len]; have := hOT.tsz; unfold sizeLine; omega)) (congrArg Sx e14)) sc_law.nd (go_nil ?_)
    refine go_if (et_cast (k' := false) (et_cmp cmp_eq (ee_var 7 rfl) ee_int) (decide_eq_false (by omega))) (fun h => nomatch h) (fun _ => go_nil ?_)
    refine go_if (et_cast (k' := false) (et_cmp cmp_eq (ee_var 7 rfl) ee_int) (decide_eq_false (by omega))) (fun h => nomatch h) (fun _ => go_nil ?_)
    exact go_ret (ee_and (ee_call (P := Bo true) (cj_fn0 Mr hr (by decide) (by rfl) (ea_cons (ee_var 9 rfl) ea_nil)) (c_refused17 (wssF shy ties ++ [[Str.ofString ""]])) ⟨_, ok14.1, hbad, rfl⟩ (ho := fun _ _ q => q)) fun _ => ee_one (ee_cmp cmp_eq (ee_fld (ee_un (ee_call (P := N (YV CY shy (ksF ties shy.length))) (cj_fn0 Mrv hr (by decide) (by rfl) (ea_cons (ee_var 5 rfl) ea_nil)) (c_readV CY cNN (wssF shy ties)) ⟨_, hOT, rfl⟩ (ho := fun P' Δ' ⟨hs, ks, q1, e1, e2⟩ => by rw [hrd] at q1; cases q1; exact e1) (hx := fun _ _ q => by have := q.2; rw [hrd] at this; cases this))) T.cl T.nm 0 rfl rfl) (ee_var 1 rfl))) (by show Bo _ = Bo true; rw [decide_eq_true rfl]; rfl)
  refine go_if (et_cast (k' := false) (et_cmp cmp_eq (ee_var 7 rfl) ee_int) (decide_eq_false h14)) (fun h => nomatch h) (fun _ => go_nil ?_)
  by_cases h15 : fault = 15
  · refine go_if (et_cast (k' := true) (et_cmp cmp_eq (ee_var 7 rfl) ee_int) (decide_eq_true h15)) (fun _ => ?_) (fun h => nomatch h)
    obtain ⟨m, hm⟩ : ∃ m, m = 25 + cl % 20 := ⟨_, rfl⟩
    have hm2 : (25 : Int) + (cl : Int) % 20 = (m : Int) := by omega
    have hml : 25 ≤ m ∧ m < 45 := by omega
    have ok15 := okT_of (wss := List.replicate m [Str.ofString "lamp"]) (fun z => by have := congrArg List.length z; rw [List.length_replicate] at this; have : m = 0 := this; omega) (by rw [List.length_replicate]; omega) (fun v hv => by
      rw [List.eq_of_mem_replicate hv]
      exact ⟨by simp, fun y hy => (List.mem_singleton.mp hy) ▸ ⟨by decide +kernel, by decide +kernel⟩, by decide +kernel, by decide⟩)
    have hbad : readF (List.replicate m [Str.ofString "lamp"]) = none := by
      unfold readF
      rw [List.length_replicate, if_pos (by omega)]
    have e15 : ((List.range (m : Int).toNat).filter fun _ => true).map (fun _ => Sx (Str.ofString "lamp")) = ((List.replicate m [Str.ofString "lamp"]).map (Str.join " ")).map Sx := by
      rw [filt_true, Int.toNat_natCast, List.map_replicate, List.map_replicate]
      exact (List.map_const' ..).trans (by rw [List.length_range]; rfl)
    refine go_set 9 (ee_join (ys := (List.replicate m [Str.ofString "lamp"]).map (Str.join " ")) ee_str (es_C (ec_N (en_cast (en_lcR (fun _ => true) (fun _ => Sx (Str.ofString "lamp")) 10 sc_law.nd (ee_cast (P' := I (m : Int)) (ee_add ee_int (ee_mod (ee_var 6 rfl) ee_int)) (congrArg I hm2)) (by omega) (by omega) rfl b.range (blkOk_by (N := ["script", "many", "ties", "shy", "rows", "text", "cell", "fault", "at", "bad", "k"]) (sc := defScope s_law) (by decide +kernel)) (fun _ _ _ _ _ => pg_name (i := 10) sc_law.nd rfl (Or.inl rfl)) (fun _ _ => rfl) (fun _ _ _ => fun _ _ _ _ _ => ee_str)) e15))) ok15.2) sc_law.nd (go_nil ?_)
    refine go_if (et_cast (k' := false) (et_cmp cmp_eq (ee_var 7 rfl) ee_int) (decide_eq_false (by omega))) (fun h => nomatch h) (fun _ => go_nil ?_)
    exact go_ret (ee_and (ee_call (P := Bo true) (cj_fn0 Mr hr (by decide) (by rfl) (ea_cons (ee_var 9 rfl) ea_nil)) (c_refused17 (List.replicate m [Str.ofString "lamp"])) ⟨_, ok15.1, hbad, rfl⟩ (ho := fun _ _ q => q)) fun _ => ee_one (ee_cmp cmp_eq (ee_fld (ee_un (ee_call (P := N (YV CY shy (ksF ties shy.length))) (cj_fn0 Mrv hr (by decide) (by rfl) (ea_cons (ee_var 5 rfl) ea_nil)) (c_readV CY cNN (wssF shy ties)) ⟨_, hOT, rfl⟩ (ho := fun P' Δ' ⟨hs, ks, q1, e1, e2⟩ => by rw [hrd] at q1; cases q1; exact e1) (hx := fun _ _ q => by have := q.2; rw [hrd] at this; cases this))) T.cl T.nm 0 rfl rfl) (ee_var 1 rfl))) (by show Bo _ = Bo true; rw [decide_eq_true rfl]; rfl)
  refine go_if (et_cast (k' := false) (et_cmp cmp_eq (ee_var 7 rfl) ee_int) (decide_eq_false h15)) (fun h => nomatch h) (fun _ => go_nil ?_)
  refine go_if (et_cast (k' := true) (et_cmp cmp_eq (ee_var 7 rfl) ee_int) (decide_eq_true (by omega))) (fun _ => ?_) (fun h => nomatch h)
  have h5 := Nat.mod_lt cl (by decide : 5 > 0)
  obtain ⟨q1, q2, hbad⟩ := w16_ok h5
  refine go_set 9 (ee_cast (P' := Sx (Str.join "\n" ((w16 (cl % 5)).map (Str.join " ")))) (ee_ix (P := Sx (t16 (cl % 5))) (es_C (ec_N (en_lst (ea_cons ee_str (ea_cons ee_str (ea_cons ee_str (ea_cons ee_str (ea_cons ee_str ea_nil)))))))) (ee_cast (P' := I ((cl % 5 : Nat) : Int)) (ee_mod (ee_var 6 rfl) ee_int) (congrArg I (by omega))) (t16_at h5)) (congrArg Sx q1)) sc_law.nd (go_nil ?_)
  exact go_ret (ee_and (ee_call (P := Bo true) (cj_fn0 Mr hr (by decide) (by rfl) (ea_cons (ee_var 9 rfl) ea_nil)) (c_refused17 (w16 (cl % 5))) ⟨_, q2, hbad, rfl⟩ (ho := fun _ _ q => q)) fun _ => ee_one (ee_cmp cmp_eq (ee_fld (ee_un (ee_call (P := N (YV CY shy (ksF ties shy.length))) (cj_fn0 Mrv hr (by decide) (by rfl) (ea_cons (ee_var 5 rfl) ea_nil)) (c_readV CY cNN (wssF shy ties)) ⟨_, hOT, rfl⟩ (ho := fun P' Δ' ⟨hs, ks, q1, e1, e2⟩ => by rw [hrd] at q1; cases q1; exact e1) (hx := fun _ _ q => by have := q.2; rw [hrd] at this; cases this))) T.cl T.nm 0 rfl rfl) (ee_var 1 rfl))) (by show Bo _ = Bo true; rw [decide_eq_true rfl]; rfl)
end
def d_Yard_ask : He.DefD := ⟨("Yard", some "ask"), "ask", "Yard.ask", defArgs s_Yard_ask, defBody s_Yard_ask, defScope s_Yard_ask, [], []⟩
def d_Yard_ask_two : He.DefD := ⟨("Yard", some "ask_two"), "ask_two", "Yard.ask_two", defArgs s_Yard_ask_two, defBody s_Yard_ask_two, defScope s_Yard_ask_two, [], []⟩
def d_Yard_is_tied : He.DefD := ⟨("Yard", some "is_tied"), "is_tied", "Yard.is_tied", defArgs s_Yard_is_tied, defBody s_Yard_is_tied, defScope s_Yard_is_tied, [], []⟩
def d_Yard_tie : He.DefD := ⟨("Yard", some "tie"), "tie", "Yard.tie", defArgs s_Yard_tie, defBody s_Yard_tie, defScope s_Yard_tie, [], []⟩
def d_Yard_set_shy : He.DefD := ⟨("Yard", some "set_shy"), "set_shy", "Yard.set_shy", defArgs s_Yard_set_shy, defBody s_Yard_set_shy, defScope s_Yard_set_shy, [.bl true], []⟩
def d_Yard_init : He.DefD := ⟨("Yard", some "__init__"), "__init__", "Yard.__init__", defArgs s_Yard_init, defBody s_Yard_init, defScope s_Yard_init, [], []⟩
def d__law_cell_at : He.DefD := ⟨("_law_cell_at", none), "_law_cell_at", "_law_cell_at", defArgs s__law_cell_at, defBody s__law_cell_at, defScope s__law_cell_at, [], []⟩
def d__law_mix : He.DefD := ⟨("_law_mix", none), "_law_mix", "_law_mix", defArgs s__law_mix, defBody s__law_mix, defScope s__law_mix, [], []⟩
def d__law_many : He.DefD := ⟨("_law_many", none), "_law_many", "_law_many", defArgs s__law_many, defBody s__law_many, defScope s__law_many, [], []⟩
def d__law_drawn : He.DefD := ⟨("_law_drawn", none), "_law_drawn", "_law_drawn", defArgs s__law_drawn, defBody s__law_drawn, defScope s__law_drawn, [], []⟩
def d__law_text : He.DefD := ⟨("_law_text", none), "_law_text", "_law_text", defArgs s__law_text, defBody s__law_text, defScope s__law_text, [], []⟩
def d_number_of : He.DefD := ⟨("number_of", none), "number_of", "number_of", defArgs s_number_of, defBody s_number_of, defScope s_number_of, [], []⟩
def d_read_lamp : He.DefD := ⟨("read_lamp", none), "read_lamp", "read_lamp", defArgs s_read_lamp, defBody s_read_lamp, defScope s_read_lamp, [], []⟩
def d_read : He.DefD := ⟨("read", none), "read", "read", defArgs s_read, defBody s_read, defScope s_read, [], []⟩
def d__law_others : He.DefD := ⟨("_law_others", none), "_law_others", "_law_others", defArgs s__law_others, defBody s__law_others, defScope s__law_others, [], []⟩
def d__law_bad_line : He.DefD := ⟨("_law_bad_line", none), "_law_bad_line", "_law_bad_line", defArgs s__law_bad_line, defBody s__law_bad_line, defScope s__law_bad_line, [], []⟩
def d__law_refused : He.DefD := ⟨("_law_refused", none), "_law_refused", "_law_refused", defArgs s__law_refused, defBody s__law_refused, defScope s__law_refused, [], []⟩
def d_law : He.DefD := ⟨("law", none), "law", "law", defArgs s_law, defBody s_law, defScope s_law, [], []⟩
def fns : List He.DefD := [d_Yard_ask, d_Yard_ask_two, d_Yard_is_tied, d_Yard_tie, d_Yard_set_shy, d_Yard_init, d__law_cell_at, d__law_mix, d__law_many, d__law_drawn, d__law_text, d_number_of, d_read_lamp, d_read, d__law_others, d__law_bad_line, d__law_refused, d_law]
def fas : List He.Fa := [.cls "Yard", .noat "Yard" "many", .noat "Yard" "ties", .noat "Yard" "hides", .mkr "Yard", .glo "Yard", .glo "NoYard", .glo "NoLamp", .glo "Alone", .glo "Tied", .glo "Untied", .glo "NoPress", .glo "TooMany", .glo "Shy", .glo "NoNote", .glo "LampError", .exc "NoYard", .exc "NoLamp", .exc "Alone", .exc "Tied", .exc "Untied", .exc "NoPress", .exc "TooMany", .exc "Shy", .exc "NoNote", .meth "Yard" "ask", .meth "Yard" "ask_two", .meth "Yard" "is_tied", .meth "Yard" "tie", .meth "Yard" "set_shy", .glo "_law_cell_at", .glo "_law_mix", .glo "_law_many", .glo "_law_drawn", .glo "_law_text", .glo "number_of", .glo "read_lamp", .glo "read", .glo "_law_others", .glo "_law_bad_line", .glo "_law_refused", .glo "law", .int "MOST_yard" 24, .int "MOST_notes" 24, .free "len", .free "list", .free "range", .free "min", .free "max", .free "str", .free "int", .free "bool", .free "tuple", .free "all", .free "any", .free "sorted", .free "isinstance", .free "reversed", .free "ValueError", .exm "NoNote" "NoNote" true]
def fxs : List Fx := [.exc "NoNote", .kitT "NoNote" "ValueError" true, .kit "NoNote" "LampError" true, .kit "NoNote" "Alone" false, .kit "NoNote" "NoLamp" false, .kit "NoNote" "NoYard" false, .kit "NoNote" "NoPress" false, .kit "NoNote" "Shy" false, .kit "NoNote" "Tied" false, .kit "NoNote" "TooMany" false, .kit "NoNote" "Untied" false]
abbrev hk : PySem.W.Hook := hookX 6 fxs fas fns
def ob (s : PySem.W.SharedT) : AlX := obsXG 6 fxs fas fns (HandSHeadRun.getT s)
theorem ob_eq (s : PySem.W.SharedT) : ob s = hk.obs s.abs := obsXG_eq (HandSHeadRun.getT_eq s)
def lst : List PySem.Str := ["_wall", "LampError", "NoYard", "NoLamp", "Alone", "Tied", "Untied", "NoPress", "TooMany", "Shy", "NoNote", "MOST_yard", "Yard", "MOST_notes", "number_of", "read_lamp", "read", "_law_cell_at", "_law_mix", "_law_many", "_law_drawn", "_law_text", "_law_others", "_law_refused", "_law_bad_line"]
theorem run (w : World) : HandSHeadRun.RunEq (PySem.W.OpenLaw.row PySem.Challenge.rw_lampyard_k17_unread) (PySem.W.view (PySem.W.OpenLaw.row PySem.Challenge.rw_lampyard_k17_unread).prog [29]) hk ob 4000 lst w := by
  intro os
  kernel_rfl
theorem facts {P : Program} {w : World} {K : PySem.W.Frag} {h : Heap} {mg : Str → Option Value} {f : Addr} (X : K.In h) (G : h.Ns mainGlobals mg) (hfa : mg ("law" : Str) = some (.ref f)) (c0 : SaysX fxs fas fns K) :
    ∃ fd : FuncData, (∀ (s : Shared) (v : Value), BindsTo s fd ⟨[v], []⟩ [("script", v)]) ∧ ∀ base : Heap, K.In base → base.Ns mainGlobals mg → FnOk P w K mg base CX0 8 f fd ["script"] (fun vs H Q _ => spC (C_law K) vs H Q E0) := by
  have c := c0.d
  have bl : Bl mg := ⟨(He.free_ok X G (c.fact 44 (f := .free "len") rfl)), (He.free_ok X G (c.fact 45 (f := .free "list") rfl)), (He.free_ok X G (c.fact 46 (f := .free "range") rfl)), (He.free_ok X G (c.fact 47 (f := .free "min") rfl)), (He.free_ok X G (c.fact 48 (f := .free "max") rfl)), (He.free_ok X G (c.fact 49 (f := .free "str") rfl)), (He.free_ok X G (c.fact 50 (f := .free "int") rfl)), (He.free_ok X G (c.fact 51 (f := .free "bool") rfl)), (He.free_ok X G (c.fact 52 (f := .free "tuple") rfl)), (He.free_ok X G (c.fact 53 (f := .free "all") rfl)), (He.free_ok X G (c.fact 54 (f := .free "any") rfl)), (He.free_ok X G (c.fact 55 (f := .free "sorted") rfl)), (He.free_ok X G (c.fact 56 (f := .free "isinstance") rfl)), (He.free_ok X G (c.fact 57 (f := .free "reversed") rfl)), (He.free_ok X G (c.fact 58 (f := .free "ValueError") rfl))⟩
  have e_NoYard : ExcT K mg "NoYard" (He.ga K "NoYard") := let q := He.exc_ok (c.fact 16 (f := .exc "NoYard") rfl); ⟨(He.glo_ok X G (c.fact 6 (f := .glo "NoYard") rfl)), q.2.1, q.1, q.2.2.1, q.2.2.2⟩
  have e_NoLamp : ExcT K mg "NoLamp" (He.ga K "NoLamp") := let q := He.exc_ok (c.fact 17 (f := .exc "NoLamp") rfl); ⟨(He.glo_ok X G (c.fact 7 (f := .glo "NoLamp") rfl)), q.2.1, q.1, q.2.2.1, q.2.2.2⟩
  have e_Alone : ExcT K mg "Alone" (He.ga K "Alone") := let q := He.exc_ok (c.fact 18 (f := .exc "Alone") rfl); ⟨(He.glo_ok X G (c.fact 8 (f := .glo "Alone") rfl)), q.2.1, q.1, q.2.2.1, q.2.2.2⟩
  have e_Tied : ExcT K mg "Tied" (He.ga K "Tied") := let q := He.exc_ok (c.fact 19 (f := .exc "Tied") rfl); ⟨(He.glo_ok X G (c.fact 9 (f := .glo "Tied") rfl)), q.2.1, q.1, q.2.2.1, q.2.2.2⟩
  have e_Untied : ExcT K mg "Untied" (He.ga K "Untied") := let q := He.exc_ok (c.fact 20 (f := .exc "Untied") rfl); ⟨(He.glo_ok X G (c.fact 10 (f := .glo "Untied") rfl)), q.2.1, q.1, q.2.2.1, q.2.2.2⟩
  have e_NoPress : ExcT K mg "NoPress" (He.ga K "NoPress") := let q := He.exc_ok (c.fact 21 (f := .exc "NoPress") rfl); ⟨(He.glo_ok X G (c.fact 11 (f := .glo "NoPress") rfl)), q.2.1, q.1, q.2.2.1, q.2.2.2⟩
  have e_TooMany : ExcT K mg "TooMany" (He.ga K "TooMany") := let q := He.exc_ok (c.fact 22 (f := .exc "TooMany") rfl); ⟨(He.glo_ok X G (c.fact 12 (f := .glo "TooMany") rfl)), q.2.1, q.1, q.2.2.1, q.2.2.2⟩
  have e_Shy : ExcT K mg "Shy" (He.ga K "Shy") := let q := He.exc_ok (c.fact 23 (f := .exc "Shy") rfl); ⟨(He.glo_ok X G (c.fact 13 (f := .glo "Shy") rfl)), q.2.1, q.1, q.2.2.1, q.2.2.2⟩
  have e_NoNote : ExcT K mg "NoNote" (He.ga K "NoNote") := let q := He.exc_ok (c.fact 24 (f := .exc "NoNote") rfl); ⟨(He.glo_ok X G (c.fact 14 (f := .glo "NoNote") rfl)), q.2.1, q.1, q.2.2.1, q.2.2.2⟩
  have T : Yt K mg (He.ga K "Yard") (He.ga K "NoYard") (He.ga K "NoLamp") (He.ga K "Alone") (He.ga K "Tied") (He.ga K "Untied") := ⟨He.cls_ok (c.fact 0 (f := .cls "Yard") rfl), He.noat_ok (c.fact 1 (f := .noat "Yard" "many") rfl), He.noat_ok (c.fact 2 (f := .noat "Yard" "ties") rfl), He.noat_ok (c.fact 3 (f := .noat "Yard" "hides") rfl), He.int_ok X G (c.fact 42 (f := .int "MOST_yard" 24) rfl), e_NoYard, e_NoLamp, e_Alone, e_Tied, e_Untied⟩
  have yard_cls := T.cl
  have i_MOST_notes : ∃ t, mg ("MOST_notes" : Str) = some (.int 24 t) := He.int_ok X G (c.fact 43 (f := .int "MOST_notes" 24) rfl)
  have z_NoNote : ErrT K mg (He.ga K "NoNote") := ⟨fxExc (c0.x 0 (f := .exc "NoNote") rfl), fxKitT (c0.x 1 (f := .kitT "NoNote" "ValueError" true) rfl)⟩
  have i_NoNote_LampError : IsC K mg (He.ga K "NoNote") "LampError" true := ⟨_, (He.glo_ok X G (c.fact 15 (f := .glo "LampError") rfl)), fxKit (c0.x 2 (f := .kit "NoNote" "LampError" true) rfl)⟩
  have i_NoNote_Alone : IsC K mg (He.ga K "NoNote") "Alone" false := ⟨_, (He.glo_ok X G (c.fact 8 (f := .glo "Alone") rfl)), fxKit (c0.x 3 (f := .kit "NoNote" "Alone" false) rfl)⟩
  have i_NoNote_NoLamp : IsC K mg (He.ga K "NoNote") "NoLamp" false := ⟨_, (He.glo_ok X G (c.fact 7 (f := .glo "NoLamp") rfl)), fxKit (c0.x 4 (f := .kit "NoNote" "NoLamp" false) rfl)⟩
  have i_NoNote_NoYard : IsC K mg (He.ga K "NoNote") "NoYard" false := ⟨_, (He.glo_ok X G (c.fact 6 (f := .glo "NoYard") rfl)), fxKit (c0.x 5 (f := .kit "NoNote" "NoYard" false) rfl)⟩
  have i_NoNote_NoPress : IsC K mg (He.ga K "NoNote") "NoPress" false := ⟨_, (He.glo_ok X G (c.fact 11 (f := .glo "NoPress") rfl)), fxKit (c0.x 6 (f := .kit "NoNote" "NoPress" false) rfl)⟩
  have i_NoNote_Shy : IsC K mg (He.ga K "NoNote") "Shy" false := ⟨_, (He.glo_ok X G (c.fact 13 (f := .glo "Shy") rfl)), fxKit (c0.x 7 (f := .kit "NoNote" "Shy" false) rfl)⟩
  have i_NoNote_Tied : IsC K mg (He.ga K "NoNote") "Tied" false := ⟨_, (He.glo_ok X G (c.fact 9 (f := .glo "Tied") rfl)), fxKit (c0.x 8 (f := .kit "NoNote" "Tied" false) rfl)⟩
  have i_NoNote_TooMany : IsC K mg (He.ga K "NoNote") "TooMany" false := ⟨_, (He.glo_ok X G (c.fact 12 (f := .glo "TooMany") rfl)), fxKit (c0.x 9 (f := .kit "NoNote" "TooMany" false) rfl)⟩
  have i_NoNote_Untied : IsC K mg (He.ga K "NoNote") "Untied" false := ⟨_, (He.glo_ok X G (c.fact 10 (f := .glo "Untied") rfl)), fxKit (c0.x 10 (f := .kit "NoNote" "Untied" false) rfl)⟩
  have nn_NoNote : Nots K mg (He.ga K "NoNote") ["Alone", "NoLamp", "NoYard", "NoPress", "Shy", "Tied", "TooMany", "Untied"] := ⟨fun x hx => by
      rcases List.mem_cons.mp hx with rfl | hx
      · exact i_NoNote_Alone.ok
      rcases List.mem_cons.mp hx with rfl | hx
      · exact i_NoNote_NoLamp.ok
      rcases List.mem_cons.mp hx with rfl | hx
      · exact i_NoNote_NoYard.ok
      rcases List.mem_cons.mp hx with rfl | hx
      · exact i_NoNote_NoPress.ok
      rcases List.mem_cons.mp hx with rfl | hx
      · exact i_NoNote_Shy.ok
      rcases List.mem_cons.mp hx with rfl | hx
      · exact i_NoNote_Tied.ok
      rcases List.mem_cons.mp hx with rfl | hx
      · exact i_NoNote_TooMany.ok
      rcases List.mem_cons.mp hx with rfl | hx
      · exact i_NoNote_Untied.ok
      cases hx⟩
  have x_NoNote_NoNote : Exm K mg (He.ga K "NoNote") "NoNote" true := ⟨_, (He.glo_ok X G (c.fact 14 (f := .glo "NoNote") rfl)), He.exm_ok (c.fact 59 (f := .exm "NoNote" "NoNote" true) rfl)⟩
  obtain ⟨fd_0, F_0⟩ := c.def_ 0 (d := d_Yard_ask) rfl
  have b_0 : Binds K fd_0 ["self", "lamp"] [] := F_0.bindsN fun _ _ _ _ _ _ us hl => match us, hl with | [_, _], _ => rfl
  obtain ⟨fd_1, F_1⟩ := c.def_ 1 (d := d_Yard_ask_two) rfl
  have b_1 : Binds K fd_1 ["self", "one", "other"] [] := F_1.bindsN fun _ _ _ _ _ _ us hl => match us, hl with | [_, _, _], _ => rfl
  obtain ⟨fd_2, F_2⟩ := c.def_ 2 (d := d_Yard_is_tied) rfl
  have b_2 : Binds K fd_2 ["self", "one", "other"] [] := F_2.bindsN fun _ _ _ _ _ _ us hl => match us, hl with | [_, _, _], _ => rfl
  obtain ⟨fd_3, F_3⟩ := c.def_ 3 (d := d_Yard_tie) rfl
  have b_3 : Binds K fd_3 ["self", "one", "other"] [] := F_3.bindsN fun _ _ _ _ _ _ us hl => match us, hl with | [_, _, _], _ => rfl
  obtain ⟨fd_4, F_4⟩ := c.def_ 4 (d := d_Yard_set_shy) rfl
  obtain ⟨b_4, ds_4, hd_4, bd_4⟩ := setshy_b F_4
  obtain ⟨fd_5, F_5⟩ := c.def_ 5 (d := d_Yard_init) rfl
  have b_5 : Binds K fd_5 ["self", "many"] [] := F_5.bindsN fun _ _ _ _ _ _ us hl => match us, hl with | [_, _], _ => rfl
  obtain ⟨fd_6, F_6⟩ := c.def_ 6 (d := d__law_cell_at) rfl
  have b_6 : Binds K fd_6 ["script", "k"] [] := F_6.bindsN fun _ _ _ _ _ _ us hl => match us, hl with | [_, _], _ => rfl
  obtain ⟨fd_7, F_7⟩ := c.def_ 7 (d := d__law_mix) rfl
  have b_7 : Binds K fd_7 ["cell", "k"] [] := F_7.bindsN fun _ _ _ _ _ _ us hl => match us, hl with | [_, _], _ => rfl
  obtain ⟨fd_8, F_8⟩ := c.def_ 8 (d := d__law_many) rfl
  have b_8 : Binds K fd_8 ["cell"] [] := F_8.bindsN fun _ _ _ _ _ _ us hl => match us, hl with | [_], _ => rfl
  obtain ⟨fd_9, F_9⟩ := c.def_ 9 (d := d__law_drawn) rfl
  have b_9 : Binds K fd_9 ["script"] [] := F_9.bindsN fun _ _ _ _ _ _ us hl => match us, hl with | [_], _ => rfl
  obtain ⟨fd_10, F_10⟩ := c.def_ 10 (d := d__law_text) rfl
  have b_10 : Binds K fd_10 ["many", "ties", "shy"] [] := F_10.bindsN fun _ _ _ _ _ _ us hl => match us, hl with | [_, _, _], _ => rfl
  obtain ⟨fd_11, F_11⟩ := c.def_ 11 (d := d_number_of) rfl
  have b_11 : Binds K fd_11 ["word", "lamp"] [] := F_11.bindsN fun _ _ _ _ _ _ us hl => match us, hl with | [_, _], _ => rfl
  obtain ⟨fd_12, F_12⟩ := c.def_ 12 (d := d_read_lamp) rfl
  have b_12 : Binds K fd_12 ["yard", "lamp", "line"] [] := F_12.bindsN fun _ _ _ _ _ _ us hl => match us, hl with | [_, _, _], _ => rfl
  obtain ⟨fd_13, F_13⟩ := c.def_ 13 (d := d_read) rfl
  have b_13 : Binds K fd_13 ["text"] [] := F_13.bindsN fun _ _ _ _ _ _ us hl => match us, hl with | [_], _ => rfl
  obtain ⟨fd_14, F_14⟩ := c.def_ 14 (d := d__law_others) rfl
  have b_14 : Binds K fd_14 ["e"] [] := F_14.bindsN fun _ _ _ _ _ _ us hl => match us, hl with | [_], _ => rfl
  obtain ⟨fd_15, F_15⟩ := c.def_ 15 (d := d__law_bad_line) rfl
  have b_15 : Binds K fd_15 ["line", "at", "fault", "cell"] [] := F_15.bindsN fun _ _ _ _ _ _ us hl => match us, hl with | [_, _, _, _], _ => rfl
  obtain ⟨fd_16, F_16⟩ := c.def_ 16 (d := d__law_refused) rfl
  have b_16 : Binds K fd_16 ["text"] [] := F_16.bindsN fun _ _ _ _ _ _ us hl => match us, hl with | [_], _ => rfl
  obtain ⟨fd_17, F_17⟩ := c.def_ 17 (d := d_law) rfl
  have b_17 : Binds K fd_17 ["script"] [] := F_17.bindsN fun _ _ _ _ _ _ us hl => match us, hl with | [_], _ => rfl
  have e := hfa.symm.trans (He.glo_ok X G (c.fact 41 (f := .glo "law") rfl))
  cases e
  refine ⟨fd_17, fun s v => ?_, fun base _ _ => ?_⟩
  · have bb := FunD.bindsA (ps := ["script"]) F_17 fun _ _ _ _ _ _ us hl => match us, hl with | [_], _ => rfl
    exact bb s [v] rfl
  · have g_0 := ok_ask (P := P) (w := w) (K := K) (mg := mg) (base := base)  F_0 ‹_›
    have m_0 := mtc_mk T.cl g_0 (He.meth_ok (c.fact 25 (f := .meth "Yard" "ask") rfl)) b_0
    have g_1 := ok_two (P := P) (w := w) (K := K) (mg := mg) (base := base)  F_1 ‹_› ‹_›
    have m_1 := mtc_mk T.cl g_1 (He.meth_ok (c.fact 26 (f := .meth "Yard" "ask_two") rfl)) b_1
    have g_2 := ok_istied (P := P) (w := w) (K := K) (mg := mg) (base := base)  F_2 ‹_› ‹_› ‹_›
    have m_2 := mtc_mk T.cl g_2 (He.meth_ok (c.fact 27 (f := .meth "Yard" "is_tied") rfl)) b_2
    have g_3 := ok_tie (P := P) (w := w) (K := K) (mg := mg) (base := base)  F_3 ‹_› ‹_› ‹_›
    have m_3 := mtc_mk T.cl g_3 (He.meth_ok (c.fact 28 (f := .meth "Yard" "tie") rfl)) b_3
    have g_4 := ok_setshy (P := P) (w := w) (K := K) (mg := mg) (base := base)  F_4 ‹_› ‹_›
    have m_4 := mtc_mk T.cl g_4 (He.meth_ok (c.fact 29 (f := .meth "Yard" "set_shy") rfl)) b_4
    have md_4 := mtcD_mk T.cl g_4 (He.meth_ok (c.fact 29 (f := .meth "Yard" "set_shy") rfl)) bd_4 hd_4
    have g_5 := ok_init (P := P) (w := w) (K := K) (mg := mg) (base := base)  F_5 ‹_› ‹_›
    have m_5 := mkc_mk g_5 (He.mkr_ok (c.fact 4 (f := .mkr "Yard") rfl)) (He.glo_ok X G (c.fact 5 (f := .glo "Yard") rfl)) b_5
    have g_6 := ok_cell (P := P) (w := w) (K := K) (mg := mg) (base := base)  F_6 ‹_›
    have m_6 := fnc_mk g_6 (He.glo_ok X G (c.fact 30 (f := .glo "_law_cell_at") rfl)) F_6.kp b_6
    have g_7 := ok_mix (P := P) (w := w) (K := K) (mg := mg) (base := base)  F_7 
    have m_7 := fnc_mk g_7 (He.glo_ok X G (c.fact 31 (f := .glo "_law_mix") rfl)) F_7.kp b_7
    have g_8 := ok_many (P := P) (w := w) (K := K) (mg := mg) (base := base)  F_8 
    have m_8 := fnc_mk g_8 (He.glo_ok X G (c.fact 32 (f := .glo "_law_many") rfl)) F_8.kp b_8
    have g_9 := ok_drawn (P := P) (w := w) (K := K) (mg := mg) (base := base)  F_9 ‹_› ‹_› ‹_› ‹_›
    have m_9 := fnc_mk g_9 (He.glo_ok X G (c.fact 33 (f := .glo "_law_drawn") rfl)) F_9.kp b_9
    have g_10 := ok_ltext (P := P) (w := w) (K := K) (mg := mg) (base := base)  F_10 ‹_›
    have m_10 := fnc_mk g_10 (He.glo_ok X G (c.fact 34 (f := .glo "_law_text") rfl)) F_10.kp b_10
    have g_11 := ok_numof (P := P) (w := w) (K := K) (mg := mg) (base := base)  F_11 ‹_› ‹_›
    have m_11 := fnc_mk g_11 (He.glo_ok X G (c.fact 35 (f := .glo "number_of") rfl)) F_11.kp b_11
    have g_12 := ok_rdlamp (P := P) (w := w) (K := K) (mg := mg) (base := base)  F_12 ‹_› ‹_› ‹_› ‹_› ‹_›
    have m_12 := fnc_mk g_12 (He.glo_ok X G (c.fact 36 (f := .glo "read_lamp") rfl)) F_12.kp b_12
    have g_13 := ok_read (P := P) (w := w) (K := K) (mg := mg) (base := base)  F_13 ‹_› ‹_› ‹_› ‹_› ‹_› ‹_›
    have m_13 := fnc_mk g_13 (He.glo_ok X G (c.fact 37 (f := .glo "read") rfl)) F_13.kp b_13
    have g_14 := ok_readV (P := P) (w := w) (K := K) (mg := mg) (base := base)  F_13 ‹_› ‹_› ‹_› ‹_› ‹_› ‹_›
    have m_14 := fnc_mk g_14 (He.glo_ok X G (c.fact 37 (f := .glo "read") rfl)) F_13.kp b_13
    have g_15 := ok_others (P := P) (w := w) (K := K) (mg := mg) (base := base)  F_14 ‹_› ‹_› ‹_›
    have m_15 := fne_mk g_15 (He.glo_ok X G (c.fact 38 (f := .glo "_law_others") rfl)) F_14.kp b_14
    have g_16 := ok_badline (P := P) (w := w) (K := K) (mg := mg) (base := base)  F_15 ‹_›
    have m_16 := fnc_mk g_16 (He.glo_ok X G (c.fact 39 (f := .glo "_law_bad_line") rfl)) F_15.kp b_15
    have g_17 := ok_refused17 (P := P) (w := w) (K := K) (mg := mg) (base := base)  F_16 ‹_› ‹_› ‹_› ‹_› ‹_› ‹_›
    have m_17 := fnc_mk g_17 (He.glo_ok X G (c.fact 40 (f := .glo "_law_refused") rfl)) F_16.kp b_16
    exact fnok0 (ok_law F_17 ‹_› ‹_› ‹_› ‹_› ‹_› ‹_› ‹_› ‹_›)
end Lp
open PySem PySem.W PySem.Calls PyProof.Rows
theorem PySem.Challenge.cw_lampyard_k17_unread_holds : PySem.Challenge.rw_lampyard_k17_unread.Holds := by
  w_on; o_law
  refine HandSHeadRun.head_any (r := OpenLaw.row PySem.Challenge.rw_lampyard_k17_unread) (q := view (OpenLaw.row PySem.Challenge.rw_lampyard_k17_unread).prog [29]) (H := Lp.hk) (ob := Lp.ob) (M := 4000) (loose := Lp.lst) (d := HandSHeadRun.topDef (OpenLaw.row PySem.Challenge.rw_lampyard_k17_unread).prog 29) (kwd := []) Lp.ob_eq
    (by kernel_rfl) (fun s => by kernel_rfl) Lp.run (by kernel_rfl) (by kernel_rfl) (by kernel_rfl) (by rfl) (by first | assumption | decide +kernel) (by decide +kernel) ⟨rfl, rfl, rfl, rfl, rfl, by decide +kernel⟩ ?hw ?hc
  case hw => w_witness2
  case hc =>
    refine L2.walk_ofE (l := PySem.Challenge.rw_lampyard_k17_unread) (n := 63) (k := 8) (x := "script") (CX := L2.CX0) rfl (by decide) (by kernel_rfl) ⟨rfl, by decide, by decide⟩ ?F (fun _ _ _ _ z => z)
    intro w mg fa h Y G hmg0
    obtain ⟨K, KX, c⟩ := Y
    have hmg : mg ("law" : PySem.Str) = some (.ref fa) := by
      have e : (HandSHeadRun.topDef (OpenLaw.row PySem.Challenge.rw_lampyard_k17_unread).prog 29).name = ("law" : PySem.Str) := by kernel_rfl
      rw [← e]
      exact hmg0
    obtain ⟨fd, hb, hF⟩ := Lp.facts (P := (PySem.Challenge.rw_lampyard_k17_unread).prog) (w := w) KX G hmg c
    exact ⟨K, fd, (fun vs H Q _ => Yb.spC (Yb.C_law K) vs H Q L2.E0), KX, hb, fun H a ns hl _ hS => Yb.law_sp hl hS, hF⟩

