import PyProof.Rows.All
import Wide.All
import OpenK.AllK
import Wide.FinOn
import HandS.ForExc
import HandS.ForMost
import HandS.Comp
import HandS.Iter
import HandS.Text
import HandS.Lambda
import HandS.CallSlots
import HandS.IsInst
import HandS.Deep
import HandS.Style
import HandS.TupAny
import HandS.Zip
import HandS.ExcInit
import HandS.ExcField
import HandS.TryMany
import HandS.Defaults
import HandS.SortInts
import HandS.StrMore
import KE.GoesMore
import KE.GoesNew
import PyProof.ListStr
import HandS.EndTab
import KE.KNestM
import PySem.Challenge.RW_foretongue_k04_words_of_stocks_numbered
section
set_option Elab.async false
set_option linter.all false
set_option maxRecDepth 100000
set_option maxHeartbeats 4000000
namespace FT
open PySem PySem.Spec PyProof.Rows L2
/-! ### values -/
inductive D where
  | non
  | bl (b : Bool)
  | int (i : Int)
  | str (s : List Nat)
  | lst (ds : List D)
  | tup (ds : List D)
  | frz (ds : List D)
  | pen
  | obj (c : Nat) (ns : List Str) (ds : List D)
structure Cc where
  K : PySem.W.Frag
  ap : Option Addr
  cl : Nat → Addr
def SOk (s : List Nat) : Prop := s.length ≤ sizeLine ∧ ∀ c ∈ s, c < 0x110000
theorem str_len (s : List Nat) : (⟨s.toArray⟩ : Str).length = s.length := by
  show s.toArray.size = s.length
  simp
theorem SOk.line {s : List Nat} (o : SOk s) : (⟨s.toArray⟩ : Str).length ≤ sizeLine := by
  rw [str_len]; exact o.1
mutual
def Rep (c : Cc) (H : Hp) : D → V → Prop
  | .non, v => v = .non
  | .bl b, v => v = .bl b
  | .int i, v => v = .int i
  | .str s, v => v = .str ⟨s.toArray⟩ ∧ SOk s
  | .lst ds, v => ∃ a vs, v = .ref a ∧ H a = some (.lst vs) ∧ RepL c H ds vs
  | .tup ds, v => ∃ a vs, v = .ref a ∧ SqT c.K H a vs ∧ RepL c H ds vs
  | .frz ds, v => ∃ a vs, v = .ref a ∧ SqL c.K H a vs ∧ RepL c H ds vs
  | .pen, v => ∃ a, c.ap = some a ∧ v = .ref a
  | .obj n ns ds, v => ∃ a dx fs, v = .ref a ∧ H a = some (.ins (c.cl n) dx fs) ∧ fs.map (·.1) = ns ∧ RepL c H ds (fs.map (·.2))
def RepL (c : Cc) (H : Hp) : List D → List V → Prop
  | [], vs => vs = []
  | d :: ds, vs => ∃ v r, vs = v :: r ∧ Rep c H d v ∧ RepL c H ds r
end
theorem sqT_mono {K : PySem.W.Frag} {H H' : Hp} {a : Addr} {xs : List V} (e : Same H H') (h : SqT K H a xs) : SqT K H' a xs := by
  rcases h with (h | ⟨o, h⟩) | h
  · exact .inl (.inl (e _ _ h))
  · exact .inl (.inr ⟨o, e _ _ h⟩)
  · exact .inr h
mutual
theorem Rep.mono {c : Cc} {H H' : Hp} (e : Same H H') : ∀ {d : D} {v : V}, Rep c H d v → Rep c H' d v
  | .non, _, h => h
  | .bl _, _, h => h
  | .int _, _, h => h
  | .str _, _, h => h
  | .lst _, _, ⟨a, vs, h1, h2, h3⟩ => ⟨a, vs, h1, e _ _ h2, RepL.mono e h3⟩
  | .tup _, _, ⟨a, vs, h1, h2, h3⟩ => ⟨a, vs, h1, sqT_mono e h2, RepL.mono e h3⟩
  | .frz _, _, ⟨a, vs, h1, h2, h3⟩ => ⟨a, vs, h1, e.seq h2, RepL.mono e h3⟩
  | .pen, _, h => h
  | .obj _ _ _, _, ⟨a, dx, fs, h1, h2, h3, h4⟩ => ⟨a, dx, fs, h1, e _ _ h2, h3, RepL.mono e h4⟩
theorem RepL.mono {c : Cc} {H H' : Hp} (e : Same H H') : ∀ {ds : List D} {vs : List V}, RepL c H ds vs → RepL c H' ds vs
  | [], _, h => h
  | _ :: _, _, ⟨v, r, h1, h2, h3⟩ => ⟨v, r, h1, Rep.mono e h2, RepL.mono e h3⟩
end
theorem RepL.length {c : Cc} {H : Hp} : ∀ {ds : List D} {vs : List V}, RepL c H ds vs → vs.length = ds.length
  | [], _, h => by rw [show _ = ([] : List V) from h]; rfl
  | _ :: _, _, ⟨v, r, h1, _, h3⟩ => by rw [h1, List.length_cons, List.length_cons, RepL.length h3]
theorem RepL.get {c : Cc} {H : Hp} : ∀ {ds : List D} {vs : List V} {i : Nat} {d : D}, RepL c H ds vs → ds[i]? = some d → ∃ v, vs[i]? = some v ∧ Rep c H d v
  | [], _, _, _, _, e => by simp at e
  | x :: _, _, 0, _, ⟨v, r, h1, h2, _⟩, e => by
    simp at e; subst e; exact ⟨v, by rw [h1]; rfl, h2⟩
  | _ :: ds, _, i + 1, d, ⟨v, r, h1, _, h3⟩, e => by
    obtain ⟨u, e1, e2⟩ := RepL.get (i := i) (d := d) h3 (by simpa using e)
    exact ⟨u, by rw [h1]; simpa using e1, e2⟩
theorem RepL.append {c : Cc} {H : Hp} : ∀ {ds es : List D} {vs us : List V}, RepL c H ds vs → RepL c H es us → RepL c H (ds ++ es) (vs ++ us)
  | [], _, _, _, h, k => by rw [show _ = ([] : List V) from h]; exact k
  | _ :: _, _, _, _, ⟨v, r, h1, h2, h3⟩, k => ⟨v, r ++ _, by rw [h1]; rfl, h2, RepL.append h3 k⟩
theorem RepL.one {c : Cc} {H : Hp} {d : D} {v : V} (h : Rep c H d v) : RepL c H [d] [v] := ⟨v, [], rfl, h, rfl⟩
theorem RepL.set {c : Cc} {H : Hp} {d : D} {v : V} (h : Rep c H d v) : ∀ {ds : List D} {vs : List V} (i : Nat), RepL c H ds vs → RepL c H (ds.set i d) (vs.set i v)
  | [], _, _, k => by rw [show _ = ([] : List V) from k]; rfl
  | _ :: _, _, 0, ⟨u, r, h1, _, h3⟩ => ⟨v, r, by rw [h1]; rfl, h, h3⟩
  | _ :: _, _, i + 1, ⟨u, r, h1, h2, h3⟩ => ⟨u, r.set i v, by rw [h1]; rfl, h2, RepL.set h i h3⟩
theorem RepL.take {c : Cc} {H : Hp} : ∀ {ds : List D} {vs : List V} (n : Nat), RepL c H ds vs → RepL c H (ds.take n) (vs.take n)
  | [], _, n, k => by rw [show _ = ([] : List V) from k]; simp [RepL]
  | _ :: _, _, 0, _ => by simp [RepL]
  | _ :: _, _, n + 1, ⟨u, r, h1, h2, h3⟩ => ⟨u, r.take n, by rw [h1]; rfl, h2, RepL.take n h3⟩
theorem RepL.drop {c : Cc} {H : Hp} : ∀ {ds : List D} {vs : List V} (n : Nat), RepL c H ds vs → RepL c H (ds.drop n) (vs.drop n)
  | [], _, n, k => by rw [show _ = ([] : List V) from k]; simp [RepL]
  | _ :: _, _, 0, h => h
  | _ :: _, _, n + 1, ⟨u, r, h1, h2, h3⟩ => by rw [h1]; exact RepL.drop n h3
theorem RepL.eraseIdx {c : Cc} {H : Hp} : ∀ {ds : List D} {vs : List V} (i : Nat), RepL c H ds vs → RepL c H (ds.eraseIdx i) (vs.eraseIdx i)
  | [], _, _, k => by rw [show _ = ([] : List V) from k]; rfl
  | _ :: _, _, 0, ⟨u, r, h1, _, h3⟩ => by rw [h1]; exact h3
  | _ :: _, _, i + 1, ⟨u, r, h1, h2, h3⟩ => ⟨u, r.eraseIdx i, by rw [h1]; rfl, h2, RepL.eraseIdx i h3⟩
/-! ### the state -/
structure Gh where
  c : Cc
  HP : Hp
  T : List (Addr × Str)
  H0 : Hp
  Hs0 : Hp
abbrev Gh.at_ (G : Gh) (H Hs : Hp) : Gh := { G with H0 := H, Hs0 := Hs }
def NoT (o : HO) : Prop := ∀ ps, o ≠ .tbl ps
structure B (G : Gh) (w : List D) (H Hs : Hp) : Prop where
  sub : Same Hs H
  sub0 : Same G.Hs0 Hs
  keep : ∀ a o, G.c.ap ≠ some a → NoT o → G.H0 a = some o → H a = some o
  new : ∀ a o, Hs a = some o → G.Hs0 a = some o ∨ ∀ o', G.H0 a = some o' → ¬ NoT o'
  pen : ∀ a, G.c.ap = some a → (∃ vs, H a = some (.lst vs) ∧ RepL G.c G.HP w vs) ∧ Hs a = none
  penH : Same G.HP G.Hs0
  nt : ∀ a o, Hs a = some o → NoT o
  tab : LamX.Tabs G.T H
/-- a read of a value, or of the local list at an own slot -/
def RepB (c : Cc) (H Hs : Hp) : D → V → Prop
  | .lst ds, v => ∃ a vs, v = .ref a ∧ H a = some (.lst vs) ∧ RepL c Hs ds vs ∧ c.ap ≠ some a
  | d, v => Rep c Hs d v
inductive SV where
  | no
  | val (d : D)
  | own (ds : List D)
abbrev SD := List SV
structure SL (G : Gh) (sd : SD) (σ : L2.St) (H Hs : Hp) : Prop where
  len : σ.length = sd.length
  val : ∀ (i : Nat) (d : D), sd[i]? = some (SV.val d) → ∃ v, σ[i]? = some (some v) ∧ Rep G.c Hs d v
  own : ∀ (i : Nat) (ds : List D), sd[i]? = some (SV.own ds) → ∃ a vs, σ[i]? = some (some (.ref a)) ∧ H a = some (.lst vs) ∧ RepL G.c Hs ds vs ∧ Hs a = none ∧ (∀ o', G.H0 a = some o' → ¬ NoT o') ∧ G.c.ap ≠ some a
  sep : ∀ (i j : Nat) (ds es : List D) (a : Addr), sd[i]? = some (SV.own ds) → sd[j]? = some (SV.own es) → σ[i]? = some (some (.ref a)) → σ[j]? = some (some (.ref a)) → i = j
structure RS (G : Gh) (sd : SD) (w : List D) (σ : L2.St) (H Hs : Hp) : Prop where
  b : B G w H Hs
  s : SL G sd σ H Hs
theorem lst_noT {vs : List V} : NoT (.lst vs) := fun _ e => by cases e
section
variable {G : Gh} {w w' w1 w2 : List D} {H Hs H' Hs' H1 Hs1 H2 Hs2 : Hp} {sd : SD} {σ : L2.St}
theorem B.trans (a : B G w H Hs) (b : B (G.at_ H Hs) w' H' Hs') : B G w' H' Hs' where
  sub := b.sub
  sub0 := a.sub0.trans b.sub0
  keep := fun x o h1 h2 h3 => b.keep x o h1 h2 (a.keep x o h1 h2 h3)
  new := fun x o h => by
    rcases b.new x o h with h1 | h1
    · exact a.new x o h1
    · refine .inr fun o' h2 hn => ?_
      by_cases hp : G.c.ap = some x
      · rw [(b.pen x hp).2] at h; cases h
      · exact h1 o' (a.keep x o' hp hn h2) hn
  pen := b.pen
  penH := a.penH
  nt := b.nt
  tab := b.tab
theorem B.refl_at (a : B G w H Hs) : B (G.at_ H Hs) w H Hs where
  sub := a.sub
  sub0 := Same.refl _
  keep := fun _ _ _ _ h => h
  new := fun _ _ h => .inl h
  pen := a.pen
  penH := a.penH.trans a.sub0
  nt := a.nt
  tab := a.tab
theorem SL.step (a : SL G sd σ H Hs) (b : B (G.at_ H Hs) w' H' Hs') : SL G sd σ H' Hs' where
  len := a.len
  val := fun i d h => by
    obtain ⟨v, h1, h2⟩ := a.val i d h
    exact ⟨v, h1, h2.mono b.sub0⟩
  own := fun i ds h => by
    obtain ⟨x, vs, h1, h2, h3, h4, h5, h6⟩ := a.own i ds h
    refine ⟨x, vs, h1, b.keep x _ h6 lst_noT h2, h3.mono b.sub0, ?_, h5, h6⟩
    cases e : Hs' x with
    | none => rfl
    | some o =>
      rcases b.new x o e with q | q
      · rw [show Hs x = some o from q] at h4; cases h4
      · exact absurd lst_noT (q _ h2)
  sep := a.sep
theorem RS.step (a : RS G sd w σ H Hs) (b : B (G.at_ H Hs) w' H' Hs') : RS G sd w' σ H' Hs' := ⟨a.b.trans b, a.s.step b⟩
theorem Rep.toB {c : Cc} {d : D} {v : V} (b : B G w H Hs) (h : Rep G.c Hs d v) : RepB G.c H Hs d v := by
  cases d with
  | lst ds =>
    obtain ⟨a, vs, h1, h2, h3⟩ := h
    refine ⟨a, vs, h1, b.sub _ _ h2, h3, fun e => ?_⟩
    rw [(b.pen a e).2] at h2; cases h2
  | _ => exact h
theorem RepB.step {d : D} {v : V} (h : RepB G.c H Hs d v) (b : B (G.at_ H Hs) w' H' Hs') : RepB G.c H' Hs' d v := by
  cases d with
  | lst ds =>
    obtain ⟨a, vs, h1, h2, h3, h4⟩ := h
    exact ⟨a, vs, h1, b.keep a _ h4 lst_noT h2, h3.mono b.sub0, h4⟩
  | _ => exact Rep.mono (d := _) b.sub0 h
/-- a new object, shared from now on -/
theorem B.alloc (b : B G w H Hs) {p : Addr} {o : HO} (hp : H p = none) (hn : NoT o) : B (G.at_ H Hs) w (upd H p o) (upd Hs p o) := by
  have hsp : Hs p = none := by
    cases e : Hs p with
    | none => rfl
    | some o' => rw [b.sub _ _ e] at hp; cases hp
  have hap : ∀ a, G.c.ap = some a → a ≠ p := fun a e z => by
    obtain ⟨⟨vs, h1, _⟩, _⟩ := b.pen a e
    rw [z, hp] at h1; cases h1
  refine ⟨fun a x e => ?_, fun a x e => ?_, fun a x _ _ e => ?_, fun a x e => ?_, fun a e => ?_, b.penH.trans b.sub0, fun a x e => ?_, b.tab.ext fun a x e => ?_⟩
  · by_cases z : a = p
    · subst z; rw [upd_same] at e ⊢; exact e
    · rw [upd_ne z] at e ⊢; exact b.sub _ _ e
  · have z : a ≠ p := fun z => by rw [z] at e; rw [show Hs p = some x from e] at hsp; cases hsp
    rw [upd_ne z]; exact e
  · have z : a ≠ p := fun z => by rw [z] at e; rw [show H p = some x from e] at hp; cases hp
    rw [upd_ne z]; exact e
  · by_cases z : a = p
    · subst z
      exact .inr fun o' e' => by rw [show H a = some o' from e'] at hp; cases hp
    · rw [upd_ne z] at e; exact .inl e
  · obtain ⟨⟨vs, h1, h2⟩, h3⟩ := b.pen a e
    rw [upd_ne (hap a e), upd_ne (hap a e)]
    exact ⟨⟨vs, h1, h2⟩, h3⟩
  · by_cases z : a = p
    · subst z; rw [upd_same] at e; cases e; exact hn
    · rw [upd_ne z] at e; exact b.nt _ _ e
  · have z : a ≠ p := fun z => by rw [z, hp] at e; cases e
    rw [upd_ne z]; exact e
end
/-! ### results -/
inductive R (α : Type) where
  | ok (a : α) (w : List D)
  | exc (c : Nat) (ns : List Str) (ds : List D) (w : List D)
  | bad
def R.bind {α β : Type} (r : R α) (k : α → List D → R β) : R β := match r with
  | .ok a w => k a w
  | .exc c ns ds w => .exc c ns ds w
  | .bad => .bad
abbrev ME (α : Type) := SD → List D → R α
def ExcAt (c : Cc) (H Hs : Hp) (dd : Addr) (ns : List Str) (ds : List D) : Prop := ∃ fs : List (Str × V), H dd = some (.xd fs) ∧ fs.map (·.1) = ns ∧ RepL c Hs ds (fs.map (·.2))
section
variable {α β : Type}
def Post (G : Gh) (Wx : WX) (σ : L2.St) (H Hs : Hp) (ρ : Hp → Hp → α → β → Prop) (Q : β → Hp → Prop) : R α → Prop
  | .ok d w' => ∀ v H' Hs', B (G.at_ H Hs) w' H' Hs' → ρ H' Hs' d v → Q v H'
  | .exc c ns ds w' => ∀ dd H' Hs', B (G.at_ H Hs) w' H' Hs' → ExcAt G.c H' Hs' dd ns ds → Wx (.ref (G.c.cl c)) (some dd) σ H'
  | .bad => False
def Sim (G : Gh) (Wx : WX) (ρ : Hp → Hp → α → β → Prop) (t : L2.St → Hp → (β → Hp → Prop) → Prop) (m : ME α) : Prop :=
  ∀ sd w σ H Hs Q, RS G sd w σ H Hs → Post G Wx σ H Hs ρ Q (m sd w) → t σ H Q
variable {G : Gh} {Wx : WX} {σ : L2.St} {H Hs H1 Hs1 : Hp} {ρ : Hp → Hp → α → β → Prop} {Q : β → Hp → Prop} {w w1 : List D} {sd : SD}
theorem Post.shift {r : R α} (b : B (G.at_ H Hs) w1 H1 Hs1) (h : Post G Wx σ H Hs ρ Q r) : Post G Wx σ H1 Hs1 ρ Q r := by
  cases r with
  | ok d w' => exact fun v H' Hs' b' q => h v H' Hs' (b.trans b') q
  | exc c ns ds w' => exact fun dd H' Hs' b' q => h dd H' Hs' (b.trans b') q
  | bad => exact h
theorem Sim.bind {α1 β1 : Type} {ρ1 : Hp → Hp → α1 → β1 → Prop} {t1 : L2.St → Hp → (β1 → Hp → Prop) → Prop} {m1 : ME α1} (s1 : Sim G Wx ρ1 t1 m1) {k : α1 → List D → R α} {R1 : β1 → Hp → Prop}
    (rs : RS G sd w σ H Hs) (post : Post G Wx σ H Hs ρ Q ((m1 sd w).bind k))
    (cont : ∀ d w1 v H1 Hs1, RS G sd w1 σ H1 Hs1 → B (G.at_ H Hs) w1 H1 Hs1 → ρ1 H1 Hs1 d v → Post G Wx σ H1 Hs1 ρ Q (k d w1) → R1 v H1) : t1 σ H R1 := by
  refine s1 sd w σ H Hs R1 rs ?_
  cases e : m1 sd w with
  | ok d w1 =>
    rw [e] at post
    exact fun v H' Hs' b q => cont d w1 v H' Hs' (rs.step b) b q (post.shift b)
  | exc c ns ds w' =>
    rw [e] at post
    exact post
  | bad =>
    rw [e] at post
    exact post
end
abbrev ρE (G : Gh) : Hp → Hp → D → V → Prop := fun _ Hs d v => Rep G.c Hs d v
abbrev ρB (G : Gh) : Hp → Hp → D → V → Prop := fun H Hs d v => RepB G.c H Hs d v
abbrev ρA (G : Gh) : Hp → Hp → List D → List V → Prop := fun _ Hs d v => RepL G.c Hs d v
abbrev ρT : Hp → Hp → Bool → Bool → Prop := fun _ _ a b => a = b
abbrev ρO : Hp → Hp → Option Int → Option Int → Prop := fun _ _ a b => a = b
/-! ### judgements: the rule of the hand layer with its simulation -/
structure JE (X : Cx) (G : Gh) (Wx : WX) (e : Expr) (t : TE) (m : ME D) : Prop where
  pe : PE X e t
  si : Sim G Wx (ρE G) t m
structure JB (X : Cx) (G : Gh) (Wx : WX) (e : Expr) (t : TE) (m : ME D) : Prop where
  pe : PE X e t
  si : Sim G Wx (ρB G) t m
structure JT (X : Cx) (G : Gh) (Wx : WX) (e : Expr) (t : TT) (m : ME Bool) : Prop where
  pe : PT X e t
  si : Sim G Wx ρT t m
structure JA (X : Cx) (G : Gh) (Wx : WX) (es : List Expr) (t : TA) (m : ME (List D)) : Prop where
  pe : PA X es t
  si : Sim G Wx (ρA G) t m
structure JO (X : Cx) (G : Gh) (Wx : WX) (e : Option Expr) (t : TO) (m : ME (Option Int)) : Prop where
  pe : PO X e t
  si : Sim G Wx ρO t m
theorem Sim.toB {G : Gh} {Wx : WX} {t : TE} {m : ME D} (s : Sim G Wx (ρE G) t m) : Sim G Wx (ρB G) t m := fun sd w σ H Hs Q rs post => by
  refine s sd w σ H Hs Q rs ?_
  cases e : m sd w with
  | ok d w' =>
    rw [e] at post
    exact fun v H' Hs' b q => post v H' Hs' b (Rep.toB (c := G.c) (G := G.at_ H Hs) b q)
  | exc c ns ds w' =>
    rw [e] at post
    exact post
  | bad =>
    rw [e] at post
    exact post
section
variable {X : Cx} {G : Gh} {Wx : WX}
theorem jb {e : Expr} {t : TE} {m : ME D} (h : JE X G Wx e t m) : JB X G Wx e t m := ⟨h.pe, h.si.toB⟩
/-! ### names, constants -/
def mV (i : Nat) : ME D := fun sd w => match sd[i]? with
  | some (SV.val d) => .ok d w
  | _ => .bad
def mVB (i : Nat) : ME D := fun sd w => match sd[i]? with
  | some (SV.val d) => .ok d w
  | some (SV.own ds) => .ok (.lst ds) w
  | _ => .bad
def mC (d : D) : ME D := fun _ w => .ok d w
theorem je_v (i : Nat) {x : Str} {pos : Pos} (hN : X.N[i]? = some x := by rfl) (hv : Vis X.env.scope x := by first | exact Or.inl rfl | exact Or.inr (Or.inl rfl) | exact Or.inr (Or.inr rfl)) (hd : (x == ("__debug__" : Str)) = false := by decide)
    (hcd : (x == ("__classdict__" : Str)) = false := by decide) : JE X G Wx (.Name x pos) (tVar i) (mV i) := by
  refine ⟨pe_var hN hv hd hcd, fun sd w σ H Hs Q rs post => ?_⟩
  unfold mV at post
  split at post
  · rename_i d e
    obtain ⟨v, h1, h2⟩ := rs.s.val i d e
    exact ⟨v, h1, post v H Hs rs.b.refl_at h2⟩
  · exact post.elim
theorem jb_v (i : Nat) {x : Str} {pos : Pos} (hN : X.N[i]? = some x := by rfl) (hv : Vis X.env.scope x := by first | exact Or.inl rfl | exact Or.inr (Or.inl rfl) | exact Or.inr (Or.inr rfl)) (hd : (x == ("__debug__" : Str)) = false := by decide)
    (hcd : (x == ("__classdict__" : Str)) = false := by decide) : JB X G Wx (.Name x pos) (tVar i) (mVB i) := by
  refine ⟨pe_var hN hv hd hcd, fun sd w σ H Hs Q rs post => ?_⟩
  unfold mVB at post
  split at post
  · rename_i d e
    obtain ⟨v, h1, h2⟩ := rs.s.val i d e
    exact ⟨v, h1, post v H Hs rs.b.refl_at (Rep.toB (c := G.c) rs.b h2)⟩
  · rename_i ds e
    obtain ⟨a, vs, h1, h2, h3, h4, h5, h6⟩ := rs.s.own i ds e
    exact ⟨_, h1, post _ H Hs rs.b.refl_at ⟨a, vs, rfl, h2, h3, h6⟩⟩
  · exact post.elim
theorem sim_c {d : D} {v : V} (h : ∀ H, Rep G.c H d v) : Sim G Wx (ρE G) (tC v) (mC d) := fun sd w σ H Hs Q rs post => post v H Hs rs.b.refl_at (h Hs)
theorem je_int {i j pos} : JE X G Wx (.Constant (.int i) j pos) (tC (.int i)) (mC (.int i)) := ⟨pe_int, sim_c fun _ => rfl⟩
theorem je_bl {b j pos} : JE X G Wx (.Constant (.bool b) j pos) (tC (.bl b)) (mC (.bl b)) := ⟨pe_bl, sim_c fun _ => rfl⟩
theorem je_non {j pos} : JE X G Wx (.Constant .none j pos) (tC .non) (mC .non) := ⟨pe_non, sim_c fun _ => rfl⟩
theorem je_str {x : Str} {j : Nat} {pos : Pos} (s : List Nat) (h : x = ⟨s.toArray⟩ := by rfl) (ok : (decide (s.length ≤ 1000) && s.all (fun c => decide (c < 0x110000))) = true := by decide +kernel) : JE X G Wx (.Constant (.str x) j pos) (tC (.str x)) (mC (.str s)) := by
  refine ⟨pe_str, sim_c fun _ => ⟨by rw [h], ?_, ?_⟩⟩
  · have := (Bool.and_eq_true_iff.mp ok).1
    exact Nat.le_of_lt (small1000 (of_decide_eq_true this))
  · intro c hc
    exact of_decide_eq_true (List.all_eq_true.mp (Bool.and_eq_true_iff.mp ok).2 c hc)
theorem je_glob {x : Str} {v : V} {u : Value} {pos : Pos} {d : D} (hg : Gl X x) (hm : X.mg x = some u) (r : RelV v u) (h : ∀ H, Rep G.c H d v) (hd : (x == ("__debug__" : Str)) = false := by decide) : JE X G Wx (.Name x pos) (tC v) (mC d) := ⟨pe_glob hg hm r hd, sim_c h⟩
end
end FT
end
section
set_option Elab.async false
set_option linter.all false
set_option maxRecDepth 100000
set_option maxHeartbeats 4000000
namespace FT
open PySem PySem.Spec PyProof.Rows L2
section
variable {X : Cx} {G : Gh} {Wx : WX}
/-! ### two-place operations -/
/-- what an operation of the layer makes of values that stand for data -/
def OpD (G : Gh) (r : R2) (f : D → D → Option D) : Prop := ∀ w H Hs x y a b d (Q : VK), B G w H Hs → RepB G.c H Hs a x → RepB G.c H Hs b y → f a b = some d → (∀ v H' Hs', B (G.at_ H Hs) w H' Hs' → Rep G.c Hs' d v → Q v H') → r x y H Q
def mBin (f : D → D → Option D) (ma mb : ME D) : ME D := fun sd w => (ma sd w).bind fun a w1 => (mb sd w1).bind fun b w2 => match f a b with
  | some d => .ok d w2
  | none => .bad
theorem sim_op {r : R2} {f : D → D → Option D} (hf : OpD G r f) {ta tb : TE} {ma mb : ME D} (ha : Sim G Wx (ρB G) ta ma) (hb : Sim G Wx (ρB G) tb mb) : Sim G Wx (ρE G) (tOp r ta tb) (mBin f ma mb) := by
  intro sd w σ H Hs Q rs post
  refine ha.bind rs post fun a w1 x H1 Hs1 rs1 b1 q1 post1 => ?_
  refine hb.bind rs1 post1 fun b w2 y H2 Hs2 rs2 b2 q2 post2 => ?_
  cases e : f a b with
  | none => rw [e] at post2; exact post2.elim
  | some d =>
    rw [e] at post2
    exact hf w2 H2 Hs2 x y a b d Q rs2.b (q1.step b2) q2 e post2
theorem je_bin {op : Operator} {r : R2} {f : D → D → Option D} {a b : Expr} {ta tb : TE} {ma mb : ME D} {pos : Pos} (ho : OpR X (binaryOp op) r) (hf : OpD G r f) (ha : JB X G Wx a ta ma) (hb : JB X G Wx b tb mb) :
    JE X G Wx (.BinOp a op b pos) (tOp r ta tb) (mBin f ma mb) := ⟨pe_op ho ha.pe hb.pe, sim_op hf ha.si hb.si⟩
theorem je_cmp {op : CmpOp} {r : R2} {f : D → D → Option D} {a b : Expr} {ta tb : TE} {ma mb : ME D} {pos : Pos} (ho : OpR X (compareOp op) r) (hf : OpD G r f) (ha : JB X G Wx a ta ma) (hb : JB X G Wx b tb mb) (hm : behindInMarks op b = false) :
    JE X G Wx (.Compare a [op] [b] pos) (tOp r ta tb) (mBin f ma mb) := ⟨pe_cmpR ho ha.pe hb.pe hm, sim_op hf ha.si hb.si⟩
theorem OpD.or_l {r r' : R2} {f : D → D → Option D} (h : OpD G r f) : OpD G (fun x y H Q => r x y H Q ∨ r' x y H Q) f := fun w H Hs x y a b d Q hb h1 h2 e q => .inl (h w H Hs x y a b d Q hb h1 h2 e q)
/-- by cases: the first road, else the second -/
def oOr (f g : D → D → Option D) : D → D → Option D := fun a b => match f a b with
  | some d => some d
  | none => g a b
theorem OpD.or {r r' : R2} {f g : D → D → Option D} (h : OpD G r f) (h' : OpD G r' g) : OpD G (fun x y H Q => r x y H Q ∨ r' x y H Q) (oOr f g) := by
  intro w H Hs x y a b d Q hb h1 h2 e q
  unfold oOr at e
  cases e1 : f a b with
  | some d' => rw [e1] at e; cases e; exact .inl (h w H Hs x y a b d Q hb h1 h2 e1 q)
  | none => rw [e1] at e; exact .inr (h' w H Hs x y a b d Q hb h1 h2 e q)
def oInt (C : Int → Int → Bool) (g : Int → Int → D) : D → D → Option D
  | .int i, .int j => if C i j = true then some (g i j) else none
  | _, _ => none
theorem opd_int {C : Int → Int → Prop} {Cb : Int → Int → Bool} {g : Int → Int → V} {gD : Int → Int → D} (hC : ∀ i j, Cb i j = true → C i j) (hg : ∀ H i j, Rep G.c H (gD i j) (g i j)) : OpD G (rI C g) (oInt Cb gD) := by
  intro w H Hs x y a b d Q hb h1 h2 e q
  unfold oInt at e
  split at e
  · rename_i i j
    split at e
    · rename_i hc
      cases e
      exact ⟨i, j, h1, h2, hC i j hc, q _ H Hs hb.refl_at (hg _ _ _)⟩
    · cases e
  · cases e
theorem opd_int0 {g : Int → Int → V} {gD : Int → Int → D} (hg : ∀ H i j, Rep G.c H (gD i j) (g i j)) : OpD G (rI0 g) (oInt (fun _ _ => true) gD) := by
  intro w H Hs x y a b d Q hb h1 h2 e q
  unfold oInt at e
  split at e
  · rename_i i j
    cases e
    exact ⟨i, j, h1, h2, q _ H Hs hb.refl_at (hg _ _ _)⟩
  · cases e
/-! ### + -/
def oStr : D → D → Option D
  | .str s, .str t => if s.length + t.length ≤ 16777216 then some (.str (s ++ t)) else none
  | _, _ => none
def oLst : D → D → Option D
  | .lst s, .lst t => if s.length + t.length ≤ 16777216 then some (.lst (s ++ t)) else none
  | _, _ => none
def oTup : D → D → Option D
  | .tup s, .tup t => if s.length + t.length ≤ 16777216 ∧ s.length ≠ 0 then some (.tup (s ++ t)) else none
  | _, _ => none
def rAddStr : R2 := fun x y H Q => ∃ i j, x = .str i ∧ y = .str j ∧ i.length + j.length ≤ sizeLine ∧ Q (.str (i ++ j)) H
theorem sok_append {s t : List Nat} (h1 : SOk s) (h2 : SOk t) (hz : s.length + t.length ≤ 16777216) : SOk (s ++ t) := by
  refine ⟨?_, fun c hc => ?_⟩
  · rw [List.length_append, sizeLine_eq]; exact hz
  · rcases List.mem_append.mp hc with h | h
    · exact h1.2 c h
    · exact h2.2 c h
theorem opd_addStr : OpD G rAddStr oStr := by
  intro w H Hs x y a b d Q hb h1 h2 e q
  unfold oStr at e
  split at e
  · rename_i s t
    split at e
    · rename_i hz
      cases e
      obtain ⟨rfl, o1⟩ := h1
      obtain ⟨rfl, o2⟩ := h2
      refine ⟨_, _, rfl, rfl, ?_, q _ H Hs hb.refl_at ⟨?_, sok_append o1 o2 hz⟩⟩
      · show s.toArray.size + t.toArray.size ≤ sizeLine
        rw [sizeLine_eq]
        simpa using hz
      · show V.str ⟨s.toArray ++ t.toArray⟩ = _
        simp
    · cases e
  · cases e
theorem opd_cat : OpD G rCat oLst := by
  intro w H Hs x y a b d Q hb h1 h2 e q
  unfold oLst at e
  split at e
  · rename_i s t
    split at e
    · rename_i hz
      cases e
      obtain ⟨l, vs, rfl, hl, rl, _⟩ := h1
      obtain ⟨l', vs', rfl, hl', rl', _⟩ := h2
      refine ⟨l, l', vs, vs', rfl, rfl, hl, hl', ?_, fun p hp => ?_⟩
      · rw [rl.length, rl'.length, sizeLine_eq]; exact hz
      · have ba := hb.alloc (o := .lst (vs ++ vs')) hp lst_noT
        refine q _ _ _ ba ⟨p, _, rfl, upd_same, (rl.append rl').mono ba.sub0⟩
    · cases e
  · cases e
theorem tup_noT {vs : List V} : NoT (.tup vs) := fun _ e => by cases e
theorem sqT_of {c : Cc} {H Hs : Hp} (s : Same Hs H) {a : Addr} {xs : List V} (h : SqT c.K Hs a xs) : SqT c.K H a xs := sqT_mono s h
theorem opd_catT {K : PySem.W.Frag} (hK : K = G.c.K) : OpD G (rCatT K) oTup := by
  subst hK
  intro w H Hs x y a b d Q hb h1 h2 e q
  unfold oTup at e
  split at e
  · rename_i s t
    split at e
    · rename_i hz
      cases e
      obtain ⟨l, vs, rfl, hl, rl⟩ := h1
      obtain ⟨l', vs', rfl, hl', rl'⟩ := h2
      have n1 : vs ≠ [] := fun z => by rw [z] at rl; exact hz.2 (by rw [← rl.length]; rfl)
      refine ⟨l, l', vs, vs', rfl, rfl, sqT_mono hb.sub hl, sqT_mono hb.sub hl', n1, ?_, fun z => ?_, fun z p hp => ?_⟩
      · rw [rl.length, rl'.length, sizeLine_eq]; exact hz.1
      · have t0 : t = [] := List.eq_nil_of_length_eq_zero (by rw [← rl'.length, z]; rfl)
        subst t0
        refine q _ H Hs hb.refl_at ⟨l, vs, rfl, hl, ?_⟩
        rw [List.append_nil]; exact rl
      · have ba := hb.alloc (o := .tup (vs ++ vs')) hp tup_noT
        refine q _ _ _ ba ⟨p, _, rfl, .inl (.inl upd_same), (rl.append rl').mono ba.sub0⟩
    · cases e
  · cases e
def oAdd : D → D → Option D
  | .int i, .int j => some (.int (i + j))
  | .str s, .str t => oStr (.str s) (.str t)
  | .lst s, .lst t => oLst (.lst s) (.lst t)
  | .tup s, .tup t => oTup (.tup s) (.tup t)
  | _, _ => none
def rAddA (K : PySem.W.Frag) : R2 := fun x y H Q => rI0 (fun i j => V.int (i + j)) x y H Q ∨ rAddStr x y H Q ∨ rCat x y H Q ∨ rCatT K x y H Q
theorem op_addA : OpR X (binaryOp .Add) (rAddA X.K) := OpR.or op_add (OpR.or op_add_str (OpR.or op_cat op_catT))
theorem opd_add {K : PySem.W.Frag} (hK : K = G.c.K) : OpD G (rAddA K) oAdd := by
  intro w H Hs x y a b d Q hb h1 h2 e q
  unfold oAdd at e
  split at e
  · cases e; exact .inl ⟨_, _, h1, h2, q _ H Hs hb.refl_at rfl⟩
  · exact .inr (.inl (opd_addStr w H Hs x y _ _ d Q hb h1 h2 e q))
  · exact .inr (.inr (.inl (opd_cat w H Hs x y _ _ d Q hb h1 h2 e q)))
  · exact .inr (.inr (.inr (opd_catT hK w H Hs x y _ _ d Q hb h1 h2 e q)))
  · cases e
theorem je_add {a b : Expr} {ta tb : TE} {ma mb : ME D} {pos : Pos} (ha : JB X G Wx a ta ma) (hb : JB X G Wx b tb mb) (hK : X.K = G.c.K := by rfl) : JE X G Wx (.BinOp a .Add b pos) (tOp (rAddA G.c.K) ta tb) (mBin oAdd ma mb) :=
  je_bin (by rw [← hK]; exact op_addA) (opd_add rfl) ha hb
/-! ### - * // % ** -/
def oSub : D → D → Option D := oInt (fun _ _ => true) fun i j => .int (i - j)
theorem je_sub {a b : Expr} {ta tb : TE} {ma mb : ME D} {pos : Pos} (ha : JB X G Wx a ta ma) (hb : JB X G Wx b tb mb) : JE X G Wx (.BinOp a .Sub b pos) (tOp (rI0 fun i j => V.int (i - j)) ta tb) (mBin oSub ma mb) :=
  je_bin op_sub (opd_int0 fun _ _ _ => rfl) ha hb
def cDiv (i j : Int) : Bool := decide (0 < j) && decide (j < 1073741824)
def oDiv : D → D → Option D := oInt cDiv fun i j => .int (i / j)
theorem je_div {a b : Expr} {ta tb : TE} {ma mb : ME D} {pos : Pos} (ha : JB X G Wx a ta ma) (hb : JB X G Wx b tb mb) : JE X G Wx (.BinOp a .FloorDiv b pos) (tOp (rI CDiv fun i j => V.int (i / j)) ta tb) (mBin oDiv ma mb) :=
  je_bin op_fdiv (opd_int (fun i j h => ⟨of_decide_eq_true (Bool.and_eq_true_iff.mp h).1, of_decide_eq_true (Bool.and_eq_true_iff.mp h).2⟩) fun _ _ _ => rfl) ha hb
def oMod : D → D → Option D := oInt (fun _ j => decide (0 < j)) fun i j => .int (i % j)
theorem je_mod {a b : Expr} {ta tb : TE} {ma mb : ME D} {pos : Pos} (ha : JB X G Wx a ta ma) (hb : JB X G Wx b tb mb) : JE X G Wx (.BinOp a .Mod b pos) (tOp (rI (fun _ j => 0 < j) fun i j => V.int (i % j)) ta tb) (mBin oMod ma mb) :=
  je_bin op_mod (opd_int (fun i j h => of_decide_eq_true h) fun _ _ _ => rfl) ha hb
def cPow (i j : Int) : Bool := decide (0 ≤ j) && decide (j ≤ 1000000) && decide (i.natAbs < 2 ^ 64)
def oPow : D → D → Option D := oInt cPow fun i j => .int (i ^ j.toNat)
theorem je_pow {a b : Expr} {ta tb : TE} {ma mb : ME D} {pos : Pos} (ha : JB X G Wx a ta ma) (hb : JB X G Wx b tb mb) : JE X G Wx (.BinOp a .Pow b pos) (tOp (rI CPow fun i j => V.int (i ^ j.toNat)) ta tb) (mBin oPow ma mb) :=
  je_bin op_pow (opd_int (fun i j h => by
    have h1 := Bool.and_eq_true_iff.mp h
    have h2 := Bool.and_eq_true_iff.mp h1.1
    exact ⟨of_decide_eq_true h2.1, of_decide_eq_true h2.2, of_decide_eq_true h1.2⟩) fun _ _ _ => rfl) ha hb
/-- a text times a number -/
def rMulStr : R2 := fun x y H Q => ∃ (s : Str) (n : Int), x = .str s ∧ y = .int n ∧ n < 65536 ∧ -65536 < n ∧ s.length * n.toNat ≤ 16777216 ∧ Q (.str ⟨((List.replicate n.toNat s.cps.toList).flatten).toArray⟩) H
theorem foldl_reps (s : Array Nat) : ∀ (k : Nat) (acc : Array Nat), (List.replicate k s).foldl (· ++ ·) acc = acc ++ ((List.replicate k s.toList).flatten).toArray
  | 0, acc => by simp
  | k + 1, acc => by
    rw [List.replicate_succ, List.foldl_cons, foldl_reps s k]
    apply Array.ext'
    simp [List.replicate_succ]
theorem txt_mul (s : Str) (n : Int) : Txt.mul s n = ⟨((List.replicate n.toNat s.cps.toList).flatten).toArray⟩ := by
  unfold Txt.mul
  by_cases h : n < 1
  · rw [if_pos h]
    have : n.toNat = 0 := by omega
    rw [this]; rfl
  · rw [if_neg h]
    split
    · rename_i hc
      rcases (Bool.or_eq_true_iff.mp hc) with h1 | h1
      · have e : n = 1 := by simpa using h1
        subst e
        show s = ⟨((List.replicate 1 s.cps.toList).flatten).toArray⟩
        simp
      · have e0 : s.length = 0 := by simpa using h1
        have e : s.cps.size = 0 := e0
        have e2 : s.cps = #[] := Array.eq_empty_of_size_eq_zero e
        obtain ⟨cs⟩ := s
        subst e2
        have : ∀ k : Nat, (List.replicate k ([] : List Nat)).flatten = [] := fun k => by simp
        simp
    · rw [foldl_reps]
      simp
theorem op_mulStr : OpR X (binaryOp .Mult) rMulStr := by
  intro pins s σ H x y v u Q I rx ry h
  obtain ⟨z, n, rfl, rfl, h1, h2, h3, q⟩ := h
  obtain ⟨t, rfl⟩ := rx
  obtain ⟨t', rfl⟩ := ry
  have ok : MulOk z n := by
    refine ⟨?_, fun a b => ?_, fun a b => ?_⟩
    · rw [decide_eq_false (by omega), decide_eq_false (by omega)]; rfl
    · intro hc
      have hn : 1 ≤ n := by omega
      have e1 : ((2 ^ 63 - 1) / n : Int) ≥ (2 ^ 63 - 1) / 65536 := by
        apply Int.le_ediv_of_mul_le (by omega)
        have : (2 ^ 63 - 1) / 65536 * n ≤ ((2 ^ 63 - 1) / 65536 : Int) * 65536 := Int.mul_le_mul_of_nonneg_left (by omega) (by decide)
        exact Int.le_trans this (by decide)
      have e2 : (z.length : Int) ≤ 16777216 := by
        have h4 : z.length * 1 ≤ z.length * n.toNat := Nat.mul_le_mul_left _ (by omega)
        omega
      have e3 : ((2 ^ 63 - 1) / 65536 : Int) ≥ 16777216 := by decide
      omega
    · exact decide_eq_false (by rw [sizeLine_eq]; omega)
  refine SB.mul ok fun t'' k => ⟨.str _, H, I.tok _, ⟨_, rfl⟩, ?_⟩
  rw [txt_mul]; exact q
def oMul : D → D → Option D
  | .int i, .int j => if (decide (-(2 ^ 64) < i) && decide (i < 2 ^ 64) || decide (-(2 ^ 64) < j) && decide (j < 2 ^ 64)) = true then some (.int (i * j)) else none
  | .str s, .int n => if (decide (n < 65536) && decide (-65536 < n) && decide (s.length * n.toNat ≤ 16777216)) = true then some (.str (List.replicate n.toNat s).flatten) else none
  | .lst s, .int n => if (decide (n < 65536) && decide (-65536 < n) && decide (s.length * n.toNat ≤ 16777216)) = true then some (.lst (List.replicate n.toNat s).flatten) else none
  | _, _ => none
def rMulA : R2 := fun x y H Q => rI CMul (fun i j => V.int (i * j)) x y H Q ∨ rMulStr x y H Q ∨ rRep x y H Q
theorem op_mulA : OpR X (binaryOp .Mult) rMulA := OpR.or op_mul (OpR.or op_mulStr op_rep)
theorem repL_reps {c : Cc} {H : Hp} {ds : List D} {vs : List V} (h : RepL c H ds vs) : ∀ k : Nat, RepL c H (List.replicate k ds).flatten (List.replicate k vs).flatten
  | 0 => rfl
  | k + 1 => by
    rw [List.replicate_succ, List.replicate_succ, List.flatten_cons, List.flatten_cons]
    exact h.append (repL_reps h k)
theorem len_reps {α : Type} (ds : List α) : ∀ k : Nat, (List.replicate k ds).flatten.length = ds.length * k
  | 0 => rfl
  | k + 1 => by rw [List.replicate_succ, List.flatten_cons, List.length_append, len_reps ds k, Nat.mul_succ, Nat.add_comm]
theorem opd_mul : OpD G rMulA oMul := by
  intro w H Hs x y a b d Q hb h1 h2 e q
  unfold oMul at e
  split at e
  · split at e
    · rename_i i j hc
      cases e
      refine .inl ⟨_, _, h1, h2, ?_, q _ H Hs hb.refl_at rfl⟩
      rcases Bool.or_eq_true_iff.mp hc with h | h
      · exact .inl ⟨of_decide_eq_true (Bool.and_eq_true_iff.mp h).1, of_decide_eq_true (Bool.and_eq_true_iff.mp h).2⟩
      · exact .inr ⟨of_decide_eq_true (Bool.and_eq_true_iff.mp h).1, of_decide_eq_true (Bool.and_eq_true_iff.mp h).2⟩
    · cases e
  · split at e
    · rename_i s n hc
      cases e
      have h3 := Bool.and_eq_true_iff.mp hc
      have h4 := Bool.and_eq_true_iff.mp h3.1
      have hl := of_decide_eq_true h3.2
      obtain ⟨rfl, o1⟩ := h1
      refine .inr (.inl ⟨_, n, rfl, h2, of_decide_eq_true h4.1, of_decide_eq_true h4.2, ?_, q _ H Hs hb.refl_at ⟨?_, ?_, fun c hc => ?_⟩⟩)
      · show s.toArray.size * n.toNat ≤ _
        simpa using hl
      · simp
      · rw [len_reps, sizeLine_eq]; exact hl
      · obtain ⟨l, hl1, hl2⟩ := List.mem_flatten.mp hc
        rw [(List.mem_replicate.mp hl1).2] at hl2
        exact o1.2 c hl2
    · cases e
  · split at e
    · rename_i s n hc
      cases e
      have h3 := Bool.and_eq_true_iff.mp hc
      have h4 := Bool.and_eq_true_iff.mp h3.1
      have hl := of_decide_eq_true h3.2
      have hn1 : n < 65536 := of_decide_eq_true h4.1
      have hn2 : -65536 < n := of_decide_eq_true h4.2
      obtain ⟨l, vs, rfl, hl', rl, _⟩ := h1
      refine .inr (.inr ⟨l, n, vs, rfl, h2, hl', by omega, by omega, ?_, fun p hp => ?_⟩)
      · rw [rl.length, sizeLine_eq]; exact hl
      · have ba := hb.alloc (o := .lst (List.replicate n.toNat vs).flatten) hp lst_noT
        exact q _ _ _ ba ⟨p, _, rfl, upd_same, (repL_reps rl _).mono ba.sub0⟩
    · cases e
  · cases e
theorem je_mul {a b : Expr} {ta tb : TE} {ma mb : ME D} {pos : Pos} (ha : JB X G Wx a ta ma) (hb : JB X G Wx b tb mb) : JE X G Wx (.BinOp a .Mult b pos) (tOp rMulA ta tb) (mBin oMul ma mb) :=
  je_bin op_mulA opd_mul ha hb
/-! ### one-place -/
def mUn (f : D → Option D) (m : ME D) : ME D := fun sd w => (m sd w).bind fun a w1 => match f a with
  | some d => .ok d w1
  | none => .bad
def oNeg : D → Option D
  | .int i => some (.int (-i))
  | _ => none
theorem je_neg {a : Expr} {ta : TE} {ma : ME D} {pos : Pos} (ha : JE X G Wx a ta ma) : JE X G Wx (.UnaryOp .USub a pos) (tUn (rU fun i => V.int (-i)) ta) (mUn oNeg ma) := by
  refine ⟨pe_un un_neg ha.pe, fun sd w σ H Hs Q rs post => ?_⟩
  refine ha.si.bind rs post fun a w1 x H1 Hs1 rs1 b1 q1 post1 => ?_
  cases a with
  | int i => exact ⟨i, q1, post1 _ H1 Hs1 rs1.b.refl_at rfl⟩
  | _ => exact post1.elim
end
end FT
end
section
set_option Elab.async false
set_option linter.all false
set_option maxRecDepth 100000
set_option maxHeartbeats 4000000
namespace FT
open PySem PySem.Spec PyProof.Rows L2
/-! ### data as the layer's plain data -/
mutual
def toPy : D → PyData
  | .non => .none
  | .bl b => .bool b
  | .int i => .int i
  | .str s => .str ⟨s.toArray⟩
  | .lst ds => .list (toPyL ds)
  | .tup ds => .tuple (toPyL ds)
  | .frz _ => .none
  | .pen => .none
  | .obj _ _ _ => .none
def toPyL : List D → List PyData
  | [] => []
  | d :: ds => toPy d :: toPyL ds
end
def dep : Nat → D → Bool
  | 0, _ => false
  | _ + 1, .non => true
  | _ + 1, .bl _ => true
  | _ + 1, .int _ => true
  | _ + 1, .str _ => true
  | k + 1, .lst ds => ds.all (dep k)
  | k + 1, .tup ds => ds.all (dep k)
  | _ + 1, .frz _ => false
  | _ + 1, .pen => false
  | _ + 1, .obj _ _ _ => false
mutual
def eqD : D → D → Bool
  | .non, .non => true
  | .bl a, .bl b => a == b
  | .bl a, .int j => (if a then 1 else 0) == j
  | .int i, .bl b => i == (if b then 1 else 0)
  | .int i, .int j => i == j
  | .str x, .str y => x == y
  | .lst xs, .lst ys => eqL xs ys
  | .tup xs, .tup ys => eqL xs ys
  | _, _ => false
def eqL : List D → List D → Bool
  | [], [] => true
  | x :: xs, y :: ys => eqD x y && eqL xs ys
  | _, _ => false
end
theorem str_beq (s t : List Nat) : ((⟨s.toArray⟩ : Str) == ⟨t.toArray⟩) = (s == t) := by
  by_cases h : s = t
  · subst h; simp
  · rw [beq_eq_false_iff_ne.mpr h]
    refine beq_eq_false_iff_ne.mpr fun e => h ?_
    injection e with e1
    simpa using congrArg Array.toList e1
theorem eqv_toPy : ∀ (k : Nat) (a b : D), dep k a = true → dep k b = true → PyData.eqv (toPy a) (toPy b) = eqD a b := by
  intro k
  induction k with
  | zero => intro a b h; cases h
  | succ k ih =>
    have ihL : ∀ xs ys : List D, xs.all (dep k) = true → ys.all (dep k) = true → PyData.eqvAll (toPyL xs) (toPyL ys) = eqL xs ys := by
      intro xs
      induction xs with
      | nil => intro ys _ _; cases ys <;> simp [toPyL, PyData.eqvAll, eqL]
      | cons x xs ihx =>
        intro ys h1 h2
        cases ys with
        | nil => simp [toPyL, PyData.eqvAll, eqL]
        | cons y ys =>
          rw [List.all_cons, Bool.and_eq_true_iff] at h1 h2
          simp only [toPyL, PyData.eqvAll, eqL]
          rw [ih x y h1.1 h2.1, ihx ys h1.2 h2.2]
    intro a b h1 h2
    cases a <;> cases b <;> first
      | (simp only [dep] at h1 h2; simp only [toPy, PyData.eqv, eqD]; exact ihL _ _ h1 h2)
      | (simp only [toPy, PyData.eqv, eqD]; exact str_beq _ _)
      | (simp only [toPy, PyData.eqv, eqD]; done)
      | (cases h1; done)
      | (cases h2; done)
theorem depth_toPy : ∀ (k : Nat) (a : D), dep k a = true → (toPy a).depth ≤ k := by
  intro k
  induction k with
  | zero => intro a h; cases h
  | succ k ih =>
    have ihL : ∀ xs : List D, xs.all (dep k) = true → PyData.depthAll (toPyL xs) ≤ k := by
      intro xs
      induction xs with
      | nil => intro _; simp [toPyL, PyData.depthAll]
      | cons x xs ihx =>
        intro h
        rw [List.all_cons, Bool.and_eq_true_iff] at h
        simp only [toPyL, PyData.depthAll]
        exact Nat.max_le.mpr ⟨ih x h.1, ihx h.2⟩
    intro a h
    cases a <;> first
      | (simp only [dep] at h; simp only [toPy, PyData.depth]; exact Nat.succ_le_succ (ihL _ h))
      | (simp only [toPy, PyData.depth]; exact Nat.zero_le _)
theorem rep_lay {c : Cc} {H : Hp} : ∀ (k : Nat) (d : D) (v : V), dep k d = true → Rep c H d v → (toPy d).canLay0 = true ∧ Dp c.K H v (toPy d) := by
  intro k
  induction k with
  | zero => intro d v h; cases h
  | succ k ih =>
    have ihL : ∀ (ds : List D) (vs : List V), ds.all (dep k) = true → RepL c H ds vs → PyData.canLayAll0 (toPyL ds) = true ∧ DpAll c.K H vs (toPyL ds) := by
      intro ds
      induction ds with
      | nil => intro vs _ r; rw [show vs = [] from r]; exact ⟨by simp [toPyL, PyData.canLayAll0], .nil⟩
      | cons x xs ihx =>
        intro vs h ⟨v, r, e, h1, h2⟩
        rw [List.all_cons, Bool.and_eq_true_iff] at h
        obtain ⟨a1, a2⟩ := ih x v h.1 h1
        obtain ⟨b1, b2⟩ := ihx r h.2 h2
        rw [e]
        simp only [toPyL, PyData.canLayAll0]
        exact ⟨by rw [a1, b1]; rfl, .cons a2 b2⟩
    intro d v h r
    cases d with
    | non => rw [show v = .non from r]; exact ⟨by simp [toPy, PyData.canLay0], .non⟩
    | bl b => rw [show v = .bl b from r]; exact ⟨by simp [toPy, PyData.canLay0], .bl b⟩
    | int i => rw [show v = .int i from r]; exact ⟨by simp [toPy, PyData.canLay0], .int i⟩
    | str s =>
      obtain ⟨rfl, o1, o2⟩ := r
      refine ⟨?_, .str _⟩
      simp only [toPy, PyData.canLay0, PyData.strOk]
      simpa using o2
    | lst ds =>
      obtain ⟨a, vs, rfl, h1, h2⟩ := r
      simp only [dep] at h
      obtain ⟨a1, a2⟩ := ihL ds vs h h2
      simp only [toPy, PyData.canLay0]
      exact ⟨a1, .lst (.inl (.inl h1)) a2⟩
    | tup ds =>
      obtain ⟨a, vs, rfl, h1, h2⟩ := r
      simp only [dep] at h
      obtain ⟨a1, a2⟩ := ihL ds vs h h2
      simp only [toPy, PyData.canLay0]
      exact ⟨a1, .tup h1 a2⟩
    | _ => cases h
theorem repB_lay {G : Gh} {w : List D} {H Hs : Hp} (b : B G w H Hs) {k : Nat} {d : D} {v : V} (h : dep k d = true) (r : RepB G.c H Hs d v) : (toPy d).canLay0 = true ∧ Dp G.c.K H v (toPy d) := by
  cases d with
  | lst ds =>
    obtain ⟨a, vs, rfl, h1, h2, _⟩ := r
    cases k with
    | zero => cases h
    | succ k =>
      simp only [dep] at h
      have hL : ∀ (ds : List D) (vs : List V), ds.all (dep k) = true → RepL G.c H ds vs → PyData.canLayAll0 (toPyL ds) = true ∧ DpAll G.c.K H vs (toPyL ds) := by
        intro ds
        induction ds with
        | nil => intro vs _ r; rw [show vs = [] from r]; exact ⟨by simp [toPyL, PyData.canLayAll0], .nil⟩
        | cons x xs ihx =>
          intro vs h ⟨v, r, e, h1, h2⟩
          rw [List.all_cons, Bool.and_eq_true_iff] at h
          obtain ⟨a1, a2⟩ := rep_lay k x v h.1 h1
          obtain ⟨b1, b2⟩ := ihx r h.2 h2
          rw [e]
          simp only [toPyL, PyData.canLayAll0]
          exact ⟨by rw [a1, b1]; rfl, .cons a2 b2⟩
      obtain ⟨a1, a2⟩ := hL ds vs h (h2.mono b.sub)
      simp only [toPy, PyData.canLay0]
      exact ⟨a1, .lst (.inl (.inl h1)) a2⟩
  | _ => exact rep_lay k _ v h (Rep.mono b.sub r)
theorem shaped_of {k : Nat} {d : D} (h : dep k d = true) (hk : k ≤ 64) (l : (toPy d).canLay0 = true) : SeqAt.shaped (toPy d) = true := by
  show ((toPy d).canLay0 && decide ((toPy d).depth ≤ 64)) = true
  rw [l, decide_eq_true (Nat.le_trans (depth_toPy k d h) hk)]; rfl
section
variable {X : Cx} {G : Gh} {Wx : WX}
def oEq (neg : Bool) : D → D → Option D := fun a b => if (dep 8 a && dep 8 b) = true then some (.bl (if neg then !eqD a b else eqD a b)) else none
theorem opd_eq {K : PySem.W.Frag} (hK : K = G.c.K) : OpD G (rEqD K) (oEq false) := by
  subst hK
  intro w H Hs x y a b d Q hb h1 h2 e q
  unfold oEq at e
  split at e
  · rename_i hc
    cases e
    obtain ⟨d1, d2⟩ := Bool.and_eq_true_iff.mp hc
    obtain ⟨l1, p1⟩ := repB_lay hb d1 h1
    obtain ⟨l2, p2⟩ := repB_lay hb d2 h2
    refine ⟨_, _, p1, p2, shaped_of d1 (by decide) l1, shaped_of d2 (by decide) l2, ?_⟩
    rw [eqv_toPy 8 a b d1 d2]
    exact q _ H Hs hb.refl_at rfl
  · cases e
theorem opd_ne {K : PySem.W.Frag} (hK : K = G.c.K) : OpD G (rNeD K) (oEq true) := by
  subst hK
  intro w H Hs x y a b d Q hb h1 h2 e q
  unfold oEq at e
  split at e
  · rename_i hc
    cases e
    obtain ⟨d1, d2⟩ := Bool.and_eq_true_iff.mp hc
    obtain ⟨l1, p1⟩ := repB_lay hb d1 h1
    obtain ⟨l2, p2⟩ := repB_lay hb d2 h2
    refine ⟨_, _, p1, p2, shaped_of d1 (by decide) l1, shaped_of d2 (by decide) l2, ?_⟩
    rw [eqv_toPy 8 a b d1 d2]
    exact q _ H Hs hb.refl_at rfl
  · cases e
variable {a b : Expr} {ta tb : TE} {ma mb : ME D} {pos : Pos}
theorem je_eq {k : Nat} (hr : Room k X.A) (ha : JB X G Wx a ta ma) (hb : JB X G Wx b tb mb) (hK : X.K = G.c.K := by rfl) : JE X G Wx (.Compare a [.Eq] [b] pos) (tOp (rEqD G.c.K) ta tb) (mBin (oEq false) ma mb) :=
  je_cmp (by rw [← hK]; exact op_eqD hr.units) (opd_eq rfl) ha hb (nomark _)
theorem je_ne {k : Nat} (hr : Room k X.A) (ha : JB X G Wx a ta ma) (hb : JB X G Wx b tb mb) (hK : X.K = G.c.K := by rfl) : JE X G Wx (.Compare a [.NotEq] [b] pos) (tOp (rNeD G.c.K) ta tb) (mBin (oEq true) ma mb) :=
  je_cmp (by rw [← hK]; exact op_neD hr.units) (opd_ne rfl) ha hb (nomark _)
/-! ### < <= > >= -/
def oCmp (f : Int → Int → Bool) (g : List Nat → List Nat → Bool) : D → D → Option D
  | .int i, .int j => some (.bl (f i j))
  | .str s, .str t => some (.bl (g s t))
  | _, _ => none
def rCmp (f : Int → Int → Bool) (g : List Nat → List Nat → Bool) : R2 := fun x y H Q => rI0 (fun i j => V.bl (f i j)) x y H Q ∨ ∃ i j : Str, x = .str i ∧ y = .str j ∧ Q (.bl (g i.cps.toList j.cps.toList)) H
theorem opd_cmp {f : Int → Int → Bool} {g : List Nat → List Nat → Bool} : OpD G (rCmp f g) (oCmp f g) := by
  intro w H Hs x y a b d Q hb h1 h2 e q
  unfold oCmp at e
  split at e
  · cases e; exact .inl ⟨_, _, h1, h2, q _ H Hs hb.refl_at rfl⟩
  · cases e
    obtain ⟨rfl, _⟩ := h1
    obtain ⟨rfl, _⟩ := h2
    exact .inr ⟨_, _, rfl, rfl, q _ H Hs hb.refl_at (by simp [Rep])⟩
  · cases e
abbrev fLt : Int → Int → Bool := fun i j => decide (i < j)
abbrev fLe : Int → Int → Bool := fun i j => decide (i ≤ j)
abbrev fGt : Int → Int → Bool := fun i j => decide (j < i)
abbrev fGe : Int → Int → Bool := fun i j => decide (j ≤ i)
abbrev sLt : List Nat → List Nat → Bool := fun s t => decide (s < t)
abbrev sGt : List Nat → List Nat → Bool := fun s t => decide (t < s)
abbrev sLe : List Nat → List Nat → Bool := fun s t => !decide (t < s)
abbrev sGe : List Nat → List Nat → Bool := fun s t => !decide (s < t)
theorem op_ltA : OpR X (compareOp .Lt) (rCmp fLt sLt) := OpR.or op_lt op_lt_str
theorem op_gtA : OpR X (compareOp .Gt) (rCmp fGt sGt) := OpR.or op_gt op_gt_str
theorem op_leA : OpR X (compareOp .LtE) (rCmp fLe sLe) := OpR.or op_le op_le_str
theorem op_geA : OpR X (compareOp .GtE) (rCmp fGe sGe) := OpR.or op_ge op_ge_str
theorem je_lt (ha : JB X G Wx a ta ma) (hb : JB X G Wx b tb mb) : JE X G Wx (.Compare a [.Lt] [b] pos) (tOp (rCmp fLt sLt) ta tb) (mBin (oCmp fLt sLt) ma mb) := je_cmp op_ltA opd_cmp ha hb (nomark _)
theorem je_gt (ha : JB X G Wx a ta ma) (hb : JB X G Wx b tb mb) : JE X G Wx (.Compare a [.Gt] [b] pos) (tOp (rCmp fGt sGt) ta tb) (mBin (oCmp fGt sGt) ma mb) := je_cmp op_gtA opd_cmp ha hb (nomark _)
theorem je_le (ha : JB X G Wx a ta ma) (hb : JB X G Wx b tb mb) : JE X G Wx (.Compare a [.LtE] [b] pos) (tOp (rCmp fLe sLe) ta tb) (mBin (oCmp fLe sLe) ma mb) := je_cmp op_leA opd_cmp ha hb (nomark _)
theorem je_ge (ha : JB X G Wx a ta ma) (hb : JB X G Wx b tb mb) : JE X G Wx (.Compare a [.GtE] [b] pos) (tOp (rCmp fGe sGe) ta tb) (mBin (oCmp fGe sGe) ma mb) := je_cmp op_geA opd_cmp ha hb (nomark _)
/-! ### in, not in -/
def oIn (neg : Bool) : D → D → Option D
  | .str s, .str t => match s with
    | [c] => some (.bl (if neg then !decide (c ∈ t) else decide (c ∈ t)))
    | _ => none
  | a, .lst ds => if (dep 8 a && dep 8 (.lst ds)) = true then some (.bl (if neg then !ds.any fun z => eqD z a else ds.any fun z => eqD z a)) else none
  | _, _ => none
def rInA (K : PySem.W.Frag) (neg : Bool) : R2 := fun x y H Q => (∃ (c : Nat) (z : Str), x = .str ⟨#[c]⟩ ∧ y = .str z ∧ Q (.bl (if neg then !decide (c ∈ z.cps.toList) else decide (c ∈ z.cps.toList))) H) ∨ (if neg then rNotInD K x y H Q else rInD K x y H Q)
theorem op_inA {k : Nat} (hr : Room k X.A) : OpR X (compareOp .In) (rInA X.K false) := OpR.or op_in_sign (op_inD (by have := hr.un; omega))
theorem op_notInA {k : Nat} (hr : Room k X.A) : OpR X (compareOp .NotIn) (rInA X.K true) := OpR.or op_notIn_sign (op_notInD (by have := hr.un; omega))
theorem any_toPy {k : Nat} {a : D} (ha : dep k a = true) : ∀ {ds : List D}, ds.all (dep k) = true → ((toPyL ds).any fun z => PyData.eqv z (toPy a)) = ds.any fun z => eqD z a
  | [], _ => rfl
  | d :: ds, h => by
    rw [List.all_cons, Bool.and_eq_true_iff] at h
    simp only [toPyL, List.any_cons]
    rw [eqv_toPy k d a h.1 ha, any_toPy ha h.2]
theorem dep_mono : ∀ {k : Nat} {d : D}, dep k d = true → dep (k + 1) d = true := by
  intro k
  induction k with
  | zero => intro d h; cases h
  | succ k ih =>
    have ihL : ∀ xs : List D, xs.all (dep k) = true → xs.all (dep (k + 1)) = true := fun xs h => List.all_eq_true.mpr fun x hx => ih (List.all_eq_true.mp h x hx)
    intro d h
    cases d <;> first
      | (simp only [dep] at h ⊢; exact ihL _ h)
      | exact h
theorem opd_in {K : PySem.W.Frag} (hK : K = G.c.K) (neg : Bool) : OpD G (rInA K neg) (oIn neg) := by
  subst hK
  intro w H Hs x y a b d Q hb h1 h2 e q
  unfold oIn at e
  split at e
  · split at e
    · cases e
      obtain ⟨rfl, _⟩ := h1
      obtain ⟨rfl, _⟩ := h2
      exact .inl ⟨_, _, rfl, rfl, q _ H Hs hb.refl_at (by simp [Rep])⟩
    · cases e
  · split at e
    · rename_i _ ds hc
      cases e
      obtain ⟨d1, d2⟩ := Bool.and_eq_true_iff.mp hc
      obtain ⟨l1, p1⟩ := repB_lay hb d1 h1
      obtain ⟨l2, p2⟩ := repB_lay hb d2 h2
      have s1 := shaped_of d1 (by decide) l1
      have s2 := shaped_of d2 (by decide) l2
      have e2 : ((toPyL ds).any fun z => PyData.eqv z (toPy a)) = ds.any fun z => eqD z a := any_toPy (k := 8) d1 (by
        simp only [dep] at d2
        exact List.all_eq_true.mpr fun z hz => dep_mono (List.all_eq_true.mp d2 z hz))
      refine .inr ?_
      cases neg
      · show rInD _ _ _ _ _
        refine ⟨toPy a, toPyL ds, p1, by simpa only [toPy] using p2, s1, by simpa only [toPy] using s2, ?_⟩
        rw [e2]; exact q _ H Hs hb.refl_at rfl
      · show rNotInD _ _ _ _ _
        refine ⟨toPy a, toPyL ds, p1, by simpa only [toPy] using p2, s1, by simpa only [toPy] using s2, ?_⟩
        rw [e2]; exact q _ H Hs hb.refl_at rfl
    · cases e
  · cases e
theorem je_in {k : Nat} (hr : Room k X.A) (ha : JB X G Wx a ta ma) (hb : JB X G Wx b tb mb) (hm : behindInMarks .In b = false := by with_unfolding_all rfl) (hK : X.K = G.c.K := by rfl) : JE X G Wx (.Compare a [.In] [b] pos) (tOp (rInA G.c.K false) ta tb) (mBin (oIn false) ma mb) :=
  je_cmp (by rw [← hK]; exact op_inA hr) (opd_in rfl false) ha hb hm
theorem je_notin {k : Nat} (hr : Room k X.A) (ha : JB X G Wx a ta ma) (hb : JB X G Wx b tb mb) (hm : behindInMarks .NotIn b = false := by with_unfolding_all rfl) (hK : X.K = G.c.K := by rfl) : JE X G Wx (.Compare a [.NotIn] [b] pos) (tOp (rInA G.c.K true) ta tb) (mBin (oIn true) ma mb) :=
  je_cmp (by rw [← hK]; exact op_notInA hr) (opd_in rfl true) ha hb hm
/-! ### is None, is True -/
def isNon : D → Bool
  | .non => true
  | _ => false
def oIs (neg : Bool) : D → D → Option D
  | a, .non => some (.bl (if neg then !isNon a else isNon a))
  | .bl a, .bl b => some (.bl (if neg then !decide (a = b) else decide (a = b)))
  | _, _ => none
def rIsA (neg : Bool) : R2 := fun x y H Q => (y = .non ∧ Q (.bl (if neg then !decide (x = .non) else decide (x = .non))) H) ∨ ∃ a b : Bool, x = .bl a ∧ y = .bl b ∧ Q (.bl (if neg then !decide (a = b) else decide (a = b))) H
theorem op_isA : OpR X (compareOp .Is) (rIsA false) := OpR.or op_isN op_isBl
theorem op_isNotA : OpR X (compareOp .IsNot) (rIsA true) := OpR.or op_notN op_notBl
theorem isNon_of {c : Cc} {H Hs : Hp} {a : D} {x : V} (h : RepB c H Hs a x) : decide (x = .non) = isNon a := by
  cases a with
  | non => rw [show x = .non from h]; rfl
  | lst ds => obtain ⟨a, vs, rfl, _⟩ := h; rfl
  | bl b => rw [show x = .bl b from h]; rfl
  | int b => rw [show x = .int b from h]; rfl
  | str s => obtain ⟨rfl, _⟩ := h; rfl
  | tup ds => obtain ⟨a, vs, rfl, _⟩ := h; rfl
  | frz ds => obtain ⟨a, vs, rfl, _⟩ := h; rfl
  | pen => obtain ⟨a, _, rfl⟩ := h; rfl
  | obj _ _ _ => obtain ⟨a, _, _, rfl, _⟩ := h; rfl
theorem opd_is (neg : Bool) : OpD G (rIsA neg) (oIs neg) := by
  intro w H Hs x y a b d Q hb h1 h2 e q
  unfold oIs at e
  split at e
  · cases e
    refine .inl ⟨h2, ?_⟩
    rw [isNon_of h1]
    exact q _ H Hs hb.refl_at rfl
  · cases e
    exact .inr ⟨_, _, h1, h2, q _ H Hs hb.refl_at rfl⟩
  · cases e
theorem je_is (ha : JB X G Wx a ta ma) (hb : JB X G Wx b tb mb) : JE X G Wx (.Compare a [.Is] [b] pos) (tOp (rIsA false) ta tb) (mBin (oIs false) ma mb) := je_cmp op_isA (opd_is false) ha hb (nomark _)
theorem je_isnot (ha : JB X G Wx a ta ma) (hb : JB X G Wx b tb mb) : JE X G Wx (.Compare a [.IsNot] [b] pos) (tOp (rIsA true) ta tb) (mBin (oIs true) ma mb) := je_cmp op_isNotA (opd_is true) ha hb (nomark _)
end
end FT
end
section
set_option Elab.async false
set_option linter.all false
set_option maxRecDepth 100000
set_option maxHeartbeats 4000000
namespace FT
open PySem PySem.Spec PyProof.Rows L2
section
variable {X : Cx} {G : Gh} {Wx : WX}
/-! ### truth, tests -/
def truthD : D → Option Bool
  | .non => some false
  | .bl b => some b
  | .int i => some (i != 0)
  | .str s => some (s.length != 0)
  | .lst ds => some (!ds.isEmpty)
  | .tup ds => some (!ds.isEmpty)
  | .frz ds => some (!ds.isEmpty)
  | _ => none
def mTru (m : ME D) : ME Bool := fun sd w => (m sd w).bind fun d w1 => match truthD d with
  | some b => .ok b w1
  | none => .bad
theorem isEmpty_len {ds : List D} {vs : List V} (h : vs.length = ds.length) : (!vs.isEmpty) = !ds.isEmpty := by
  cases ds <;> cases vs <;> first | rfl | cases h
theorem truV_of {w : List D} {H Hs : Hp} (b : B G w H Hs) {d : D} {v : V} {k : Bool} (r : RepB G.c H Hs d v) (e : truthD d = some k) : TruV G.c.K v H k := by
  cases d with
  | non => rw [show v = .non from r]; cases e; rfl
  | bl c => rw [show v = .bl c from r]; cases e; rfl
  | int i => rw [show v = .int i from r]; cases e; rfl
  | str s =>
    obtain ⟨rfl, o⟩ := r
    cases e
    refine ⟨o.1, ?_⟩
    show (s.length != 0) = ((s.toArray.size : Int) != 0)
    rw [List.size_toArray]
    cases s <;> rfl
  | lst ds =>
    obtain ⟨a, vs, rfl, h1, h2, _⟩ := r
    cases e
    exact .inl ⟨vs, .inl (.inl h1), (isEmpty_len h2.length).symm⟩
  | tup ds =>
    obtain ⟨a, vs, rfl, h1, h2⟩ := r
    cases e
    exact .inr (.inl ⟨vs, sqT_mono b.sub h1, (isEmpty_len h2.length).symm⟩)
  | frz ds =>
    obtain ⟨a, vs, rfl, h1, h2⟩ := r
    cases e
    exact .inl ⟨vs, b.sub.seq h1, (isEmpty_len h2.length).symm⟩
  | _ => cases e
theorem jt_tru {a : Expr} {ta : TE} {ma : ME D} (ha : JB X G Wx a ta ma) (he : ∀ whole, isTrue a X.env whole = (do let v ← whole; standAt a.pos; holding [v] (truthy v)) := by intro _; rfl) (hK : X.K = G.c.K := by rfl) :
    JT X G Wx a (fun σ H Q => ta σ H fun x H' => ∃ k, TruV G.c.K x H' k ∧ Q k H') (mTru ma) := by
  refine ⟨by rw [← hK]; exact pt_truth ha.pe he, fun sd w σ H Hs Q rs post => ?_⟩
  refine ha.si.bind rs post fun d w1 v H1 Hs1 rs1 b1 q1 post1 => ?_
  cases e : truthD d with
  | none => rw [e] at post1; exact post1.elim
  | some k =>
    rw [e] at post1
    exact ⟨k, truV_of rs1.b q1 e, post1 k H1 Hs1 rs1.b.refl_at rfl⟩
def mNotT (m : ME Bool) : ME Bool := fun sd w => (m sd w).bind fun b w1 => .ok (!b) w1
theorem jt_not {a : Expr} {ta : TT} {ma : ME Bool} {pos : Pos} (ha : JT X G Wx a ta ma) : JT X G Wx (.UnaryOp .Not a pos) (tNot ta) (mNotT ma) := by
  refine ⟨pt_not ha.pe, fun sd w σ H Hs Q rs post => ?_⟩
  refine ha.si.bind rs post fun d w1 v H1 Hs1 rs1 b1 q1 post1 => ?_
  obtain rfl : d = v := q1
  exact post1 _ H1 Hs1 rs1.b.refl_at rfl
structure JW (X : Cx) (G : Gh) (Wx : WX) (e : Expr) (t : TT) (m : ME Bool) : Prop where
  pe : PW X e t
  si : Sim G Wx ρT t m
def mAnd (m1 m2 : ME Bool) : ME Bool := fun sd w => (m1 sd w).bind fun b w1 => if b = true then m2 sd w1 else .ok false w1
def mOr (m1 m2 : ME Bool) : ME Bool := fun sd w => (m1 sd w).bind fun b w1 => if b = true then .ok true w1 else m2 sd w1
variable {a b : Expr} {rest : List Expr} {pos : Pos} {t1 t2 : TT} {m1 m2 : ME Bool}
theorem jw_and1 (ha : JT X G Wx a t1 m1) : JW X G Wx (.BoolOp .And [a] pos) t1 m1 := ⟨pw_and1 ha.pe, ha.si⟩
theorem jw_or1 (ha : JT X G Wx a t1 m1) : JW X G Wx (.BoolOp .Or [a] pos) t1 m1 := ⟨pw_or1 ha.pe, ha.si⟩
theorem jw_and (ha : JT X G Wx a t1 m1) (hb : JW X G Wx (.BoolOp .And (b :: rest) pos) t2 m2) : JW X G Wx (.BoolOp .And (a :: b :: rest) pos) (tAnd t1 t2) (mAnd m1 m2) := by
  refine ⟨pw_and ha.pe hb.pe, fun sd w σ H Hs Q rs post => ?_⟩
  refine ha.si.bind rs post fun d w1 v H1 Hs1 rs1 b1 q1 post1 => ?_
  obtain rfl : d = v := q1
  cases d with
  | true => exact hb.si sd w1 σ H1 Hs1 Q rs1 post1
  | false => exact post1 _ H1 Hs1 rs1.b.refl_at rfl
theorem jw_or (ha : JT X G Wx a t1 m1) (hb : JW X G Wx (.BoolOp .Or (b :: rest) pos) t2 m2) : JW X G Wx (.BoolOp .Or (a :: b :: rest) pos) (tOr t1 t2) (mOr m1 m2) := by
  refine ⟨pw_or ha.pe hb.pe, fun sd w σ H Hs Q rs post => ?_⟩
  refine ha.si.bind rs post fun d w1 v H1 Hs1 rs1 b1 q1 post1 => ?_
  obtain rfl : d = v := q1
  cases d with
  | false => exact hb.si sd w1 σ H1 Hs1 Q rs1 post1
  | true => exact post1 _ H1 Hs1 rs1.b.refl_at rfl
theorem jt_w {e : Expr} (h : JW X G Wx e t1 m1) : JT X G Wx e t1 m1 := ⟨h.pe.pt, h.si⟩
/-! ### and, or, not as values (bools, but the last) -/
def mAndV (m1 m2 : ME D) : ME D := fun sd w => (m1 sd w).bind fun d w1 => match d with
  | .bl true => m2 sd w1
  | .bl false => .ok (.bl false) w1
  | _ => .bad
def mOrV (m1 m2 : ME D) : ME D := fun sd w => (m1 sd w).bind fun d w1 => match d with
  | .bl true => .ok (.bl true) w1
  | .bl false => m2 sd w1
  | _ => .bad
def mNotV (m1 : ME D) : ME D := fun sd w => (m1 sd w).bind fun d w1 => match d with
  | .bl c => .ok (.bl !c) w1
  | _ => .bad
variable {ta tb : TE} {ma mb : ME D}
theorem je_one {op : BoolOp} (ha : JE X G Wx a ta ma) : JE X G Wx (.BoolOp op [a] pos) ta ma := ⟨pe_one ha.pe, ha.si⟩
theorem je_and (ha : JE X G Wx a ta ma) (hb : JE X G Wx (.BoolOp .And (b :: rest) pos) tb mb) : JE X G Wx (.BoolOp .And (a :: b :: rest) pos) (tAndV ta tb) (mAndV ma mb) := by
  refine ⟨pe_and ha.pe hb.pe, fun sd w σ H Hs Q rs post => ?_⟩
  refine ha.si.bind rs post fun d w1 v H1 Hs1 rs1 b1 q1 post1 => ?_
  cases d with
  | bl c =>
    cases c with
    | true => exact ⟨true, q1, hb.si sd w1 σ H1 Hs1 Q rs1 post1⟩
    | false => exact ⟨false, q1, post1 _ H1 Hs1 rs1.b.refl_at rfl⟩
  | _ => exact post1.elim
theorem je_or (ha : JE X G Wx a ta ma) (hb : JE X G Wx (.BoolOp .Or (b :: rest) pos) tb mb) : JE X G Wx (.BoolOp .Or (a :: b :: rest) pos) (tOrV ta tb) (mOrV ma mb) := by
  refine ⟨pe_or ha.pe hb.pe, fun sd w σ H Hs Q rs post => ?_⟩
  refine ha.si.bind rs post fun d w1 v H1 Hs1 rs1 b1 q1 post1 => ?_
  cases d with
  | bl c =>
    cases c with
    | false => exact ⟨false, q1, hb.si sd w1 σ H1 Hs1 Q rs1 post1⟩
    | true => exact ⟨true, q1, post1 _ H1 Hs1 rs1.b.refl_at rfl⟩
  | _ => exact post1.elim
theorem je_not (ha : JE X G Wx a ta ma) : JE X G Wx (.UnaryOp .Not a pos) (tNotV ta) (mNotV ma) := by
  refine ⟨pe_not ha.pe, fun sd w σ H Hs Q rs post => ?_⟩
  refine ha.si.bind rs post fun d w1 v H1 Hs1 rs1 b1 q1 post1 => ?_
  cases d with
  | bl c => exact ⟨c, q1, post1 _ H1 Hs1 rs1.b.refl_at rfl⟩
  | _ => exact post1.elim
def mIfE (mt : ME Bool) (m1 m2 : ME D) : ME D := fun sd w => (mt sd w).bind fun b w1 => if b = true then m1 sd w1 else m2 sd w1
theorem je_if {c : Expr} {tc : TT} {mc : ME Bool} (hc : JT X G Wx c tc mc) (ha : JE X G Wx a ta ma) (hb : JE X G Wx b tb mb) : JE X G Wx (.IfExp c a b pos) (tIf tc ta tb) (mIfE mc ma mb) := by
  refine ⟨pe_ifExp hc.pe ha.pe hb.pe, fun sd w σ H Hs Q rs post => ?_⟩
  refine hc.si.bind rs post fun d w1 v H1 Hs1 rs1 b1 q1 post1 => ?_
  obtain rfl : d = v := q1
  cases d with
  | true => exact ha.si sd w1 σ H1 Hs1 Q rs1 post1
  | false => exact hb.si sd w1 σ H1 Hs1 Q rs1 post1
/-! ### a < b < c -/
def mChain (f g : D → D → Option D) (ma mb mc : ME D) : ME D := fun sd w => (ma sd w).bind fun a w1 => (mb sd w1).bind fun b w2 => match f a b with
  | some (.bl true) => (mc sd w2).bind fun c w3 => match g b c with
    | some d => .ok d w3
    | none => .bad
  | some (.bl false) => .ok (.bl false) w2
  | _ => .bad
theorem je_chain {op op' : CmpOp} {r r' : R2} {f g : D → D → Option D} {c : Expr} {tc : TE} {mc : ME D} (ho : OpR X (compareOp op) r) (ho' : OpR X (compareOp op') r') (hf : OpD G r f) (hg : OpD G r' g) (ha : JB X G Wx a ta ma) (hb : JB X G Wx b tb mb) (hc : JB X G Wx c tc mc)
    (hm : lastMarks [op, op'] [b, c] = false := by with_unfolding_all rfl) : JE X G Wx (.Compare a [op, op'] [b, c] pos) (tChain r r' ta tb tc) (mChain f g ma mb mc) := by
  refine ⟨pe_chain ho ho' ha.pe hb.pe hc.pe hm, fun sd w σ H Hs Q rs post => ?_⟩
  refine ha.si.bind rs post fun a w1 x H1 Hs1 rs1 b1 q1 post1 => ?_
  refine hb.si.bind rs1 post1 fun b w2 y H2 Hs2 rs2 b2 q2 post2 => ?_
  cases e : f a b with
  | none => rw [e] at post2; exact post2.elim
  | some d =>
    rw [e] at post2
    refine hf w2 H2 Hs2 x y a b d _ rs2.b (q1.step b2) q2 e fun v H3 Hs3 b3 q3 => ?_
    cases d with
    | bl k =>
      refine ⟨k, q3, ?_⟩
      cases k with
      | false => exact post2 _ H3 Hs3 b3 rfl
      | true =>
        have rs3 := rs2.step b3
        refine hc.si.bind rs3 (Post.shift b3 post2) fun c w4 z H4 Hs4 rs4 b4 q4 post4 => ?_
        cases e4 : g b c with
        | none => rw [e4] at post4; exact post4.elim
        | some d =>
          rw [e4] at post4
          exact hg w4 H4 Hs4 y z b c d Q rs4.b ((q2.step b3).step b4) q4 e4 post4
    | _ => exact post2.elim
abbrev oLt := oCmp fLt sLt
abbrev oLe := oCmp fLe sLe
abbrev oGt := oCmp fGt sGt
abbrev oGe := oCmp fGe sGe
/-! ### subscripts -/
def oIx : List D → D → D → Option D
  | _, .lst ds, .int i => atI ds i
  | _, .tup ds, .int i => atI ds i
  | _, .frz ds, .int i => atI ds i
  | w, .pen, .int i => atI w i
  | _, .str s, .int i => (atI s i).map fun c => .str [c]
  | _, _, _ => none
def mIx (ma mb : ME D) : ME D := fun sd w => (ma sd w).bind fun a w1 => (mb sd w1).bind fun b w2 => match oIx w2 a b with
  | some d => .ok d w2
  | none => .bad
theorem atI_rep {c : Cc} {H : Hp} {ds : List D} {vs : List V} {i : Int} {d : D} (h : RepL c H ds vs) (e : atI ds i = some d) : ∃ v, atI vs i = some v ∧ Rep c H d v := by
  unfold atI at e ⊢
  rw [h.length]
  cases e1 : ixN ds.length i with
  | none => rw [e1] at e; cases e
  | some j =>
    rw [e1] at e
    exact h.get e
theorem atI_map {i : Int} {s : List Nat} {c : Nat} (e : atI s i = some c) : c ∈ s := by
  unfold atI at e
  cases e1 : ixN s.length i with
  | none => rw [e1] at e; cases e
  | some j =>
    rw [e1] at e
    exact List.mem_of_getElem? e
theorem opIx {w : List D} {H Hs : Hp} {a b d : D} {x y : V} {Q : VK} (hb : B G w H Hs) (h1 : RepB G.c H Hs a x) (h2 : RepB G.c H Hs b y) (e : oIx w a b = some d) (q : ∀ v H' Hs', B (G.at_ H Hs) w H' Hs' → Rep G.c Hs' d v → Q v H') : rIx G.c.K x y H Q := by
  unfold oIx at e
  split at e
  · obtain ⟨p, vs, rfl, hp, rl, _⟩ := h1
    obtain ⟨v, e1, r1⟩ := atI_rep rl e
    exact .inl ⟨p, vs, _, v, rfl, h2, .inl (.inl hp), e1, q v H Hs hb.refl_at r1⟩
  · obtain ⟨p, vs, rfl, hp, rl⟩ := h1
    obtain ⟨v, e1, r1⟩ := atI_rep rl e
    exact .inr (.inl ⟨p, vs, _, v, rfl, h2, sqT_mono hb.sub hp, e1, q v H Hs hb.refl_at r1⟩)
  · obtain ⟨p, vs, rfl, hp, rl⟩ := h1
    obtain ⟨v, e1, r1⟩ := atI_rep rl e
    exact .inl ⟨p, vs, _, v, rfl, h2, hb.sub.seq hp, e1, q v H Hs hb.refl_at r1⟩
  · obtain ⟨p, hp, rfl⟩ := h1
    obtain ⟨⟨vs, hv, rl⟩, _⟩ := hb.pen p hp
    obtain ⟨v, e1, r1⟩ := atI_rep rl e
    exact .inl ⟨p, vs, _, v, rfl, h2, .inl (.inl hv), e1, q v H Hs hb.refl_at (r1.mono (hb.penH.trans hb.sub0))⟩
  · rename_i s i
    obtain ⟨rfl, o⟩ := h1
    cases e1 : atI s i with
    | none => rw [e1] at e; cases e
    | some c =>
      rw [e1] at e
      cases e
      refine .inr (.inr ⟨_, i, c, rfl, h2, ?_, by simpa using e1, q _ H Hs hb.refl_at ⟨rfl, ?_, fun c' hc => ?_⟩⟩)
      · exact o.line
      · rw [sizeLine_eq]; show (1 : Nat) ≤ _; decide
      · rw [List.mem_singleton.mp hc]; exact o.2 c (atI_map e1)
  · cases e
theorem je_ix (ha : JB X G Wx a ta ma) (hb : JB X G Wx b tb mb) (hs : PlainIx b := by exact fun _ _ => rfl) (hK : X.K = G.c.K := by rfl) : JE X G Wx (.Subscript a b pos) (tOp (rIx G.c.K) ta tb) (mIx ma mb) := by
  refine ⟨pe_ix (by rw [← hK]; exact ix_seq) ha.pe hb.pe hs, fun sd w σ H Hs Q rs post => ?_⟩
  refine ha.si.bind rs post fun a w1 x H1 Hs1 rs1 b1 q1 post1 => ?_
  refine hb.si.bind rs1 post1 fun b w2 y H2 Hs2 rs2 b2 q2 post2 => ?_
  cases e : oIx w2 a b with
  | none => rw [e] at post2; exact post2.elim
  | some d =>
    rw [e] at post2
    exact opIx rs2.b (q1.step b2) q2 e post2
/-! ### slices -/
def cutD {α : Type} (xs : List α) (lo hi : Option Int) : List α := (xs.drop (HT.sIx xs.length 0 lo)).take (HT.sIx xs.length xs.length hi - HT.sIx xs.length 0 lo)
def mNoP : ME (Option Int) := fun _ w => .ok none w
def mPart (m : ME D) : ME (Option Int) := fun sd w => (m sd w).bind fun d w1 => match d with
  | .int i => .ok (some i) w1
  | _ => .bad
theorem jo_none : JO X G Wx none tNoPart mNoP := ⟨po_none, fun sd w σ H Hs Q rs post => post none H Hs rs.b.refl_at rfl⟩
theorem jo_some (ha : JE X G Wx a ta ma) : JO X G Wx (some a) (tPart ta) (mPart ma) := by
  refine ⟨po_some ha.pe, fun sd w σ H Hs Q rs post => ?_⟩
  refine ha.si.bind rs post fun d w1 v H1 Hs1 rs1 b1 q1 post1 => ?_
  cases d with
  | int i => exact ⟨i, q1, post1 _ H1 Hs1 rs1.b.refl_at rfl⟩
  | _ => exact post1.elim
def oSl : D → Option Int → Option Int → Option D
  | .lst ds, l, u => some (.lst (cutD ds l u))
  | .frz ds, l, u => some (.lst (cutD ds l u))
  | .tup ds, l, u => some (.tup (cutD ds l u))
  | .str s, l, u => some (.str (cutD s l u))
  | _, _, _ => none
def mSl (ma : ME D) (ml mu : ME (Option Int)) : ME D := fun sd w => (ma sd w).bind fun a w1 => (ml sd w1).bind fun l w2 => (mu sd w2).bind fun u w3 => match oSl a l u with
  | some d => .ok d w3
  | none => .bad
theorem cut_rep {c : Cc} {H : Hp} {ds : List D} {vs : List V} {l u : Option Int} (h : RepL c H ds vs) : RepL c H (cutD ds l u) (cutV vs l u) := by
  unfold cutD cutV
  rw [h.length]
  exact (h.drop _).take _
theorem cut_len {α : Type} (xs : List α) (l u : Option Int) : (cutD xs l u).length ≤ xs.length := by
  unfold cutD
  rw [List.length_take, List.length_drop]; omega
theorem cut_mem {α : Type} {xs : List α} {l u : Option Int} {x : α} (h : x ∈ cutD xs l u) : x ∈ xs := List.mem_of_mem_drop (List.mem_of_mem_take h)
def rSlAll (K : PySem.W.Frag) : V → Option Int → Option Int → Hp → VK → Prop := fun x lo hi H Q => rSlL K x lo hi H Q ∨ rSlA K x lo hi H Q ∨ rSlS x lo hi H Q
theorem sl_all : SlR X (rSlAll X.K) := SlR.or sl_list (SlR.or sl_tupA sl_str)
theorem cutS_eq {s : List Nat} {l u : Option Int} : cutS ⟨s.toArray⟩ l u = ⟨(cutD s l u).toArray⟩ := by
  show (⟨((s.toArray.toList.drop (HT.sIx s.toArray.size 0 l)).take (HT.sIx s.toArray.size s.toArray.size u - HT.sIx s.toArray.size 0 l)).toArray⟩ : Str) = _
  rw [List.size_toArray]; rfl
theorem whole_cut {α : Type} (xs : List α) {l u : Option Int} (h1 : HT.sIx xs.length 0 l = 0) (h2 : HT.sIx xs.length xs.length u = xs.length) : cutD xs l u = xs := by
  unfold cutD
  rw [h1, h2, List.drop_zero, Nat.sub_zero, List.take_length]
theorem je_sl {e : Expr} {lo hi : Option Expr} {tl tu : TO} {ml mu : ME (Option Int)} {p2 : Pos} (ha : JB X G Wx e ta ma) (hl : JO X G Wx lo tl ml) (hu : JO X G Wx hi tu mu) (hK : X.K = G.c.K := by rfl) :
    JE X G Wx (.Subscript e (.Slice lo hi none p2) pos) (tSl (rSlAll G.c.K) ta tl tu) (mSl ma ml mu) := by
  refine ⟨pe_slice (by rw [← hK]; exact sl_all) ha.pe hl.pe hu.pe, fun sd w σ H Hs Q rs post => ?_⟩
  refine ha.si.bind rs post fun a w1 x H1 Hs1 rs1 b1 q1 post1 => ?_
  refine hl.si.bind rs1 post1 fun l w2 l' H2 Hs2 rs2 b2 q2 post2 => ?_
  refine hu.si.bind rs2 post2 fun u w3 u' H3 Hs3 rs3 b3 q3 post3 => ?_
  obtain rfl : l = l' := q2
  obtain rfl : u = u' := q3
  have q := (q1.step b2).step b3
  cases a with
  | lst ds =>
    obtain ⟨p, vs, rfl, hp, rl, _⟩ := q
    refine .inl ⟨p, vs, rfl, .inl (.inl hp), fun r hr => ?_⟩
    have ba := rs3.b.alloc (o := .lst (cutV vs l u)) hr lst_noT
    exact post3 _ _ _ ba ⟨r, _, rfl, upd_same, (cut_rep rl).mono ba.sub0⟩
  | frz ds =>
    obtain ⟨p, vs, rfl, hp, rl⟩ := q
    refine .inl ⟨p, vs, rfl, rs3.b.sub.seq hp, fun r hr => ?_⟩
    have ba := rs3.b.alloc (o := .lst (cutV vs l u)) hr lst_noT
    exact post3 _ _ _ ba ⟨r, _, rfl, upd_same, (cut_rep rl).mono ba.sub0⟩
  | tup ds =>
    obtain ⟨p, vs, rfl, hp, rl⟩ := q
    refine .inr (.inl ⟨p, vs, rfl, sqT_mono rs3.b.sub hp, fun hw => ?_, fun _ r hr => ?_⟩)
    · refine post3 _ _ _ rs3.b.refl_at ⟨p, vs, rfl, hp, ?_⟩
      have hl := rl.length
      rw [whole_cut ds (by rw [← hl]; exact hw.1) (by rw [← hl]; exact hw.2)]
      exact rl
    · have ba := rs3.b.alloc (o := .tup (cutV vs l u)) hr tup_noT
      exact post3 _ _ _ ba ⟨r, _, rfl, .inl (.inl upd_same), (cut_rep rl).mono ba.sub0⟩
  | str s =>
    obtain ⟨rfl, o⟩ := q
    refine .inr (.inr ⟨_, rfl, o.line, ?_⟩)
    rw [cutS_eq]
    exact post3 _ _ _ rs3.b.refl_at ⟨rfl, Nat.le_trans (cut_len s l u) o.1, fun c hc => o.2 c (cut_mem hc)⟩
  | _ => exact post3.elim
/-! ### argument lists, displays -/
def mNil : ME (List D) := fun _ w => .ok [] w
def mCons (m : ME D) (r : ME (List D)) : ME (List D) := fun sd w => (m sd w).bind fun d w1 => (r sd w1).bind fun ds w2 => .ok (d :: ds) w2
theorem ja_nil : JA X G Wx [] tNil mNil := ⟨pa_nil, fun sd w σ H Hs Q rs post => post _ H Hs rs.b.refl_at rfl⟩
theorem ja_cons {es : List Expr} {t : TA} {m : ME (List D)} (ha : JE X G Wx a ta ma) (hr : JA X G Wx es t m) (hs : starEach (a :: es) X.env = (false, eval a X.env) :: starEach es X.env := by rfl) : JA X G Wx (a :: es) (tCons ta t) (mCons ma m) := by
  refine ⟨pa_cons ha.pe hr.pe hs, fun sd w σ H Hs Q rs post => ?_⟩
  refine ha.si.bind rs post fun d w1 v H1 Hs1 rs1 b1 q1 post1 => ?_
  refine hr.si.bind rs1 post1 fun ds w2 vs H2 Hs2 rs2 b2 q2 post2 => ?_
  exact post2 _ H2 Hs2 rs2.b.refl_at ⟨v, vs, rfl, q1.mono b2.sub0, q2⟩
def mTup (m : ME (List D)) : ME D := fun sd w => (m sd w).bind fun ds w1 => if ds.length ≤ 1000 then .ok (.tup ds) w1 else .bad
def mLst (m : ME (List D)) : ME D := fun sd w => (m sd w).bind fun ds w1 => if ds.length ≤ 1000 then .ok (.lst ds) w1 else .bad
variable {es : List Expr} {t : TA} {m : ME (List D)}
theorem je_tup {x1} (h : JA X G Wx es t m) : JE X G Wx (.Tuple es x1 pos) (tTup t) (mTup m) := by
  refine ⟨pe_tup h.pe, fun sd w σ H Hs Q rs post => ?_⟩
  refine h.si.bind rs post fun ds w1 vs H1 Hs1 rs1 b1 q1 post1 => ?_
  split at post1
  · rename_i hl
    refine ⟨Nat.le_of_lt (small1000 (by rw [q1.length]; exact hl)), fun p hp => ?_⟩
    have ba := rs1.b.alloc (o := .tup vs) hp tup_noT
    exact post1 _ _ _ ba ⟨p, vs, rfl, .inl (.inl upd_same), q1.mono ba.sub0⟩
  · exact post1.elim
theorem je_lst (h : JA X G Wx es t m) : JE X G Wx (.List es pos) (tLst t) (mLst m) := by
  refine ⟨pe_lst h.pe, fun sd w σ H Hs Q rs post => ?_⟩
  refine h.si.bind rs post fun ds w1 vs H1 Hs1 rs1 b1 q1 post1 => ?_
  split at post1
  · rename_i hl
    refine ⟨Nat.le_of_lt (small1000 (by rw [q1.length]; exact hl)), fun p hp => ?_⟩
    have ba := rs1.b.alloc (o := .lst vs) hp lst_noT
    exact post1 _ _ _ ba ⟨p, vs, rfl, upd_same, q1.mono ba.sub0⟩
  · exact post1.elim
/-! ### built-in calls -/
def RepBL (c : Cc) (H Hs : Hp) : List D → List V → Prop
  | [], vs => vs = []
  | d :: ds, vs => ∃ v r, vs = v :: r ∧ RepB c H Hs d v ∧ RepBL c H Hs ds r
abbrev ρBL (G : Gh) : Hp → Hp → List D → List V → Prop := fun H Hs d v => RepBL G.c H Hs d v
theorem RepBL.step {w' : List D} {H Hs H' Hs' : Hp} (b : B (G.at_ H Hs) w' H' Hs') : ∀ {ds : List D} {vs : List V}, RepBL G.c H Hs ds vs → RepBL G.c H' Hs' ds vs
  | [], _, h => h
  | _ :: _, _, ⟨v, r, h1, h2, h3⟩ => ⟨v, r, h1, h2.step b, RepBL.step b h3⟩
structure JAB (X : Cx) (G : Gh) (Wx : WX) (es : List Expr) (t : TA) (m : ME (List D)) : Prop where
  pe : PA X es t
  si : Sim G Wx (ρBL G) t m
theorem jab_nil : JAB X G Wx [] tNil mNil := ⟨pa_nil, fun sd w σ H Hs Q rs post => post _ H Hs rs.b.refl_at rfl⟩
theorem jab_cons {es : List Expr} {t : TA} {m : ME (List D)} (ha : JB X G Wx a ta ma) (hr : JAB X G Wx es t m) (hs : starEach (a :: es) X.env = (false, eval a X.env) :: starEach es X.env := by rfl) : JAB X G Wx (a :: es) (tCons ta t) (mCons ma m) := by
  refine ⟨pa_cons ha.pe hr.pe hs, fun sd w σ H Hs Q rs post => ?_⟩
  refine ha.si.bind rs post fun d w1 v H1 Hs1 rs1 b1 q1 post1 => ?_
  refine hr.si.bind rs1 post1 fun ds w2 vs H2 Hs2 rs2 b2 q2 post2 => ?_
  exact post2 _ H2 Hs2 rs2.b.refl_at ⟨v, vs, rfl, q1.step b2, q2⟩
/-- what a call by values makes of data -/
def CallD (G : Gh) (r : List V → Hp → VK → Prop) (f : List D → List D → Option D) : Prop := ∀ w H Hs xs ds d (Q : VK), B G w H Hs → RepBL G.c H Hs ds xs → f w ds = some d → (∀ v H' Hs', B (G.at_ H Hs) w H' Hs' → Rep G.c Hs' d v → Q v H') → r xs H Q
def mCB (f : List D → List D → Option D) (m : ME (List D)) : ME D := fun sd w => (m sd w).bind fun ds w1 => match f w1 ds with
  | some d => .ok d w1
  | none => .bad
theorem sim_cb {r : List V → Hp → VK → Prop} {f : List D → List D → Option D} (hf : CallD G r f) (h : Sim G Wx (ρBL G) t m) : Sim G Wx (ρE G) (tCB r t) (mCB f m) := by
  intro sd w σ H Hs Q rs post
  refine h.bind rs post fun ds w1 vs H1 Hs1 rs1 b1 q1 post1 => ?_
  cases e : f w1 ds with
  | none => rw [e] at post1; exact post1.elim
  | some d =>
    rw [e] at post1
    exact hf w1 H1 Hs1 vs ds d Q rs1.b q1 e post1
theorem je_callB {id : String} {x : Str} {p : Pos} {e : Expr} {r : List V → Hp → VK → Prop} {f : List D → List D → Option D} (hc : CallR X (.builtin id) r) (hf : CallD G r f) (hg : Gl X x) (hm : X.mg x = none) (hv : bootBuiltins x = some (.builtin id)) (ha : JAB X G Wx (e :: es) t m)
    (hn : x ≠ "__name__" := by decide) (hdb : (x == ("__debug__" : Str)) = false := by decide)
    (he : starEach (e :: es) X.env = (false, eval e X.env) :: starEach es X.env := by rfl) (hpl : (backTo pos (starEach es X.env)).any (·.1) = false := by rfl) : JE X G Wx (.Call (.Name x p) (e :: es) [] pos) (tCB r t) (mCB f m) :=
  ⟨pe_callB hc hg hm hv ha.pe hn hdb he hpl, sim_cb hf ha.si⟩
theorem je_callTy {T : String} {x : Str} {p : Pos} {e : Expr} {r : List V → Hp → VK → Prop} {f : List D → List D → Option D} (hc : CallR X (.type T) r) (hf : CallD G r f) (hg : Gl X x) (hm : X.mg x = none) (hv : bootBuiltins x = some (.type T)) (ha : JAB X G Wx (e :: es) t m)
    (hn : x ≠ "__name__" := by decide) (hdb : (x == ("__debug__" : Str)) = false := by decide)
    (he : starEach (e :: es) X.env = (false, eval e X.env) :: starEach es X.env := by rfl) (hpl : (backTo pos (starEach es X.env)).any (·.1) = false := by rfl) : JE X G Wx (.Call (.Name x p) (e :: es) [] pos) (tCB r t) (mCB f m) :=
  ⟨pe_callTy hc hg hm hv ha.pe hn hdb he hpl, sim_cb hf ha.si⟩
theorem repBL1 {c : Cc} {H Hs : Hp} {d : D} {xs : List V} (h : RepBL c H Hs [d] xs) : ∃ v, xs = [v] ∧ RepB c H Hs d v := by
  obtain ⟨v, r, rfl, h1, h2⟩ := h
  exact ⟨v, by rw [show r = [] from h2], h1⟩
theorem repBL2 {c : Cc} {H Hs : Hp} {d e : D} {xs : List V} (h : RepBL c H Hs [d, e] xs) : ∃ v u, xs = [v, u] ∧ RepB c H Hs d v ∧ RepB c H Hs e u := by
  obtain ⟨v, r, rfl, h1, h2⟩ := h
  obtain ⟨u, rfl, h3⟩ := repBL1 h2
  exact ⟨v, u, rfl, h1, h3⟩
def fLen : List D → List D → Option D
  | _, [.str s] => some (.int s.length)
  | _, [.lst ds] => some (.int ds.length)
  | _, [.tup ds] => some (.int ds.length)
  | _, [.frz ds] => some (.int ds.length)
  | w, [.pen] => some (.int w.length)
  | _, _ => none
theorem cd_len {K : PySem.W.Frag} (hK : K = G.c.K) : CallD G (fun xs H Q => ∃ x n, xs = [x] ∧ LenV K x H n ∧ Q (.int n) H) fLen := by
  subst hK
  intro w H Hs xs ds d Q hb h e q
  unfold fLen at e
  split at e
  · cases e
    obtain ⟨v, rfl, rfl, o⟩ := repBL1 h
    exact ⟨_, _, rfl, ⟨o.line, rfl⟩, q _ H Hs hb.refl_at (by simp [Rep, str_len])⟩
  · cases e
    obtain ⟨v, rfl, p, vs, rfl, hp, rl, _⟩ := repBL1 h
    exact ⟨_, _, rfl, .inl ⟨vs, .inl (.inl hp), rfl⟩, q _ H Hs hb.refl_at (by rw [rl.length]; rfl)⟩
  · cases e
    obtain ⟨v, rfl, p, vs, rfl, hp, rl⟩ := repBL1 h
    exact ⟨_, _, rfl, .inr ⟨vs, sqT_mono hb.sub hp, rfl⟩, q _ H Hs hb.refl_at (by rw [rl.length]; rfl)⟩
  · cases e
    obtain ⟨v, rfl, p, vs, rfl, hp, rl⟩ := repBL1 h
    exact ⟨_, _, rfl, .inl ⟨vs, hb.sub.seq hp, rfl⟩, q _ H Hs hb.refl_at (by rw [rl.length]; rfl)⟩
  · cases e
    obtain ⟨v, rfl, p, hp, rfl⟩ := repBL1 h
    obtain ⟨⟨vs, hv, rl⟩, _⟩ := hb.pen p hp
    exact ⟨_, _, rfl, .inl ⟨vs, .inl (.inl hv), rfl⟩, q _ H Hs hb.refl_at (by rw [rl.length]; rfl)⟩
  · cases e
variable {p : Pos} {e : Expr}
theorem je_len (hm : X.mg "len" = none) (ha : JAB X G Wx [e] t m) (hg : Gl X "len" := by rfl) (hK : X.K = G.c.K := by rfl) (he : starEach [e] X.env = [(false, eval e X.env)] := by rfl) : JE X G Wx (.Call (.Name "len" p) [e] [] pos) (tCB (fun xs H Q => ∃ x n, xs = [x] ∧ LenV G.c.K x H n ∧ Q (.int n) H) t) (mCB fLen m) :=
  je_callB (by rw [← hK]; exact call_len) (cd_len rfl) hg hm PySem.boot_len ha (by decide) (by decide) he rfl
def fInt : List D → List D → Option D
  | _, [.int i] => some (.int i)
  | _, [.bl b] => some (.int (if b then 1 else 0))
  | _, _ => none
theorem cd_int : CallD G (fun xs H Q => (∃ i, xs = [V.int i] ∧ Q (.int i) H) ∨ ∃ k, xs = [.bl k] ∧ Q (.int (if k then 1 else 0)) H) fInt := by
  intro w H Hs xs ds d Q hb h e q
  unfold fInt at e
  split at e
  · cases e
    obtain ⟨v, rfl, rfl⟩ := repBL1 h
    exact .inl ⟨_, rfl, q _ H Hs hb.refl_at rfl⟩
  · cases e
    obtain ⟨v, rfl, rfl⟩ := repBL1 h
    exact .inr ⟨_, rfl, q _ H Hs hb.refl_at rfl⟩
  · cases e
theorem je_int1 (hm : X.mg "int" = none) (ha : JAB X G Wx [e] t m) (hg : Gl X "int" := by rfl) (he : starEach [e] X.env = [(false, eval e X.env)] := by rfl) : JE X G Wx (.Call (.Name "int" p) [e] [] pos) (tCB (fun xs H Q => (∃ i, xs = [V.int i] ∧ Q (.int i) H) ∨ ∃ k, xs = [.bl k] ∧ Q (.int (if k then 1 else 0)) H) t) (mCB fInt m) :=
  je_callTy call_int1 cd_int hg hm (by decide +kernel) ha (by decide) (by decide) he rfl
def fAbs : List D → List D → Option D
  | _, [.int i] => some (.int (if i < 0 then -i else i))
  | _, _ => none
theorem je_abs (hm : X.mg "abs" = none) (ha : JAB X G Wx [e] t m) (hg : Gl X "abs" := by rfl) (he : starEach [e] X.env = [(false, eval e X.env)] := by rfl) : JE X G Wx (.Call (.Name "abs" p) [e] [] pos) (tCB (fun xs H Q => ∃ i, xs = [V.int i] ∧ Q (.int (if i < 0 then -i else i)) H) t) (mCB fAbs m) :=
  je_callB call_abs (by
    intro w H Hs xs ds d Q hb h e q
    unfold fAbs at e
    split at e
    · cases e
      obtain ⟨v, rfl, rfl⟩ := repBL1 h
      exact ⟨_, rfl, q _ H Hs hb.refl_at rfl⟩
    · cases e) hg hm (by decide +kernel) ha (by decide) (by decide) he rfl
/-- all its items bools -/
def bools : List D → Option (List Bool)
  | [] => some []
  | .bl b :: ds => (bools ds).map (b :: ·)
  | _ => none
theorem bools_rep {c : Cc} {H : Hp} : ∀ {ds : List D} {bs : List Bool} {vs : List V}, bools ds = some bs → RepL c H ds vs → vs = bs.map V.bl
  | [], bs, vs, e, h => by cases e; exact h
  | .bl b :: ds, bs, vs, e, ⟨v, r, h1, h2, h3⟩ => by
    simp only [bools] at e
    cases e1 : bools ds with
    | none => rw [e1] at e; cases e
    | some bs' =>
      rw [e1] at e
      cases e
      rw [h1, show v = .bl b from h2, bools_rep e1 h3]; rfl
  | .non :: ds, _, _, e, _ => by cases e
  | .int _ :: ds, _, _, e, _ => by cases e
  | .str _ :: ds, _, _, e, _ => by cases e
  | .lst _ :: ds, _, _, e, _ => by cases e
  | .tup _ :: ds, _, _, e, _ => by cases e
  | .frz _ :: ds, _, _, e, _ => by cases e
  | .pen :: ds, _, _, e, _ => by cases e
  | .obj _ _ _ :: ds, _, _, e, _ => by cases e
def fAll : List D → List D → Option D
  | _, [.lst ds] => (bools ds).map fun bs => .bl (bs.all id)
  | _, _ => none
def fAny : List D → List D → Option D
  | _, [.lst ds] => (bools ds).map fun bs => .bl (bs.any id)
  | _, _ => none
theorem cd_all {K : PySem.W.Frag} (hK : K = G.c.K) : CallD G (rAll K) fAll := by
  subst hK
  intro w H Hs xs ds d Q hb h e q
  unfold fAll at e
  split at e
  · rename_i ds
    obtain ⟨v, rfl, p, vs, rfl, hp, rl, _⟩ := repBL1 h
    cases e1 : bools ds with
    | none => rw [e1] at e; cases e
    | some bs =>
      rw [e1] at e
      cases e
      rw [bools_rep e1 rl] at hp
      exact ⟨p, bs, rfl, .inl (.inl hp), q _ H Hs hb.refl_at rfl⟩
  · cases e
theorem cd_any {K : PySem.W.Frag} (hK : K = G.c.K) : CallD G (rAny K) fAny := by
  subst hK
  intro w H Hs xs ds d Q hb h e q
  unfold fAny at e
  split at e
  · rename_i ds
    obtain ⟨v, rfl, p, vs, rfl, hp, rl, _⟩ := repBL1 h
    cases e1 : bools ds with
    | none => rw [e1] at e; cases e
    | some bs =>
      rw [e1] at e
      cases e
      rw [bools_rep e1 rl] at hp
      exact ⟨p, bs, rfl, .inl (.inl hp), q _ H Hs hb.refl_at rfl⟩
  · cases e
theorem je_all (hm : X.mg "all" = none) (ha : JAB X G Wx [e] t m) (hc : X.calm = true := by rfl) (hg : Gl X "all" := by rfl) (hK : X.K = G.c.K := by rfl) (he : starEach [e] X.env = [(false, eval e X.env)] := by rfl) : JE X G Wx (.Call (.Name "all" p) [e] [] pos) (tCB (rAll G.c.K) t) (mCB fAll m) :=
  je_callB (by rw [← hK]; exact cr_all hc) (cd_all rfl) hg hm (by decide +kernel) ha (by decide) (by decide) he rfl
theorem je_any (hm : X.mg "any" = none) (ha : JAB X G Wx [e] t m) (hc : X.calm = true := by rfl) (hg : Gl X "any" := by rfl) (hK : X.K = G.c.K := by rfl) (he : starEach [e] X.env = [(false, eval e X.env)] := by rfl) : JE X G Wx (.Call (.Name "any" p) [e] [] pos) (tCB (rAny G.c.K) t) (mCB fAny m) :=
  je_callB (by rw [← hK]; exact cr_any hc) (cd_any rfl) hg hm (by decide +kernel) ha (by decide) (by decide) he rfl
def fTuple : List D → List D → Option D
  | _, [.lst ds] => some (.tup ds)
  | _, [.tup ds] => some (.tup ds)
  | _, _ => none
def rTupleOf (K : PySem.W.Frag) : List V → Hp → VK → Prop := fun xs H Q => ∃ p ys, xs = [.ref p] ∧ ((SqL K H p ys ∧ ∀ l, H l = none → Q (.ref l) (upd H l (.tup ys))) ∨ (SqT K H p ys ∧ Q (.ref p) H))
theorem cd_tuple {K : PySem.W.Frag} (hK : K = G.c.K) : CallD G (rTupleOf K) fTuple := by
  subst hK
  intro w H Hs xs ds d Q hb h e q
  unfold fTuple at e
  split at e
  · cases e
    obtain ⟨v, rfl, p, vs, rfl, hp, rl, _⟩ := repBL1 h
    refine ⟨p, vs, rfl, .inl ⟨.inl (.inl hp), fun l hl => ?_⟩⟩
    have ba := hb.alloc (o := .tup vs) hl tup_noT
    exact q _ _ _ ba ⟨l, vs, rfl, .inl (.inl upd_same), rl.mono ba.sub0⟩
  · cases e
    obtain ⟨v, rfl, p, vs, rfl, hp, rl⟩ := repBL1 h
    exact ⟨p, vs, rfl, .inr ⟨sqT_mono hb.sub hp, q _ H Hs hb.refl_at ⟨p, vs, rfl, hp, rl⟩⟩⟩
  · cases e
theorem je_tuple (hm : X.mg "tuple" = none) (ha : JAB X G Wx [e] t m) (hg : Gl X "tuple" := by rfl) (hK : X.K = G.c.K := by rfl) (he : starEach [e] X.env = [(false, eval e X.env)] := by rfl) : JE X G Wx (.Call (.Name "tuple" p) [e] [] pos) (tCB (rTupleOf G.c.K) t) (mCB fTuple m) :=
  je_callTy (by rw [← hK]; exact call_tuple_of) (cd_tuple rfl) hg hm (by decide +kernel) ha (by decide) (by decide) he rfl
def fList : List D → List D → Option D
  | _, [.lst ds] => some (.lst ds)
  | _, [.tup ds] => some (.lst ds)
  | _, [.frz ds] => some (.lst ds)
  | _, _ => none
def rListOf (K : PySem.W.Frag) : List V → Hp → VK → Prop := fun xs H Q => ∃ p ys, xs = [.ref p] ∧ (SqL K H p ys ∨ SqT K H p ys) ∧ ∀ l, H l = none → Q (.ref l) (upd H l (.lst ys))
theorem cd_list {K : PySem.W.Frag} (hK : K = G.c.K) : CallD G (rListOf K) fList := by
  subst hK
  intro w H Hs xs ds d Q hb h e q
  unfold fList at e
  split at e
  · cases e
    obtain ⟨v, rfl, p, vs, rfl, hp, rl, _⟩ := repBL1 h
    refine ⟨p, vs, rfl, .inl (.inl (.inl hp)), fun l hl => ?_⟩
    have ba := hb.alloc (o := .lst vs) hl lst_noT
    exact q _ _ _ ba ⟨l, vs, rfl, upd_same, rl.mono ba.sub0⟩
  · cases e
    obtain ⟨v, rfl, p, vs, rfl, hp, rl⟩ := repBL1 h
    refine ⟨p, vs, rfl, .inr (sqT_mono hb.sub hp), fun l hl => ?_⟩
    have ba := hb.alloc (o := .lst vs) hl lst_noT
    exact q _ _ _ ba ⟨l, vs, rfl, upd_same, rl.mono ba.sub0⟩
  · cases e
    obtain ⟨v, rfl, p, vs, rfl, hp, rl⟩ := repBL1 h
    refine ⟨p, vs, rfl, .inl (hb.sub.seq hp), fun l hl => ?_⟩
    have ba := hb.alloc (o := .lst vs) hl lst_noT
    exact q _ _ _ ba ⟨l, vs, rfl, upd_same, rl.mono ba.sub0⟩
  · cases e
theorem je_list (hm : X.mg "list" = none) (ha : JAB X G Wx [e] t m) (hg : Gl X "list" := by rfl) (hK : X.K = G.c.K := by rfl) (he : starEach [e] X.env = [(false, eval e X.env)] := by rfl) : JE X G Wx (.Call (.Name "list" p) [e] [] pos) (tCB (rListOf G.c.K) t) (mCB fList m) :=
  je_callTy (by rw [← hK]; exact call_list_of) (cd_list rfl) hg hm (by decide +kernel) ha (by decide) (by decide) he rfl
end
end FT
end
section
set_option Elab.async false
set_option linter.all false
set_option maxRecDepth 100000
set_option maxHeartbeats 4000000
namespace FT
open PySem PySem.Spec PyProof.Rows L2
section
variable {X : Cx} {G : Gh} {Wx : WX} {w w' w1 w2 : List D} {H Hs H' Hs' H1 Hs1 H2 Hs2 : Hp} {sd : SD} {σ : L2.St}
/-! ### isinstance -/
def tyN : D → Option String
  | .non => some "NoneType"
  | .bl _ => some "bool"
  | .int _ => some "int"
  | .str _ => some "str"
  | .lst _ => some "list"
  | .frz _ => some "list"
  | .tup _ => some "tuple"
  | _ => none
def isiB (a b : String) : Bool := a == b || (a == "bool" && b == "int")
def tyNs : List String := ["NoneType", "bool", "int", "str", "list", "tuple"]
theorem kit_tab : (tyNs.all fun a => tyNs.all fun b => decide (kitB a b = some (isiB a b))) = true := by decide +kernel
theorem kit_at {a b : String} (ha : a ∈ tyNs) (hb : b ∈ tyNs) : kitB a b = some (isiB a b) :=
  of_decide_eq_true (List.all_eq_true.mp (List.all_eq_true.mp kit_tab a ha) b hb)
theorem tyN_mem {d : D} {t : String} (e : tyN d = some t) : t ∈ tyNs := by
  cases d <;> simp only [tyN, Option.some.injEq] at e <;> first | (subst e; decide) | cases e
theorem tyX_sqT {K : PySem.W.Frag} {a : Addr} {xs : List V} (h : SqT K H a xs) : TyX K H (.ref a) (.type "tuple") := by
  rcases h with (h | ⟨o, h⟩) | ⟨o, its, n, h1, h2, _⟩
  · exact .base (.tup h)
  · exact .fTuple h
  · exact .kTuple h1 h2
theorem tyX_sqL {K : PySem.W.Frag} {a : Addr} {xs : List V} (h : SqL K H a xs) : TyX K H (.ref a) (.type "list") := by
  rcases h with (h | ⟨o, h⟩) | ⟨o, its, n, h1, h2, _⟩
  · exact .base (.lst h)
  · exact .base (.frz h)
  · exact .kList h1 h2
theorem tyX_of {d : D} {v : V} {t : String} (b : B G w H Hs) (r : RepB G.c H Hs d v) (e : tyN d = some t) : TyX G.c.K H v (.type t) := by
  cases d with
  | non => rw [show v = .non from r]; cases e; exact .base .non
  | bl c => rw [show v = .bl c from r]; cases e; exact .base (.bl c)
  | int i => rw [show v = .int i from r]; cases e; exact .base (.int i)
  | str s => obtain ⟨rfl, _⟩ := r; cases e; exact .base (.str _)
  | lst ds => obtain ⟨a, vs, rfl, h, _⟩ := r; cases e; exact .base (.lst h)
  | tup ds => obtain ⟨a, vs, rfl, h, _⟩ := r; cases e; exact tyX_sqT (sqT_mono b.sub h)
  | frz ds => obtain ⟨a, vs, rfl, h, _⟩ := r; cases e; exact tyX_sqL (b.sub.seq h)
  | _ => cases e
def mIsi (Ts : List String) (m : ME D) : ME D := fun sd w => (m sd w).bind fun d w1 => match tyN d with
  | some t => .ok (.bl (Ts.any fun T => isiB t T)) w1
  | none => .bad
variable {e : Expr} {te : TE} {m : ME D} {p p2 pos : Pos}
theorem je_isi (T : Str) (Ts : String) (hT : Ts ∈ tyNs) (hm : X.mg "isinstance" = none) (hmT : X.mg T = none) (hv : bootBuiltins T = some (.type Ts)) (ha : JB X G Wx e te m) (hg : Gl X "isinstance" := by rfl) (hgT : Gl X T := by rfl) (hnT : T ≠ "__name__" := by decide) (hdT : (T == ("__debug__" : Str)) = false := by decide) (hK : X.K = G.c.K := by rfl)
    (hs : starEach (e :: [.Name T p2]) X.env = (false, eval e X.env) :: starEach [.Name T p2] X.env := by rfl) :
    JE X G Wx (.Call (.Name "isinstance" p) [e, .Name T p2] [] pos) (tCB (rIsi G.c.K) (tCons te (tCons (tC (.ty Ts)) tNil))) (mIsi [Ts] m) := by
  refine ⟨by rw [← hK]; exact pe_callB call_isi hg hm (by decide +kernel) (pa_cons ha.pe (pa_cons (pe_bltn hgT hmT hv rfl hnT hdT) pa_nil) hs) (he := hs), fun sd w σ H Hs Q rs post => ?_⟩
  refine ha.si.bind rs post fun d w1 v H1 Hs1 rs1 b1 q1 post1 => ?_
  cases e1 : tyN d with
  | none => rw [e1] at post1; exact post1.elim
  | some t =>
    rw [e1] at post1
    refine ⟨v, .ty Ts, .type t, .type Ts, isiB t Ts, rfl, .ty Ts, tyX_of rs1.b q1 e1, kit_ty (kit_at (tyN_mem e1) hT), ?_⟩
    exact post1 _ H1 Hs1 rs1.b.refl_at (by simp [Rep])
theorem je_isi2 (T U : Str) (Ts Us : String) (hT : Ts ∈ tyNs) (hU : Us ∈ tyNs) (hm : X.mg "isinstance" = none) (hmT : X.mg T = none) (hmU : X.mg U = none) (hv : bootBuiltins T = some (.type Ts)) (hvU : bootBuiltins U = some (.type Us)) {k : Nat} {p3 p4 : Pos} (ha : JB X G Wx e te m) (hg : Gl X "isinstance" := by rfl)
    (hgT : Gl X T := by rfl) (hnT : T ≠ "__name__" := by decide) (hdT : (T == ("__debug__" : Str)) = false := by decide) (hgU : Gl X U := by rfl) (hnU : U ≠ "__name__" := by decide) (hdU : (U == ("__debug__" : Str)) = false := by decide) (hK : X.K = G.c.K := by rfl)
    (hs : starEach (e :: [.Tuple [.Name T p2, .Name U p3] k p4]) X.env = (false, eval e X.env) :: starEach [.Tuple [.Name T p2, .Name U p3] k p4] X.env := by rfl) :
    JE X G Wx (.Call (.Name "isinstance" p) [e, .Tuple [.Name T p2, .Name U p3] k p4] [] pos) (tCB (rIsiT G.c.K) (tCons te (tCons (tTup (tCons (tC (.ty Ts)) (tCons (tC (.ty Us)) tNil))) tNil))) (mIsi [Ts, Us] m) := by
  refine ⟨by rw [← hK]; exact pe_callB call_isiT hg hm (by decide +kernel) (pa_cons ha.pe (pa_cons (pe_tup (pa_cons (pe_bltn hgT hmT hv rfl hnT hdT) (pa_cons (pe_bltn hgU hmU hvU rfl hnU hdU) pa_nil))) pa_nil) hs) (he := hs), fun sd w σ H Hs Q rs post => ?_⟩
  refine ha.si.bind rs post fun d w1 v H1 Hs1 rs1 b1 q1 post1 => ?_
  cases e1 : tyN d with
  | none => rw [e1] at post1; exact post1.elim
  | some t =>
    rw [e1] at post1
    refine ⟨Nat.le_of_lt (small1000 (by show 2 ≤ 1000; decide)), fun tp htp => ?_⟩
    have ba := rs1.b.alloc (o := .tup [V.ty Ts, V.ty Us]) htp tup_noT
    have b2 := rs1.b.trans ba
    refine ⟨v, tp, [.ty Ts, .ty Us], .type t, [.type Ts, .type Us], [Ts, Us].any fun T => isiB t T, rfl, upd_same, .cons (.ty Ts) (.cons (.ty Us) .nil), tyX_of b2 (q1.step ba) e1, ?_, ?_⟩
    · refine kitAny_cons (kit_ty (kit_at (tyN_mem e1) hT)) (fun h1 => ?_) (fun h1 => by simp [h1])
      refine kitAny_cons (kit_ty (kit_at (tyN_mem e1) hU)) (fun h2 => ?_) (fun h2 => by simp [h2])
      rw [kitAny_nil]; simp [h1, h2]
    · exact post1 _ _ _ ba (by simp [Rep])
/-! ### the promise of a def with a mirror; its call -/
abbrev gh (K : PySem.W.Frag) (cl : Nat → Addr) (T : List (Addr × Str)) (ap : Option Addr) (HP H Hs : Hp) : Gh := ⟨⟨K, ap, cl⟩, HP, T, H, Hs⟩
def spF (K : PySem.W.Frag) (cl : Nat → Addr) (T : List (Addr × Str)) (n : Nat) (fm : List D → List D → R D) : Sp := fun vs H Q E => ∃ (ap : Option Addr) (HP Hs : Hp) (ds w : List D),
  B (gh K cl T ap HP H Hs) w H Hs ∧ RepL ⟨K, ap, cl⟩ Hs ds vs ∧ ds.length = n ∧ Post (gh K cl T ap HP H Hs) (fun c d _ H => E c d H) [] H Hs (ρE (gh K cl T ap HP H Hs)) Q (fm ds w)
def mCall (f : List D → List D → R D) (m : ME (List D)) : ME D := fun sd w => (m sd w).bind fun ds w1 => f ds w1
/-- the arguments that are written, then the defaults -/
def mDfl (dv : List D) (m : ME (List D)) : ME (List D) := fun sd w => (m sd w).bind fun ds w1 => .ok (ds ++ dv) w1
def nArg (n : Nat) (f : List D → List D → R D) : List D → List D → R D := fun ds w => if ds.length = n then f ds w else .bad
theorem call_post {n : Nat} {fm : List D → List D → R D} {ds : List D} {vs : List V} {Q : VK} (b : B G w H Hs) (q : RepL G.c Hs ds vs) (post : Post G Wx σ H Hs (ρE G) Q (nArg n fm ds w)) : spF G.c.K G.c.cl G.T n fm vs H Q (fun c d H => Wx c d σ H) := by
  unfold nArg at post
  split at post
  · rename_i hn
    exact ⟨G.c.ap, G.HP, Hs, ds, w, b.refl_at, q, hn, post⟩
  · exact post.elim
variable {es : List Expr} {t : TA} {ma : ME (List D)} {x : Str} {k n : Nat} {f : Addr} {fd : FuncData} {ps : List Str} {fm : List D → List D → R D}
theorem je_call (F : FnOk X.prog X.w X.K X.mg X.base (L2.CX X.prog X.w) k f fd ps (spF G.c.K G.c.cl G.T n fm)) (hr : Room k X.A) (hm : X.mg x = some (.ref f)) (hk : PySem.W.keepIn X.K (.ref f) = true) (hb : L2.Binds X.K fd ps []) (tk : Takes X Wx)
    (ha : JA X G Wx (e :: es) t ma) (hg : Gl X x := by rfl) (hdb : (x == ("__debug__" : Str)) = false := by decide) (he : starEach (e :: es) X.env = (false, eval e X.env) :: starEach es X.env := by rfl) (hpl : (backTo pos (starEach es X.env)).any (·.1) = false := by rfl) :
    JE X G Wx (.Call (.Name x p) (e :: es) [] pos) (tCallS (spF G.c.K G.c.cl G.T n fm) (WE Wx) t) (mCall (nArg n fm) ma) := by
  refine ⟨pe_callS F hr hg hm hk hb (fun σ => passAt tk σ) ha.pe hdb he hpl, fun sd w σ H Hs Q rs post => ?_⟩
  refine ha.si.bind rs post fun ds w1 vs H1 Hs1 rs1 b1 q1 post1 => ?_
  exact call_post rs1.b q1 post1
/-! ### statements -/
inductive Out where
  | nx (sd : SD) (w : List D)
  | ret (d : D) (w : List D)
  | brk (sd : SD) (w : List D)
  | cnt (sd : SD) (w : List D)
  | exc (sd : SD) (c : Nat) (ns : List Str) (ds : List D) (w : List D)
  | bad
abbrev MS := SD → List D → Out
def PostS (G : Gh) (Wx : WX) (Hs : Hp) (De : Ends) : Out → Prop
  | .nx sd' w' => ∀ σ' H' Hs', RS G sd' w' σ' H' Hs' → Same Hs Hs' → De.nx σ' H'
  | .ret d w' => ∀ v H' Hs', B G w' H' Hs' → Rep G.c Hs' d v → De.rt v H'
  | .brk sd' w' => ∀ σ' H' Hs', RS G sd' w' σ' H' Hs' → Same Hs Hs' → De.bk σ' H'
  | .cnt sd' w' => ∀ σ' H' Hs', RS G sd' w' σ' H' Hs' → Same Hs Hs' → De.ct σ' H'
  | .exc sd' c ns ds w' => ∀ dd σ' H' Hs', RS G sd' w' σ' H' Hs' → ExcAt G.c H' Hs' dd ns ds → Wx (.ref (G.c.cl c)) (some dd) σ' H'
  | .bad => False
def SimS (G : Gh) (Wx : WX) (t : TS) (m : MS) : Prop := ∀ sd w σ H Hs De, RS G sd w σ H Hs → PostS G Wx Hs De (m sd w) → t De σ H
structure JS (X : Cx) (G : Gh) (Wx : WX) (s : Stmt) (t : TS) (m : MS) : Prop where
  pe : PS X s t
  si : SimS G Wx t m
structure JSs (X : Cx) (G : Gh) (Wx : WX) (s : List Stmt) (t : TS) (m : MS) : Prop where
  pe : PSs X s t
  si : SimS G Wx t m
theorem PostS.shift {De : Ends} {r : Out} (s : Same Hs Hs1) (h : PostS G Wx Hs De r) : PostS G Wx Hs1 De r := by
  cases r with
  | nx sd' w' => exact fun σ' H' Hs' q q2 => h σ' H' Hs' q (s.trans q2)
  | ret d w' => exact h
  | brk sd' w' => exact fun σ' H' Hs' q q2 => h σ' H' Hs' q (s.trans q2)
  | cnt sd' w' => exact fun σ' H' Hs' q q2 => h σ' H' Hs' q (s.trans q2)
  | exc sd' c ns ds w' => exact h
  | bad => exact h
/-- an expression, then the rest of a statement -/
def eb {α : Type} (r : R α) (sd : SD) (k : α → List D → Out) : Out := match r with
  | .ok d w => k d w
  | .exc c ns ds w => .exc sd c ns ds w
  | .bad => .bad
theorem Sim.bindS {α β : Type} {ρ : Hp → Hp → α → β → Prop} {t : L2.St → Hp → (β → Hp → Prop) → Prop} {m : ME α} (s1 : Sim G Wx ρ t m) {k : α → List D → Out} {De : Ends} {R1 : β → Hp → Prop}
    (rs : RS G sd w σ H Hs) (post : PostS G Wx Hs De (eb (m sd w) sd k))
    (cont : ∀ d w1 v H1 Hs1, RS G sd w1 σ H1 Hs1 → B (G.at_ H Hs) w1 H1 Hs1 → ρ H1 Hs1 d v → PostS G Wx Hs1 De (k d w1) → R1 v H1) : t σ H R1 := by
  refine s1 sd w σ H Hs R1 rs ?_
  cases e : m sd w with
  | ok d w1 =>
    rw [e] at post
    exact fun v H' Hs' b q => cont d w1 v H' Hs' (rs.step b) b q (PostS.shift b.sub0 post)
  | exc c ns ds w' =>
    rw [e] at post
    exact fun dd H' Hs' b q => post dd σ H' Hs' (rs.step b) q
  | bad =>
    rw [e] at post
    exact post
def mSkip : MS := fun sd w => .nx sd w
def mSeq (m1 m2 : MS) : MS := fun sd w => match m1 sd w with
  | .nx sd' w' => m2 sd' w'
  | r => r
theorem jss_nil : JSs X G Wx [] tNext mSkip := ⟨pss_nil, fun sd w σ H Hs De rs post => post σ H Hs rs (Same.refl _)⟩
theorem sim_seq {t1 t2 : TS} {m1 m2 : MS} (h1 : SimS G Wx t1 m1) (h2 : SimS G Wx t2 m2) : SimS G Wx (tSeq t1 t2) (mSeq m1 m2) := by
  intro sd w σ H Hs De rs post
  refine h1 sd w σ H Hs _ rs ?_
  unfold mSeq at post
  cases e : m1 sd w with
  | nx sd' w' =>
    rw [e] at post
    exact fun σ' H' Hs' rs' sm => h2 sd' w' σ' H' Hs' De rs' (post.shift sm)
  | ret d w' => rw [e] at post; exact post
  | brk sd' w' => rw [e] at post; exact post
  | cnt sd' w' => rw [e] at post; exact post
  | exc sd' c ns ds w' => rw [e] at post; exact post
  | bad => rw [e] at post; exact post
variable {st : Stmt} {sts : List Stmt} {t1 t2 : TS} {m1 m2 : MS}
theorem jss_cons (h1 : JS X G Wx st t1 m1) (h2 : JSs X G Wx sts t2 m2) : JSs X G Wx (st :: sts) (tSeq t1 t2) (mSeq m1 m2) := ⟨pss_cons h1.pe h2.pe, sim_seq h1.si h2.si⟩
theorem jss_one (h1 : JS X G Wx st t1 m1) : JSs X G Wx [st] t1 m1 := ⟨pss_one h1.pe, h1.si⟩
theorem js_pass : JS X G Wx (.Pass pos) tNext mSkip := ⟨ps_pass, fun sd w σ H Hs De rs post => post σ H Hs rs (Same.refl _)⟩
def mBrk : MS := fun sd w => .brk sd w
def mCnt : MS := fun sd w => .cnt sd w
theorem js_break : JS X G Wx (.Break pos) tBreak mBrk := ⟨ps_break, fun sd w σ H Hs De rs post => post σ H Hs rs (Same.refl _)⟩
theorem js_continue : JS X G Wx (.Continue pos) tCont mCnt := ⟨ps_continue, fun sd w σ H Hs De rs post => post σ H Hs rs (Same.refl _)⟩
def mRet (m : ME D) : MS := fun sd w => eb (m sd w) sd fun d w1 => .ret d w1
theorem js_ret (h : JE X G Wx e te m) : JS X G Wx (.Return (some e) pos) (tRet te) (mRet m) := by
  refine ⟨ps_ret h.pe, fun sd w σ H Hs De rs post => ?_⟩
  exact h.si.bindS rs post fun d w1 v H1 Hs1 rs1 b1 q1 post1 => post1 v H1 Hs1 rs1.b q1
def mRetN : MS := fun sd w => .ret .non w
theorem js_retN : JS X G Wx (.Return none pos) tRetN mRetN := ⟨ps_retN, fun sd w σ H Hs De rs post => post _ H Hs rs.b rfl⟩
def mIf (mt : ME Bool) (m1 m2 : MS) : MS := fun sd w => eb (mt sd w) sd fun b w1 => if b = true then m1 sd w1 else m2 sd w1
theorem js_if {c : Expr} {a b : List Stmt} {tc : TT} {mc : ME Bool} (hc : JT X G Wx c tc mc) (ha : JSs X G Wx a t1 m1) (hb : JSs X G Wx b t2 m2) : JS X G Wx (.If c a b pos) (tIfS tc t1 t2) (mIf mc m1 m2) := by
  refine ⟨ps_if hc.pe ha.pe hb.pe, fun sd w σ H Hs De rs post => ?_⟩
  refine hc.si.bindS rs post fun d w1 v H1 Hs1 rs1 b1 q1 post1 => ?_
  obtain rfl : d = v := q1
  cases d with
  | true => exact ha.si sd w1 σ H1 Hs1 De rs1 post1
  | false => exact hb.si sd w1 σ H1 Hs1 De rs1 post1
/-! ### slots -/
theorem get_set {α : Type} {l : List α} {i j : Nat} {x y : α} (h : (l.set i x)[j]? = some y) : (i = j ∧ y = x ∧ i < l.length) ∨ (i ≠ j ∧ l[j]? = some y) := by
  by_cases e : i = j
  · subst e
    have hl : i < l.length := by
      have := (List.getElem?_eq_some_iff.mp h).1
      simpa using this
    rw [List.getElem?_set_self hl] at h
    cases h
    exact .inl ⟨rfl, rfl, hl⟩
  · rw [List.getElem?_set_ne e] at h
    exact .inr ⟨e, h⟩
theorem SL.setVal {i : Nat} {d : D} {v : V} (s : SL G sd σ H Hs) (r : Rep G.c Hs d v) : SL G (sd.set i (.val d)) (σ.set i (some v)) H Hs where
  len := by rw [List.length_set, List.length_set, s.len]
  val := fun j e h => by
    rcases get_set h with ⟨rfl, h2, h3⟩ | ⟨hn, h2⟩
    · cases h2
      exact ⟨v, List.getElem?_set_self (by rw [s.len]; exact h3), r⟩
    · rw [List.getElem?_set_ne hn]; exact s.val j e h2
  own := fun j es h => by
    rcases get_set h with ⟨rfl, h2, h3⟩ | ⟨hn, h2⟩
    · cases h2
    · rw [List.getElem?_set_ne hn]; exact s.own j es h2
  sep := fun j l es fs a h1 h2 h3 h4 => by
    rcases get_set h1 with ⟨rfl, h5, _⟩ | ⟨n1, h5⟩
    · cases h5
    · rcases get_set h2 with ⟨rfl, h6, _⟩ | ⟨n2, h6⟩
      · cases h6
      · rw [List.getElem?_set_ne n1] at h3
        rw [List.getElem?_set_ne n2] at h4
        exact s.sep j l es fs a h5 h6 h3 h4
theorem RS.setVal {i : Nat} {d : D} {v : V} (s : RS G sd w σ H Hs) (r : Rep G.c Hs d v) : RS G (sd.set i (.val d)) w (σ.set i (some v)) H Hs := ⟨s.b, s.s.setVal r⟩
def NotOwn (d : Addr) (sd : SD) (σ : L2.St) : Prop := ∀ (i : Nat) (ds : List D), sd[i]? = some (SV.own ds) → σ[i]? ≠ some (some (.ref d))
/-- js: the slots that are touched; no slot becomes an own one -/
structure Tch (js : List Nat) (sd : SD) (σ : L2.St) (sd' : SD) (σ' : L2.St) : Prop where
  wp : ∀ vs : List Nat, (∀ j ∈ js, j ∈ vs) → wipe σ' vs = wipe σ vs
  no : ∀ d, NotOwn d sd σ → NotOwn d sd' σ'
/-- targets: js, the slots that are touched -/
def SimG (G : Gh) (t : TG) (g : D → SD → Option SD) (js : List Nat) : Prop := ∀ d v sd w σ H Hs Q, RS G sd w σ H Hs → Rep G.c Hs d v → (∀ sd', g d sd = some sd' → ∀ σ', RS G sd' w σ' H Hs → Tch js sd σ sd' σ' → Q σ' H) → (g d sd).isSome = true → t v σ H Q
structure JG (X : Cx) (G : Gh) (tg : Expr) (t : TG) (g : D → SD → Option SD) (js : List Nat) : Prop where
  pe : PG X tg t
  si : SimG G t g js
theorem wipe_set {σ : L2.St} {i : Nat} {x : Option V} : ∀ {vs : List Nat}, i ∈ vs → wipe (σ.set i x) vs = wipe σ vs := by
  intro vs
  induction vs with
  | nil => intro h; cases h
  | cons a vs ih =>
    intro h
    show (wipe (σ.set i x) vs).set a none = (wipe σ vs).set a none
    by_cases hi : i ∈ vs
    · rw [ih hi]
    · have e : a = i := by
        rcases List.mem_cons.mp h with h | h
        · exact h.symm
        · exact absurd h hi
      subst e
      have key : ∀ (vs : List Nat), a ∉ vs → ∀ σ : L2.St, wipe (σ.set a x) vs = (wipe σ vs).set a x := by
        intro vs
        induction vs with
        | nil => intro _ σ; rfl
        | cons b vs ihb =>
          intro hb σ
          show (wipe (σ.set a x) vs).set b none = ((wipe σ vs).set b none).set a x
          rw [ihb (fun z => hb (List.mem_cons_of_mem _ z)) σ]
          rw [List.set_comm _ _ (fun z => hb (by rw [z]; exact List.mem_cons_self))]
      rw [key vs hi σ, List.set_set]
def gN (i : Nat) : D → SD → Option SD := fun d sd => some (sd.set i (.val d))
theorem jg_name {i : Nat} {x : Str} (hN : X.N.Nodup) (hi : X.N[i]? = some x := by rfl) (hx : Loc X.env.scope x := by first | exact Or.inl rfl | exact Or.inr rfl) (hf : X.fn x = true ∨ X.env.scope.names.lookup x = some .local := by first | exact .inl rfl | exact .inr rfl | assumption) : JG X G (.Name x pos) (gName i) (gN i) [i] := by
  refine ⟨pg_name hN hi hx hf, fun d v sd w σ H Hs Q rs r h _ => ?_⟩
  refine h _ rfl _ (rs.setVal r) ⟨fun vs hv => wipe_set (hv i (List.mem_singleton.mpr rfl)), fun a na j ds hj => ?_⟩
  rcases get_set hj with ⟨rfl, h2, _⟩ | ⟨hn, h2⟩
  · cases h2
  · rw [List.getElem?_set_ne hn]; exact na j ds h2
def SimGs (G : Gh) (t : TGs) (g : List D → SD → Option SD) (js : List Nat) : Prop := ∀ ds vs sd w σ H Hs Q, RS G sd w σ H Hs → RepL G.c Hs ds vs → (∀ sd', g ds sd = some sd' → ∀ σ', RS G sd' w σ' H Hs → Tch js sd σ sd' σ' → Q σ' H) → (g ds sd).isSome = true → t vs σ H Q
structure JGs (X : Cx) (G : Gh) (tg : List Expr) (t : TGs) (g : List D → SD → Option SD) (js : List Nat) : Prop where
  pe : PGs X tg t
  si : SimGs G t g js
def gsNil : List D → SD → Option SD := fun ds sd => match ds with
  | [] => some sd
  | _ => none
def gsCons (g : D → SD → Option SD) (r : List D → SD → Option SD) : List D → SD → Option SD := fun ds sd => match ds with
  | d :: ds => (g d sd).bind fun sd' => r ds sd'
  | [] => none
theorem jgs_nil : JGs X G [] gNil gsNil [] := by
  refine ⟨pgs_nil, fun ds vs sd w σ H Hs Q rs r h hs => ?_⟩
  cases ds with
  | nil => exact ⟨r, h _ rfl σ rs ⟨fun _ _ => rfl, fun _ n => n⟩⟩
  | cons d ds => cases hs
theorem jgs_cons {e : Expr} {es : List Expr} {t : TG} {u : TGs} {g : D → SD → Option SD} {r : List D → SD → Option SD} {js ks : List Nat} (h1 : JG X G e t g js) (h2 : JGs X G es u r ks)
    (hs : (assignEach (e :: es) X.env).map (·.2) = assign e X.env :: (assignEach es X.env).map (·.2) := by rfl) : JGs X G (e :: es) (gCons t u) (gsCons g r) (js ++ ks) := by
  refine ⟨pgs_cons h1.pe h2.pe hs, fun ds vs sd w σ H Hs Q rs rep h ok => ?_⟩
  cases ds with
  | nil => cases ok
  | cons d ds =>
    obtain ⟨v, us, rfl, r1, r2⟩ := rep
    refine ⟨v, us, rfl, ?_⟩
    have ok' : ((g d sd).bind fun sd' => r ds sd').isSome = true := ok
    cases e1 : g d sd with
    | none => rw [e1] at ok'; cases ok'
    | some sd1 =>
      rw [e1] at ok'
      refine h1.si d v sd w σ H Hs _ rs r1 (fun sd' e2 σ' rs' wp => ?_) (by rw [e1]; rfl)
      rw [e1] at e2
      cases e2
      refine h2.si ds us sd1 w σ' H Hs Q rs' r2 (fun sd2 e3 σ2 rs2 wp2 => ?_) ok'
      refine h sd2 (by show ((g d sd).bind fun sd' => r ds sd') = _; rw [e1]; exact e3) σ2 rs2 ⟨fun us hu => ?_, fun a na => wp2.no a (wp.no a na)⟩
      rw [wp2.wp us fun j hj => hu j (List.mem_append_right _ hj), wp.wp us fun j hj => hu j (List.mem_append_left _ hj)]
def gTu (n : Nat) (g : List D → SD → Option SD) : D → SD → Option SD := fun d sd => match d with
  | .tup ds => if ds.length = n then g ds sd else none
  | _ => none
theorem jg_tup {es : List Expr} {k : Nat} {t : TGs} {g : List D → SD → Option SD} {js : List Nat} {n : Nat} (h : JGs X G es t g js) (hc : X.calm = true := by rfl)
    (hn : (assignEach es X.env).length = n := by rfl) (hst : (assignEach es X.env).findIdx? (·.1) = none := by rfl) (hK : X.K = G.c.K := by rfl) : JG X G (.Tuple es k pos) (gTup G.c.K n t) (gTu n g) js := by
  refine ⟨by rw [← hK]; exact pg_tup hc h.pe hn hst, fun d v sd w σ H Hs Q rs r hq ok => ?_⟩
  cases d with
  | tup ds =>
    obtain ⟨a, vs, rfl, h1, h2⟩ := r
    have ok' : (if ds.length = n then g ds sd else none).isSome = true := ok
    split at ok'
    · rename_i hl
      refine ⟨a, vs, rfl, sqT_mono rs.b.sub h1, by rw [h2.length]; exact hl, ?_⟩
      exact h.si ds vs sd w σ H Hs Q rs h2 (fun sd' e => hq sd' (by show (if ds.length = n then g ds sd else none) = _; rw [if_pos hl]; exact e)) ok'
    · cases ok'
  | _ => cases ok
/-- target = value -/
def mAsg (g : D → SD → Option SD) (m : ME D) : MS := fun sd w => eb (m sd w) sd fun d w1 => match g d sd with
  | some sd' => .nx sd' w1
  | none => .bad
theorem sim_asg {tg : TG} {g : D → SD → Option SD} {js : List Nat} (he : Sim G Wx (ρE G) te m) (hg : SimG G tg g js) : SimS G Wx (tAsg te tg) (mAsg g m) := by
  intro sd w σ H Hs De rs post
  refine he.bindS rs post fun d w1 v H1 Hs1 rs1 b1 q1 post1 => ?_
  cases e1 : g d sd with
  | none => rw [e1] at post1; exact post1.elim
  | some sd' =>
    rw [e1] at post1
    refine hg d v sd w1 σ H1 Hs1 _ rs1 q1 (fun sd2 e2 σ' rs2 _ => ?_) (by rw [e1]; rfl)
    rw [e1] at e2
    cases e2
    exact post1 σ' H1 Hs1 rs2 (Same.refl _)
theorem js_set {i : Nat} {x : Str} {pos' : Pos} (hN : X.N.Nodup) (he : JE X G Wx e te m) (hi : X.N[i]? = some x := by rfl) (hx : Loc X.env.scope x := by first | exact Or.inl rfl | exact Or.inr rfl) (hs : swapsWith e (some (.Name x pos')) pos.line X.env = pure false := by rfl) (hf : X.fn x = true ∨ X.env.scope.names.lookup x = some .local := by first | exact .inl rfl | exact .inr rfl | assumption) :
    JS X G Wx (.Assign [.Name x pos'] e pos) (tAsg te (gName i)) (mAsg (gN i) m) := ⟨ps_set hN hi hx he.pe hs hf, sim_asg he.si (jg_name (X := X) (pos := pos') hN hi hx hf).si⟩
theorem js_asg {tg : Expr} {t : TG} {g : D → SD → Option SD} {js : List Nat} (he : JE X G Wx e te m) (hg : JG X G tg t g js) (hs : swapsWithSole [tg] e pos.line X.env = pure false := by rfl) (hw : swappedStores [tg] e X.env = pure none := by rfl)
    (h1 : (assignEach [tg] X.env).map (·.2) = [assign tg X.env] := by rfl) : JS X G Wx (.Assign [tg] e pos) (tAsg te t) (mAsg g m) := ⟨ps_asg he.pe hg.pe hs hw h1, sim_asg he.si hg.si⟩
/-- a, b = x, y -/
def mPar (i j : Nat) (m : ME (List D)) : MS := fun sd w => eb (m sd w) sd fun ds w1 => match ds with
  | [d, e] => .nx ((sd.set i (.val d)).set j (.val e)) w1
  | _ => .bad
theorem js_par {i j : Nat} {x y : Str} {a b : Expr} {px py pt : Pos} {kt k2 pt2} (hN : X.N.Nodup) (ha : JA X G Wx [a, b] t ma) (hi : X.N[i]? = some x := by rfl) (hj : X.N[j]? = some y := by rfl) (hij : i ≠ j := by decide)
    (hx : X.env.scope.names.lookup x = some .local := by rfl) (hy : X.env.scope.names.lookup y = some .local := by rfl)
    (hw : swappedStores [.Tuple [.Name x px, .Name y py] kt pt] (.Tuple [a, b] k2 pt2) X.env = pure (some [x, y]) := by rfl) (hc : X.calm = true := by rfl)
    (hs : swapsWithSole [.Tuple [.Name x px, .Name y py] kt pt] (.Tuple [a, b] k2 pt2) pos.line X.env = pure false := by rfl) :
    JS X G Wx (.Assign [.Tuple [.Name x px, .Name y py] kt pt] (.Tuple [a, b] k2 pt2) pos) (tPar i j t) (mPar i j ma) := by
  refine ⟨ps_par hc hN hi hj hij hx hy ha.pe hw hs, fun sd w σ H Hs De rs post => ?_⟩
  refine ha.si.bindS rs post fun ds w1 vs H1 Hs1 rs1 b1 q1 post1 => ?_
  match ds, q1, post1 with
  | [d, e], ⟨v, r, h1, h2, u, r', h3, h4, h5⟩, post1 =>
    refine ⟨v, u, by rw [h1, h3, show r' = [] from h5], ?_⟩
    exact post1 _ H1 Hs1 ((rs1.setVal h2).setVal h4) (Same.refl _)
  | [], _, post1 => exact post1.elim
  | [_], _, post1 => exact post1.elim
  | _ :: _ :: _ :: _, _, post1 => exact post1.elim
def mPar3 (i j l : Nat) (m : ME (List D)) : MS := fun sd w => eb (m sd w) sd fun ds w1 => match ds with
  | [d, e, f] => .nx (((sd.set i (.val d)).set j (.val e)).set l (.val f)) w1
  | _ => .bad
theorem js_par3 {i j l : Nat} {x y z : Str} {a b c : Expr} {px py pz pt : Pos} {kt k2 pt2} (hN : X.N.Nodup) (ha : JA X G Wx [a, b, c] t ma) (hi : X.N[i]? = some x := by rfl) (hj : X.N[j]? = some y := by rfl) (hl : X.N[l]? = some z := by rfl) (hij : i ≠ j := by decide) (hil : i ≠ l := by decide) (hjl : j ≠ l := by decide)
    (hx : X.env.scope.names.lookup x = some .local := by rfl) (hy : X.env.scope.names.lookup y = some .local := by rfl) (hz : X.env.scope.names.lookup z = some .local := by rfl)
    (hw : swappedStores [.Tuple [.Name x px, .Name y py, .Name z pz] kt pt] (.Tuple [a, b, c] k2 pt2) X.env = pure (some [x, y, z]) := by rfl) (hc : X.calm = true := by rfl)
    (hs : swapsWithSole [.Tuple [.Name x px, .Name y py, .Name z pz] kt pt] (.Tuple [a, b, c] k2 pt2) pos.line X.env = pure false := by rfl) :
    JS X G Wx (.Assign [.Tuple [.Name x px, .Name y py, .Name z pz] kt pt] (.Tuple [a, b, c] k2 pt2) pos) (tPar3 i j l t) (mPar3 i j l ma) := by
  refine ⟨ps_par3 hc hN hi hj hl hij hil hjl hx hy hz ha.pe hw hs, fun sd w σ H Hs De rs post => ?_⟩
  refine ha.si.bindS rs post fun ds w1 vs H1 Hs1 rs1 b1 q1 post1 => ?_
  match ds, q1, post1 with
  | [d, e, f], ⟨v, r, h1, h2, u, r', h3, h4, z', r'', h5, h6, h7⟩, post1 =>
    refine ⟨v, u, z', by rw [h1, h3, h5, show r'' = [] from h7], ?_⟩
    exact post1 _ H1 Hs1 (((rs1.setVal h2).setVal h4).setVal h6) (Same.refl _)
  | [], _, post1 => exact post1.elim
  | [_], _, post1 => exact post1.elim
  | [_, _], _, post1 => exact post1.elim
  | _ :: _ :: _ :: _ :: _, _, post1 => exact post1.elim
/-- an expression whose value is dropped -/
def mDrop (m : ME D) : MS := fun sd w => eb (m sd w) sd fun _ w1 => .nx sd w1
theorem js_drop (he : JE X G Wx e te m) (hs : swapsWith e none pos.line X.env = pure false := by rfl) : JS X G Wx (.Expr e pos) (tDrop te) (mDrop m) := by
  refine ⟨ps_expr he.pe hs, fun sd w σ H Hs De rs post => ?_⟩
  exact he.si.bindS rs post fun d w1 v H1 Hs1 rs1 b1 q1 post1 => post1 σ H1 Hs1 rs1 (Same.refl _)
end
end FT
end
section
set_option Elab.async false
set_option linter.all false
set_option maxRecDepth 100000
set_option maxHeartbeats 4000000
namespace FT
open PySem PySem.Spec PyProof.Rows L2
section
variable {X : Cx} {G : Gh} {Wx : WX} {w w' w1 w2 : List D} {H Hs H' Hs' H1 Hs1 H2 Hs2 : Hp} {sd : SD} {σ : L2.St}
/-! ### new lists that are ours alone -/
theorem B.none_live (b : B G w H Hs) {p : Addr} (hp : H p = none) : G.c.ap ≠ some p ∧ Hs p = none := by
  refine ⟨fun e => ?_, ?_⟩
  · obtain ⟨⟨vs, h1, _⟩, _⟩ := b.pen p e
    rw [hp] at h1; cases h1
  · cases e : Hs p with
    | none => rfl
    | some o' => rw [b.sub _ _ e] at hp; cases hp
theorem B.fresh0 (b : B G w H Hs) {p : Addr} (hp : H p = none) : ∀ o', G.H0 p = some o' → ¬ NoT o' := fun o' h hn => by
  have := b.keep p o' (b.none_live hp).1 hn h
  rw [hp] at this; cases this
theorem B.allocOwn (b : B G w H Hs) {p : Addr} {o : HO} (hp : H p = none) : B (G.at_ H Hs) w (upd H p o) Hs := by
  have ⟨hap, hsp⟩ := b.none_live hp
  have ne : ∀ {a x}, H a = some x → a ≠ p := fun {a x} e z => by rw [z, hp] at e; cases e
  refine ⟨fun a x e => ?_, Same.refl _, fun a x _ _ e => ?_, fun a x e => .inl e, fun a e => ?_, b.penH.trans b.sub0, b.nt, b.tab.ext fun a x e => ?_⟩
  · rw [upd_ne (ne (b.sub _ _ e))]; exact b.sub _ _ e
  · rw [upd_ne (ne e)]; exact e
  · obtain ⟨⟨vs, h1, h2⟩, h3⟩ := b.pen a e
    rw [upd_ne (ne h1)]
    exact ⟨⟨vs, h1, h2⟩, h3⟩
  · rw [upd_ne (ne e)]; exact e
theorem B.share (b : B G w H Hs) {a : Addr} {o : HO} (ha : H a = some o) (hn : NoT o) (hs : Hs a = none) (hf : ∀ o', G.H0 a = some o' → ¬ NoT o') (hp : G.c.ap ≠ some a) : B G w H (upd Hs a o) := by
  refine ⟨fun x y e => ?_, fun x y e => ?_, b.keep, fun x y e => ?_, fun x e => ?_, b.penH, fun x y e => ?_, b.tab⟩
  · by_cases z : x = a
    · subst z; rw [upd_same] at e; cases e; exact ha
    · rw [upd_ne z] at e; exact b.sub _ _ e
  · have h1 := b.sub0 x y e
    have z : x ≠ a := fun z => by rw [z, hs] at h1; cases h1
    rw [upd_ne z]; exact h1
  · by_cases z : x = a
    · subst z; exact .inr hf
    · rw [upd_ne z] at e; exact b.new _ _ e
  · have z : x ≠ a := fun z => hp (by rw [← z]; exact e)
    rw [upd_ne z]; exact b.pen x e
  · by_cases z : x = a
    · subst z; rw [upd_same] at e; cases e; exact hn
    · rw [upd_ne z] at e; exact b.nt _ _ e
theorem same_share {a : Addr} {o : HO} (hs : Hs a = none) : Same Hs (upd Hs a o) := fun x y e => by
  have z : x ≠ a := fun z => by rw [z, hs] at e; cases e
  rw [upd_ne z]; exact e
theorem codeO_ne {c : Addr} {q : Str} {vs : List V} : LamX.CodeO c q ≠ .lst vs := by
  unfold LamX.CodeO; intro h; cases h
theorem tabs_write {T : List (Addr × Str)} {a : Addr} {vs vs' : List V} (t : LamX.Tabs T H) (ha : H a = some (.lst vs)) : LamX.Tabs T (upd H a (.lst vs')) := by
  intro p hp
  obtain ⟨ps, h1, h2, h3⟩ := t p hp
  refine ⟨ps, ?_, h2, fun pos cv e => ?_⟩
  · rw [upd_ne (fun z => by rw [z, ha] at h1; cases h1)]; exact h1
  · obtain ⟨c, e1, e2⟩ := h3 pos cv e
    refine ⟨c, e1, ?_⟩
    rw [upd_ne (fun z => by rw [z, ha] at e2; exact codeO_ne (Option.some.inj e2).symm)]; exact e2
theorem B.writeOwn (b : B G w H Hs) {a : Addr} {vs vs' : List V} (ha : H a = some (.lst vs)) (hs : Hs a = none) (hf : ∀ o', G.H0 a = some o' → ¬ NoT o') (hp : G.c.ap ≠ some a) : B G w (upd H a (.lst vs')) Hs := by
  refine ⟨fun x y e => ?_, b.sub0, fun x y h1 h2 e => ?_, b.new, fun x e => ?_, b.penH, b.nt, tabs_write b.tab ha⟩
  · rw [upd_ne (fun z => by rw [z, hs] at e; cases e)]; exact b.sub _ _ e
  · rw [upd_ne (fun z => by rw [z] at e; exact hf _ e h2)]; exact b.keep _ _ h1 h2 e
  · rw [upd_ne (fun z => hp (by rw [← z]; exact e))]; exact b.pen x e
theorem B.writePen (b : B G w H Hs) {a : Addr} {vs vs' : List V} (ap : G.c.ap = some a) (ha : H a = some (.lst vs)) (r : RepL G.c G.HP w' vs') : B G w' (upd H a (.lst vs')) Hs := by
  have hs := (b.pen a ap).2
  refine ⟨fun x y e => ?_, b.sub0, fun x y h1 h2 e => ?_, b.new, fun x e => ?_, b.penH, b.nt, tabs_write b.tab ha⟩
  · rw [upd_ne (fun z => by rw [z, hs] at e; cases e)]; exact b.sub _ _ e
  · rw [upd_ne (fun z => h1 (by rw [ap, z]))]; exact b.keep _ _ h1 h2 e
  · have z : x = a := Option.some.inj (e.symm.trans ap)
    subst z
    exact ⟨⟨vs', upd_same, r⟩, hs⟩
theorem SL.writeOwn {i : Nat} {ds ds' : List D} {vs' : List V} {a : Addr} (s : SL G sd σ H Hs) (hi : sd[i]? = some (SV.own ds)) (hσ : σ[i]? = some (some (.ref a))) (r : RepL G.c Hs ds' vs') : SL G (sd.set i (.own ds')) σ (upd H a (.lst vs')) Hs where
  len := by rw [List.length_set, s.len]
  val := fun j e h => by
    rcases get_set h with ⟨rfl, h2, h3⟩ | ⟨hn, h2⟩
    · cases h2
    · exact s.val j e h2
  own := fun j es h => by
    rcases get_set h with ⟨rfl, h2, h3⟩ | ⟨hn, h2⟩
    · cases h2
      obtain ⟨b, vs, h4, h5, h6, h7, h8, h9⟩ := s.own i ds hi
      rw [hσ] at h4
      cases h4
      exact ⟨a, vs', hσ, upd_same, r, h7, h8, h9⟩
    · obtain ⟨b, vs, h4, h5, h6, h7, h8, h9⟩ := s.own j es h2
      have z : b ≠ a := fun z => hn (s.sep i j ds es a hi h2 hσ (by rw [h4, z]))
      exact ⟨b, vs, h4, by rw [upd_ne z]; exact h5, h6, h7, h8, h9⟩
  sep := fun j l es fs b h1 h2 h3 h4 => by
    rcases get_set h1 with ⟨rfl, h5, _⟩ | ⟨n1, h5⟩
    · rcases get_set h2 with ⟨rfl, h6, _⟩ | ⟨n2, h6⟩
      · rfl
      · exact s.sep _ l ds fs b hi h6 h3 h4
    · rcases get_set h2 with ⟨rfl, h6, _⟩ | ⟨n2, h6⟩
      · exact s.sep j _ es ds b h5 hi h3 h4
      · exact s.sep j l es fs b h5 h6 h3 h4
theorem SL.writePen {a : Addr} {vs' : List V} (s : SL G sd σ H Hs) (ap : G.c.ap = some a) : SL G sd σ (upd H a (.lst vs')) Hs where
  len := s.len
  val := s.val
  own := fun j es h => by
    obtain ⟨b, vs, h4, h5, h6, h7, h8, h9⟩ := s.own j es h
    have z : b ≠ a := fun z => h9 (by rw [ap, z])
    exact ⟨b, vs, h4, by rw [upd_ne z]; exact h5, h6, h7, h8, h9⟩
  sep := s.sep
/-- a slot's own list is shared from now on -/
theorem RS.freeze {i : Nat} {ds : List D} (rs : RS G sd w σ H Hs) (hi : sd[i]? = some (SV.own ds)) : ∃ Hs', RS G (sd.set i (.val (.lst ds))) w σ H Hs' ∧ Same Hs Hs' := by
  obtain ⟨a, vs, h1, h2, h3, h4, h5, h6⟩ := rs.s.own i ds hi
  have sm : Same Hs (upd Hs a (.lst vs)) := same_share h4
  refine ⟨upd Hs a (.lst vs), ⟨rs.b.share h2 lst_noT h4 h5 h6, ?_⟩, sm⟩
  refine ⟨by rw [List.length_set, rs.s.len], fun j e h => ?_, fun j es h => ?_, fun j l es fs b q1 q2 q3 q4 => ?_⟩
  · rcases get_set h with ⟨rfl, h7, h8⟩ | ⟨hn, h7⟩
    · cases h7
      exact ⟨_, h1, a, vs, rfl, upd_same, h3.mono sm⟩
    · obtain ⟨v, e1, e2⟩ := rs.s.val j e h7
      exact ⟨v, e1, e2.mono sm⟩
  · rcases get_set h with ⟨rfl, h7, h8⟩ | ⟨hn, h7⟩
    · cases h7
    · obtain ⟨b, us, e1, e2, e3, e4, e5, e6⟩ := rs.s.own j es h7
      have z : b ≠ a := fun z => hn (rs.s.sep i j ds es a hi h7 h1 (by rw [e1, z]))
      exact ⟨b, us, e1, e2, e3.mono sm, by rw [upd_ne z]; exact e4, e5, e6⟩
  · rcases get_set q1 with ⟨rfl, h7, _⟩ | ⟨n1, h7⟩
    · cases h7
    · rcases get_set q2 with ⟨rfl, h8, _⟩ | ⟨n2, h8⟩
      · cases h8
      · exact rs.s.sep j l es fs b h7 h8 q3 q4
def mFr (i : Nat) (m : MS) : MS := fun sd w => match sd[i]? with
  | some (.own ds) => m (sd.set i (.val (.lst ds))) w
  | _ => .bad
theorem sim_fr {i : Nat} {t : TS} {m : MS} (h : SimS G Wx t m) : SimS G Wx t (mFr i m) := by
  intro sd w σ H Hs De rs post
  unfold mFr at post
  split at post
  · rename_i ds hi
    obtain ⟨Hs', rs', sm⟩ := rs.freeze hi
    exact h _ w σ H Hs' De rs' (post.shift sm)
  · exact post.elim
theorem js_fr (i : Nat) {st : Stmt} {t : TS} {m : MS} (h : JS X G Wx st t m) : JS X G Wx st t (mFr i m) := ⟨h.pe, sim_fr h.si⟩
/-! ### expressions that make a new list -/
def PostF (G : Gh) (Wx : WX) (σ : L2.St) (H Hs : Hp) (Q : VK) : R (List D) → Prop
  | .ok ds w' => ∀ a vs H' Hs', B (G.at_ H Hs) w' H' Hs' → H' a = some (.lst vs) → RepL G.c Hs' ds vs → Hs' a = none → (∀ o', H a = some o' → ¬ NoT o') → G.c.ap ≠ some a → Q (.ref a) H'
  | .exc c ns ds w' => ∀ dd H' Hs', B (G.at_ H Hs) w' H' Hs' → ExcAt G.c H' Hs' dd ns ds → Wx (.ref (G.c.cl c)) (some dd) σ H'
  | .bad => False
def SimF (G : Gh) (Wx : WX) (t : TE) (m : ME (List D)) : Prop := ∀ sd w σ H Hs Q, RS G sd w σ H Hs → PostF G Wx σ H Hs Q (m sd w) → t σ H Q
structure JF (X : Cx) (G : Gh) (Wx : WX) (e : Expr) (t : TE) (m : ME (List D)) : Prop where
  pe : PE X e t
  si : SimF G Wx t m
def mF (m : ME (List D)) : ME D := fun sd w => (m sd w).bind fun ds w1 => .ok (.lst ds) w1
variable {e : Expr} {te : TE} {m : ME (List D)} {p p2 pos : Pos}
theorem je_f (h : JF X G Wx e te m) : JE X G Wx e te (mF m) := by
  refine ⟨h.pe, fun sd w σ H Hs Q rs post => h.si sd w σ H Hs Q rs ?_⟩
  unfold mF at post
  cases e : m sd w with
  | ok ds w' =>
    rw [e] at post
    intro a vs H' Hs' b h1 h2 h3 h4 h5
    exact post _ H' _ (b.share h1 lst_noT h3 h4 h5) ⟨a, vs, rfl, upd_same, h2.mono (same_share h3)⟩
  | exc c ns ds w' => rw [e] at post; exact post
  | bad => rw [e] at post; exact post
theorem PostF.shift {Q : VK} {r : R (List D)} (b : B (G.at_ H Hs) w1 H1 Hs1) (h : PostF G Wx σ H Hs Q r) : PostF G Wx σ H1 Hs1 Q r := by
  cases r with
  | ok d w' =>
    intro a vs H' Hs' b' h1 h2 h3 h4 h5
    refine h a vs H' Hs' (b.trans b') h1 h2 h3 (fun o' e hn => ?_) h5
    exact h4 o' (b.keep a o' h5 hn e) hn
  | exc c ns ds w' => exact fun dd H' Hs' b' q => h dd H' Hs' (b.trans b') q
  | bad => exact h
theorem Sim.bindF {α1 β1 : Type} {ρ1 : Hp → Hp → α1 → β1 → Prop} {t1 : L2.St → Hp → (β1 → Hp → Prop) → Prop} {m1 : ME α1} (s1 : Sim G Wx ρ1 t1 m1) {k : α1 → List D → R (List D)} {R1 : β1 → Hp → Prop} {Q : VK}
    (rs : RS G sd w σ H Hs) (post : PostF G Wx σ H Hs Q ((m1 sd w).bind k))
    (cont : ∀ d w1 v H1 Hs1, RS G sd w1 σ H1 Hs1 → B (G.at_ H Hs) w1 H1 Hs1 → ρ1 H1 Hs1 d v → PostF G Wx σ H1 Hs1 Q (k d w1) → R1 v H1) : t1 σ H R1 := by
  refine s1 sd w σ H Hs R1 rs ?_
  cases e : m1 sd w with
  | ok d w1 =>
    rw [e] at post
    exact fun v H' Hs' b q => cont d w1 v H' Hs' (rs.step b) b q (PostF.shift b post)
  | exc c ns ds w' => rw [e] at post; exact post
  | bad => rw [e] at post; exact post
def mLstF (m : ME (List D)) : ME (List D) := fun sd w => (m sd w).bind fun ds w1 => if ds.length ≤ 1000 then .ok ds w1 else .bad
theorem newF (b : B G w H Hs) {p : Addr} {vs : List V} {ds : List D} {Q : VK} (hp : H p = none) (r : RepL G.c Hs ds vs) (post : PostF G Wx σ H Hs Q (.ok ds w)) : Q (.ref p) (upd H p (.lst vs)) := by
  have ⟨hap, hsp⟩ := b.none_live hp
  exact post p vs _ Hs (b.allocOwn hp) upd_same r hsp (fun o' e => by rw [hp] at e; cases e) hap
theorem jf_lst {es : List Expr} {t : TA} (h : JA X G Wx es t m) : JF X G Wx (.List es pos) (tLst t) (mLstF m) := by
  refine ⟨pe_lst h.pe, fun sd w σ H Hs Q rs post => ?_⟩
  refine h.si.bindF rs post fun ds w1 vs H1 Hs1 rs1 b1 q1 post1 => ?_
  split at post1
  · rename_i hl
    refine ⟨Nat.le_of_lt (small1000 (by rw [q1.length]; exact hl)), fun p hp => ?_⟩
    exact newF rs1.b hp q1 post1
  · exact post1.elim
/-- list(x) -/
def mListF (m : ME D) : ME (List D) := fun sd w => (m sd w).bind fun d w1 => match d with
  | .lst ds => .ok ds w1
  | .tup ds => .ok ds w1
  | .frz ds => .ok ds w1
  | _ => .bad
theorem jf_list {m : ME D} (hm : X.mg "list" = none) (ha : JB X G Wx e te m) (hg : Gl X "list" := by rfl) (hK : X.K = G.c.K := by rfl) (he : starEach [e] X.env = (false, eval e X.env) :: starEach [] X.env := by rfl) : JF X G Wx (.Call (.Name "list" p) [e] [] pos) (tCB (rListOf G.c.K) (tCons te tNil)) (mListF m) := by
  refine ⟨pe_callTy (by rw [← hK]; exact call_list_of) hg hm (by decide +kernel) (pa_cons ha.pe pa_nil he) (by decide) (by decide) he rfl, fun sd w σ H Hs Q rs post => ?_⟩
  refine ha.si.bindF rs post fun d w1 v H1 Hs1 rs1 b1 q1 post1 => ?_
  cases d with
  | lst ds =>
    obtain ⟨a, vs, rfl, hp, rl, _⟩ := q1
    exact ⟨a, vs, rfl, .inl (.inl (.inl hp)), fun l hl => newF rs1.b hl rl post1⟩
  | tup ds =>
    obtain ⟨a, vs, rfl, hp, rl⟩ := q1
    exact ⟨a, vs, rfl, .inr (sqT_mono rs1.b.sub hp), fun l hl => newF rs1.b hl rl post1⟩
  | frz ds =>
    obtain ⟨a, vs, rfl, hp, rl⟩ := q1
    exact ⟨a, vs, rfl, .inl (rs1.b.sub.seq hp), fun l hl => newF rs1.b hl rl post1⟩
  | _ => exact post1.elim
/-! ### own slots -/
theorem PostF.toS {De : Ends} {i : Nat} {r : R (List D)} (rs : RS G sd w σ H Hs) (post : PostS G Wx Hs De (eb r sd fun ds w1 => .nx (sd.set i (.own ds)) w1)) :
    PostF G Wx σ H Hs (fun v H1 => gName i v σ H1 De.nx) r := by
  cases r with
  | ok ds w' =>
    intro a vs H' Hs' b h1 h2 h3 h4 h5
    have s' := rs.s.step b
    refine post (σ.set i (some (.ref a))) H' Hs' ⟨rs.b.trans b, ?_⟩ b.sub0
    have hne : ∀ (j : Nat) (es : List D), sd[j]? = some (SV.own es) → σ[j]? ≠ some (some (.ref a)) := fun j es hj hσ => by
      obtain ⟨c, us, e1, e2, _⟩ := rs.s.own j es hj
      rw [hσ] at e1
      cases e1
      exact h4 _ e2 lst_noT
    refine ⟨by rw [List.length_set, List.length_set, s'.len], fun j e h => ?_, fun j es h => ?_, fun j l es fs c q1 q2 q3 q4 => ?_⟩
    · rcases get_set h with ⟨rfl, h7, h8⟩ | ⟨hn, h7⟩
      · cases h7
      · rw [List.getElem?_set_ne hn]; exact s'.val j e h7
    · rcases get_set h with ⟨rfl, h7, h8⟩ | ⟨hn, h7⟩
      · cases h7
        exact ⟨a, vs, List.getElem?_set_self (by rw [s'.len]; exact h8), h1, h2, h3, fun o' e hn => h4 o' (rs.b.keep a o' h5 hn e) hn, h5⟩
      · rw [List.getElem?_set_ne hn]; exact s'.own j es h7
    · rcases get_set q1 with ⟨rfl, h7, g1⟩ | ⟨n1, h7⟩
      · rcases get_set q2 with ⟨rfl, h8, _⟩ | ⟨n2, h8⟩
        · rfl
        · rw [List.getElem?_set_self (by rw [s'.len]; exact g1)] at q3
          rw [List.getElem?_set_ne n2] at q4
          cases q3
          exact absurd q4 (hne l fs h8)
      · rcases get_set q2 with ⟨rfl, h8, g2⟩ | ⟨n2, h8⟩
        · rw [List.getElem?_set_self (by rw [s'.len]; exact g2)] at q4
          rw [List.getElem?_set_ne n1] at q3
          cases q4
          exact absurd q3 (hne j es h7)
        · rw [List.getElem?_set_ne n1] at q3
          rw [List.getElem?_set_ne n2] at q4
          exact s'.sep j l es fs c h7 h8 q3 q4
  | exc c ns ds w' => exact fun dd H' Hs' b q => post dd σ H' Hs' (rs.step b) q
  | bad => exact post
def mSetO (i : Nat) (m : ME (List D)) : MS := fun sd w => eb (m sd w) sd fun ds w1 => .nx (sd.set i (.own ds)) w1
theorem js_setO {i : Nat} {x : Str} {pos' : Pos} (hN : X.N.Nodup) (he : JF X G Wx e te m) (hi : X.N[i]? = some x := by rfl) (hx : Loc X.env.scope x := by first | exact Or.inl rfl | exact Or.inr rfl) (hs : swapsWith e (some (.Name x pos')) pos.line X.env = pure false := by rfl) (hf : X.fn x = true ∨ X.env.scope.names.lookup x = some .local := by first | exact .inl rfl | exact .inr rfl | assumption) :
    JS X G Wx (.Assign [.Name x pos'] e pos) (tAsg te (gName i)) (mSetO i m) :=
  ⟨ps_set hN hi hx he.pe hs hf, fun sd w σ H Hs De rs post => he.si sd w σ H Hs _ rs (PostF.toS rs post)⟩
/-- found.append(e) -/
def mApp (i : Nat) (m : ME D) : MS := fun sd w => match sd[i]? with
  | some (.own ds) => eb (m sd w) sd fun d w1 => if ds.length < 16777216 then .nx (sd.set i (.own (ds ++ [d]))) w1 else .bad
  | _ => .bad
variable {m : ME D} {ap2 cp : Pos}
theorem js_app (i : Nat) {x : Str} {px : Pos} (he : JE X G Wx e te m) (hN : X.N[i]? = some x := by rfl) (hv : Vis X.env.scope x := by first | exact Or.inl rfl | exact Or.inr (Or.inl rfl) | exact Or.inr (Or.inr rfl)) (hd : (x == ("__debug__" : Str)) = false := by decide)
    (hcd : (x == ("__classdict__" : Str)) = false := by decide) (hs : swapsWith (.Call (.Attribute (.Name x px) "append" ap2) [e] [] cp) none pos.line X.env = pure false := by rfl)
    (hbase : attributeBase (.Name x px) "append" X.env (eval (.Name x px) X.env) = eval (.Name x px) X.env := by rfl)
    (hfew : ((backTo cp (starEach [e] X.env)).all (fun x => !x.1) && (backToKw cp (keywordEach [] X.env)).all (fun x => x.1.isSome)
      && decide ([e].length + ([] : List Keyword).length + (if ([] : List Keyword).isEmpty then 0 else 1) < 30)) = true := by rfl)
    (hline : (ap2.endLine == cp.line) = true := by rfl) (he1 : starEach [e] X.env = (false, eval e X.env) :: starEach [] X.env := by rfl) (hK : X.K = G.c.K := by rfl) :
    JS X G Wx (.Expr (.Call (.Attribute (.Name x px) "append" ap2) [e] [] cp) pos) (tDrop (tBM G.c.K "list" rAppend (tVar i) (tCons te tNil))) (mApp i m) := by
  refine ⟨ps_expr (by rw [← hK]; exact pe_bm PySem.F.plainAttrs_list PySem.F.slot_list_append PySem.F.type_list_append mt_append (pe_var hN hv hd hcd) (pa_cons he.pe pa_nil he1) hbase hfew hline he1 rfl) hs, fun sd w σ H Hs De rs post => ?_⟩
  unfold mApp at post
  split at post
  · rename_i ds0 hi
    obtain ⟨a, vs, h1, h2, h3, h4, h5, h6⟩ := rs.s.own i ds0 hi
    refine ⟨.ref a, h1, .inl ⟨rfl, vs, .inl (.inl h2)⟩, ?_⟩
    refine he.si.bindS rs post fun d w1 v H1 Hs1 rs1 b1 q1 post1 => ?_
    split at post1
    · rename_i hl
      obtain ⟨a', vs', g1, g2, g3, g4, g5, g6⟩ := rs1.s.own i ds0 hi
      rw [h1] at g1
      cases g1
      refine ⟨a, vs', v, rfl, rfl, g2, ?_, ?_⟩
      · rw [g3.length, sizeLine_eq]; exact hl
      · exact post1 σ _ Hs1 ⟨rs1.b.writeOwn g2 g4 g5 g6, rs1.s.writeOwn hi h1 (g3.append (RepL.one q1))⟩ (Same.refl _)
    · exact post1.elim
  · exact post.elim
/-- found.extend(e) -/
def mExt (i : Nat) (m : ME D) : MS := fun sd w => match sd[i]? with
  | some (.own ds) => eb (m sd w) sd fun d w1 => (match d with
    | .lst es => if ds.length + es.length ≤ 16777216 then .nx (sd.set i (.own (ds ++ es))) w1 else .bad
    | _ => .bad)
  | _ => .bad
theorem js_ext (i : Nat) {x : Str} {px : Pos} (he : JB X G Wx e te m) (hN : X.N[i]? = some x := by rfl) (hv : Vis X.env.scope x := by first | exact Or.inl rfl | exact Or.inr (Or.inl rfl) | exact Or.inr (Or.inr rfl)) (hd : (x == ("__debug__" : Str)) = false := by decide)
    (hcd : (x == ("__classdict__" : Str)) = false := by decide) (hs : swapsWith (.Call (.Attribute (.Name x px) "extend" ap2) [e] [] cp) none pos.line X.env = pure false := by rfl)
    (hbase : attributeBase (.Name x px) "extend" X.env (eval (.Name x px) X.env) = eval (.Name x px) X.env := by rfl)
    (hfew : ((backTo cp (starEach [e] X.env)).all (fun x => !x.1) && (backToKw cp (keywordEach [] X.env)).all (fun x => x.1.isSome)
      && decide ([e].length + ([] : List Keyword).length + (if ([] : List Keyword).isEmpty then 0 else 1) < 30)) = true := by rfl)
    (hline : (ap2.endLine == cp.line) = true := by rfl) (he1 : starEach [e] X.env = (false, eval e X.env) :: starEach [] X.env := by rfl) (hK : X.K = G.c.K := by rfl) :
    JS X G Wx (.Expr (.Call (.Attribute (.Name x px) "extend" ap2) [e] [] cp) pos) (tDrop (tBM G.c.K "list" rExtend (tVar i) (tCons te tNil))) (mExt i m) := by
  refine ⟨ps_expr (by rw [← hK]; exact pe_bm PySem.F.plainAttrs_list PySem.F.slot_list_extend PySem.F.type_list_extend mt_extend (pe_var hN hv hd hcd) (pa_cons he.pe pa_nil he1) hbase hfew hline he1 rfl) hs, fun sd w σ H Hs De rs post => ?_⟩
  unfold mExt at post
  split at post
  · rename_i ds0 hi
    obtain ⟨a, vs, h1, h2, h3, h4, h5, h6⟩ := rs.s.own i ds0 hi
    refine ⟨.ref a, h1, .inl ⟨rfl, vs, .inl (.inl h2)⟩, ?_⟩
    refine he.si.bindS rs post fun d w1 v H1 Hs1 rs1 b1 q1 post1 => ?_
    cases d with
    | lst es =>
      simp only at post1
      split at post1
      · rename_i hl
        obtain ⟨a', vs', g1, g2, g3, g4, g5, g6⟩ := rs1.s.own i ds0 hi
        rw [h1] at g1
        cases g1
        obtain ⟨b, us, rfl, u1, u2, _⟩ := q1
        refine ⟨a, b, vs', us, rfl, rfl, g2, u1, ?_, ?_⟩
        · rw [g3.length, u2.length, sizeLine_eq]; exact hl
        · exact post1 σ _ Hs1 ⟨rs1.b.writeOwn g2 g4 g5 g6, rs1.s.writeOwn hi h1 (g3.append u2)⟩ (Same.refl _)
      · exact post1.elim
    | _ => exact post1.elim
  · exact post.elim
/-- xs[k] = e: xs the pen, e a plain value; or xs an own list -/
def flat : D → Bool
  | .non => true
  | .bl _ => true
  | .int _ => true
  | .str _ => true
  | _ => false
theorem flat_rep {c : Cc} {d : D} {v : V} (f : flat d = true) (r : Rep c H d v) : Rep c H' d v := by
  cases d <;> first | exact r | cases f
def mSetI (i : Nat) (mi m : ME D) : MS := fun sd w => match sd[i]? with
  | some (.val .pen) => eb (m sd w) sd fun d w1 => eb (mi sd w1) sd fun k w2 => (match k with
    | .int k => (match ixN w2.length k with
      | some j => if flat d = true then .nx sd (w2.set j d) else .bad
      | none => .bad)
    | _ => .bad)
  | some (.own ds) => eb (m sd w) sd fun d w1 => eb (mi sd w1) sd fun k w2 => (match k with
    | .int k => (match ixN ds.length k with
      | some j => .nx (sd.set i (.own (ds.set j d))) w2
      | none => .bad)
    | _ => .bad)
  | _ => .bad
theorem js_setI (i : Nat) {x : Str} {px spos : Pos} {ei : Expr} {ti : TE} {mi : ME D} (he : JE X G Wx e te m) (hei : JE X G Wx ei ti mi) (hN : X.N[i]? = some x := by rfl) (hv : Vis X.env.scope x := by first | exact Or.inl rfl | exact Or.inr (Or.inl rfl) | exact Or.inr (Or.inr rfl)) (hd : (x == ("__debug__" : Str)) = false := by decide)
    (hcd : (x == ("__classdict__" : Str)) = false := by decide)
    (ha : ∀ v, assign (.Subscript (.Name x px) ei spos) X.env v = (do
      let ov ← holding [v] (eval (.Name x px) X.env)
      let iv ← holding [v, ov] (eval ei X.env)
      standAt spos
      holding [v, ov, iv] (setItem ov iv v)
      release [v, ov, iv] []) := by intro _; rfl)
    (hs : swapsWithSole [.Subscript (.Name x px) ei spos] e pos.line X.env = pure false := by rfl) (hw : swappedStores [.Subscript (.Name x px) ei spos] e X.env = pure none := by rfl)
    (h1 : (assignEach [.Subscript (.Name x px) ei spos] X.env).map (·.2) = [assign (.Subscript (.Name x px) ei spos) X.env] := by rfl) :
    JS X G Wx (.Assign [.Subscript (.Name x px) ei spos] e pos) (tAsg te (gSub (tVar i) ti rSetL)) (mSetI i mi m) := by
  refine ⟨ps_asg he.pe (pg_sub (pe_var hN hv hd hcd) hei.pe set_list ha) hs hw h1, fun sd w σ H Hs De rs post => ?_⟩
  unfold mSetI at post
  split at post
  · rename_i c1
    refine he.si.bindS rs post fun d w1 v H1 Hs1 rs1 b1 q1 post1 => ?_
    obtain ⟨o, ho, a, hap, rfl⟩ := rs1.s.val i _ c1
    refine ⟨_, ho, hei.si.bindS rs1 post1 fun k w2 y H2 Hs2 rs2 b2 q2 post2 => ?_⟩
    cases k with
    | int k =>
      simp only at post2
      cases ek : ixN w2.length k with
      | none => rw [ek] at post2; exact post2.elim
      | some j =>
        rw [ek] at post2
        simp only at post2
        split at post2
        · rename_i hf
          obtain ⟨⟨vs, hv2, rl⟩, _⟩ := rs2.b.pen a hap
          refine ⟨a, vs, k, j, rfl, q2, hv2, by rw [rl.length]; exact ek, ?_⟩
          exact post2 σ _ Hs2 ⟨rs2.b.writePen hap hv2 (rl.set (flat_rep hf q1) j), rs2.s.writePen hap⟩ (Same.refl _)
        · exact post2.elim
    | _ => exact post2.elim
  · rename_i ds c2
    refine he.si.bindS rs post fun d w1 v H1 Hs1 rs1 b1 q1 post1 => ?_
    obtain ⟨a, vs0, ho, _⟩ := rs1.s.own i ds c2
    refine ⟨_, ho, hei.si.bindS rs1 post1 fun k w2 y H2 Hs2 rs2 b2 q2 post2 => ?_⟩
    cases k with
    | int k =>
      simp only at post2
      cases ek : ixN ds.length k with
      | none => rw [ek] at post2; exact post2.elim
      | some j =>
        rw [ek] at post2
        obtain ⟨a', vs, g1, g2, g3, g4, g5, g6⟩ := rs2.s.own i ds c2
        rw [ho] at g1
        cases g1
        refine ⟨a, vs, k, j, rfl, q2, g2, by rw [g3.length]; exact ek, ?_⟩
        exact post2 σ _ Hs2 ⟨rs2.b.writeOwn g2 g4 g5 g6, rs2.s.writeOwn c2 ho (g3.set (q1.mono b2.sub0) j)⟩ (Same.refl _)
    | _ => exact post2.elim
  · exact post.elim
end
end FT
end
section
set_option Elab.async false
set_option linter.all false
set_option maxRecDepth 100000
set_option maxHeartbeats 4000000
namespace FT
open PySem PySem.Spec PyProof.Rows L2
/-! ### what is walked -/
structure Walk (c : Cc) (J : It) (ds : List D) (P : Hp → Hp → Prop) : Prop where
  go : ∀ i d H Hs, ds[i]? = some d → P H Hs → Same Hs H → J.go i H ∧ ∀ x H', J.yld i H x H' → (H' = H ∧ Rep c Hs d x) ∨ (∃ T vs es, H T = none ∧ H' = upd H T (.tup vs) ∧ x = .ref T ∧ d = .tup es ∧ RepL c Hs es vs)
  stop : ∀ H Hs, P H Hs → Same Hs H → J.stop ds.length H
theorem Walk.imp {c : Cc} {J : It} {ds : List D} {P P' : Hp → Hp → Prop} (h : Walk c J ds P) (i : ∀ H Hs, P' H Hs → P H Hs) : Walk c J ds P' := ⟨fun j d H Hs e p s => h.go j d H Hs e (i H Hs p) s, fun H Hs p s => h.stop H Hs (i H Hs p) s⟩
abbrev PB (G : Gh) : Hp → Hp → Hp → Hp → Prop := fun H' Hs' H2 Hs2 => ∃ w2, B (G.at_ H' Hs') w2 H2 Hs2
abbrev PM : Hp → Hp → Hp → Hp → Prop := fun _ Hs' _ Hs2 => Same Hs' Hs2
def PostI (G : Gh) (Wx : WX) (σ : L2.St) (H Hs : Hp) (Pf : Hp → Hp → Hp → Hp → Prop) (Q : It → Hp → Prop) : R (List D) → Prop
  | .ok ds w' => ∀ J H' Hs', B (G.at_ H Hs) w' H' Hs' → Walk G.c J ds (Pf H' Hs') → Q J H'
  | .exc c ns ds w' => ∀ dd H' Hs', B (G.at_ H Hs) w' H' Hs' → ExcAt G.c H' Hs' dd ns ds → Wx (.ref (G.c.cl c)) (some dd) σ H'
  | .bad => False
def SimI (G : Gh) (Wx : WX) (Pf : Hp → Hp → Hp → Hp → Prop) (t : TI) (m : ME (List D)) : Prop := ∀ sd w σ H Hs Q, RS G sd w σ H Hs → PostI G Wx σ H Hs Pf Q (m sd w) → t σ H Q
/-- shared things (for loops) -/
structure JI (X : Cx) (G : Gh) (Wx : WX) (tg e : Expr) (t : TI) (m : ME (List D)) : Prop where
  pe : PI X tg e t
  si : SimI G Wx PM t m
/-- also own lists (comprehensions) -/
structure JIB (X : Cx) (G : Gh) (Wx : WX) (tg e : Expr) (t : TI) (m : ME (List D)) : Prop where
  pe : PI X tg e t
  si : SimI G Wx (PB G) t m
section
variable {X : Cx} {G : Gh} {Wx : WX} {w w' w1 w2 : List D} {H Hs H' Hs' H1 Hs1 H2 Hs2 : Hp} {sd : SD} {σ : L2.St}
variable {tg e : Expr} {te : TE} {p p2 pos : Pos}
theorem jib {t : TI} {m : ME (List D)} (h : JI X G Wx tg e t m) : JIB X G Wx tg e t m := by
  refine ⟨h.pe, fun sd w σ H Hs Q rs post => h.si sd w σ H Hs Q rs ?_⟩
  cases e : m sd w with
  | ok ds w' =>
    rw [e] at post
    exact fun J H' Hs' b wk => post J H' Hs' b (wk.imp fun H2 Hs2 ⟨w2, b2⟩ => b2.sub0)
  | exc c ns ds w' => rw [e] at post; exact post
  | bad => rw [e] at post; exact post
/-- a list, a tuple or a text -/
def iSeq (K : PySem.W.Frag) (te : TE) : TI := fun σ H R => te σ H fun x H1 => (∃ a, x = .ref a ∧ (∃ xs, SqL K H1 a xs) ∧ R (Itl K a) H1) ∨ (∃ a, x = .ref a ∧ (∃ xs, SqT K H1 a xs) ∧ R (Itt K a) H1) ∨ ∃ z, x = .str z ∧ R (Its z) H1
theorem pi_seq (he : PE X e te) : PI X tg e (iSeq X.K te) := by
  refine ⟨fun pins s σ H R I h => ?_⟩
  refine thn (he.run pins s σ H _ I h) fun v s1 ⟨x, H1, I1, r1, q1⟩ => ?_
  rcases q1 with ⟨a, rfl, ⟨xs, hq⟩, q⟩ | ⟨a, rfl, ⟨xs, hq⟩, q⟩ | ⟨z, rfl, q⟩
  · cases r1
    obtain ⟨its, rv, p, hz⟩ := I1.list hq
    refine wpAny_pyIter_list p.isList ?_
    refine ⟨s1.heap.objs.size, [s1.heap.objs.size], _, _, H1, rfl, I1.kept (t' := s1.toks) fun b o e => Heap.get?_push_of_some _ e, turn_list a _, ⟨_, Heap.get?_push_size _ rfl, rfl, rfl⟩, fun b hb => ?_, q⟩
    have e : b = s1.heap.objs.size := by simpa using hb
    subst e
    exact I1.fpOk (Nat.le_refl _) (I1.hok.fresh (Nat.le_refl _))
  · cases r1
    obtain ⟨its, rv, p, hz⟩ := I1.tuple hq
    refine wpAny_pyIter_tuple (show s1.heap.IsTuple a its.toArray from p) ?_
    refine ⟨s1.heap.objs.size, [s1.heap.objs.size], _, _, H1, rfl, I1.kept (t' := s1.toks) fun b o e => Heap.get?_push_of_some _ e, turn_tuple a _, ⟨_, Heap.get?_push_size _ rfl, rfl, rfl⟩, fun b hb => ?_, q⟩
    have e : b = s1.heap.objs.size := by simpa using hb
    subst e
    exact I1.fpOk (Nat.le_refl _) (I1.hok.fresh (Nat.le_refl _))
  · obtain ⟨t, rfl⟩ := r1
    cases ha : z.cps.all (· < 128)
    · exact wpAny_pyIter_wide ha (pi_one (tk := s1.toks) I1 _ (turn_str _ z t "str_iterator" (.inr rfl)) ⟨_, Heap.get?_push_size _ rfl, rfl, rfl⟩ q)
    · exact wpAny_pyIter_ascii ha (pi_one (tk := s1.toks) I1 _ (turn_str _ z t "str_ascii_iterator" (.inl rfl)) ⟨_, Heap.get?_push_size _ rfl, rfl, rfl⟩ q)
/-- what a thing yields -/
def items : D → Option (List D)
  | .lst ds => some ds
  | .tup ds => some ds
  | .frz ds => some ds
  | .str s => some (s.map fun c => .str [c])
  | _ => none
def mSeqI (m : ME D) : ME (List D) := fun sd w => (m sd w).bind fun d w1 => match items d with
  | some ds => .ok ds w1
  | none => .bad
theorem walk_list {c : Cc} {K : PySem.W.Frag} {a : Addr} {ds : List D} {P : Hp → Hp → Prop} (h : ∀ H Hs, P H Hs → Same Hs H → ∃ vs, SqL K H a vs ∧ RepL c Hs ds vs) : Walk c (Itl K a) ds P := by
  refine ⟨fun i d H Hs e p s => ?_, fun H Hs p s => ?_⟩
  · obtain ⟨vs, h1, h2⟩ := h H Hs p s
    obtain ⟨v, e1, r1⟩ := h2.get e
    refine ⟨⟨vs, v, h1, e1⟩, fun x H' ⟨y1, y2⟩ => .inl ⟨y1, ?_⟩⟩
    have := (y2 vs h1).symm.trans e1
    cases this
    exact r1
  · obtain ⟨vs, h1, h2⟩ := h H Hs p s
    exact ⟨vs, h1, by rw [h2.length]; exact Nat.le_refl _⟩
theorem walk_tup {c : Cc} {K : PySem.W.Frag} {a : Addr} {ds : List D} {P : Hp → Hp → Prop} (h : ∀ H Hs, P H Hs → Same Hs H → ∃ vs, SqT K H a vs ∧ RepL c Hs ds vs) : Walk c (Itt K a) ds P := by
  refine ⟨fun i d H Hs e p s => ?_, fun H Hs p s => ?_⟩
  · obtain ⟨vs, h1, h2⟩ := h H Hs p s
    obtain ⟨v, e1, r1⟩ := h2.get e
    refine ⟨⟨vs, v, h1, e1⟩, fun x H' ⟨y1, y2⟩ => .inl ⟨y1, ?_⟩⟩
    have := (y2 vs h1).symm.trans e1
    cases this
    exact r1
  · obtain ⟨vs, h1, h2⟩ := h H Hs p s
    exact ⟨vs, h1, by rw [h2.length]; exact Nat.le_refl _⟩
theorem sok_one {s : List Nat} (o : SOk s) {i : Nat} {c : Nat} (e : s[i]? = some c) : SOk [c] := by
  refine ⟨by rw [sizeLine_eq]; show (1 : Nat) ≤ _; decide, fun c' hc => ?_⟩
  rw [List.mem_singleton.mp hc]
  exact o.2 c (List.mem_of_getElem? e)
theorem walk_str {c : Cc} {s : List Nat} (o : SOk s) {P : Hp → Hp → Prop} : Walk c (Its ⟨s.toArray⟩) (s.map fun c => D.str [c]) P := by
  refine ⟨fun i d H Hs e p sm => ?_, fun H Hs p sm => ?_⟩
  · rw [List.getElem?_map] at e
    cases e1 : s[i]? with
    | none => rw [e1] at e; cases e
    | some k =>
      rw [e1] at e
      cases e
      have hl := (List.getElem?_eq_some_iff.mp e1).1
      refine ⟨by show i < s.toArray.size; simpa using hl, fun x H' ⟨y1, k', y2, y3⟩ => .inl ⟨y1, ?_⟩⟩
      have e3 : s[i]? = some k' := by simpa using y2
      rw [e1] at e3
      cases e3
      exact ⟨y3, sok_one o e1⟩
  · show s.toArray.size ≤ _
    rw [List.length_map, List.size_toArray]; exact Nat.le_refl _
theorem ji_seq {m : ME D} (he : JE X G Wx e te m) (hK : X.K = G.c.K := by rfl) : JI X G Wx tg e (iSeq G.c.K te) (mSeqI m) := by
  refine ⟨by rw [← hK]; exact pi_seq he.pe, fun sd w σ H Hs Q rs post => ?_⟩
  refine he.si sd w σ H Hs _ rs ?_
  unfold mSeqI at post
  cases e : m sd w with
  | ok d w' =>
    rw [e] at post
    intro v H' Hs' b q
    have rs' := rs.step b
    cases d with
    | lst ds =>
      obtain ⟨a, vs, rfl, h1, h2⟩ := q
      exact .inl ⟨a, rfl, ⟨vs, .inl (.inl (rs'.b.sub _ _ h1))⟩, post _ H' Hs' b (walk_list fun H2 Hs2 p s => ⟨vs, .inl (.inl (s _ _ (p _ _ h1))), h2.mono p⟩)⟩
    | tup ds =>
      obtain ⟨a, vs, rfl, h1, h2⟩ := q
      exact .inr (.inl ⟨a, rfl, ⟨vs, sqT_mono rs'.b.sub h1⟩, post _ H' Hs' b (walk_tup fun H2 Hs2 p s => ⟨vs, sqT_mono (p.trans s) h1, h2.mono p⟩)⟩)
    | frz ds =>
      obtain ⟨a, vs, rfl, h1, h2⟩ := q
      exact .inl ⟨a, rfl, ⟨vs, rs'.b.sub.seq h1⟩, post _ H' Hs' b (walk_list fun H2 Hs2 p s => ⟨vs, (p.trans s).seq h1, h2.mono p⟩)⟩
    | str s =>
      obtain ⟨rfl, o⟩ := q
      exact .inr (.inr ⟨_, rfl, post _ H' Hs' b (walk_str o)⟩)
    | _ => exact post.elim
  | exc c ns ds w' => rw [e] at post; exact post
  | bad => rw [e] at post; exact post
theorem jib_seq {m : ME D} (he : JB X G Wx e te m) (hK : X.K = G.c.K := by rfl) : JIB X G Wx tg e (iSeq G.c.K te) (mSeqI m) := by
  refine ⟨by rw [← hK]; exact pi_seq he.pe, fun sd w σ H Hs Q rs post => ?_⟩
  refine he.si sd w σ H Hs _ rs ?_
  unfold mSeqI at post
  cases e : m sd w with
  | ok d w' =>
    rw [e] at post
    intro v H' Hs' b q
    have rs' := rs.step b
    cases d with
    | lst ds =>
      obtain ⟨a, vs, rfl, h1, h2, h3⟩ := q
      exact .inl ⟨a, rfl, ⟨vs, .inl (.inl h1)⟩, post _ H' Hs' b (walk_list fun H2 Hs2 ⟨w2, p⟩ s => ⟨vs, .inl (.inl (p.keep _ _ h3 lst_noT h1)), h2.mono p.sub0⟩)⟩
    | tup ds =>
      obtain ⟨a, vs, rfl, h1, h2⟩ := q
      exact .inr (.inl ⟨a, rfl, ⟨vs, sqT_mono rs'.b.sub h1⟩, post _ H' Hs' b (walk_tup fun H2 Hs2 ⟨w2, p⟩ s => ⟨vs, sqT_mono (p.sub0.trans s) h1, h2.mono p.sub0⟩)⟩)
    | frz ds =>
      obtain ⟨a, vs, rfl, h1, h2⟩ := q
      exact .inl ⟨a, rfl, ⟨vs, rs'.b.sub.seq h1⟩, post _ H' Hs' b (walk_list fun H2 Hs2 ⟨w2, p⟩ s => ⟨vs, (p.sub0.trans s).seq h1, h2.mono p.sub0⟩)⟩
    | str s =>
      obtain ⟨rfl, o⟩ := q
      exact .inr (.inr ⟨_, rfl, post _ H' Hs' b (walk_str o)⟩)
    | _ => exact post.elim
  | exc c ns ds w' => rw [e] at post; exact post
  | bad => rw [e] at post; exact post
/-! ### range -/
def rngD (lo hi : Int) : List D := (List.range (hi - lo).toNat).map fun i => D.int (lo + (i : Nat))
theorem walk_rng {c : Cc} {lo : Int} {n : Nat} {P : Hp → Hp → Prop} : Walk c (Itr lo n) ((List.range n).map fun i => D.int (lo + (i : Nat))) P := by
  refine ⟨fun i d H Hs e p sm => ?_, fun H Hs p sm => ?_⟩
  · rw [List.getElem?_map] at e
    cases e1 : (List.range n)[i]? with
    | none => rw [e1] at e; cases e
    | some k =>
      rw [e1] at e
      cases e
      obtain ⟨hl, e2⟩ := List.getElem?_eq_some_iff.mp e1
      rw [List.getElem_range] at e2
      subst e2
      exact ⟨(by simpa using hl : i < n), fun x H' ⟨y1, y2⟩ => .inl ⟨y1, y2⟩⟩
  · show n ≤ _
    rw [List.length_map, List.length_range]; exact Nat.le_refl _
def mRng1 (m : ME D) : ME (List D) := fun sd w => (m sd w).bind fun d w1 => match d with
  | .int j => if -4611686018427387904 ≤ j ∧ j < 4611686018427387904 then .ok (rngD 0 j) w1 else .bad
  | _ => .bad
def fRng2 (d d2 : D) : Option (List D) := match d, d2 with
  | .int i, .int j => if (-4611686018427387904 ≤ i ∧ i < 4611686018427387904) ∧ -4611686018427387904 ≤ j ∧ j < 4611686018427387904 then some (rngD i j) else none
  | _, _ => none
def mRng2 (m m2 : ME D) : ME (List D) := fun sd w => (m sd w).bind fun d w1 => (m2 sd w1).bind fun d2 w2 => match fRng2 d d2 with
  | some ds => .ok ds w2
  | none => .bad
theorem ji_rng1 {m : ME D} (hm : X.mg "range" = none) (he : JE X G Wx e te m) (hg : Gl X "range" := by rfl) (hs : starEach [e] X.env = (false, eval e X.env) :: starEach [] X.env := by rfl) (hs2 : starEach [e] X.env = [(false, eval e X.env)] := by rfl) : JI X G Wx tg (.Call (.Name "range" p) [e] [] pos) (iRng1 (tCons te tNil)) (mRng1 m) := by
  refine ⟨pi_range1 hg hm (pa_cons he.pe pa_nil hs) hs2, fun sd w σ H Hs Q rs post => ?_⟩
  refine he.si sd w σ H Hs _ rs ?_
  unfold mRng1 at post
  cases e : m sd w with
  | ok d w' =>
    rw [e] at post
    intro v H' Hs' b q
    cases d with
    | int j =>
      have post' : PostI G Wx σ H Hs PM Q (if -4611686018427387904 ≤ j ∧ j < 4611686018427387904 then .ok (rngD 0 j) w' else .bad) := post
      split at post'
      · rename_i hj
        refine ⟨j, by rw [show v = .int j from q], hj.1, hj.2, post' _ H' Hs' b ?_⟩
        have := walk_rng (c := G.c) (lo := 0) (n := j.toNat) (P := PM H' Hs')
        unfold rngD
        rw [Int.sub_zero]
        exact this
      · exact post'.elim
    | _ => exact post.elim
  | exc c ns ds w' => rw [e] at post; exact post
  | bad => rw [e] at post; exact post
theorem ji_rng2 {m m2 : ME D} {e2 : Expr} {te2 : TE} (hm : X.mg "range" = none) (he : JE X G Wx e te m) (he2 : JE X G Wx e2 te2 m2) (hg : Gl X "range" := by rfl) (hs : starEach [e, e2] X.env = (false, eval e X.env) :: starEach [e2] X.env := by rfl) (hs2 : starEach [e2] X.env = (false, eval e2 X.env) :: starEach [] X.env := by rfl)
    (hs3 : starEach [e, e2] X.env = [(false, eval e X.env), (false, eval e2 X.env)] := by rfl) (hs4 : starEach [e2] X.env = [(false, eval e2 X.env)] := by rfl) : JI X G Wx tg (.Call (.Name "range" p) [e, e2] [] pos) (iRng2 (tCons te (tCons te2 tNil))) (mRng2 m m2) := by
  refine ⟨pi_range2 hg hm (pa_cons he.pe (pa_cons he2.pe pa_nil hs2) hs) hs3 hs4, fun sd w σ H Hs Q rs post => ?_⟩
  refine he.si sd w σ H Hs _ rs ?_
  unfold mRng2 at post
  cases e : m sd w with
  | ok d w' =>
    rw [e] at post
    intro v H' Hs' b q
    have rs' := rs.step b
    refine he2.si sd w' σ H' Hs' _ rs' ?_
    have post1 : PostI G Wx σ H Hs PM Q ((m2 sd w').bind fun d2 w2 => match fRng2 d d2 with
      | some ds => .ok ds w2
      | none => .bad) := post
    cases e2 : m2 sd w' with
    | ok d2 w2 =>
      rw [e2] at post1
      have post2 : PostI G Wx σ H Hs PM Q (match fRng2 d d2 with
        | some ds => .ok ds w2
        | none => .bad) := post1
      intro v2 H2 Hs2 b2 q2
      cases ef : fRng2 d d2 with
      | none => rw [ef] at post2; exact post2.elim
      | some ds =>
        rw [ef] at post2
        unfold fRng2 at ef
        split at ef
        · rename_i i j
          split at ef
          · rename_i hj
            cases ef
            exact ⟨i, j, by rw [show v = .int i from q, show v2 = .int j from q2], ⟨hj.1.1, hj.1.2, hj.2.1, hj.2.2⟩, post2 _ H2 Hs2 (b.trans b2) walk_rng⟩
          · cases ef
        · cases ef
    | exc c ns ds w' =>
      rw [e2] at post1
      exact fun dd H2 Hs2 b2 q2 => post1 dd H2 Hs2 (b.trans b2) q2
    | bad => rw [e2] at post1; exact post1
  | exc c ns ds w' => rw [e] at post; exact post
  | bad => rw [e] at post; exact post
/-! ### enumerate, zip of lists -/
def enumD (i : Nat) : List D → List D
  | [] => []
  | d :: ds => .tup [.int (i : Nat), d] :: enumD (i + 1) ds
theorem enumD_get : ∀ (ds : List D) (k i : Nat), (enumD k ds)[i]? = (ds[i]?).map fun d => .tup [.int ((k + i : Nat) : Int), d]
  | [], k, i => rfl
  | d :: ds, k, 0 => rfl
  | d :: ds, k, i + 1 => by
    show (enumD (k + 1) ds)[i]? = (ds[i]?).map _
    rw [enumD_get ds (k + 1) i, Nat.add_right_comm, Nat.add_assoc]
theorem enumD_len : ∀ (ds : List D) (k : Nat), (enumD k ds).length = ds.length
  | [], _ => rfl
  | _ :: ds, k => congrArg (· + 1) (enumD_len ds (k + 1))
theorem walk_enum {c : Cc} {K : PySem.W.Frag} {a : Addr} {ds : List D} {P : Hp → Hp → Prop} (h : ∀ H Hs, P H Hs → Same Hs H → ∃ vs, SqL K H a vs ∧ RepL c Hs ds vs) : Walk c (Ite K a) (enumD 0 ds) P := by
  refine ⟨fun i d H Hs e p s => ?_, fun H Hs p s => ?_⟩
  · obtain ⟨vs, h1, h2⟩ := h H Hs p s
    rw [enumD_get] at e
    cases e0 : ds[i]? with
    | none => rw [e0] at e; cases e
    | some d0 =>
      rw [e0] at e
      cases e
      obtain ⟨v, e1, r1⟩ := h2.get e0
      refine ⟨⟨vs, v, h1, e1⟩, fun x H' ⟨T, x0, y1, y2, y3, y4⟩ => .inr ⟨T, _, _, y2, y3, y1, rfl, ?_⟩⟩
      have := (y4 vs h1).symm.trans e1
      cases this
      exact ⟨_, _, rfl, by simp [Rep], _, _, rfl, r1, rfl⟩
  · obtain ⟨vs, h1, h2⟩ := h H Hs p s
    exact ⟨vs, h1, by rw [h2.length, enumD_len]; exact Nat.le_refl _⟩
def zipD : List D → List D → List D
  | a :: as, b :: bs => .tup [a, b] :: zipD as bs
  | _, _ => []
theorem zipD_get : ∀ (as bs : List D) (i : Nat) (d : D), (zipD as bs)[i]? = some d → ∃ a b, as[i]? = some a ∧ bs[i]? = some b ∧ d = .tup [a, b]
  | [], _, _, _, h => by simp [zipD] at h
  | _ :: _, [], _, _, h => by simp [zipD] at h
  | a :: as, b :: bs, 0, d, h => by
    simp only [zipD, List.getElem?_cons_zero, Option.some.injEq] at h
    exact ⟨a, b, rfl, rfl, h.symm⟩
  | a :: as, b :: bs, i + 1, d, h => zipD_get as bs i d (by simpa [zipD] using h)
theorem zipD_len : ∀ (as bs : List D), (zipD as bs).length = min as.length bs.length
  | [], _ => by simp [zipD]
  | _ :: _, [] => by simp [zipD]
  | a :: as, b :: bs => by simp only [zipD, List.length_cons, zipD_len as bs]; omega
theorem walk_zip {c : Cc} {K : PySem.W.Frag} {a b : Addr} {ds es : List D} {P : Hp → Hp → Prop} (h : ∀ H Hs, P H Hs → Same Hs H → ∃ vs, SqL K H a vs ∧ RepL c Hs ds vs) (h' : ∀ H Hs, P H Hs → Same Hs H → ∃ vs, SqL K H b vs ∧ RepL c Hs es vs) : Walk c (Itz K a b) (zipD ds es) P := by
  refine ⟨fun i d H Hs e p s => ?_, fun H Hs p s => ?_⟩
  · obtain ⟨vs, h1, h2⟩ := h H Hs p s
    obtain ⟨us, g1, g2⟩ := h' H Hs p s
    obtain ⟨d1, d2, e1, e2, rfl⟩ := zipD_get _ _ _ _ e
    obtain ⟨v, e3, r1⟩ := h2.get e1
    obtain ⟨u, e4, r2⟩ := g2.get e2
    refine ⟨⟨vs, us, v, u, h1, g1, e3, e4⟩, fun x H' ⟨T, x0, y0, y1, y2, y3, y4, y5⟩ => .inr ⟨T, _, _, y2, y3, y1, rfl, ?_⟩⟩
    have z1 := (y4 vs h1).symm.trans e3
    have z2 := (y5 us g1).symm.trans e4
    cases z1
    cases z2
    exact ⟨_, _, rfl, r1, _, _, rfl, r2, rfl⟩
  · obtain ⟨vs, h1, h2⟩ := h H Hs p s
    obtain ⟨us, g1, g2⟩ := h' H Hs p s
    refine ⟨vs, us, h1, g1, ?_⟩
    rw [h2.length, g2.length, zipD_len]
    omega
def mEnum (m : ME D) : ME (List D) := fun sd w => (m sd w).bind fun d w1 => match d with
  | .lst ds => .ok (enumD 0 ds) w1
  | _ => .bad
variable {elts : List Expr} {kk : Nat} {tpos : Pos}
theorem ji_enum {m : ME D} (hm : X.mg "enumerate" = none) (he : JE X G Wx e te m) (hg : Gl X "enumerate" := by rfl) (hs : starEach [e] X.env = (false, eval e X.env) :: starEach [] X.env := by rfl) (hs2 : starEach [e] X.env = [(false, eval e X.env)] := by rfl) (hK : X.K = G.c.K := by rfl) :
    JI X G Wx (.Tuple elts kk tpos) (.Call (.Name "enumerate" p) [e] [] pos) (iEnum G.c.K (tCons te tNil)) (mEnum m) := by
  refine ⟨by rw [← hK]; exact pi_enum hg hm (pa_cons he.pe pa_nil hs) hs2, fun sd w σ H Hs Q rs post => ?_⟩
  refine he.si sd w σ H Hs _ rs ?_
  unfold mEnum at post
  cases e : m sd w with
  | ok d w' =>
    rw [e] at post
    intro v H' Hs' b q
    have rs' := rs.step b
    cases d with
    | lst ds =>
      obtain ⟨a, vs, rfl, h1, h2⟩ := q
      exact ⟨a, vs, rfl, .inl (.inl (rs'.b.sub _ _ h1)), post _ H' Hs' b (walk_enum fun H2 Hs2 p s => ⟨vs, .inl (.inl (s _ _ (p _ _ h1))), h2.mono p⟩)⟩
    | _ => exact post.elim
  | exc c ns ds w' => rw [e] at post; exact post
  | bad => rw [e] at post; exact post
theorem jib_enum {m : ME D} (hm : X.mg "enumerate" = none) (he : JB X G Wx e te m) (hg : Gl X "enumerate" := by rfl) (hs : starEach [e] X.env = (false, eval e X.env) :: starEach [] X.env := by rfl) (hs2 : starEach [e] X.env = [(false, eval e X.env)] := by rfl) (hK : X.K = G.c.K := by rfl) :
    JIB X G Wx (.Tuple elts kk tpos) (.Call (.Name "enumerate" p) [e] [] pos) (iEnum G.c.K (tCons te tNil)) (mEnum m) := by
  refine ⟨by rw [← hK]; exact pi_enum hg hm (pa_cons he.pe pa_nil hs) hs2, fun sd w σ H Hs Q rs post => ?_⟩
  refine he.si sd w σ H Hs _ rs ?_
  unfold mEnum at post
  cases e : m sd w with
  | ok d w' =>
    rw [e] at post
    intro v H' Hs' b q
    cases d with
    | lst ds =>
      obtain ⟨a, vs, rfl, h1, h2, h3⟩ := q
      exact ⟨a, vs, rfl, .inl (.inl h1), post _ H' Hs' b (walk_enum fun H2 Hs2 ⟨w2, p⟩ s => ⟨vs, .inl (.inl (p.keep _ _ h3 lst_noT h1)), h2.mono p.sub0⟩)⟩
    | _ => exact post.elim
  | exc c ns ds w' => rw [e] at post; exact post
  | bad => rw [e] at post; exact post
def fZip (ds : List D) : Option (List D) := match ds with
  | [.lst a, .lst b] => some (zipD a b)
  | _ => none
def mZip (m : ME (List D)) : ME (List D) := fun sd w => (m sd w).bind fun ds w1 => match fZip ds with
  | some xs => .ok xs w1
  | none => .bad
theorem jib_zip {e2 : Expr} {t : TA} {m : ME (List D)} (hm : X.mg "zip" = none) (ha : JAB X G Wx [e, e2] t m) (hg : Gl X "zip" := by rfl)
    (hs : starEach [e, e2] X.env = (false, eval e X.env) :: starEach [e2] X.env := by rfl) (hpl : (backTo pos (starEach [e2] X.env)).any (·.1) = false := by rfl) (hK : X.K = G.c.K := by rfl) :
    JIB X G Wx (.Tuple elts kk tpos) (.Call (.Name "zip" p) [e, e2] [] pos) (iZip G.c.K t) (mZip m) := by
  refine ⟨by rw [← hK]; exact pi_zip hg hm ha.pe hs hpl, fun sd w σ H Hs Q rs post => ?_⟩
  refine ha.si sd w σ H Hs _ rs ?_
  unfold mZip at post
  cases e : m sd w with
  | ok ds w' =>
    rw [e] at post
    intro v H' Hs' b q
    have post' : PostI G Wx σ H Hs (PB G) Q (match fZip ds with
      | some xs => .ok xs w'
      | none => .bad) := post
    cases ef : fZip ds with
    | none => rw [ef] at post'; exact post'.elim
    | some xs =>
    rw [ef] at post'
    unfold fZip at ef
    split at ef
    · cases ef
      obtain ⟨v1, v2, rfl, ⟨a1, vs, rfl, h1, h2, h3⟩, ⟨a2, us, rfl, g1, g2, g3⟩⟩ := repBL2 q
      exact ⟨a1, a2, vs, us, rfl, .inl (.inl h1), .inl (.inl g1), post' _ H' Hs' b (walk_zip (fun H2 Hs2 ⟨w2, p⟩ s => ⟨vs, .inl (.inl (p.keep _ _ h3 lst_noT h1)), h2.mono p.sub0⟩) (fun H2 Hs2 ⟨w2, p⟩ s => ⟨us, .inl (.inl (p.keep _ _ g3 lst_noT g1)), g2.mono p.sub0⟩))⟩
    · cases ef
  | exc c ns ds w' => rw [e] at post; exact post
  | bad => rw [e] at post; exact post
theorem ji_zip {e2 : Expr} {t : TA} {m : ME (List D)} (hm : X.mg "zip" = none) (ha : JA X G Wx [e, e2] t m) (hg : Gl X "zip" := by rfl)
    (hs : starEach [e, e2] X.env = (false, eval e X.env) :: starEach [e2] X.env := by rfl) (hpl : (backTo pos (starEach [e2] X.env)).any (·.1) = false := by rfl) (hK : X.K = G.c.K := by rfl) :
    JI X G Wx (.Tuple elts kk tpos) (.Call (.Name "zip" p) [e, e2] [] pos) (iZip G.c.K t) (mZip m) := by
  refine ⟨by rw [← hK]; exact pi_zip hg hm ha.pe hs hpl, fun sd w σ H Hs Q rs post => ?_⟩
  refine ha.si sd w σ H Hs _ rs ?_
  unfold mZip at post
  cases e : m sd w with
  | ok ds w' =>
    rw [e] at post
    intro v H' Hs' b q
    have rs' := rs.step b
    have post' : PostI G Wx σ H Hs PM Q (match fZip ds with
      | some xs => .ok xs w'
      | none => .bad) := post
    cases ef : fZip ds with
    | none => rw [ef] at post'; exact post'.elim
    | some xs =>
    rw [ef] at post'
    unfold fZip at ef
    split at ef
    · cases ef
      obtain ⟨v1, r1, rfl, ⟨a1, vs, rfl, h1, h2⟩, v2, r2, rfl, ⟨a2, us, rfl, g1, g2⟩, g4⟩ := q
      rw [show r2 = [] from g4]
      exact ⟨a1, a2, vs, us, rfl, .inl (.inl (rs'.b.sub _ _ h1)), .inl (.inl (rs'.b.sub _ _ g1)), post' _ H' Hs' b (walk_zip (fun H2 Hs2 p s => ⟨vs, .inl (.inl (s _ _ (p _ _ h1))), h2.mono p⟩) (fun H2 Hs2 p s => ⟨us, .inl (.inl (s _ _ (p _ _ g1))), g2.mono p⟩))⟩
    · cases ef
  | exc c ns ds w' => rw [e] at post; exact post
  | bad => rw [e] at post; exact post
/-! ### for, while -/
def forL (g : D → SD → Option SD) (body : MS) : List D → SD → List D → Out
  | [], sd, w => .nx sd w
  | d :: ds, sd, w => match g d sd with
    | none => .bad
    | some sd1 => match body sd1 w with
      | .nx sd2 w2 => forL g body ds sd2 w2
      | .cnt sd2 w2 => forL g body ds sd2 w2
      | .brk sd2 w2 => .nx sd2 w2
      | r => r
def mFor (g : D → SD → Option SD) (mi : ME (List D)) (body : MS) : MS := fun sd w => eb (mi sd w) sd fun ds w1 => forL g body ds sd w1
theorem js_for {it : Expr} {bs : List Stmt} {ti : TI} {mi : ME (List D)} {tgt : TG} {g : D → SD → Option SD} {js : List Nat} {tb : TS} {mb : MS} (hp : PassesOwn (model X.prog X.w) X.A X.env X.xe) (hi : JI X G Wx tg it ti mi) (hg : JG X G tg tgt g js) (hb : JSs X G Wx bs tb mb) (hc : X.calm = true := by rfl)
    (hs : ∀ x, foldedSetIterable it X.env x = pure x := by intro _; rfl) : JS X G Wx (.For tg it bs [] pos) (tFor ti tgt tb) (mFor g mi mb) := by
  refine ⟨ps_for hp hc hi.pe hg.pe hb.pe hs, fun sd w σ H Hs De rs post => ?_⟩
  refine hi.si sd w σ H Hs _ rs ?_
  unfold mFor at post
  cases e : mi sd w with
  | exc c ns ds w' =>
    rw [e] at post
    exact fun dd H' Hs' b q => post dd σ H' Hs' (rs.step b) q
  | bad => rw [e] at post; exact post
  | ok ds w1 =>
    rw [e] at post
    intro J H1 Hs1 b1 wk
    have rs1 := rs.step b1
    have post1 : PostS G Wx Hs1 De (forL g mb ds sd w1) := PostS.shift b1.sub0 post
    refine ⟨fun i m σ H => ∃ sd w Hs, RS G sd w σ H Hs ∧ Same Hs1 Hs ∧ i + m = ds.length ∧ PostS G Wx Hs1 De (forL g mb (ds.drop i) sd w), ⟨ds.length, sd, w1, Hs1, rs1, Same.refl _, Nat.zero_add _, post1⟩, fun i m σ2 H2 h => ?_⟩
    obtain ⟨sd2, w2, Hs2, rs2, sm, em, p2⟩ := h
    cases ei : ds[i]? with
    | none =>
      have hi : ds.length ≤ i := List.getElem?_eq_none_iff.mp ei
      have e0 : i = ds.length := by omega
      subst e0
      rw [List.drop_length] at p2
      exact .inl ⟨wk.stop H2 Hs2 sm rs2.b.sub, p2 σ2 H2 Hs2 rs2 sm⟩
    | some d =>
      have hil : i < ds.length := (List.getElem?_eq_some_iff.mp ei).1
      have e1 : ds.drop i = d :: ds.drop (i + 1) := by
        rw [List.drop_eq_getElem_cons hil]
        rw [List.getElem?_eq_getElem hil] at ei
        rw [Option.some.inj ei]
      rw [e1] at p2
      unfold forL at p2
      obtain ⟨g1, g2⟩ := wk.go i d H2 Hs2 ei sm rs2.b.sub
      refine .inr ⟨g1, fun σ' H' => ∃ sd w Hs, RS G sd w σ' H' Hs ∧ Same Hs1 Hs ∧ PostS G Wx Hs1 De (forL g mb (ds.drop (i + 1)) sd w), fun σ' H' hN => ?_, fun x H' hy => ?_⟩
      · obtain ⟨sd3, w3, Hs3, r3, s3, p3⟩ := hN
        exact ⟨m - 1, by omega, sd3, w3, Hs3, r3, s3, by omega, p3⟩
      · -- the turn's heap
        have key : ∀ Hs3, RS G sd2 w2 σ2 H' Hs3 → Same Hs1 Hs3 → Rep G.c Hs3 d x → tgt x σ2 H' fun σ3 H3 => tb { De with nx := fun σ' H' => ∃ sd w Hs, RS G sd w σ' H' Hs ∧ Same Hs1 Hs ∧ PostS G Wx Hs1 De (forL g mb (ds.drop (i + 1)) sd w), ct := fun σ' H' => ∃ sd w Hs, RS G sd w σ' H' Hs ∧ Same Hs1 Hs ∧ PostS G Wx Hs1 De (forL g mb (ds.drop (i + 1)) sd w), bk := De.nx } σ3 H3 := by
          intro Hs3 rs3 sm3 rep
          cases eg : g d sd2 with
          | none => rw [eg] at p2; exact p2.elim
          | some sd3 =>
            rw [eg] at p2
            refine hg.si d x sd2 w2 σ2 H' Hs3 _ rs3 rep (fun sd' e' σ3 rs4 _ => ?_) (by rw [eg]; rfl)
            rw [eg] at e'
            cases e'
            refine hb.si sd3 w2 σ3 H' Hs3 _ rs4 ?_
            simp only at p2
            cases eo : mb sd3 w2 with
            | nx sd5 w5 =>
              rw [eo] at p2
              exact fun σ' H'' Hs'' r q => ⟨sd5, w5, Hs'', r, sm3.trans q, p2⟩
            | cnt sd5 w5 =>
              rw [eo] at p2
              exact fun σ' H'' Hs'' r q => ⟨sd5, w5, Hs'', r, sm3.trans q, p2⟩
            | brk sd5 w5 =>
              rw [eo] at p2
              exact fun σ' H'' Hs'' r q => p2 σ' H'' Hs'' r (sm3.trans q)
            | ret d w' => rw [eo] at p2; exact p2
            | exc sd' c ns ds w' => rw [eo] at p2; exact p2
            | bad => rw [eo] at p2; exact p2
        rcases g2 x H' hy with ⟨rfl, rep⟩ | ⟨T, vs, es, t1, rfl, rfl, rfl, rep⟩
        · exact key Hs2 rs2 sm rep
        · have ba := rs2.b.alloc (o := .tup vs) t1 tup_noT
          exact key _ (rs2.step ba) (sm.trans ba.sub0) ⟨T, vs, rfl, .inl (.inl upd_same), rep.mono ba.sub0⟩
def whileL (mt : ME Bool) (body : MS) : Nat → SD → List D → Out
  | 0, _, _ => .bad
  | n + 1, sd, w => eb (mt sd w) sd fun b w1 => if b = true then (match body sd w1 with
      | .nx sd2 w2 => whileL mt body n sd2 w2
      | .cnt sd2 w2 => whileL mt body n sd2 w2
      | .brk sd2 w2 => .nx sd2 w2
      | r => r) else .nx sd w1
theorem js_while (n : Nat) {c : Expr} {bs : List Stmt} {tc : TT} {mc : ME Bool} {tb : TS} {mb : MS} (hp : PassesOwn (model X.prog X.w) X.A X.env X.xe) (hc : JT X G Wx c tc mc) (hb : JSs X G Wx bs tb mb) : JS X G Wx (.While c bs [] pos) (tWhile tc tb) (whileL mc mb n) := by
  refine ⟨ps_while hp hc.pe hb.pe, fun sd w σ H Hs De rs post => ?_⟩
  refine ⟨fun m σ' H' => ∃ sd w Hs', RS G sd w σ' H' Hs' ∧ PostS G Wx Hs' De (whileL mc mb m sd w), ⟨n, sd, w, Hs, rs, post⟩, fun m σ1 H1 h => ?_⟩
  obtain ⟨sd1, w1, Hs1, rs1, p1⟩ := h
  cases m with
  | zero => exact p1.elim
  | succ m =>
    unfold whileL at p1
    refine hc.si.bindS rs1 p1 fun b w2 b' H2 Hs2 rs2 b2 q2 p2 => ?_
    obtain rfl : b = b' := q2
    cases b with
    | false => exact p2 σ1 H2 Hs2 rs2 (Same.refl _)
    | true =>
      refine ⟨fun σ' H' => ∃ sd w Hs', RS G sd w σ' H' Hs' ∧ PostS G Wx Hs' De (whileL mc mb m sd w), fun σ' H' h => ⟨m, Nat.lt_succ_self m, h⟩, ?_⟩
      refine hb.si sd1 w2 σ1 H2 Hs2 _ rs2 ?_
      simp only [if_true] at p2
      cases eo : mb sd1 w2 with
      | nx sd5 w5 =>
        rw [eo] at p2
        exact fun σ' H'' Hs'' r q => ⟨sd5, w5, Hs'', r, p2.shift q⟩
      | cnt sd5 w5 =>
        rw [eo] at p2
        exact fun σ' H'' Hs'' r q => ⟨sd5, w5, Hs'', r, p2.shift q⟩
      | brk sd5 w5 =>
        rw [eo] at p2
        exact fun σ' H'' Hs'' r q => p2 σ' H'' Hs'' r q
      | ret d w' => rw [eo] at p2; exact p2
      | exc sd' c ns ds w' => rw [eo] at p2; exact p2
      | bad => rw [eo] at p2; exact p2
end
end FT
end
section
set_option Elab.async false
set_option linter.all false
set_option maxRecDepth 100000
set_option maxHeartbeats 4000000
namespace FT
open PySem PySem.Spec PyProof.Rows L2
/-! ### comprehensions -/
def wipeD (sd : SD) : List Nat → SD
  | [] => sd
  | v :: vs => (wipeD sd vs).set v .no
def compL (g : D → SD → Option SD) (mt : ME Bool) (me : ME D) (sd0 : SD) : List D → List D → Option (List D × List D)
  | [], w => some ([], w)
  | d :: ds, w => match g d sd0 with
    | none => none
    | some sd1 => match mt sd1 w with
      | .ok true w1 => (match me sd1 w1 with
        | .ok y w2 => (match compL g mt me sd0 ds w2 with
          | some (ys, w3) => some (y :: ys, w3)
          | none => none)
        | _ => none)
      | .ok false w1 => compL g mt me sd0 ds w1
      | _ => none
def mComp (mi : ME (List D)) (g : D → SD → Option SD) (mt : ME Bool) (me : ME D) (vs : List Nat) : ME (List D) := fun sd w => (mi sd w).bind fun ds w1 => if ds.length ≤ 16777216 then (match compL g mt me (wipeD sd vs) ds w1 with
  | some (ys, w2) => .ok ys w2
  | none => .bad) else .bad
structure JTs (X : Cx) (G : Gh) (Wx : WX) (es : List Expr) (t : TT) (m : ME Bool) : Prop where
  pe : PTs X es t
  si : Sim G Wx ρT t m
def mYes : ME Bool := fun _ w => .ok true w
abbrev F0 : WX := fun _ _ _ _ => False
section
variable {X : Cx} {G : Gh} {Wx : WX} {w w' w1 w2 : List D} {H Hs H' Hs' H1 Hs1 H2 Hs2 : Hp} {sd : SD} {σ : L2.St}
theorem jts_nil : JTs X G Wx [] tYes mYes := ⟨pts_nil, fun sd w σ H Hs Q rs post => post true H Hs rs.b.refl_at rfl⟩
theorem jts_one {c : Expr} {t : TT} {m : ME Bool} (h : JT X G Wx c t m) : JTs X G Wx [c] t m := ⟨pts_one h.pe, h.si⟩
theorem SL.unset {i : Nat} (s : SL G sd σ H Hs) : SL G (sd.set i .no) (σ.set i none) H Hs where
  len := by rw [List.length_set, List.length_set, s.len]
  val := fun j e h => by
    rcases get_set h with ⟨rfl, h2, _⟩ | ⟨hn, h2⟩
    · cases h2
    · rw [List.getElem?_set_ne hn]; exact s.val j e h2
  own := fun j es h => by
    rcases get_set h with ⟨rfl, h2, _⟩ | ⟨hn, h2⟩
    · cases h2
    · rw [List.getElem?_set_ne hn]; exact s.own j es h2
  sep := fun j l es fs a h1 h2 h3 h4 => by
    rcases get_set h1 with ⟨rfl, h5, _⟩ | ⟨n1, h5⟩
    · cases h5
    · rcases get_set h2 with ⟨rfl, h6, _⟩ | ⟨n2, h6⟩
      · cases h6
      · rw [List.getElem?_set_ne n1] at h3
        rw [List.getElem?_set_ne n2] at h4
        exact s.sep j l es fs a h5 h6 h3 h4
theorem SL.wipe (s : SL G sd σ H Hs) : ∀ vs : List Nat, SL G (wipeD sd vs) (L2.wipe σ vs) H Hs
  | [] => s
  | _ :: vs => (SL.wipe s vs).unset
theorem wipe_wipe {σ : L2.St} {us : List Nat} : ∀ {vs : List Nat}, (∀ v ∈ vs, v ∈ us) → L2.wipe (L2.wipe σ vs) us = L2.wipe σ us
  | [], _ => rfl
  | v :: vs, h => by
    show L2.wipe ((L2.wipe σ vs).set v none) us = _
    rw [wipe_set (h v List.mem_cons_self)]
    exact wipe_wipe fun x hx => h x (List.mem_cons_of_mem _ hx)
theorem SL.writeOther {d : Addr} {o : HO} (s : SL G sd σ H Hs) (n : NotOwn d sd σ) : SL G sd σ (upd H d o) Hs where
  len := s.len
  val := s.val
  own := fun j es h => by
    obtain ⟨b, vs, h4, h5, h6, h7, h8, h9⟩ := s.own j es h
    exact ⟨b, vs, h4, by rw [upd_ne (fun z => n j es h (by rw [h4, z]))]; exact h5, h6, h7, h8, h9⟩
  sep := s.sep
theorem none_stay (b : B (G.at_ H Hs) w' H' Hs') {a : Addr} {o : HO} (h1 : H a = some o) (hn : NoT o) (h2 : Hs a = none) : Hs' a = none := by
  cases e : Hs' a with
  | none => rfl
  | some o' =>
    rcases b.new a o' e with q | q
    · rw [show Hs a = some o' from q] at h2; cases h2
    · exact absurd hn (q o h1)
/-- the loop of a clause that fills the list at d -/
theorem loop_in {J : It} {ds : List D} {P : Hp → Hp → Prop} {g : D → SD → Option SD} {js vs : List Nat} {tgt : TG} {tt : TT} {mt : ME Bool} {te : TE} {me : ME D} {Hb Hsb : Hp} {wb : List D} {d : Addr} {acc : List V} {accD ys wF : List D} {Qd : Hp → Prop} {Z : Hp → Hp → Prop}
    (hZ1 : ∀ w H Hs H' Hs', Z H Hs → B (G.at_ H Hs) w H' Hs' → Z H' Hs') (hZ2 : ∀ H Hs o, Z H Hs → Z (upd H d o) Hs) (z0 : Z H Hs) (wk : Walk G.c J ds P) (hst : ∀ w Hc Hs Hc' Hs', P Hc Hs → B (G.at_ Hb Hsb) w Hc' Hs' → Same Hs Hs' → P Hc' Hs') (hg : SimG G tgt g js) (hjs : ∀ j ∈ js, j ∈ vs) (ht : Sim G F0 ρT tt mt) (he : Sim G F0 (ρE G) te me)
    (bG : B G wb Hb Hsb) (hd : Hb d = none) (no : NotOwn d sd σ) (b0 : B (G.at_ Hb Hsb) w H Hs) (s0 : SL G sd σ H Hs) (h0 : H d = some (.lst acc)) (r0 : RepL G.c Hs accD acc) (n0 : Hs d = none) (p0 : P H Hs) (hlen : accD.length + ds.length ≤ 16777216)
    (ec : compL g mt me (wipeD sd vs) ds w = some (ys, wF)) (fin : ∀ Hc' Hs' acc', B (G.at_ Hb Hsb) wF Hc' Hs' → Same Hs Hs' → Z Hc' Hs' → SL G sd σ Hc' Hs' → Hc' d = some (.lst acc') → RepL G.c Hs' (accD ++ ys) acc' → Hs' d = none → Qd Hc') :
    ∃ W : Nat → Nat → Hp → Prop, (∃ m, W 0 m H) ∧ ∀ i m H, W i m H →
      (J.stop i H ∧ Qd H) ∨ (J.go i H ∧ ∃ Nx : Hp → Prop, (∀ H', Nx H' → ∃ m', m' < m ∧ W (i + 1) m' H') ∧ ∀ x H', J.yld i H x H' → tgt x (L2.wipe σ vs) H' fun σ2 H2 => L2.wipe σ2 vs = L2.wipe σ vs ∧ tt σ2 H2 fun b H3 =>
        if b = true then te σ2 H3 fun y H4 => ∃ acc, H4 d = some (.lst acc) ∧ acc.length < sizeLine ∧ Nx (upd H4 d (.lst (acc ++ [y]))) else Nx H3) := by
  refine ⟨fun i m Hc => ∃ w Hsc acc1 accD1 rest, B (G.at_ Hb Hsb) w Hc Hsc ∧ Same Hs Hsc ∧ Z Hc Hsc ∧ SL G sd σ Hc Hsc ∧ Hc d = some (.lst acc1) ∧ RepL G.c Hsc accD1 acc1 ∧ Hsc d = none ∧ P Hc Hsc ∧ i + m = ds.length ∧ accD1.length ≤ accD.length + i ∧
      compL g mt me (wipeD sd vs) (ds.drop i) w = some (rest, wF) ∧ accD1 ++ rest = accD ++ ys, ⟨ds.length, w, Hs, acc, accD, ys, b0, Same.refl _, z0, s0, h0, r0, n0, p0, Nat.zero_add _, Nat.le_refl _, ec, rfl⟩, fun i m Hc h => ?_⟩
  obtain ⟨wc, Hsc, acc1, accD1, rest, b, sm, zz, s, hD, rD, nD, p, em, el, ecc, eys⟩ := h
  have hap : G.c.ap ≠ some d := (bG.none_live hd).1
  cases ei : ds[i]? with
  | none =>
    have hi : ds.length ≤ i := List.getElem?_eq_none_iff.mp ei
    have e0 : i = ds.length := by omega
    subst e0
    rw [List.drop_length] at ecc
    simp only [compL, Option.some.injEq, Prod.mk.injEq] at ecc
    obtain ⟨rfl, rfl⟩ := ecc
    rw [List.append_nil] at eys
    subst eys
    exact .inl ⟨wk.stop Hc Hsc p b.sub, fin Hc Hsc acc1 b sm zz s hD rD nD⟩
  | some x0 =>
    have hil : i < ds.length := (List.getElem?_eq_some_iff.mp ei).1
    have e1 : ds.drop i = x0 :: ds.drop (i + 1) := by
      rw [List.drop_eq_getElem_cons hil]
      rw [List.getElem?_eq_getElem hil] at ei
      rw [Option.some.inj ei]
    rw [e1] at ecc
    simp only [compL] at ecc
    obtain ⟨g1, g2⟩ := wk.go i x0 Hc Hsc ei p b.sub
    refine .inr ⟨g1, fun H' => ∃ w Hsc acc1 accD1 rest, B (G.at_ Hb Hsb) w H' Hsc ∧ Same Hs Hsc ∧ Z H' Hsc ∧ SL G sd σ H' Hsc ∧ H' d = some (.lst acc1) ∧ RepL G.c Hsc accD1 acc1 ∧ Hsc d = none ∧ P H' Hsc ∧ accD1.length ≤ accD.length + (i + 1) ∧
      compL g mt me (wipeD sd vs) (ds.drop (i + 1)) w = some (rest, wF) ∧ accD1 ++ rest = accD ++ ys, fun H' hN => ?_, fun x H' hy => ?_⟩
    · obtain ⟨w3, Hs3, a3, aD3, rest3, q1, q1b, q1c, q2, q3, q4, q5, q6, q7, q8, q9⟩ := hN
      exact ⟨m - 1, by omega, w3, Hs3, a3, aD3, rest3, q1, q1b, q1c, q2, q3, q4, q5, q6, by omega, q7, q8, q9⟩
    · have key : ∀ Hs3, B (G.at_ Hb Hsb) wc H' Hs3 → Same Hsc Hs3 → Z H' Hs3 → SL G sd σ H' Hs3 → H' d = some (.lst acc1) → Hs3 d = none → Rep G.c Hs3 x0 x → tgt x (L2.wipe σ vs) H' fun σ2 H2 => L2.wipe σ2 vs = L2.wipe σ vs ∧ tt σ2 H2 fun b H3 =>
          if b = true then te σ2 H3 fun y H4 => ∃ acc, H4 d = some (.lst acc) ∧ acc.length < sizeLine ∧ (∃ w Hsc acc1 accD1 rest, B (G.at_ Hb Hsb) w (upd H4 d (.lst (acc ++ [y]))) Hsc ∧ Same Hs Hsc ∧ Z (upd H4 d (.lst (acc ++ [y]))) Hsc ∧ SL G sd σ (upd H4 d (.lst (acc ++ [y]))) Hsc ∧ (upd H4 d (.lst (acc ++ [y]))) d = some (.lst acc1) ∧ RepL G.c Hsc accD1 acc1 ∧ Hsc d = none ∧ P (upd H4 d (.lst (acc ++ [y]))) Hsc ∧ accD1.length ≤ accD.length + (i + 1) ∧
            compL g mt me (wipeD sd vs) (ds.drop (i + 1)) w = some (rest, wF) ∧ accD1 ++ rest = accD ++ ys) else (∃ w Hsc acc1 accD1 rest, B (G.at_ Hb Hsb) w H3 Hsc ∧ Same Hs Hsc ∧ Z H3 Hsc ∧ SL G sd σ H3 Hsc ∧ H3 d = some (.lst acc1) ∧ RepL G.c Hsc accD1 acc1 ∧ Hsc d = none ∧ P H3 Hsc ∧ accD1.length ≤ accD.length + (i + 1) ∧
            compL g mt me (wipeD sd vs) (ds.drop (i + 1)) w = some (rest, wF) ∧ accD1 ++ rest = accD ++ ys) := by
        intro Hs3 b3 sm3 z3 s3 hD3 nD3 rep
        cases eg : g x0 (wipeD sd vs) with
        | none => rw [eg] at ecc; cases ecc
        | some sd1 =>
          rw [eg] at ecc
          simp only at ecc
          have rs3 : RS G (wipeD sd vs) wc (L2.wipe σ vs) H' Hs3 := ⟨bG.trans b3, s3.wipe vs⟩
          refine hg x0 x _ wc _ H' Hs3 _ rs3 rep (fun sd' e' σ4 rs4 wp => ?_) (by rw [eg]; rfl)
          rw [eg] at e'
          cases e'
          refine ⟨by rw [wp.wp vs hjs, wipe_wipe fun v hv => hv], ?_⟩
          refine ht sd1 wc σ4 H' Hs3 _ rs4 ?_
          cases et : mt sd1 wc with
          | exc c ns ds w' => rw [et] at ecc; cases ecc
          | bad => rw [et] at ecc; cases ecc
          | ok k w5 =>
            rw [et] at ecc
            intro k' H5 Hs5 b5 ek
            obtain rfl : k = k' := ek
            have rs5 := rs4.step b5
            have b5' := b3.trans b5
            have s5 := s3.step b5
            have hD5 := b5.keep d _ hap lst_noT hD3
            have nD5 := none_stay b5 hD3 lst_noT nD3
            cases k with
            | false =>
              exact ⟨w5, Hs5, acc1, accD1, rest, b5', (sm.trans sm3).trans b5.sub0, hZ1 _ _ _ _ _ z3 b5, s5, hD5, rD.mono (sm3.trans b5.sub0), nD5, hst _ _ _ _ _ p b5' (sm3.trans b5.sub0), by omega, ecc, eys⟩
            | true =>
              simp only at ecc
              refine he sd1 w5 σ4 H5 Hs5 _ rs5 ?_
              cases ee : me sd1 w5 with
              | exc c ns ds w' => rw [ee] at ecc; cases ecc
              | bad => rw [ee] at ecc; cases ecc
              | ok y w6 =>
                rw [ee] at ecc
                simp only at ecc
                intro v H6 Hs6 b6 rv
                have b6' := b5'.trans b6
                have s6 := s5.step b6
                have hD6 := b6.keep d _ hap lst_noT hD5
                have nD6 := none_stay b6 hD5 lst_noT nD5
                have sm6 : Same Hsc Hs6 := sm3.trans (b5.sub0.trans b6.sub0)
                cases er : compL g mt me (wipeD sd vs) (ds.drop (i + 1)) w6 with
                | none => rw [er] at ecc; cases ecc
                | some pr =>
                  obtain ⟨ys', wF'⟩ := pr
                  rw [er] at ecc
                  simp only [Option.some.injEq, Prod.mk.injEq] at ecc
                  obtain ⟨rfl, rfl⟩ := ecc
                  have bw : B (G.at_ Hb Hsb) w6 (upd H6 d (.lst (acc1 ++ [v]))) Hs6 := b6'.writeOwn hD6 nD6 (fun o' e => by rw [show Hb d = some o' from e] at hd; cases hd) hap
                  refine ⟨acc1, hD6, ?_, w6, Hs6, acc1 ++ [v], accD1 ++ [y], ys', bw, sm.trans sm6, hZ2 _ _ _ (hZ1 _ _ _ _ _ (hZ1 _ _ _ _ _ z3 b5) b6), s6.writeOther no, upd_same, (rD.mono sm6).append (RepL.one rv), nD6, hst _ _ _ _ _ p bw sm6, ?_, er, ?_⟩
                  · rw [rD.length, sizeLine_eq]; omega
                  · rw [List.length_append]; show accD1.length + 1 ≤ _; omega
                  · rw [List.append_assoc]; exact eys
      rcases g2 x H' hy with ⟨rfl, rep⟩ | ⟨T, us, es, t1, rfl, rfl, rfl, rep⟩
      · exact key Hsc b (Same.refl _) zz s hD nD rep
      · have ba := (bG.trans b).alloc (o := .tup us) t1 tup_noT
        have hT : d ≠ T := fun z => by rw [← z, hD] at t1; cases t1
        exact key _ (b.trans ba) ba.sub0 (hZ1 _ _ _ _ _ zz ba) (s.step ba) (by rw [upd_ne hT]; exact hD) (by rw [upd_ne hT]; exact nD) ⟨T, us, rfl, .inl (.inl upd_same), rep.mono ba.sub0⟩
theorem notOwn_wipe {d : Addr} (n : NotOwn d sd σ) : ∀ vs : List Nat, NotOwn d (wipeD sd vs) (L2.wipe σ vs)
  | [] => n
  | v :: vs => fun i ds h => by
    rcases get_set h with ⟨rfl, h2, _⟩ | ⟨hn, h2⟩
    · cases h2
    · show ((L2.wipe σ vs).set v none)[i]? ≠ _
      rw [List.getElem?_set_ne hn]; exact notOwn_wipe n vs i ds h2
variable {elt tg it : Expr} {ifs : List Expr} {scope : Scope} {own : List (Str × Nat)} {pos : Pos} {ti : TI} {mi : ME (List D)} {tgt : TG} {g : D → SD → Option SD} {js : List Nat} {tt : TT} {mt : ME Bool} {te : TE} {me : ME D}
theorem notOwn_new {d : Addr} (s : SL G sd σ H Hs) (hd : H d = none) : NotOwn d sd σ := fun i ds h e => by
  obtain ⟨b, vs, h4, h5, _⟩ := s.own i ds h
  rw [e] at h4
  cases h4
  rw [hd] at h5; cases h5
theorem jf_comp (hN : X.N.Nodup) (hi : JIB X G Wx tg it ti mi) (ok : BlkOk X.N X.env.scope scope own)
    (hg : ∀ (s : Shared) (H : Hp) (C : Addr) (cl : List (Str × Addr)) (fp : List Addr), JG (X.blk s H scope (compEnvC scope cl C X.env) fp) G tg tgt g js)
    (ht : ∀ (s : Shared) (H : Hp) (C : Addr) (cl : List (Str × Addr)) (fp : List Addr), JTs (X.blk s H scope (compEnvC scope cl C X.env) fp) G F0 ifs tt mt)
    (he : ∀ (s : Shared) (H : Hp) (C : Addr) (cl : List (Str × Addr)) (fp : List Addr), JE (X.blk s H scope (compEnvC scope cl C X.env) fp) G F0 elt te me)
    (hjs : (∀ j ∈ js, j ∈ own.map (·.2)) := by decide) (hc : X.calm = true := by rfl) (hs : ∀ x, foldedSetIterable it X.env x = pure x := by intro _; rfl) :
    JF X G Wx (.ListComp elt [⟨tg, it, ifs, 0⟩] scope pos) (tLc ti tgt tt te (own.map (·.2))) (mComp mi g mt me (own.map (·.2))) := by
  refine ⟨pe_lc hc hN hi.pe ok (fun s H C cl fp => (hg s H C cl fp).pe) (fun s H C cl fp => (ht s H C cl fp).pe) (fun s H C cl fp => (he s H C cl fp).pe) hs, fun sd w σ H Hs Q rs post => ?_⟩
  refine hi.si sd w σ H Hs _ rs ?_
  unfold mComp at post
  cases e : mi sd w with
  | exc c ns ds w' => rw [e] at post; exact post
  | bad => rw [e] at post; exact post
  | ok ds w1 =>
    rw [e] at post
    have post1 : PostF G Wx σ H Hs Q (if ds.length ≤ 16777216 then (match compL g mt me (wipeD sd (own.map (·.2))) ds w1 with
      | some (ys, w2) => .ok ys w2
      | none => .bad) else .bad) := post
    intro J H1 Hs1 b1 wk d hd
    have rs1 := rs.step b1
    split at post1
    · rename_i hl
      cases ec : compL g mt me (wipeD sd (own.map (·.2))) ds w1 with
      | none => rw [ec] at post1; exact post1.elim
      | some pr =>
        obtain ⟨ys, wF⟩ := pr
        rw [ec] at post1
        have ba := rs1.b.allocOwn (o := .lst []) hd
        have no := notOwn_new rs1.s hd
        have ⟨hap, hsp⟩ := rs1.b.none_live hd
        refine loop_in (accD := []) (P := PB G H1 Hs1) (Z := fun _ _ => True) (fun _ _ _ _ _ _ _ => trivial) (fun _ _ _ _ => trivial) trivial wk (fun w Hc Hs Hc' Hs' _ b _ => ⟨w, b⟩) (hg X.s_0 X.H_0 0 [] []).si hjs (ht X.s_0 X.H_0 0 [] []).si (he X.s_0 X.H_0 0 [] []).si rs1.b hd no ba (rs1.s.step ba) upd_same rfl hsp ⟨w1, ba⟩ (by show 0 + ds.length ≤ _; omega) ec fun Hc' Hs' acc' b' _ _ _ h1 h2 h3 => ?_
        exact post1 d acc' Hc' Hs' (b1.trans b') h1 h2 h3 (fun o' e hn => by
          have := b1.keep d o' hap hn e
          rw [hd] at this; cases this) hap
    · exact post1.elim
/-! ### two clauses -/
def comp2L (g : D → SD → Option SD) (mt : ME Bool) (mi1 : ME (List D)) (g1 : D → SD → Option SD) (mt1 : ME Bool) (me : ME D) (vs1 : List Nat) (sd0 : SD) : List D → List D → Option (List D × List D)
  | [], w => some ([], w)
  | d :: ds, w => match g d sd0 with
    | none => none
    | some sd1 => match mt sd1 w with
      | .ok true w1 => (match mi1 sd1 w1 with
        | .ok es w2 => if es.length ≤ 1000000 then (match compL g1 mt1 me (wipeD sd1 vs1) es w2 with
          | some (ys, w3) => (match comp2L g mt mi1 g1 mt1 me vs1 sd0 ds w3 with
            | some (zs, w4) => some (ys ++ zs, w4)
            | none => none)
          | none => none) else none
        | _ => none)
      | .ok false w1 => comp2L g mt mi1 g1 mt1 me vs1 sd0 ds w1
      | _ => none
def mComp2 (mi : ME (List D)) (g : D → SD → Option SD) (mt : ME Bool) (mi1 : ME (List D)) (g1 : D → SD → Option SD) (mt1 : ME Bool) (me : ME D) (vs vs1 : List Nat) : ME (List D) := fun sd w => (mi sd w).bind fun ds w1 => (match comp2L g mt mi1 g1 mt1 me vs1 (wipeD sd vs) ds w1 with
  | some (ys, w2) => if ys.length ≤ 1000000 then .ok ys w2 else .bad
  | none => .bad)
variable {tg1 it1 : Expr} {ifs1 : List Expr} {ti1 : TI} {mi1 : ME (List D)} {tgt1 : TG} {g1 : D → SD → Option SD} {js1 vs1 : List Nat} {tt1 : TT} {mt1 : ME Bool}
theorem jf_comp2 (hN : X.N.Nodup) (hi : JIB X G Wx tg it ti mi) (ok : BlkOk X.N X.env.scope scope own) (hv : (∀ i ∈ vs1, i ∈ own.map (·.2)))
    (hg : ∀ (s : Shared) (H : Hp) (C : Addr) (cl : List (Str × Addr)) (fp : List Addr), JG (X.blk s H scope (compEnvC scope cl C X.env) fp) G tg tgt g js)
    (ht : ∀ (s : Shared) (H : Hp) (C : Addr) (cl : List (Str × Addr)) (fp : List Addr), JTs (X.blk s H scope (compEnvC scope cl C X.env) fp) G F0 ifs tt mt)
    (hi1 : ∀ (s : Shared) (H : Hp) (C : Addr) (cl : List (Str × Addr)) (fp : List Addr), JI (X.blk s H scope (compEnvC scope cl C X.env) fp) G F0 tg1 it1 ti1 mi1)
    (hg1 : ∀ (s : Shared) (H : Hp) (C : Addr) (cl : List (Str × Addr)) (fp : List Addr), JG (X.blk s H scope (compEnvC scope cl C X.env) fp) G tg1 tgt1 g1 js1)
    (ht1 : ∀ (s : Shared) (H : Hp) (C : Addr) (cl : List (Str × Addr)) (fp : List Addr), JTs (X.blk s H scope (compEnvC scope cl C X.env) fp) G F0 ifs1 tt1 mt1)
    (he : ∀ (s : Shared) (H : Hp) (C : Addr) (cl : List (Str × Addr)) (fp : List Addr), JE (X.blk s H scope (compEnvC scope cl C X.env) fp) G F0 elt te me)
    (hjs : (∀ j ∈ js, j ∈ own.map (·.2)) := by decide) (hjs1 : (∀ j ∈ js1, j ∈ vs1) := by decide) (hc : X.calm = true := by rfl) (hs : ∀ x, foldedSetIterable it X.env x = pure x := by intro _; rfl) (hs1 : ∀ env x, foldedSetIterable it1 env x = pure x := by intro _ _; rfl) :
    JF X G Wx (.ListComp elt [⟨tg, it, ifs, 0⟩, ⟨tg1, it1, ifs1, 0⟩] scope pos) (tLc2 ti tgt tt ti1 tgt1 tt1 te (own.map (·.2)) vs1) (mComp2 mi g mt mi1 g1 mt1 me (own.map (·.2)) vs1) := by
  refine ⟨pe_lc2 hc hN hi.pe ok hv (fun s H C cl fp => (hg s H C cl fp).pe) (fun s H C cl fp => (ht s H C cl fp).pe) (fun s H C cl fp => (hi1 s H C cl fp).pe) (fun s H C cl fp => (hg1 s H C cl fp).pe) (fun s H C cl fp => (ht1 s H C cl fp).pe) (fun s H C cl fp => (he s H C cl fp).pe) hs hs1, fun sd w σ H Hs Q rs post => ?_⟩
  have hgS := (hg X.s_0 X.H_0 0 [] []).si
  have htS := (ht X.s_0 X.H_0 0 [] []).si
  have hiS := (hi1 X.s_0 X.H_0 0 [] []).si
  have hg1S := (hg1 X.s_0 X.H_0 0 [] []).si
  have ht1S := (ht1 X.s_0 X.H_0 0 [] []).si
  have heS := (he X.s_0 X.H_0 0 [] []).si
  generalize own.map (·.2) = vs at *
  refine hi.si sd w σ H Hs _ rs ?_
  unfold mComp2 at post
  cases e : mi sd w with
  | exc c ns ds w' => rw [e] at post; exact post
  | bad => rw [e] at post; exact post
  | ok ds w1 =>
    rw [e] at post
    have post1 : PostF G Wx σ H Hs Q (match comp2L g mt mi1 g1 mt1 me vs1 (wipeD sd vs) ds w1 with
      | some (ys, w2) => if ys.length ≤ 1000000 then .ok ys w2 else .bad
      | none => .bad) := post
    intro J H1 Hs1 b1 wk d hd
    have rs1 := rs.step b1
    cases ec : comp2L g mt mi1 g1 mt1 me vs1 (wipeD sd vs) ds w1 with
    | none => rw [ec] at post1; exact post1.elim
    | some pr =>
      obtain ⟨ys, wF⟩ := pr
      rw [ec] at post1
      simp only at post1
      split at post1
      · rename_i hl
        have ba := rs1.b.allocOwn (o := .lst []) hd
        have no := notOwn_new rs1.s hd
        have ⟨hap, hsp⟩ := rs1.b.none_live hd
        have bG := rs1.b
        refine ⟨fun i m Hc => ∃ w Hsc acc1 accD1 rest, B (G.at_ H1 Hs1) w Hc Hsc ∧ SL G sd σ Hc Hsc ∧ Hc d = some (.lst acc1) ∧ RepL G.c Hsc accD1 acc1 ∧ Hsc d = none ∧ i + m = ds.length ∧
            comp2L g mt mi1 g1 mt1 me vs1 (wipeD sd vs) (ds.drop i) w = some (rest, wF) ∧ accD1 ++ rest = ys, ⟨ds.length, w1, Hs1, [], [], ys, ba, rs1.s.step ba, upd_same, rfl, hsp, Nat.zero_add _, ec, rfl⟩, fun i m Hc h => ?_⟩
        obtain ⟨wc, Hsc, acc1, accD1, rest, b, s, hD, rD, nD, em, ecc, eys⟩ := h
        cases ei : ds[i]? with
        | none =>
          have hi : ds.length ≤ i := List.getElem?_eq_none_iff.mp ei
          have e0 : i = ds.length := by omega
          subst e0
          rw [List.drop_length] at ecc
          simp only [comp2L, Option.some.injEq, Prod.mk.injEq] at ecc
          obtain ⟨rfl, rfl⟩ := ecc
          rw [List.append_nil] at eys
          subst eys
          refine .inl ⟨wk.stop Hc Hsc ⟨_, b⟩ b.sub, ?_⟩
          exact post1 d acc1 Hc Hsc (b1.trans b) hD rD nD (fun o' e hn => by
            have := b1.keep d o' hap hn e
            rw [hd] at this; cases this) hap
        | some x0 =>
          have hil : i < ds.length := (List.getElem?_eq_some_iff.mp ei).1
          have e1 : ds.drop i = x0 :: ds.drop (i + 1) := by
            rw [List.drop_eq_getElem_cons hil]
            rw [List.getElem?_eq_getElem hil] at ei
            rw [Option.some.inj ei]
          rw [e1] at ecc
          simp only [comp2L] at ecc
          obtain ⟨q1, q2⟩ := wk.go i x0 Hc Hsc ei ⟨_, b⟩ b.sub
          refine .inr ⟨q1, fun H' => ∃ w Hsc acc1 accD1 rest, B (G.at_ H1 Hs1) w H' Hsc ∧ SL G sd σ H' Hsc ∧ H' d = some (.lst acc1) ∧ RepL G.c Hsc accD1 acc1 ∧ Hsc d = none ∧
            comp2L g mt mi1 g1 mt1 me vs1 (wipeD sd vs) (ds.drop (i + 1)) w = some (rest, wF) ∧ accD1 ++ rest = ys, fun H' hN => ?_, fun x H' hy => ?_⟩
          · obtain ⟨w3, Hs3, a3, aD3, rest3, q1, q2, q3, q4, q5, q6, q7⟩ := hN
            exact ⟨m - 1, by omega, w3, Hs3, a3, aD3, rest3, q1, q2, q3, q4, q5, by omega, q6, q7⟩
          · have st : ∃ Hs3, B (G.at_ H1 Hs1) wc H' Hs3 ∧ Same Hsc Hs3 ∧ SL G sd σ H' Hs3 ∧ H' d = some (.lst acc1) ∧ Hs3 d = none ∧ Rep G.c Hs3 x0 x := by
              rcases q2 x H' hy with ⟨rfl, rep⟩ | ⟨T, us, es, t1, rfl, rfl, rfl, rep⟩
              · exact ⟨Hsc, b, Same.refl _, s, hD, nD, rep⟩
              · have ba := (bG.trans b).alloc (o := .tup us) t1 tup_noT
                have hT : d ≠ T := fun z => by rw [← z, hD] at t1; cases t1
                exact ⟨_, b.trans ba, ba.sub0, s.step ba, by rw [upd_ne hT]; exact hD, by rw [upd_ne hT]; exact nD, T, us, rfl, .inl (.inl upd_same), rep.mono ba.sub0⟩
            obtain ⟨Hs3, b3, sm3, s3, hD3, nD3, rep⟩ := st
            · skip
              cases eg : g x0 (wipeD sd vs) with
              | none => rw [eg] at ecc; cases ecc
              | some sd1 =>
                rw [eg] at ecc
                simp only at ecc
                have rs3 : RS G (wipeD sd vs) wc (L2.wipe σ vs) H' Hs3 := ⟨bG.trans b3, s3.wipe vs⟩
                refine hgS x0 x _ wc _ H' Hs3 _ rs3 rep (fun sd' e' σ4 rs4 wp => ?_) (by rw [eg]; rfl)
                rw [eg] at e'
                cases e'
                refine ⟨by rw [wp.wp vs hjs, wipe_wipe fun v hv => hv], ?_⟩
                refine htS sd1 wc σ4 H' Hs3 _ rs4 ?_
                cases et : mt sd1 wc with
                | exc c ns ds w' => rw [et] at ecc; cases ecc
                | bad => rw [et] at ecc; cases ecc
                | ok k w5 =>
                  rw [et] at ecc
                  intro k' H5 Hs5 b5 ek
                  obtain rfl : k = k' := ek
                  have rs5 := rs4.step b5
                  have b5' := b3.trans b5
                  have s5 := s3.step b5
                  have hD5 := b5.keep d _ hap lst_noT hD3
                  have nD5 := none_stay b5 hD3 lst_noT nD3
                  have rD5 := rD.mono (sm3.trans b5.sub0)
                  cases k with
                  | false => exact ⟨w5, Hs5, acc1, accD1, rest, b5', s5, hD5, rD5, nD5, ecc, eys⟩
                  | true =>
                    simp only at ecc
                    refine hiS sd1 w5 σ4 H5 Hs5 _ rs5 ?_
                    cases ee : mi1 sd1 w5 with
                    | exc c ns ds w' => rw [ee] at ecc; cases ecc
                    | bad => rw [ee] at ecc; cases ecc
                    | ok es w6 =>
                      rw [ee] at ecc
                      simp only at ecc
                      split at ecc
                      · rename_i hes
                        intro J1 H6 Hs6 b6 wk6
                        have b6' := b5'.trans b6
                        have s6 := s5.step b6
                        have rs6 := rs5.step b6
                        have hD6 := b6.keep d _ hap lst_noT hD5
                        have nD6 := none_stay b6 hD5 lst_noT nD5
                        have no6 : NotOwn d sd1 σ4 := wp.no d (notOwn_wipe no vs)
                        cases er : compL g1 mt1 me (wipeD sd1 vs1) es w6 with
                        | none => rw [er] at ecc; cases ecc
                        | some pr =>
                          obtain ⟨y1, w7⟩ := pr
                          rw [er] at ecc
                          simp only at ecc
                          cases er2 : comp2L g mt mi1 g1 mt1 me vs1 (wipeD sd vs) (ds.drop (i + 1)) w7 with
                          | none => rw [er2] at ecc; cases ecc
                          | some pr2 =>
                            obtain ⟨z1, w8⟩ := pr2
                            rw [er2] at ecc
                            simp only [Option.some.injEq, Prod.mk.injEq] at ecc
                            obtain ⟨rfl, rfl⟩ := ecc
                            have hlen : accD1.length + es.length ≤ 16777216 := by
                              have : accD1.length ≤ ys.length := by rw [← eys, List.length_append]; omega
                              omega
                            refine loop_in (P := PM H6 Hs6) (Z := SL G sd σ) (fun w H Hs H' Hs' z b => SL.step z b) (fun H Hs o z => SL.writeOther z no) s6 wk6 (fun w Hc Hs Hc' Hs' p _ q => Same.trans p q) hg1S hjs1 ht1S heS bG hd no6 b6' rs6.s hD6 (rD5.mono b6.sub0) nD6 (Same.refl _) hlen er fun Hc' Hs' acc' c1 c2 c3 c4 c5 c6 c7 => ?_
                            exact ⟨w7, Hs', acc', accD1 ++ y1, z1, c1, c3, c5, c6, c7, er2, by rw [List.append_assoc]; exact eys⟩
                      · cases ecc
      · exact post1.elim
end
end FT
end
section
set_option Elab.async false
set_option linter.all false
set_option maxRecDepth 100000
set_option maxHeartbeats 4000000
namespace FT
open PySem PySem.Spec PyProof.Rows L2
/-! ### a def by its body -/
def sd0 (n : Nat) (ds : List D) : SD := ds.map SV.val ++ List.replicate (n - ds.length) SV.no
def outR : Out → R D
  | .nx _ w => .ok .non w
  | .ret d w => .ok d w
  | .exc _ c ns ds w => .exc c ns ds w
  | _ => .bad
def runB (n : Nat) (m : MS) (ds w : List D) : R D := outR (m (sd0 n ds) w)
theorem sl_start {G : Gh} {N : List Str} {ds : List D} {vs : List V} {H Hs : Hp} (r : RepL G.c Hs ds vs) (hl : ds.length ≤ N.length) : SL G (sd0 N.length ds) (L2.start N vs) H Hs := by
  have hv := r.length
  have own0 : ∀ (i : Nat) (es : List D), (sd0 N.length ds)[i]? ≠ some (SV.own es) := fun i es h => by
    unfold sd0 at h
    rcases List.mem_append.mp (List.mem_of_getElem? h) with h | h
    · obtain ⟨d, _, e⟩ := List.mem_map.mp h
      cases e
    · have := (List.mem_replicate.mp h).2
      cases this
  refine ⟨?_, fun i d h => ?_, fun i es h => absurd h (own0 i es), fun i j es fs a h => absurd h (own0 i es)⟩
  · unfold sd0 L2.start
    simp only [List.length_append, List.length_map, List.length_replicate, hv]
  · unfold sd0 at h
    by_cases hi : i < ds.length
    · rw [List.getElem?_append_left (by simpa using hi), List.getElem?_map] at h
      cases e : ds[i]? with
      | none => rw [e] at h; cases h
      | some d' =>
        rw [e] at h
        cases h
        obtain ⟨v, e1, e2⟩ := r.get e
        refine ⟨v, ?_, e2⟩
        unfold L2.start
        rw [List.getElem?_append_left (by simpa [hv] using hi), List.getElem?_map, e1]; rfl
    · rw [List.getElem?_append_right (by simpa using hi)] at h
      have := (List.mem_replicate.mp (List.mem_of_getElem? h)).2
      cases this
section
variable {P : Program} {w0 : World} {K : PySem.W.Frag} {mg : Str → Option Value} {base : Heap}
theorem ok_fn {x qual : Str} {st : Stmt} {f : Addr} {fd : FuncData} {N ps : List Str} {k : Nat} {cl : Nat → Addr} {T : List (Addr × Str)} {m : MS} (F : Fun K x qual st f fd) (S : FnScope N ps (defScope st)) (hps : ps.length ≤ N.length)
    (hb : ∀ (cdv : Value) (A : Around) (outer : List Env) (s : Shared) (H : Hp) (E : XK) (ap : Option Addr) (HP Hs : Hp), Room k (A.deeper (envOfC qual (defScope st) s.heap.objs.size f cdv)) →
      ∃ t, JSs (cxOf (L2.CX P w0) P w0 K mg base N qual (defScope st) f cdv A outer s H E) (gh K cl T ap HP H Hs) (fun c d _ H => E c d H) (defBody st) t m) :
    FnOk P w0 K mg base (L2.CX P w0) (k + 1) f fd ps (spF K cl T ps.length (runB N.length m)) := by
  refine F.okX S (fun vs H Q E h => ?_) (fun cdv A outer s H vs Q E hr h => ?_)
  · obtain ⟨ap, HP, Hs, ds, w, _, r, hn, _⟩ := h
    rw [r.length, hn]
  · obtain ⟨ap, HP, Hs, ds, w, b, r, hn, post⟩ := h
    obtain ⟨t, J⟩ := hb cdv A outer s H E ap HP Hs hr
    refine ⟨t, J.pe, J.si (sd0 N.length ds) w (L2.start N vs) H Hs _ ⟨b, sl_start (G := gh K cl T ap HP H Hs) r (by rw [hn]; exact hps)⟩ ?_⟩
    unfold runB at post
    cases e : m (sd0 N.length ds) w with
    | nx sd' w' =>
      rw [e] at post
      exact fun σ' H' Hs' rs _ => post _ H' Hs' rs.b rfl
    | ret d w' =>
      rw [e] at post
      exact fun v H' Hs' b' q => post v H' Hs' b' q
    | brk sd' w' => rw [e] at post; exact post.elim
    | cnt sd' w' => rw [e] at post; exact post.elim
    | exc sd' c ns ds w' =>
      rw [e] at post
      exact fun dd σ' H' Hs' rs q => post dd H' Hs' rs.b q
    | bad => rw [e] at post; exact post.elim
end
/-! ### exceptions with an __init__ of their own -/
section
variable {P : Program} {w0 : World} {K : PySem.W.Frag} {mg : Str → Option Value} {base : Heap}
/-- self.f = f -/
def spI1 (K : PySem.W.Frag) (f : Str) : Sp := fun vs H Q _ => ∃ (a C : Addr) (y : V), vs = [.ref a, y] ∧ OexC K C ∧ PySem.W.findIn K (.ref C) f = some none ∧ H a = some (exo a C none) ∧ ∀ dx, H dx = none → dx ≠ a → Q .non (upd (upd H dx (exd dx [(f, y)])) a (exo a C (some dx)))
/-- self.f = f; self.g = g -/
def spI2 (K : PySem.W.Frag) (f g : Str) : Sp := fun vs H Q _ => ∃ (a C : Addr) (y z : V), vs = [.ref a, y, z] ∧ OexC K C ∧ PySem.W.findIn K (.ref C) f = some none ∧ PySem.W.findIn K (.ref C) g = some none ∧ H a = some (exo a C none) ∧
  ∀ dx, H dx = none → dx ≠ a → Q .non (upd (upd (upd H dx (exd dx [(f, y)])) a (exo a C (some dx))) dx (exd dx [(g, z), (f, y)]))
theorem ok_init1 {x qual f : Str} {st : Stmt} {fa : Addr} {fd : FuncData} {ps : List Str} {t1 t2 t3 t4 : Pos} {k : Nat} (F : Fun K x qual st fa fd) (S : FnScope ["self", f] ["self", f] (defScope st)) (hb : defBody st = [.Assign [.Attribute (.Name "self" t1) f t2] (.Name f t3) t4]) (hf : (f == ("__debug__" : Str)) = false) (hf2 : (f == ("__classdict__" : Str)) = false)
    (v1 : Vis (defScope st) "self") (v2 : Vis (defScope st) f) (hsw : ∀ (env : Env), swapsWith (.Name f t3) (some (.Attribute (.Name "self" t1) f t2)) t4.line env = pure false) : FnOk P w0 K mg base (L2.CX P w0) (k + 1) fa fd ["self", f] (spI1 K f) := by
  refine F.okX S (fun vs H Q E h => ?_) (fun cdv A outer s H vs Q E hr h => ?_)
  · obtain ⟨a, C, y, rfl, _⟩ := h; rfl
  · obtain ⟨a, C, y, rfl, T, hn, ha, q⟩ := h
    rw [hb]
    refine ⟨_, pss_one (ps_ost (pe_var (i := 0) rfl v1) (pe_var (i := 1) rfl v2 hf hf2) (hsw _)), ?_⟩
    exact ⟨y, rfl, _, rfl, a, C, rfl, T, hn, .inl ⟨ha, fun dx h1 h2 => q dx h1 h2⟩⟩
theorem ok_init2 {x qual f g : Str} {st : Stmt} {fa : Addr} {fd : FuncData} {ps : List Str} {t1 t2 t3 t4 u1 u2 u3 u4 : Pos} {k : Nat} (F : Fun K x qual st fa fd) (S : FnScope ["self", f, g] ["self", f, g] (defScope st)) (hb : defBody st = [.Assign [.Attribute (.Name "self" t1) f t2] (.Name f t3) t4, .Assign [.Attribute (.Name "self" u1) g u2] (.Name g u3) u4])
    (hf : (f == ("__debug__" : Str)) = false) (hf2 : (f == ("__classdict__" : Str)) = false) (hg : (g == ("__debug__" : Str)) = false) (hg2 : (g == ("__classdict__" : Str)) = false)
    (v1 : Vis (defScope st) "self") (v2 : Vis (defScope st) f) (v3 : Vis (defScope st) g) (hsw : ∀ (env : Env), swapsWith (.Name f t3) (some (.Attribute (.Name "self" t1) f t2)) t4.line env = pure false) (hsw2 : ∀ (env : Env), swapsWith (.Name g u3) (some (.Attribute (.Name "self" u1) g u2)) u4.line env = pure false) : FnOk P w0 K mg base (L2.CX P w0) (k + 1) fa fd ["self", f, g] (spI2 K f g) := by
  refine F.okX S (fun vs H Q E h => ?_) (fun cdv A outer s H vs Q E hr h => ?_)
  · obtain ⟨a, C, y, z, rfl, _⟩ := h; rfl
  · obtain ⟨a, C, y, z, rfl, T, hn, hn2, ha, q⟩ := h
    rw [hb]
    refine ⟨_, pss_cons (ps_ost (pe_var (i := 0) rfl v1) (pe_var (i := 1) rfl v2 hf hf2) (hsw _)) (pss_one (ps_ost (pe_var (i := 0) rfl v1) (pe_var (i := 2) rfl v3 hg hg2) (hsw2 _))), ?_⟩
    refine ⟨y, rfl, _, rfl, a, C, rfl, T, hn, .inl ⟨ha, fun dx h1 h2 => ?_⟩⟩
    refine ⟨z, rfl, _, rfl, a, C, rfl, T, hn2, .inr ⟨dx, [(f, y)], upd_same, ?_, by show 1 ≤ 900; decide, q dx h1 h2⟩⟩
    rw [upd_ne h2, upd_same]
end
/-- what is known of an own error class, by its number -/
structure XC (X : Cx) (G : Gh) (n : Nat) (x : Str) (fI : Addr) : Prop where
  oex : OexC X.K (G.c.cl n)
  iC : PySem.W.findIn X.K (.ref (G.c.cl n)) "__init__" = some (some (.ref fI))
  tI : PySem.W.typeIn X.K (.ref fI) = some (.type "function")
  mg : X.mg x = some (.ref (G.c.cl n))
section
variable {X : Cx} {G : Gh} {Wx : WX} {w w' w1 w2 : List D} {H Hs H' Hs' H1 Hs1 H2 Hs2 : Hp} {sd : SD} {σ : L2.St}
variable {e e2 : Expr} {t : TA} {ma : ME (List D)} {p pos pos2 : Pos} {x f g : Str} {n k : Nat} {fI : Addr} {fd : FuncData}
theorem xd_noT {fs : List (Str × V)} : NoT (.xd fs) := fun _ e => by cases e
theorem exo_heap1 {a dx C : Addr} {fs gs : List (Str × V)} (ha : H1 a = none) (hd : dx ≠ a) : upd (del (upd (upd (upd H1 a (exo a C none)) dx (exd dx gs)) a (exo a C (some dx))) a) dx (.xd fs) = upd H1 dx (.xd fs) := by
  funext b
  by_cases h1 : b = dx
  · subst h1; rw [upd_same, upd_same]
  · rw [upd_ne h1, upd_ne h1]
    by_cases h2 : b = a
    · subst h2; rw [del_same, ha]
    · rw [del_ne h2, upd_ne h2, upd_ne h1, upd_ne h2]
theorem exo_heap2 {a dx C : Addr} {fs gs hs : List (Str × V)} (ha : H1 a = none) (hd : dx ≠ a) : upd (del (upd (upd (upd (upd H1 a (exo a C none)) dx (exd dx gs)) a (exo a C (some dx))) dx (exd dx hs)) a) dx (.xd fs) = upd H1 dx (.xd fs) := by
  funext b
  by_cases h1 : b = dx
  · subst h1; rw [upd_same, upd_same]
  · rw [upd_ne h1, upd_ne h1]
    by_cases h2 : b = a
    · subst h2; rw [del_same, ha]
    · rw [del_ne h2, upd_ne h1, upd_ne h2, upd_ne h1, upd_ne h2]
def mRaise1 (n : Nat) (f : Str) (m : ME (List D)) : MS := fun sd w => eb (m sd w) sd fun ds w1 => match ds with
  | [d] => .exc sd n [f] [d] w1
  | _ => .bad
def mRaise2 (n : Nat) (f g : Str) (m : ME (List D)) : MS := fun sd w => eb (m sd w) sd fun ds w1 => match ds with
  | [d, e] => .exc sd n [g, f] [e, d] w1
  | _ => .bad
theorem js_raise1 (T : XC X G n x fI) (F1 : FnOk X.prog X.w X.K X.mg X.base (L2.CX X.prog X.w) k fI fd ["self", f] (spI1 X.K f)) (hr : Room (k + 1) X.A) (hb : L2.Binds X.K fd ["self", f] []) (hn : PySem.W.findIn X.K (.ref (G.c.cl n)) f = some none) (tk : Takes X Wx) (ha : JA X G Wx [e] t ma)
    (hc : X.calm = true := by rfl) (hg : Gl X x := by rfl) (hdb : (x == ("__debug__" : Str)) = false := by decide) (he : starEach [e] X.env = (false, eval e X.env) :: starEach [] X.env := by rfl) :
    JS X G Wx (.Raise (some (.Call (.Name x p) [e] [] pos)) none pos2) (fun _ σ H => tMkO (G.c.cl n) (spI1 X.K f) [] t σ H fun cls d H' => Wx cls d σ H') (mRaise1 n f ma) := by
  refine ⟨ps_raise hc tk (pmk_oex T.oex T.iC T.tI F1 hr hb .nil passL hg T.mg ha.pe hdb he rfl), fun sd w σ H Hs De rs post => ?_⟩
  refine ha.si.bindS rs post fun ds w1 vs H1 Hs1 rs1 b1 q1 post1 => ?_
  match ds, q1, post1 with
  | [d], ⟨v, r, h1, h2, h3⟩, post1 =>
    rw [h1, show r = [] from h3]
    refine ⟨by show 1 ≤ 1000; decide, fun a ha => ⟨a, G.c.cl n, v, rfl, T.oex, hn, upd_same, fun dx hd1 hd2 => ⟨rfl, dx, [(f, v)], upd_same, ?_, ?_, ?_⟩⟩⟩
    · rw [upd_ne hd2, upd_same]
    · rw [upd_ne hd2] at hd1; exact hd1
    · rw [upd_ne hd2] at hd1
      rw [exo_heap1 ha hd2]
      have ba := rs1.b.allocOwn (o := .xd [(f, v)]) hd1
      exact post1 dx σ _ Hs1 (rs1.step ba) ⟨[(f, v)], upd_same, rfl, RepL.one h2⟩
  | [], _, post1 => exact post1.elim
  | _ :: _ :: _, _, post1 => exact post1.elim
theorem js_raise2 (T : XC X G n x fI) (F1 : FnOk X.prog X.w X.K X.mg X.base (L2.CX X.prog X.w) k fI fd ["self", f, g] (spI2 X.K f g)) (hr : Room (k + 1) X.A) (hb : L2.Binds X.K fd ["self", f, g] []) (hn : PySem.W.findIn X.K (.ref (G.c.cl n)) f = some none) (hn2 : PySem.W.findIn X.K (.ref (G.c.cl n)) g = some none) (tk : Takes X Wx) (ha : JA X G Wx [e, e2] t ma)
    (hc : X.calm = true := by rfl) (hg : Gl X x := by rfl) (hdb : (x == ("__debug__" : Str)) = false := by decide) (he : starEach [e, e2] X.env = (false, eval e X.env) :: starEach [e2] X.env := by rfl) (hpl : (backTo pos (starEach [e2] X.env)).any (·.1) = false := by rfl) :
    JS X G Wx (.Raise (some (.Call (.Name x p) [e, e2] [] pos)) none pos2) (fun _ σ H => tMkO (G.c.cl n) (spI2 X.K f g) [] t σ H fun cls d H' => Wx cls d σ H') (mRaise2 n f g ma) := by
  refine ⟨ps_raise hc tk (pmk_oex T.oex T.iC T.tI F1 hr hb .nil passL hg T.mg ha.pe hdb he hpl), fun sd w σ H Hs De rs post => ?_⟩
  refine ha.si.bindS rs post fun ds w1 vs H1 Hs1 rs1 b1 q1 post1 => ?_
  match ds, q1, post1 with
  | [d, d2], ⟨v, r, h1, h2, u, r2, h3, h4, h5⟩, post1 =>
    rw [h1, h3, show r2 = [] from h5]
    refine ⟨by show 2 ≤ 1000; decide, fun a ha => ⟨a, G.c.cl n, v, u, rfl, T.oex, hn, hn2, upd_same, fun dx hd1 hd2 => ⟨rfl, dx, [(g, u), (f, v)], ?_, upd_same, ?_, ?_⟩⟩⟩
    · rw [upd_ne (Ne.symm hd2), upd_same]
    · rw [upd_ne hd2] at hd1; exact hd1
    · rw [upd_ne hd2] at hd1
      rw [exo_heap2 ha hd2]
      have ba := rs1.b.allocOwn (o := .xd [(g, u), (f, v)]) hd1
      exact post1 dx σ _ Hs1 (rs1.step ba) ⟨[(g, u), (f, v)], upd_same, rfl, u, [v], rfl, h4, v, [], rfl, h2, rfl⟩
  | [], _, post1 => exact post1.elim
  | [_], _, post1 => exact post1.elim
  | _ :: _ :: _ :: _, _, post1 => exact post1.elim
end
end FT
end
section
set_option Elab.async false
set_option linter.all false
set_option maxRecDepth 100000
set_option maxHeartbeats 4000000
namespace FT
open PySem PySem.Spec PyProof.Rows L2 LamX
/-! ### several except clauses with names -/
abbrev Cls3 := Value × Nat × (Addr → Value → Option Addr → TS)
def wManyA (K : PySem.W.Frag) (Wout : WX) (D : Ends) : List Cls3 → WX
  | [] => Wout
  | (c, i, ts) :: r => fun cls d σ H => ∃ b, PySem.W.exmOne K cls c = some b ∧
      (b = true → ∀ a, H a = none → ts a cls d { nx := fun σ' H' => D.nx (σ'.set i none) H', rt := D.rt, bk := fun σ' H' => D.bk (σ'.set i none) H', ct := fun σ' H' => D.ct (σ'.set i none) H' } (σ.set i (some (.ref a))) H) ∧ (b = false → wManyA K Wout D r cls d σ H)
inductive HdsA (X : Cx) : List ExceptHandler → List Cls3 → Prop
  | nil : HdsA X [] []
  | cons {x n : Str} {c : Value} {i : Nat} {ts : Addr → Value → Option Addr → TS} {b₀ : Stmt} {suite : List Stmt} {np pos' : Pos} {hds : List ExceptHandler} {l : List Cls3} (hc : Names X x c) (hi : X.N[i]? = some n) (hln : X.env.kindOf n = some .local)
      (hsu : ∀ (a : Addr) (oe : Obj) (cls : Value) (d : Option Addr) (pn : List (Addr × Obj)), Zc cls d oe → (∃ vs, oe.data = .fields vs) → PSs (X.suite a ((a, oe) :: pn)) (b₀ :: suite) (ts a cls d)) (r : HdsA X hds l) :
      HdsA X (.ExceptHandler (some (.Name x np)) (some n) (b₀ :: suite) pos' :: hds) ((c, i, ts) :: l)
section
variable {X : Cx} {body : List Stmt} {h₀ : ExceptHandler} {hds : List ExceptHandler} {l : List Cls3} {pos : Pos} {tb : WX → TS} {Wout : WX}
theorem ps_try_manyA (hs : X.stack = X.env :: X.outer) (hf : X.env.frame = some X.env.locals) (hN : X.N.Nodup) (tk : Takes X Wout)
    (hb : ∀ (W : WX) (pn : List (Addr × Obj)) (xe : Value → Shared → Prop), Takes (X.tr pn xe) W → PassesOwn (model X.prog X.w) X.A X.env xe → PSs (X.tr pn xe) body (tb W))
    (hh : HdsA X (h₀ :: hds) l) : PS X (.Try body (h₀ :: hds) [] [] pos) (fun D σ H => tb (wManyA X.K Wout D l) D σ H) := by
  refine ⟨fun pins s σ H D I h => ?_⟩
  have ok := I.ok
  have hfr : X.A.frames = some (X.env :: X.outer) := by rw [ok.frames, hs]
  refine wpAny_Try_except ?_
  refine wpAny_mono ((hb (wManyA X.K Wout D l) (X.pn ++ pins) (fun e s₁ => wpAny (model X.prog X.w) X.A (noteFrame e X.env) (fun _ s₂ => wpAny (model X.prog X.w) X.A (setFlight e none) (fun _ s₃ =>
    wpAny (model X.prog X.w) X.A (handleBy e X.env (h₀ :: hds)) (SP X pins D) X.xe s₃) X.xe s₂) X.xe s₁) (fun u s' xx => ?_) PassesOwn.looking).run [] s σ H D (I.toTry _) h) (fun f s1 hsp => ?_) (fun e s1 he => he)
  · obtain ⟨a, B, sI, pins', σ', H', cls, d, rfl, J', nb, up, sky, na, os, ag, w⟩ := xx
    have J : Inv X pins σ' H' sI := J'.ofTry ok
    have sky' : Sky B (X.env :: X.outer) a (Zc cls d) X.env.locals s'.heap := by rw [← hs]; exact sky
    show wpAny (model X.prog X.w) X.A (noteFrame (.ref a) X.env) _ _ _
    refine Sky.land Zc.steady hfr hf sky' fun h3 fl3 up3 => ?_
    have J3 : Inv X pins σ' H' { s' with heap := h3 } := J.landed nb fl3.1 (up.trans up3) os ag
    obtain ⟨oe3, vs3, he3, hz3, hd3⟩ := fl3.there
    have notFr : ∀ {h : Heap} {o : Obj} {vs : Array Value}, h.FunFrames B (X.env :: X.outer) → h.get? a = some o → o.data = .fields vs → a ∉ frs (X.env :: X.outer) := fun {h o vs} ff e dd hm => by
      obtain ⟨_, o', e', hnf⟩ := ff.mem hm
      rw [e] at e'; cases e'
      exact hnf _ dd
    have nfr := notFr fl3.2.2.1 he3 hd3
    have nL : a ≠ X.env.locals := fun z => nfr (List.mem_filterMap.mpr ⟨X.env, List.mem_cons_self, by rw [hf, z]⟩)
    have nF : a ∉ X.fs := fun hm => by
      obtain ⟨e, he, q⟩ := List.mem_filterMap.mp hm
      exact nfr (List.mem_filterMap.mpr ⟨e, List.mem_cons_of_mem _ he, q⟩)
    have S3 := J3.suite he3 hd3 na nL nF
    have go : ∀ {hds' : List ExceptHandler} {l' : List Cls3}, HdsA X hds' l' → wManyA X.K Wout D l' cls d σ' H' →
        wpAny (model X.prog X.w) X.A (handleBy (.ref a) X.env hds') (SP X pins D) X.xe { s' with heap := h3 } := by
      intro hds' l' hk
      induction hk with
      | nil =>
        intro w
        refine wpAny_handleBy_nil ?_
        obtain ⟨k1, k2, k3, oe, vs, T, oT, ts', he, hz, hd, h1, hr⟩ := id fl3
        unfold PySem.passOn
        refine wpAny_bind (wpAny_field he hd h1 ?_)
        rw [if_neg (show ¬ ((Value.ref T == Value.none) = true) from by simp)]
        have fin : wpAny (model X.prog X.w) X.A (setFlight (.ref a) X.env.frame) (fun _ s4 => wpAny (model X.prog X.w) X.A (throw (.ref a) : Sem Flow) (SP X pins D) X.xe s4) X.xe { s' with heap := h3 } := by
          rw [hf]
          refine HandSPX.setFlight_upZ fl3 fun h4 hh4 up4 => wpAny_throw (tk _ _ ?_)
          exact ⟨a, B, sI, pins, σ', H', cls, d, rfl, J, nb, (up.trans up3).trans up4, .inr (.inr (by rw [hs]; exact hh4)), na, os, ag, w⟩
        first
          | exact wpAny_bind (wpAny_pure (wpAny_bind fin))
          | exact wpAny_bind fin
      | @cons x n c i ts b₀ suite np pos' hds2 l2 hc hi hln hsu r ih =>
        intro w
        have hloc : Loc X.env.scope n := .inl hln
        obtain ⟨b, hb1, hyes, hno⟩ := w
        refine wpAny_handleBy_cons (codeAny_handlers_test ?_) (by intro q; cases q)
        have LT : PySem.W.Looks (model X.prog X.w) h3 (typeOf (.ref a)) cls := fun A Q E s k q => wpAny_typeOf_ref (k _ _ he3) (by rw [hz3.1]; exact q)
        have LM := PySem.W.exm_one (M := model X.prog X.w) (J3.kIn) LT hb1
        have test : ∀ {Q : Value → Shared → Prop} {E : Value → Shared → Prop}, Q c { s' with heap := h3 } → wpAny (model X.prog X.w) (X.A.mark (some (.ref a))) (eval (.Name x np) X.env) Q E { s' with heap := h3 } := fun {Q E} q => by
          obtain ⟨hg, hdbg, hm | ⟨hm, hv, hnn⟩⟩ := hc
          · exact ld_glob (X := X.suite a ((a, oe3) :: (X.pn ++ pins))) S3 hg hm q hdbg
          · exact ld_blt (X := X.suite a ((a, oe3) :: (X.pn ++ pins))) S3 hg hm hv q hnn hdbg
        refine test (LM.here ?_)
        cases b with
        | true =>
          refine codeAny_handlers_suite_as ?_
          refine HandSPX.lands_againZ fl3 fun h4 fl4 up4 => ?_
          have J4 : Inv X pins σ' H' { s' with heap := h4 } := J.landed nb fl4.1 ((up.trans up3).trans up4) os ag
          obtain ⟨oe4, vs4, he4, hz4, hd4⟩ := fl4.there
          have S4 := J4.suite he4 hd4 na nL nF
          refine store_ok (X := X.suite a ((a, oe4) :: (X.pn ++ pins))) (v := .ref a) S4 hN hi hloc rfl (fun s5 S5 => ?_) (.inr hln)
          refine wpAny_mono ((hsu a oe4 cls d (X.pn ++ pins) hz4 ⟨_, hd4⟩).run [] s5 _ H' _ S5 (hyes rfl a na)) (fun f s6 hsp => ?_) (fun _ _ z => False.elim z)
          have end_ : ∀ {σ6 : L2.St} {H6 : Hp} {Q : Shared → Prop}, Inv (X.suite a ((a, oe4) :: (X.pn ++ pins))) [] σ6 H6 s6 → (∀ s7, Inv X pins (σ6.set i none) H6 s7 → Q s7) →
              wpAny (model X.prog X.w) X.A (do bindName X.env n .none; unbindBehindTheSuite X.env n pos') (fun _ s7 => Q s7) X.xe s6 := fun {σ6 H6 Q} S6 hq => gone_ok (S6.unsuite ok) hN hi hln hq
          cases f with
          | next =>
            obtain ⟨σ6, H6, S6, q6⟩ := hsp
            exact end_ S6 fun s7 J7 => ⟨_, _, J7, q6⟩
          | brk =>
            obtain ⟨σ6, H6, S6, q6⟩ := hsp
            exact end_ S6 fun s7 J7 => ⟨_, _, J7, q6⟩
          | cont =>
            obtain ⟨σ6, H6, S6, q6⟩ := hsp
            exact end_ S6 fun s7 J7 => ⟨_, _, J7, q6⟩
          | ret u =>
            obtain ⟨v6, σ6, H6, S6, r6, q6⟩ := hsp
            exact end_ S6 fun s7 J7 => ⟨_, _, _, J7, r6, q6⟩
        | false =>
          show wpAny _ X.A (handleBy (.ref a) X.env hds2) _ _ _
          exact ih (hno rfl)
    exact go hh w
  · cases f with
    | next =>
      obtain ⟨σ', H', J', q⟩ := hsp
      exact wpAny_execs_nil ⟨σ', H', J'.ofTry ok, q⟩
    | brk =>
      obtain ⟨σ', H', J', q⟩ := hsp
      exact ⟨σ', H', J'.ofTry ok, q⟩
    | cont =>
      obtain ⟨σ', H', J', q⟩ := hsp
      exact ⟨σ', H', J'.ofTry ok, q⟩
    | ret u =>
      obtain ⟨v, σ', H', J', r, q⟩ := hsp
      exact ⟨v, σ', H', J'.ofTry ok, r, q⟩
end
/-! ### the items of a caught error that a suite reads -/
inductive XI where
  | s (z : List Nat)
  | f (name : Str)
/-- their values: of an error of the class at C, its dict at d -/
def xread (C : Addr) (cls : Value) (d : Option Addr) (H : Hp) : List XI → List V → Prop
  | [], vs => vs = []
  | .s z :: r, vs => ∃ us, vs = .str ⟨z.toArray⟩ :: us ∧ xread C cls d H r us
  | .f n :: r, vs => ∃ v us, vs = v :: us ∧ (cls = .ref C ∧ ∃ (dd : Addr) (fs : List (Str × V)), d = some dd ∧ H dd = some (.xd fs) ∧ fs.lookup n = some v) ∧ xread C cls d H r us
/-- the reading of the items, by slot i -/
def tXs (i : Nat) (C : Addr) : List XI → Addr → Value → Option Addr → TA
  | [], _, _, _ => tNil
  | .s z :: r, a, cls, d => tCons (tC (.str ⟨z.toArray⟩)) (tXs i C r a cls d)
  | .f n :: r, a, cls, d => tCons (tXf a cls d C n (tVar i)) (tXs i C r a cls d)
theorem tXs_ok {i : Nat} {C a : Addr} {cls : Value} {d : Option Addr} {σ : L2.St} {H : Hp} (hσ : σ[i]? = some (some (.ref a))) : ∀ {its : List XI} {vs : List V} {Q : List V → Hp → Prop}, xread C cls d H its vs → Q vs H → tXs i C its a cls d σ H Q
  | [], vs, Q, h, q => by rw [show vs = [] from h] at q; exact q
  | .s z :: r, vs, Q, ⟨us, e, h⟩, q => by
    subst e
    exact tXs_ok (its := r) hσ h q
  | .f n :: r, vs, Q, ⟨v, us, e, ⟨e1, dd, fs, e2, e3, e4⟩, h⟩, q => by
    subst e
    exact ⟨_, hσ, rfl, e1, dd, fs, v, e2, e3, e4, tXs_ok (its := r) hσ h q⟩
section
variable {X : Cx}
/-- the items as expressions -/
inductive XEs (X : Cx) (i : Nat) (C : Addr) : List Expr → List XI → Prop
  | nil : XEs X i C [] []
  | s {x : Str} {j : Nat} {pos : Pos} {es : List Expr} {its : List XI} (z : List Nat) (h : x = ⟨z.toArray⟩) (hs : starEach (.Constant (.str x) j pos :: es) X.env = (false, eval (.Constant (.str x) j pos) X.env) :: starEach es X.env) (r : XEs X i C es its) : XEs X i C (.Constant (.str x) j pos :: es) (.s z :: its)
  | f {y n : Str} {p1 p2 : Pos} {es : List Expr} {its : List XI} (hN : X.N[i]? = some y) (hv : Vis X.env.scope y) (hd : (y == ("__debug__" : Str)) = false) (hcd : (y == ("__classdict__" : Str)) = false) (T : XfC X.K C) (hno : PySem.W.findIn X.K (.ref C) n = some none)
      (hb : attributeBase (.Name y p1) n X.env (eval (.Name y p1) X.env) = eval (.Name y p1) X.env) (hs : starEach (.Attribute (.Name y p1) n p2 :: es) X.env = (false, eval (.Attribute (.Name y p1) n p2) X.env) :: starEach es X.env) (r : XEs X i C es its) : XEs X i C (.Attribute (.Name y p1) n p2 :: es) (.f n :: its)
theorem XEs.pa {i : Nat} {C a : Addr} {cls : Value} {d : Option Addr} {oe : Obj} {pn : List (Addr × Obj)} (hz : Zc cls d oe) (hf : ∃ vs, oe.data = .fields vs) : ∀ {es : List Expr} {its : List XI}, XEs X i C es its → PA (X.suite a ((a, oe) :: pn)) es (tXs i C its a cls d) := by
  intro es its h
  induction h with
  | nil => exact pa_nil
  | s z h hs r ih =>
    subst h
    exact pa_cons (X := X.suite a ((a, oe) :: pn)) pe_str ih hs
  | f hN hv hd hcd T hno hb hs r ih => exact pa_cons (X := X.suite a ((a, oe) :: pn)) (pe_xf T hno hz hf (pe_var (X := X.suite a ((a, oe) :: pn)) hN hv hd hcd) hb) ih hs
end
/-- their data -/
def xdata (ns : List Str) (ds : List D) : List XI → Option (List D)
  | [] => some []
  | .s z :: r => if (decide (z.length ≤ 1000) && z.all (fun c => decide (c < 0x110000))) = true then (xdata ns ds r).map (D.str z :: ·) else none
  | .f n :: r => match (ns.zip ds).lookup n, xdata ns ds r with
    | some d, some es => some (d :: es)
    | _, _ => none
theorem lookup_rep {c : Cc} {H : Hp} {n : Str} {d : D} : ∀ {fs : List (Str × V)} {ds : List D}, RepL c H ds (fs.map (·.2)) → ((fs.map (·.1)).zip ds).lookup n = some d → ∃ v, fs.lookup n = some v ∧ Rep c H d v
  | [], ds, h, e => by cases e
  | (m, v) :: fs, [], h, e => by cases e
  | (m, v) :: fs, d0 :: ds, ⟨u, r, e1, h1, h2⟩, e => by
    simp only [List.map_cons, List.cons.injEq] at e1
    obtain ⟨rfl, rfl⟩ := e1
    simp only [List.map_cons, List.zip_cons_cons, List.lookup_cons] at e ⊢
    cases hm : n == m with
    | true => rw [hm] at e; simp only [Option.some.injEq] at e; subst e; exact ⟨v, rfl, h1⟩
    | false => rw [hm] at e; exact lookup_rep h2 e
theorem xread_of {c : Cc} {H Hs : Hp} {k : Nat} {dd : Addr} {ns : List Str} {ds : List D} (x : ExcAt c H Hs dd ns ds) : ∀ {its : List XI} {es : List D}, xdata ns ds its = some es → ∃ vs, xread (c.cl k) (.ref (c.cl k)) (some dd) H its vs ∧ RepL c Hs es vs
  | [], es, e => by cases e; exact ⟨[], rfl, rfl⟩
  | .s z :: r, es, e => by
    simp only [xdata] at e
    split at e
    · rename_i hz
      cases e1 : xdata ns ds r with
      | none => rw [e1] at e; cases e
      | some es' =>
        rw [e1] at e
        cases e
        obtain ⟨vs, h1, h2⟩ := xread_of (k := k) x e1
        refine ⟨_, ⟨vs, rfl, h1⟩, _, _, rfl, ⟨rfl, ?_, ?_⟩, h2⟩
        · exact Nat.le_of_lt (small1000 (of_decide_eq_true (Bool.and_eq_true_iff.mp hz).1))
        · intro c hc
          exact of_decide_eq_true (List.all_eq_true.mp (Bool.and_eq_true_iff.mp hz).2 c hc)
    · cases e
  | .f n :: r, es, e => by
    simp only [xdata] at e
    split at e
    · rename_i d es' e1 e2
      cases e
      obtain ⟨vs, h1, h2⟩ := xread_of (k := k) x e2
      obtain ⟨fs, g1, g2, g3⟩ := x
      subst g2
      obtain ⟨v, g4, g5⟩ := lookup_rep g3 e1
      exact ⟨_, ⟨v, vs, rfl, ⟨rfl, dd, fs, rfl, g1, g4⟩, h1⟩, v, vs, rfl, g5, h2⟩
    · cases e
/-! ### try: ask() / except .. as error: return (..) ; return None -/
/-- the clauses: class number, items -/
abbrev Hds := List (Nat × List XI)
def chainA (K : PySem.W.Frag) (cl : Nat → Addr) (Q : VK) : Hds → XK
  | [] => fun _ _ _ => False
  | (j, its) :: r => fun cls d H => ∃ b, PySem.W.exmOne K cls (.ref (cl j)) = some b ∧
      (b = true → ∃ vs, xread (cl j) cls d H its vs ∧ vs.length ≤ sizeLine ∧ ∀ p, H p = none → Q (.ref p) (upd H p (.tup vs))) ∧ (b = false → chainA K cl Q r cls d H)
def TTA (K : PySem.W.Frag) (cl : Nat → Addr) (hs : Hds) : (XK → Hp → VK → Prop) → Hp → VK → Prop := fun tl H Q => tl (chainA K cl Q hs) H fun _ H' => Q .non H'
/-- the data that comes: xm, the table of classes -/
def hdsD (xm : Nat → Nat → Bool) (c : Nat) (ns : List Str) (ds : List D) : Hds → Option D
  | [] => none
  | (j, its) :: r => if xm c j = true then (if c = j then (match xdata ns ds its with
      | some es => if es.length ≤ 1000 then some (.tup es) else none
      | none => none) else none) else hdsD xm c ns ds r
def mHeard (nC : Nat) (xm : Nat → Nat → Bool) (hs : Hds) (m : ME D) : ME D := fun sd w => match m sd w with
  | .ok _ w' => .ok .non w'
  | .exc c ns ds w' => if c < nC then (match hdsD xm c ns ds hs with
    | some d => .ok d w'
    | none => .bad) else .bad
  | .bad => .bad
theorem chain_of {G : Gh} {nC : Nat} {xm : Nat → Nat → Bool} {w w' : List D} {H Hs H' Hs' : Hp} {Q : VK} {c : Nat} {ns : List Str} {ds : List D} {dd : Addr} {d : D} (hx : ∀ c < nC, ∀ j < nC, PySem.W.exmOne G.c.K (.ref (G.c.cl c)) (.ref (G.c.cl j)) = some (xm c j)) (hc : c < nC) (b : B (G.at_ H Hs) w' H' Hs') (x : ExcAt G.c H' Hs' dd ns ds)
    (post : ∀ v H2 Hs2, B (G.at_ H Hs) w' H2 Hs2 → Rep G.c Hs2 d v → Q v H2) : ∀ {hs : Hds}, (∀ p ∈ hs, p.1 < nC) → hdsD xm c ns ds hs = some d → chainA G.c.K G.c.cl Q hs (.ref (G.c.cl c)) (some dd) H'
  | [], _, e => by cases e
  | (j, its) :: r, hj, e => by
    simp only [hdsD] at e
    refine ⟨xm c j, hx c hc j (hj _ List.mem_cons_self), fun hb => ?_, fun hb => ?_⟩
    · rw [if_pos hb] at e
      split at e
      · rename_i hcj
        subst hcj
        split at e
        · rename_i es e1
          split at e
          · rename_i hl
            cases e
            obtain ⟨vs, h1, h2⟩ := xread_of (k := c) x e1
            refine ⟨vs, h1, Nat.le_of_lt (small1000 (by rw [h2.length]; exact hl)), fun p hp => ?_⟩
            have b' : B G w' H' Hs' → B (G.at_ H Hs) w' (upd H' p (.tup vs)) (upd Hs' p (.tup vs)) := fun _ => b.trans (b.alloc hp tup_noT)
            have ba := b.alloc (o := .tup vs) hp tup_noT
            exact post _ _ _ (b.trans ba) ⟨p, vs, rfl, .inl (.inl upd_same), h2.mono ba.sub0⟩
          · cases e
        · cases e
      · cases e
    · rw [if_neg (by rw [hb]; simp)] at e
      exact chain_of (w := w) hx hc b x post (fun p hp => hj p (List.mem_cons_of_mem _ hp)) e
/-- the clauses as the text has them -/
inductive HdA (X : Cx) (cl : Nat → Addr) (i : Nat) : List ExceptHandler → Hds → Prop
  | nil : HdA X cl i [] []
  | cons {x n : Str} {j : Nat} {es : List Expr} {its : List XI} {np pos' p1 p2 : Pos} {k : Nat} {hds : List ExceptHandler} {l : Hds} (hg : Gl X x) (hd : (x == ("__debug__" : Str)) = false) (hm : X.mg x = some (.ref (cl j))) (hi : X.N[i]? = some n) (hln : X.env.kindOf n = some .local)
      (he : XEs X i (cl j) es its) (r : HdA X cl i hds l) : HdA X cl i (.ExceptHandler (some (.Name x np)) (some n) [.Return (some (.Tuple es k p1)) p2] pos' :: hds) ((j, its) :: l)
def tsA (i : Nat) (C : Addr) (its : List XI) : Addr → Value → Option Addr → TS := fun a cls d => tRet (tTup (tXs i C its a cls d))
theorem HdA.hds {X : Cx} {cl : Nat → Addr} {i : Nat} : ∀ {hs : List ExceptHandler} {l : Hds}, HdA X cl i hs l → HdsA X hs (l.map fun p => (Value.ref (cl p.1), i, tsA i (cl p.1) p.2)) := by
  intro hs l h
  induction h with
  | nil => exact .nil
  | cons hg hd hm hi hln he r ih => exact .cons ⟨hg, hd, .inl hm⟩ hi hln (fun a oe cls d pn hz hf => pss_one (X := Cx.suite _ a ((a, oe) :: pn)) (ps_ret (X := Cx.suite _ a ((a, oe) :: pn)) (pe_tup (X := Cx.suite _ a ((a, oe) :: pn)) (he.pa hz hf)))) ih
theorem many_of {K : PySem.W.Frag} {cl : Nat → Addr} {i : Nat} {Q : VK} {D0 : Ends} (hQ : D0.rt = Q) {cls : Value} {d : Option Addr} {σ : L2.St} {H : Hp} (hi : i < σ.length) : ∀ {l : Hds}, chainA K cl Q l cls d H → wManyA K F0 D0 (l.map fun p => (Value.ref (cl p.1), i, tsA i (cl p.1) p.2)) cls d σ H
  | [], h => h
  | (j, its) :: r, ⟨b, e1, h1, h2⟩ => by
    refine ⟨b, e1, fun hb a ha => ?_, fun hb => many_of hQ hi (h2 hb)⟩
    obtain ⟨vs, x1, x2, x3⟩ := h1 hb
    refine tXs_ok (List.getElem?_set_self hi) x1 ⟨x2, fun p hp => ?_⟩
    show D0.rt _ _
    rw [hQ]
    exact x3 p hp
theorem takes_len {X : Cx} {W : WX} (tk : Takes X W) : Takes X (fun cls d σ H => σ.length = X.N.length → W cls d σ H) := fun u s' x => by
  obtain ⟨a, B, sI, pins, σ, H, cls, d, h1, I, h2, h3, h4, h5, h6, h7, w⟩ := x
  exact tk u s' ⟨a, B, sI, pins, σ, H, cls, d, h1, I, h2, h3, h4, h5, h6, h7, w I.len⟩
section
variable {X : Cx}
/-- the whole body of such a def -/
theorem givesA {Ng : List Str} {x a q : Str} {sg : Scope} {g : Addr} {cdg : Value} {cl : Nat → Addr} {i : Nat} {hds : List ExceptHandler} {l : Hds} {h₀ : ExceptHandler} {j : Nat} {p1 p2 p3 p4 p5 p6 : Pos} (hN : Ng.Nodup) (hi : 0 < i ∧ i < Ng.length)
    (hh : ∀ (s : Shared) (H : Hp), HdA (cxOf C8.CX0 X.prog X.w X.K X.mg X.base Ng x sg g cdg X.A X.stack s H C8.E0).nox cl i (h₀ :: hds) l)
    (h0 : ∀ f : Addr, (L2.start Ng [V.ref f])[0]? = some (some (V.ref f)))
    (hsw : ∀ env : Env, swapsWith (.Call (.Name a p1) [] [] p2) none p3.line env = pure false) :
    GivesTo X Ng x sg g cdg [.Try [.Expr (.Call (.Name a p1) [] [] p2) p3] (h₀ :: hds) [] [] p4, .Return (some (.Constant .none j p5)) p6] a q (TTA X.K cl l) := by
  intro f c' s H Q tl act hc h
  have hlen : (L2.start Ng [V.ref f]).length = Ng.length := by
    unfold L2.start
    simp only [List.length_append, List.length_map, List.length_replicate, List.length_cons, List.length_nil]
    omega
  refine ⟨_, pss_cons (ps_try_manyA (X := (cxOf C8.CX0 X.prog X.w X.K X.mg X.base Ng x sg g cdg X.A X.stack s H C8.E0).nox)
      (tb := fun W D σ H => ∃ Ech : XK, (∀ cls d (σ' : L2.St) H', Ech cls d H' → σ'.length = Ng.length → W cls d σ' H') ∧ σ[0]? = some (some (.ref f)) ∧ H c' = some (CodeO c' q) ∧ tl Ech H fun _ H' => D.nx σ H')
      rfl rfl hN L2.takes0 (fun W pn xe tk _ => ?_) (HdA.hds (hh s H))) (pss_one (ps_ret pe_non)), ?_⟩
  · refine ⟨fun pins s' σ H' D I h' => ?_⟩
    obtain ⟨Ech, hW, h1, h2, h3⟩ := h'
    have tk' : Takes ((cxOf C8.CX0 X.prog X.w X.K X.mg X.base Ng x sg g cdg X.A X.stack s H C8.E0).tr pn xe) (fun cls d σ' H' => σ'.length = Ng.length → W cls d σ' H') := takes_len tk
    have hp := act (fun cls d σ' H' => σ'.length = Ng.length → W cls d σ' H') pn xe Ech p1 p2 tk' (fun cls d σ' H' e hl => hW cls d σ' H' e hl)
    have hq := pss_one (ps_expr (pos := p3) hp (hsw _))
    exact hq.run pins s' σ H' D I ⟨h1, h2, h3⟩
  · exact ⟨chainA X.K cl Q l, fun cls d σ' H' e hl => many_of rfl (by rw [hl]; exact hi.2) e, h0 f, hc, h⟩
end
section
variable {X : Cx} {G : Gh} {Wx : WX} {w w' w1 w2 : List D} {H Hs H' Hs' H1 Hs1 H2 Hs2 : Hp} {sd : SD} {σ : L2.St}
/-- what the lambdas of a def ask -/
structure LamT (X : Cx) (G : Gh) (c P : Addr) : Prop where
  tb : TabB X.base X.mg c P
  code : X.env.code = .ref c
  mem : (P, X.env.qual ++ "<lambda>") ∈ G.T
  uniq : ∀ p ∈ G.T, p.1 = P → p.2 = X.env.qual ++ "<lambda>"
theorem ext_b (b : B G w H Hs) (e : ExtN H H1) (t : Tabs G.T H1) : B (G.at_ H Hs) w H1 Hs := by
  refine ⟨fun a o h => e a o (b.sub a o h) (b.nt a o h), Same.refl _, fun a o _ hn h => e a o h hn, fun a o h => .inl h, fun a ha => ?_, b.penH.trans b.sub0, b.nt, t⟩
  obtain ⟨⟨vs, h1, h2⟩, h3⟩ := b.pen a ha
  exact ⟨⟨vs, e a _ h1 lst_noT, h2⟩, h3⟩
/-- heard(lambda: body) -/
theorem je_heard {x a : Str} {g c P : Addr} {k i nC : Nat} {stg : Stmt} {fdg : FuncData} {Ng : List Str} {params : Arguments} {body : Expr} {scope : Scope} {t : XK → TE} {mb : ME D} {p lpos pos : Pos} {xm : Nat → Nat → Bool} {l : Hds} {hds : List ExceptHandler} {h₀ : ExceptHandler} {j : Nat} {p1 p2 p3 p4 p5 p6 : Pos}
    (F : Fun X.K x x stg g fdg) (hm : X.mg x = some (.ref g)) (hb : L2.Binds X.K fdg [a] []) (Sg : FnScope Ng [a] (defScope stg)) (hbd : defBody stg = [.Try [.Expr (.Call (.Name a p1) [] [] p2) p3] (h₀ :: hds) [] [] p4, .Return (some (.Constant .none j p5)) p6])
    (hNg : Ng[0]? = some a) (hva : Vis (defScope stg) a) (hN : Ng.Nodup) (hi : 0 < i ∧ i < Ng.length)
    (hh : ∀ (cdg : Value) (s : Shared) (H : Hp), HdA (cxOf C8.CX0 X.prog X.w X.K X.mg X.base Ng x (defScope stg) g cdg X.A X.stack s H C8.E0).nox G.c.cl i (h₀ :: hds) l)
    (hx : ∀ c < nC, ∀ j < nC, PySem.W.exmOne G.c.K (.ref (G.c.cl c)) (.ref (G.c.cl j)) = some (xm c j)) (hl : ∀ p ∈ l, p.1 < nC)
    (L : LamT X G c P) (hr : Room (k + 2) X.A) (Ls : LamS X.env.scope scope) (hdef : defaultsOf params X.env = ([], []))
    (hbind : ∀ (q : Str) (cl : List (Str × Addr)) (pm cv ctv : Value), bindArgs (PySem.W.kla_fn "<lambda>" q params body scope cl pm cv ctv) ⟨[], []⟩ = pure [])
    (hbody : ∀ (A : Around) (outer : List Env) (s : Shared) (H : Hp) (E : XK) (f c' : Addr), Room k (A.deeper (lamEnv X scope s.heap.objs.size f c')) → JE (lamCx X A outer s H E scope f c') G (fun c d _ H => E c d H) body (t E) mb)
    (hg : Gl X x := by rfl) (h0 : (∀ f : Addr, (L2.start Ng [V.ref f])[0]? = some (some (V.ref f))) := by intro _; rfl)
    (hsw : (∀ env : Env, swapsWith (.Call (.Name a p1) [] [] p2) none p3.line env = pure false) := by intro _; rfl)
    (hdb : (x == ("__debug__" : Str)) = false := by decide) (hd : (a == ("__debug__" : Str)) = false := by decide) (hcd : (a == ("__classdict__" : Str)) = false := by decide) (hK : X.K = G.c.K := by rfl) :
    JE X G Wx (.Call (.Name x p) [.Lambda params body scope lpos] [] pos) (tLam G.T (TTA G.c.K G.c.cl l) t) (mHeard nC xm l mb) := by
  obtain ⟨oc, od, kV, doc, pm, an, cdv, ct, osl, rfl, lk, hcg⟩ := F.ex
  have hbody' : ∀ (A : Around) (outer : List Env) (s : Shared) (H : Hp) (E : XK), Room k (A.deeper (lamEnv X scope s.heap.objs.size 0 0)) → Sim G (fun c d _ H => E c d H) (ρE G) (t E) mb := fun A outer s H E hr => (hbody A outer s H E 0 0 hr).si
  refine ⟨?_, fun sd w σ H Hs Q rs post => ?_⟩
  · rw [← hK]
    exact pe_lamcall hg hm F.kp lk hcg hb Sg hNg hva (by rw [hbd]; exact givesA hN hi (hh cdv) h0 hsw) L.tb L.code L.mem L.uniq hr Ls hdef hbind (fun A outer s H E f c' hr => (hbody A outer s H E f c' hr).pe) hdb hd hcd
  · refine ⟨rs.b.tab, fun H1 e1 t1 => ?_⟩
    have b1 := ext_b rs.b e1 t1
    have rs1 := rs.step b1
    have si : Sim G (fun c d _ H => chainA G.c.K G.c.cl Q l c d H) (ρE G) (t (chainA G.c.K G.c.cl Q l)) mb := (hbody X.A X.outer X.s_0 X.H_0 (chainA G.c.K G.c.cl Q l) 0 0 ?hroom).si
    case hroom => exact (hr.mono (Nat.le_succ _)).deeper _
    refine si sd w σ H1 Hs _ rs1 ?_
    unfold mHeard at post
    cases e : mb sd w with
    | ok d w' =>
      rw [e] at post
      exact fun v H' Hs' b q => post _ H' Hs' (b1.trans b) rfl
    | bad => rw [e] at post; exact post
    | exc c ns ds w' =>
      rw [e] at post
      have post' : Post G Wx σ H Hs (ρE G) Q (if c < nC then (match hdsD xm c ns ds l with
        | some d => .ok d w'
        | none => .bad) else .bad) := post
      split at post'
      · rename_i hc
        cases eh : hdsD xm c ns ds l with
        | none => rw [eh] at post'; exact post'.elim
        | some d =>
          rw [eh] at post'
          exact fun dd H' Hs' b x => chain_of (w := w) hx hc (b1.trans b) x post' hl eh
      · exact post'.elim
end
end FT
end
section
set_option Elab.async false
set_option linter.all false
set_option maxRecDepth 100000
set_option maxHeartbeats 4000000
/-! texts sorted, any number of them -/
namespace SrtO
open PySem PySem.W PyProof.Rows
section
variable {prog : Program} {w : World} {A : Around} {E : Value → Shared → Prop} {s : Shared}
def sv : Value → List Nat
  | .str x _ => x.cps.toList
  | _ => []
def ltSv (v u : Value) : Bool := decide (sv v < sv u)
theorem swo_sv : Swo ltSv := by
  refine ⟨fun x y h => ?_, fun x y z h1 h2 => ?_⟩
  · have a := of_decide_eq_true (p := sv x < sv y) h
    exact decide_eq_false (p := sv y < sv x) fun b => List.lt_asymm a b
  · have a := List.not_lt.mp (of_decide_eq_false (p := sv y < sv x) h1)
    have b := List.not_lt.mp (of_decide_eq_false (p := sv z < sv y) h2)
    exact decide_eq_false (p := sv z < sv x) (List.not_lt.mpr (List.le_trans a b))
theorem strs_mem : ∀ {vs : List Value} {xs : List PySem.Str}, StrsAre vs xs → ∀ v ∈ vs, ∃ x t, v = Value.str x t
  | _, _, .nil, v, h => absurd h (by simp)
  | _, _, .cons n t r, v, h => by
    rcases List.mem_cons.mp h with e | h
    · exact ⟨n, t, e⟩
    · exact strs_mem r v h
def svS (v : Value) : PySem.Str := ⟨(sv v).toArray⟩
theorem strs_sv : ∀ {vs : List Value}, (∀ v ∈ vs, ∃ x t, v = Value.str x t) → StrsAre vs (vs.map svS)
  | [], _ => .nil
  | v :: vs, h => by
    obtain ⟨x, t, e⟩ := h v List.mem_cons_self
    subst e
    have q : svS (Value.str x t) = x := by cases x; rfl
    rw [List.map_cons, q]
    exact .cons x t (strs_sv fun u hu => h u (List.mem_cons_of_mem _ hu))
theorem sv_strs : ∀ {vs : List Value} {xs : List PySem.Str}, StrsAre vs xs → vs.map svS = xs
  | _, _, .nil => rfl
  | _, _, .cons x t r => by
    have q : svS (Value.str x t) = x := by cases x; rfl
    rw [List.map_cons, q, sv_strs r]
theorem str_cmp {vs : List Value} {xs : List PySem.Str} (hI : StrsAre vs xs) : Cmp prog w A s oneType' (fun p => p.1 ∈ vs) (lt2 ltSv) := by
  intro p q hm hm'
  obtain ⟨a, t, e⟩ := strs_mem hI _ hm
  obtain ⟨b, u, e'⟩ := strs_mem hI _ hm'
  show wpAny (model prog w) A (keyLt' oneType' p.1 q.1) (fun r s' => s' = s ∧ r = ltSv p.1 q.1) (fun _ _ => False) s
  rw [e, e', keyLt'_oneType]
  exact oneLt_str ⟨rfl, rfl⟩
theorem strs_sortable {a : Addr} {vs : List Value} {xs : List PySem.Str} (hI : StrsAre vs xs) (h2 : 2 ≤ vs.length) : SortableO prog w A s a vs ltSv := by
  intro h' _
  refine ⟨oneType', fun Q E hq => ?_, str_cmp hI⟩
  match vs, hI, h2 with
  | v1 :: v2 :: rest, hI, _ =>
    rw [keyKind_strs hI]
    exact wpAny_pure hq
  | [], _, h => exact absurd h (by decide)
  | [v], _, h => exact absurd h (by simp)
theorem strs_out {vs out : List Value} {xs : List PySem.Str} (hI : StrsAre vs xs) (hs : Srtd ltSv out) (hb : Stb ltSv out vs) : StrsAre out (out.map svS) ∧ (out.map svS).Perm xs ∧ (out.map svS).Pairwise (fun a b => a.cps.toList ≤ b.cps.toList) := by
  refine ⟨strs_sv fun v hv => strs_mem hI v (hb.perm.mem_iff.mp hv), ?_, ?_⟩
  · have q := hb.perm.map svS
    rw [sv_strs hI] at q
    exact q
  · exact List.pairwise_map.mpr (hs.imp fun {x y} h => by
      have := List.not_lt.mp (of_decide_eq_false (p := sv y < sv x) h)
      simpa [svS] using this)
end
end SrtO
namespace FT
open PySem PySem.Spec PyProof.Rows L2
/-- sorted(xs), texts, any number of them -/
def rSortedT (K : PySem.W.Frag) : List V → Hp → VK → Prop := fun vs H Q => ∃ (a : Addr) (xs : List Str), vs = [V.ref a] ∧ SqL K H a (xs.map V.str) ∧
  ∀ (ys : List Str) (p : Addr), ys.Perm xs → ys.Pairwise (fun a b => a.cps.toList ≤ b.cps.toList) → H p = none → Q (.ref p) (upd H p (.lst (ys.map V.str)))
section
variable {X : Cx} {G : Gh} {Wx : WX} {w w' w1 w2 : List D} {H Hs H' Hs' H1 Hs1 H2 Hs2 : Hp} {sd : SD} {σ : L2.St}
theorem cr_sortedT : CallR X (.builtin "sorted") (rSortedT X.K) := by
  intro pins s σ H vs us Q I r h
  obtain ⟨a, xs, rfl, hs, q⟩ := h
  obtain ⟨its, rv, hl, hz⟩ := I.list hs
  rw [Vals.ref1 r]
  have hi := rv.strs
  refine SrtO.sorted_ord SrtO.swo_sv hl.isList (by rw [← rv.length]; exact hz) (fun h2 h₁ a' _ _ => SrtO.strs_sortable hi h2) fun out h1 h2 => ?_
  obtain ⟨k1, k2, k3⟩ := SrtO.strs_out hi h1 h2
  obtain ⟨ep, he'⟩ := PyProof.Rows.sortedAll_at s.heap its out.toArray
  have hlen : ((out.map SrtO.svS).map V.str).length ≤ sizeLine := by
    rw [List.length_map, k2.length_eq]
    rw [List.length_map] at hz
    exact hz
  exact ⟨.ref _, upd H (s.heap.objs.size + 1) (.lst ((out.map SrtO.svS).map V.str)), I.laid (t' := s.toks) (fun _ _ => PyProof.Rows.sortedAll_old) (Nat.le_succ _) ⟨hlen, out, ep, vals_of_strs k1, he'⟩, rfl, q _ _ k2 k3 (I.hok.fresh (Nat.le_succ _))⟩
/-! ### sorted of numbers, of texts -/
def dInts : List D → Option (List Int)
  | [] => some []
  | .int i :: ds => (dInts ds).map (i :: ·)
  | _ => none
def dStrs : List D → Option (List (List Nat))
  | [] => some []
  | .str s :: ds => (dStrs ds).map (s :: ·)
  | _ => none
theorem ints_eq : ∀ {ds : List D} {ns : List Int}, dInts ds = some ns → ds = ns.map D.int
  | [], ns, e => by cases e; rfl
  | .int i :: ds, ns, e => by
    simp only [dInts] at e
    cases e1 : dInts ds with
    | none => rw [e1] at e; cases e
    | some ms => rw [e1] at e; cases e; rw [ints_eq e1]; rfl
  | .non :: _, _, e => by cases e
  | .bl _ :: _, _, e => by cases e
  | .str _ :: _, _, e => by cases e
  | .lst _ :: _, _, e => by cases e
  | .tup _ :: _, _, e => by cases e
  | .frz _ :: _, _, e => by cases e
  | .pen :: _, _, e => by cases e
  | .obj _ _ _ :: _, _, e => by cases e
theorem strs_eq : ∀ {ds : List D} {ns : List (List Nat)}, dStrs ds = some ns → ds = ns.map D.str
  | [], ns, e => by cases e; rfl
  | .str i :: ds, ns, e => by
    simp only [dStrs] at e
    cases e1 : dStrs ds with
    | none => rw [e1] at e; cases e
    | some ms => rw [e1] at e; cases e; rw [strs_eq e1]; rfl
  | .non :: _, _, e => by cases e
  | .bl _ :: _, _, e => by cases e
  | .int _ :: _, _, e => by cases e
  | .lst _ :: _, _, e => by cases e
  | .tup _ :: _, _, e => by cases e
  | .frz _ :: _, _, e => by cases e
  | .pen :: _, _, e => by cases e
  | .obj _ _ _ :: _, _, e => by cases e
theorem ints_map (ns : List Int) : dInts (ns.map D.int) = some ns := by
  induction ns with
  | nil => rfl
  | cons n ns ih => simp [dInts, ih]
theorem strs_map (ns : List (List Nat)) : dStrs (ns.map D.str) = some ns := by
  induction ns with
  | nil => rfl
  | cons n ns ih => simp [dStrs, ih]
theorem repL_ints {c : Cc} : ∀ {ns : List Int} {vs : List V}, RepL c H (ns.map D.int) vs → vs = ns.map V.int
  | [], vs, h => h
  | n :: ns, vs, ⟨v, r, e, h1, h2⟩ => by rw [e, show v = .int n from h1, repL_ints h2]; rfl
theorem repL_int {c : Cc} : ∀ (ns : List Int), RepL c H (ns.map D.int) (ns.map V.int)
  | [] => rfl
  | n :: ns => ⟨_, _, rfl, by simp [Rep], repL_int ns⟩
abbrev mkS (s : List Nat) : Str := ⟨s.toArray⟩
theorem repL_strs {c : Cc} : ∀ {ns : List (List Nat)} {vs : List V}, RepL c H (ns.map D.str) vs → vs = (ns.map mkS).map V.str ∧ ∀ s ∈ ns, SOk s
  | [], vs, h => ⟨h, fun _ h => by cases h⟩
  | n :: ns, vs, ⟨v, r, e, ⟨h1, o⟩, h2⟩ => by
    obtain ⟨h3, h4⟩ := repL_strs h2
    refine ⟨by rw [e, h1, h3]; rfl, fun s hs => ?_⟩
    rcases List.mem_cons.mp hs with z | z
    · rw [z]; exact o
    · exact h4 s z
theorem repL_str {c : Cc} : ∀ {ns : List (List Nat)}, (∀ s ∈ ns, SOk s) → RepL c H (ns.map D.str) ((ns.map mkS).map V.str)
  | [], _ => rfl
  | n :: ns, h => ⟨_, _, rfl, ⟨rfl, h n List.mem_cons_self⟩, repL_str fun s hs => h s (List.mem_cons_of_mem _ hs)⟩
def sortI (ns : List Int) : List Int := ns.mergeSort fun a b => decide (a ≤ b)
def sortS (ns : List (List Nat)) : List (List Nat) := ns.mergeSort fun a b => decide (a ≤ b)
theorem sortI_of {ns ms : List Int} (p : ms.Perm ns) (s : ms.Pairwise (· ≤ ·)) : ms = sortI ns := by
  refine List.Perm.eq_of_pairwise (le := (· ≤ ·)) (fun a b _ _ h1 h2 => Int.le_antisymm h1 h2) s ?_ (p.trans (List.mergeSort_perm _ _).symm)
  have := List.pairwise_mergeSort (le := fun a b : Int => decide (a ≤ b)) (fun a b c h1 h2 => decide_eq_true (Int.le_trans (of_decide_eq_true h1) (of_decide_eq_true h2))) (fun a b => by
    rcases Int.le_total a b with h | h
    · simp [h]
    · simp [h]) ns
  exact this.imp fun {a b} h => of_decide_eq_true h
theorem sortS_of {ns ms : List (List Nat)} (p : ms.Perm ns) (s : ms.Pairwise (· ≤ ·)) : ms = sortS ns := by
  refine List.Perm.eq_of_pairwise (le := (· ≤ ·)) (fun a b _ _ h1 h2 => List.le_antisymm h1 h2) s ?_ (p.trans (List.mergeSort_perm _ _).symm)
  have := List.pairwise_mergeSort (le := fun a b : List Nat => decide (a ≤ b)) (fun a b c h1 h2 => decide_eq_true (List.le_trans (of_decide_eq_true h1) (of_decide_eq_true h2))) (fun a b => by
    rcases List.le_total a b with h | h
    · simp [h]
    · simp [h]) ns
  exact this.imp fun {a b} h => of_decide_eq_true h
def fSort (ds : List D) : Option (List D) := match dInts ds with
  | some ns => some ((sortI ns).map D.int)
  | none => match dStrs ds with
    | some ns => some ((sortS ns).map D.str)
    | none => none
def mSortF (m : ME D) : ME (List D) := fun sd w => (m sd w).bind fun d w1 => match (match d with
  | .lst ds => fSort ds
  | _ => none) with
  | some es => .ok es w1
  | none => .bad
def rSortA (K : PySem.W.Frag) : List V → Hp → VK → Prop := fun vs H Q => rSortedI K vs H Q ∨ rSortedT K vs H Q
variable {e : Expr} {te : TE} {m : ME D} {p pos : Pos}
theorem jf_sorted (hm : X.mg "sorted" = none) (ha : JB X G Wx e te m) (hg : Gl X "sorted" := by rfl) (hK : X.K = G.c.K := by rfl) (he : starEach [e] X.env = (false, eval e X.env) :: starEach [] X.env := by rfl) : JF X G Wx (.Call (.Name "sorted" p) [e] [] pos) (tCB (rSortA G.c.K) (tCons te tNil)) (mSortF m) := by
  refine ⟨by rw [← hK]; exact pe_callB (CallR.or cr_sortedI cr_sortedT) hg hm (by decide +kernel) (pa_cons ha.pe pa_nil he) (by decide) (by decide) he rfl, fun sd w σ H Hs Q rs post => ?_⟩
  refine ha.si.bindF rs post fun d w1 v H1 Hs1 rs1 b1 q1 post1 => ?_
  cases d with
  | lst ds =>
    obtain ⟨a, vs, rfl, hp, rl, _⟩ := q1
    simp only at post1
    cases ef : fSort ds with
    | none => rw [ef] at post1; exact post1.elim
    | some es =>
      rw [ef] at post1
      unfold fSort at ef
      split at ef
      · rename_i ns hn
        cases ef
        rw [ints_eq hn] at rl
        rw [repL_ints rl] at hp
        refine .inl ⟨a, ns, rfl, .inl (.inl hp), fun ns' l h1 h2 hl => ?_⟩
        rw [sortI_of h1 h2]
        exact newF rs1.b hl (repL_int _) post1
      · split at ef
        · rename_i ns hn
          cases ef
          rw [strs_eq hn] at rl
          obtain ⟨e1, ok⟩ := repL_strs rl
          rw [e1] at hp
          refine .inr ⟨a, ns.map mkS, rfl, .inl (.inl hp), fun ys l h1 h2 hl => ?_⟩
          have e2 : ys.map (·.cps.toList) = sortS ns := by
            refine sortS_of ?_ (List.pairwise_map.mpr h2)
            have := h1.map (·.cps.toList)
            rw [List.map_map] at this
            have e3 : (ns.map ((fun x : Str => x.cps.toList) ∘ mkS)) = ns := by
              rw [List.map_congr_left (g := id) (fun a _ => by simp)]; simp
            rw [e3] at this
            exact this
          have e4 : ys = (sortS ns).map mkS := by
            rw [← e2, List.map_map]
            rw [List.map_congr_left (g := id) (fun a _ => by cases a; rfl)]; simp
          rw [e4]
          exact newF rs1.b hl (repL_str fun s hs => ok s ((List.mergeSort_perm _ _).mem_iff.mp hs)) post1
        · cases ef
  | _ => exact post1.elim
/-! ### methods of texts -/
def mMt (f : List Nat → List D → Option D) (mo : ME D) (m : ME (List D)) : ME D := fun sd w => (mo sd w).bind fun o w1 => match o with
  | .str s => (m sd w1).bind fun ds w2 => (match f s ds with
    | some d => .ok d w2
    | none => .bad)
  | _ => .bad
def MtD (G : Gh) (r : V → List V → Hp → VK → Prop) (f : List Nat → List D → Option D) : Prop := ∀ w H Hs xs s ds d (Q : VK), B G w H Hs → SOk s → RepBL G.c H Hs ds xs → f s ds = some d → (∀ v H' Hs', B (G.at_ H Hs) w H' Hs' → Rep G.c Hs' d v → Q v H') → r (.str ⟨s.toArray⟩) xs H Q
variable {o : Expr} {to : TE} {mo : ME D} {es : List Expr} {t : TA} {ma : ME (List D)} {name : Str} {apos cpos : Pos} {id : String} {r : V → List V → Hp → VK → Prop} {f : List Nat → List D → Option D}
/-- o.m(e, ..), o a text -/
theorem je_mtS (slot : Slot "str" name id) (hty : typeOf (.builtin id) = pure (.type "method_descriptor")) (hmt : MtR X id r) (hf : MtD G r f) (ho : JB X G Wx o to mo) (ha : JAB X G Wx (e :: es) t ma)
    (hbase : attributeBase o name X.env (eval o X.env) = eval o X.env := by rfl)
    (hfew : ((backTo cpos (starEach (e :: es) X.env)).all (fun x => !x.1) && (backToKw cpos (keywordEach [] X.env)).all (fun x => x.1.isSome)
      && decide ((e :: es).length + ([] : List Keyword).length + (if ([] : List Keyword).isEmpty then 0 else 1) < 30)) = true := by rfl)
    (hline : (apos.endLine == cpos.line) = true := by rfl) (hs : starEach (e :: es) X.env = (false, eval e X.env) :: starEach es X.env := by rfl) (hplain : (backTo cpos (starEach es X.env)).any (·.1) = false := by rfl) (hK : X.K = G.c.K := by rfl) :
    JE X G Wx (.Call (.Attribute o name apos) (e :: es) [] cpos) (tBM G.c.K "str" r to t) (mMt f mo ma) := by
  refine ⟨by rw [← hK]; exact pe_bm PySem.F.plainAttrs_str slot hty hmt ho.pe ha.pe hbase hfew hline hs hplain, fun sd w σ H Hs Q rs post => ?_⟩
  refine ho.si.bind rs post fun d w1 v H1 Hs1 rs1 b1 q1 post1 => ?_
  cases d with
  | str s =>
    obtain ⟨rfl, ok⟩ := _root_.id q1
    refine ⟨rfl, ?_⟩
    refine ha.si.bind rs1 post1 fun ds w2 vs H2 Hs2 rs2 b2 q2 post2 => ?_
    cases ef : f s ds with
    | none => rw [ef] at post2; exact post2.elim
    | some d =>
      rw [ef] at post2
      exact hf w2 H2 Hs2 vs s ds d Q rs2.b ok q2 ef post2
  | _ => exact post1.elim
/-- sep.join(texts) -/
def joinD (sep : List Nat) : List (List Nat) → List Nat
  | [] => []
  | [x] => x
  | x :: y :: r => x ++ sep ++ joinD sep (y :: r)
theorem glued_fold (sep : Str) : ∀ (r : List (List Nat)) (acc : Array Nat), ((r.map mkS).foldl (fun acc p => acc ++ sep.cps ++ p.cps) acc).toList = acc.toList ++ (r.map fun x => sep.cps.toList ++ x).flatten
  | [], acc => by simp
  | x :: r, acc => by
    rw [List.map_cons, List.foldl_cons, glued_fold sep r]
    simp
theorem joinD_flat (sep x : List Nat) : ∀ r : List (List Nat), joinD sep (x :: r) = x ++ (r.map fun y => sep ++ y).flatten := by
  intro r
  induction r generalizing x with
  | nil => simp [joinD]
  | cons y r ih => simp only [joinD]; rw [ih y]; simp
theorem join_eq (sep : List Nat) (xs : List (List Nat)) : Txt.join (mkS sep) (xs.map mkS) = mkS (joinD sep xs) := by
  show Builtin.Str.glued _ _ = _
  unfold Builtin.Str.glued
  cases xs with
  | nil => rfl
  | cons x r =>
    have := glued_fold (mkS sep) r x.toArray
    rw [joinD_flat]
    simp only [List.map_cons, List.drop_one, List.tail_cons, List.headD_cons]
    congr 1
    apply Array.ext'
    rw [this]
def fJoin (s : List Nat) (ds : List D) : Option D := match ds with
  | [.lst es] => (match dStrs es with
    | some xs => if (xs.map List.length).sum + xs.length * s.length ≤ 16777216 then some (.str (joinD s xs)) else none
    | none => none)
  | [.tup es] => (match dStrs es with
    | some xs => if (xs.map List.length).sum + xs.length * s.length ≤ 16777216 then some (.str (joinD s xs)) else none
    | none => none)
  | _ => none
theorem joinD_len (s : List Nat) : ∀ xs : List (List Nat), (joinD s xs).length ≤ (xs.map List.length).sum + xs.length * s.length
  | [] => by simp [joinD]
  | [x] => by simp [joinD]
  | x :: y :: r => by
    have := joinD_len s (y :: r)
    simp only [joinD, List.length_append, List.map_cons, List.sum_cons, List.length_cons] at *
    rw [Nat.succ_mul]
    omega
theorem joinD_mem {s : List Nat} {c : Nat} : ∀ {xs : List (List Nat)}, c ∈ joinD s xs → c ∈ s ∨ ∃ x ∈ xs, c ∈ x
  | [], h => by cases h
  | [x], h => .inr ⟨x, List.mem_singleton.mpr rfl, h⟩
  | x :: y :: r, h => by
    simp only [joinD, List.append_assoc, List.mem_append] at h
    rcases h with h | h | h
    · exact .inr ⟨x, List.mem_cons_self, h⟩
    · exact .inl h
    · rcases joinD_mem h with h | ⟨z, hz, h⟩
      · exact .inl h
      · exact .inr ⟨z, List.mem_cons_of_mem _ hz, h⟩
def rJoin (K : PySem.W.Frag) : V → List V → Hp → VK → Prop := fun x xs H Q => ∃ a p, ∃ ys : List Str, x = .str a ∧ xs = [.ref p] ∧ (SqL K H p (ys.map V.str) ∨ SqT K H p (ys.map V.str)) ∧
    (ys.map (·.length)).sum + ys.length * a.length ≤ 16777216 ∧ Q (.str (Txt.join a ys)) H
theorem join_side {s : List Nat} {xs : List (List Nat)} (h : (xs.map List.length).sum + xs.length * s.length ≤ 16777216) : (((xs.map mkS).map (·.length)).sum + (xs.map mkS).length * (mkS s).length ≤ 16777216) := by
  have e : (xs.map mkS).map (·.length) = xs.map List.length := by
    rw [List.map_map]
    exact List.map_congr_left fun a _ => str_len a
  rw [e, List.length_map, str_len]; exact h
theorem md_join {K : PySem.W.Frag} (hK : K = G.c.K) : MtD G (rJoin K) fJoin := by
  subst hK
  intro w H Hs xs s ds d Q hb ok hr e q
  have sok : ∀ {ys : List (List Nat)}, (∀ y ∈ ys, SOk y) → (ys.map List.length).sum + ys.length * s.length ≤ 16777216 → SOk (joinD s ys) := fun {ys} hy hz => by
    refine ⟨?_, fun c hc => ?_⟩
    · rw [sizeLine_eq]; exact Nat.le_trans (joinD_len s ys) hz
    · rcases joinD_mem hc with h | ⟨y, hy1, hy2⟩
      · exact ok.2 c h
      · exact (hy y hy1).2 c hy2
  unfold fJoin at e
  split at e
  · rename_i es
    split at e
    · rename_i ys hs
      split at e
      · rename_i hz
        cases e
        obtain ⟨v, rfl, a, vs, rfl, h1, h2, _⟩ := repBL1 hr
        rw [strs_eq hs] at h2
        obtain ⟨e1, e2⟩ := repL_strs h2
        rw [e1] at h1
        refine ⟨_, a, ys.map mkS, rfl, rfl, .inl (.inl (.inl h1)), join_side hz, ?_⟩
        rw [join_eq]
        exact q _ H Hs hb.refl_at ⟨rfl, sok e2 hz⟩
      · cases e
    · cases e
  · rename_i es
    split at e
    · rename_i ys hs
      split at e
      · rename_i hz
        cases e
        obtain ⟨v, rfl, a, vs, rfl, h1, h2⟩ := repBL1 hr
        rw [strs_eq hs] at h2
        obtain ⟨e1, e2⟩ := repL_strs h2
        rw [e1] at h1
        refine ⟨_, a, ys.map mkS, rfl, rfl, .inr (sqT_mono hb.sub h1), join_side hz, ?_⟩
        rw [join_eq]
        exact q _ H Hs hb.refl_at ⟨rfl, sok e2 hz⟩
      · cases e
    · cases e
  · cases e
theorem je_join (ho : JB X G Wx o to mo) (ha : JAB X G Wx [e] t ma) (hbase : attributeBase o "join" X.env (eval o X.env) = eval o X.env := by rfl)
    (hfew : ((backTo cpos (starEach [e] X.env)).all (fun x => !x.1) && (backToKw cpos (keywordEach [] X.env)).all (fun x => x.1.isSome)
      && decide ([e].length + ([] : List Keyword).length + (if ([] : List Keyword).isEmpty then 0 else 1) < 30)) = true := by rfl)
    (hline : (apos.endLine == cpos.line) = true := by rfl) (hs : starEach [e] X.env = (false, eval e X.env) :: starEach [] X.env := by rfl) (hK : X.K = G.c.K := by rfl) :
    JE X G Wx (.Call (.Attribute o "join" apos) [e] [] cpos) (tBM G.c.K "str" (rJoin G.c.K) to t) (mMt fJoin mo ma) :=
  je_mtS PySem.F.slot_str_join PySem.F.type_str_join (by rw [← hK]; exact mt_join) (md_join rfl) ho ha hbase hfew hline hs rfl hK
/-- s.index(c), one sign that is there -/
def fIndex (s : List Nat) (ds : List D) : Option D := match ds with
  | [.str [c]] => if c ∈ s then some (.int ((s.idxOf c : Nat) : Int)) else none
  | _ => none
def rIndexF : V → List V → Hp → VK → Prop := fun x xs H Q => ∃ (a b : Str) (k : Nat), x = .str a ∧ xs = [.str b] ∧ Txt.index0 a b = some k ∧ Q (.int (k : Nat)) H
theorem mt_indexF : MtR X "str.index" rIndexF := by
  intro pins s σ H x xs v us Q I rx rs h
  obtain ⟨a, b, k, rfl, rfl, hk, h⟩ := h
  obtain ⟨t, rfl⟩ := rx
  cases rs with
  | cons r1 rs =>
    cases rs
    obtain ⟨u, rfl⟩ := r1
    cases q : Builtin.Str.occurrences a b 0 a.length 1 with
    | nil =>
      unfold Txt.index0 at hk
      rw [q] at hk; cases hk
    | cons k' rest =>
      unfold Txt.index0 at hk
      rw [q] at hk
      cases hk
      exact PySem.SC.index q ⟨.int (k : Nat), H, I.tok _, ⟨_, rfl⟩, h⟩
theorem index_one {s : List Nat} {c : Nat} (h : c ∈ s) : Txt.index0 (mkS s) (mkS [c]) = some (s.idxOf c) := by
  unfold Txt.index0
  have at_iff : ∀ i, StrLaws.At (mkS s) (mkS [c]) (mkS s).length i ↔ s[i]? = some c := fun i => by
    have := StrLaws.subAt_one (mkS s) c i
    simpa [StrLaws.At] using this
  have hi : s[s.idxOf c]? = some c := by
    have hlt := List.idxOf_lt_length_of_mem h
    rw [List.getElem?_eq_getElem hlt, List.getElem_idxOf hlt]
  rcases StrLaws.occ_head (mkS s) (mkS [c]) 1 (Nat.le_refl _) with ⟨h0, hn⟩ | ⟨i, r, h0, h1, h2⟩
  · exact absurd ((at_iff _).mpr hi) (hn _)
  · rw [h0]
    have h1' := (at_iff i).mp h1
    have : i = s.idxOf c := by
      rcases Nat.lt_trichotomy i (s.idxOf c) with hlt | he | hgt
      · have := List.not_of_lt_findIdx (p := (· == c)) (xs := s) (i := i) (by simpa [List.idxOf] using hlt)
        have hli := (List.getElem?_eq_some_iff.mp h1')
        obtain ⟨hl, e⟩ := hli
        simp [e] at this
      · exact he
      · exact absurd ((at_iff _).mpr hi) (h2 _ hgt)
    rw [this]; rfl
theorem md_index : MtD G rIndexF fIndex := by
  intro w H Hs xs s ds d Q hb ok hr e q
  unfold fIndex at e
  split at e
  · split at e
    · rename_i c hc
      cases e
      obtain ⟨v, rfl, rfl, _⟩ := repBL1 hr
      exact ⟨_, _, _, rfl, rfl, index_one hc, q _ H Hs hb.refl_at rfl⟩
    · cases e
  · cases e
theorem je_index (ho : JB X G Wx o to mo) (ha : JAB X G Wx [e] t ma) (hbase : attributeBase o "index" X.env (eval o X.env) = eval o X.env := by rfl)
    (hfew : ((backTo cpos (starEach [e] X.env)).all (fun x => !x.1) && (backToKw cpos (keywordEach [] X.env)).all (fun x => x.1.isSome)
      && decide ([e].length + ([] : List Keyword).length + (if ([] : List Keyword).isEmpty then 0 else 1) < 30)) = true := by rfl)
    (hline : (apos.endLine == cpos.line) = true := by rfl) (hs : starEach [e] X.env = (false, eval e X.env) :: starEach [] X.env := by rfl) (hK : X.K = G.c.K := by rfl) :
    JE X G Wx (.Call (.Attribute o "index" apos) [e] [] cpos) (tBM G.c.K "str" rIndexF to t) (mMt fIndex mo ma) :=
  je_mtS PySem.F.slot_str_index PySem.F.type_str_index mt_indexF md_index ho ha hbase hfew hline hs rfl hK
end
end FT
end
section
set_option Elab.async false
set_option linter.all false
set_option maxRecDepth 100000
set_option maxHeartbeats 4000000
namespace FT
open PySem PySem.Spec PyProof.Rows L2
/-! ### calls with keywords -/
def pick {α : Type} (idx : List Nat) (xs : List α) : List α := idx.filterMap fun i => xs[i]?
theorem pick_cons {α : Type} (i : Nat) (idx : List Nat) (xs : List α) : pick (i :: idx) xs = match xs[i]? with
  | some x => x :: pick idx xs
  | none => pick idx xs := by
  unfold pick
  rw [List.filterMap_cons]
  cases xs[i]? <;> rfl
theorem pick_rep {c : Cc} {H : Hp} {ds : List D} {vs : List V} (r : RepL c H ds vs) : ∀ idx : List Nat, RepL c H (pick idx ds) (pick idx vs)
  | [] => rfl
  | i :: idx => by
    rw [pick_cons, pick_cons]
    cases e : ds[i]? with
    | none =>
      have : vs[i]? = none := by
        rw [List.getElem?_eq_none_iff] at e ⊢
        rw [r.length]; exact e
      rw [this]; exact pick_rep r idx
    | some d =>
      obtain ⟨v, e1, e2⟩ := r.get e
      rw [e1]
      exact ⟨v, _, rfl, e2, pick_rep r idx⟩
theorem pick_vals {vs : List V} {us : List Value} (r : Vals vs us) : ∀ idx : List Nat, Vals (pick idx vs) (pick idx us)
  | [] => .nil
  | i :: idx => by
    rw [pick_cons, pick_cons]
    cases e : vs[i]? with
    | none => rw [r.none_of e]; exact pick_vals r idx
    | some v =>
      obtain ⟨u, e1, e2⟩ := r.get e
      rw [e1]
      exact .cons e2 (pick_vals r idx)
section
variable {X : Cx} {G : Gh} {Wx : WX} {w w' w1 w2 : List D} {H Hs H' Hs' H1 Hs1 H2 Hs2 : Hp} {sd : SD} {σ : L2.St}
structure JK (X : Cx) (G : Gh) (Wx : WX) (kws : List Keyword) (t : TA) (m : ME (List D)) : Prop where
  pe : PK X kws t
  si : Sim G Wx (ρA G) t m
variable {e : Expr} {te : TE} {m : ME D} {es : List Expr} {t tk : TA} {ma mk : ME (List D)} {x : Str} {k n : Nat} {f : Addr} {fd : FuncData} {ps ks : List Str} {fm : List D → List D → R D} {idx : List Nat} {kws : List Keyword} {p pos kpos : Pos} {nm : Option Str}
theorem jk_nil : JK X G Wx [] tNil mNil := ⟨pk_nil, fun sd w σ H Hs Q rs post => post _ H Hs rs.b.refl_at rfl⟩
theorem jk_cons (ha : JE X G Wx e te m) (hr : JK X G Wx kws t ma) : JK X G Wx (⟨nm, e, kpos⟩ :: kws) (tCons te t) (mCons m ma) := by
  refine ⟨pk_cons ha.pe hr.pe, fun sd w σ H Hs Q rs post => ?_⟩
  refine ha.si.bind rs post fun d w1 v H1 Hs1 rs1 b1 q1 post1 => ?_
  refine hr.si.bind rs1 post1 fun ds w2 vs H2 Hs2 rs2 b2 q2 post2 => ?_
  exact post2 _ H2 Hs2 rs2.b.refl_at ⟨v, vs, rfl, q1.mono b2.sub0, q2⟩
/-- how it binds: the values as written (n by place, then the keywords'), picked by idx -/
abbrev KBp (K : PySem.W.Frag) (fd : FuncData) (ps : List Str) (n : Nat) (ks : List Str) (idx : List Nat) : Prop :=
  ∀ (s : Shared) (us ws : List Value), K.In s.heap → us.length = n → ws.length = ks.length → BindsTo s fd ⟨us, ks.zip ws⟩ (ps.zip (pick idx (us ++ ws)))
def tCallKD (n m : Nat) (sp : Sp) (idx : List Nat) (E : L2.St → XK) (t tk : TA) : TE := fun σ H Q => t σ H fun vs H1 => tk σ H1 fun zs H2 => vs.length = n ∧ zs.length = m ∧ sp (pick idx (vs ++ zs)) H2 Q (E σ)
theorem run_fnKD {CX : CXT} {sp : Sp} {E : L2.St → XK} {pins : List (Addr × Obj)} {s : Shared} {Q : VK} {us ws : List Value} {vs zs : List V} (F : FnOk X.prog X.w X.K X.mg X.base CX k f fd ps sp) (hr : Room k X.A) (hb : KBp X.K fd ps n ks idx) (hx : PassesAt CX X σ (E σ))
    (I : Inv X pins σ H s) (r : Vals vs us) (rz : Vals zs ws) (l1 : vs.length = n) (l2 : zs.length = ks.length) (h : sp (pick idx (vs ++ zs)) H Q (E σ)) : wpAny (model X.prog X.w) X.A (call (.ref f) us (ks.zip ws)) (EP X pins σ Q) X.xe s := by
  have r2 := pick_vals (Vals.append r rz) idx
  refine wpAny_call (codeAny_mono (F.run X.A X.stack s H ⟨us, ks.zip ws⟩ _ _ Q (E σ) hr I.env0 (hb s us ws I.kIn (by rw [← r.length]; exact l1) (by rw [← rz.length]; exact l2)) r2 h) fun r s' hq => ?_)
  cases r with
  | error e => exact hx pins H s e s' I hq
  | ok fl =>
    cases fl with
    | ret u => exact I.after hq
    | next => exact False.elim hq
    | brk => exact False.elim hq
    | cont => exact False.elim hq
theorem pe_callKD {CX : CXT} {sp : Sp} {E : L2.St → XK} (F : FnOk X.prog X.w X.K X.mg X.base CX k f fd ps sp) (hr : Room k X.A) (hg : Gl X x) (hm : X.mg x = some (.ref f)) (hk : PySem.W.keepIn X.K (.ref f) = true) (hb : KBp X.K fd ps n ks idx) (hx : ∀ σ, PassesAt CX X σ (E σ))
    (ha : PA X (e :: es) t) (hkw : PK X kws tk) (hall : (backToKw pos (keywordEach kws X.env)).all (·.1.isSome) = true) (hks : (backToKw pos (keywordEach kws X.env)).filterMap (·.1) = ks)
    (hdb : (x == ("__debug__" : Str)) = false) (he : starEach (e :: es) X.env = (false, eval e X.env) :: starEach es X.env)
    (hpl : ((backTo pos (starEach (e :: es) X.env)).any (·.1) || (backToKw pos (keywordEach kws X.env)).any (·.1.isNone)) = false) :
    PE X (.Call (.Name x p) (e :: es) kws pos) (tCallKD n ks.length sp idx E t tk) := by
  refine ⟨fun pins s σ H Q I h => ?_⟩
  refine wpAny_Call_Name_kw (ld_glob I hg hm ?_ hdb)
  refine PySem.W.callWith_KW (h₀ := X.base) I.ok.mod.kin hk hall (thn (ha.run pos pins s σ H _ I h) fun us s1 ⟨vs, H1, I1, r, q⟩ => ?_) hpl he
  refine thn (hkw.run pos pins s1 σ H1 _ I1 q) fun ws s2 ⟨zs, H2, I2, rz, q2⟩ => ⟨I2.kIn, ?_⟩
  rw [hks]
  obtain ⟨l1, l2, q3⟩ := q2
  exact run_fnKD F hr hb (hx σ) I2 r rz l1 l2 q3
theorem pe_callKD0 {CX : CXT} {sp : Sp} {E : L2.St → XK} (F : FnOk X.prog X.w X.K X.mg X.base CX k f fd ps sp) (hr : Room k X.A) (hg : Gl X x) (hm : X.mg x = some (.ref f)) (hk : PySem.W.keepIn X.K (.ref f) = true) (hb : KBp X.K fd ps 0 ks idx) (hx : ∀ σ, PassesAt CX X σ (E σ))
    (hkw : PK X kws tk) (hall : (backToKw pos (keywordEach kws X.env)).all (·.1.isSome) = true) (hks : (backToKw pos (keywordEach kws X.env)).filterMap (·.1) = ks)
    (hdb : (x == ("__debug__" : Str)) = false) (hpl : ((backTo pos (starEach [] X.env)).any (·.1) || (backToKw pos (keywordEach kws X.env)).any (·.1.isNone)) = false) :
    PE X (.Call (.Name x p) [] kws pos) (tCallKD 0 ks.length sp idx E tNil tk) := by
  refine ⟨fun pins s σ H Q I h => ?_⟩
  refine wpAny_Call_Name_kw (ld_glob I hg hm ?_ hdb)
  refine PySem.W.callWith_KW0 (h₀ := X.base) I.ok.mod.kin hk hall (thn (hkw.run pos pins s σ H _ I h) fun ws s2 ⟨zs, H2, I2, rz, q2⟩ => ⟨I2.kIn, ?_⟩) hpl
  rw [hks]
  obtain ⟨l1, l2, q3⟩ := q2
  exact run_fnKD (us := []) F hr hb (hx σ) I2 .nil rz l1 l2 q3
def mCallK (n m : Nat) (idx : List Nat) (f : List D → List D → R D) (ma mk : ME (List D)) : ME D := fun sd w => (ma sd w).bind fun ds w1 => (mk sd w1).bind fun es w2 => if ds.length = n ∧ es.length = m then f (pick idx (ds ++ es)) w2 else .bad
theorem sim_callK {m' : Nat} (ha : Sim G Wx (ρA G) t ma) (hk : Sim G Wx (ρA G) tk mk) : Sim G Wx (ρE G) (tCallKD n m' (spF G.c.K G.c.cl G.T k fm) idx (WE Wx) t tk) (mCallK n m' idx (nArg k fm) ma mk) := by
  intro sd w σ H Hs Q rs post
  refine ha.bind rs post fun ds w1 vs H1 Hs1 rs1 b1 q1 post1 => ?_
  refine hk.bind rs1 post1 fun es w2 zs H2 Hs2 rs2 b2 q2 post2 => ?_
  split at post2
  · rename_i hl
    exact ⟨by rw [q1.length]; exact hl.1, by rw [q2.length]; exact hl.2, call_post rs2.b (pick_rep ((q1.mono b2.sub0).append q2) idx) post2⟩
  · exact post2.elim
theorem je_callK {j : Nat} (F : FnOk X.prog X.w X.K X.mg X.base (L2.CX X.prog X.w) k f fd ps (spF G.c.K G.c.cl G.T j fm)) (hr : Room k X.A) (hm : X.mg x = some (.ref f)) (hk : PySem.W.keepIn X.K (.ref f) = true) (hb : KBp X.K fd ps n ks idx) (tkk : Takes X Wx)
    (ha : JA X G Wx (e :: es) t ma) (hkw : JK X G Wx kws tk mk) (hg : Gl X x := by rfl) (hall : (backToKw pos (keywordEach kws X.env)).all (·.1.isSome) = true := by rfl) (hks : (backToKw pos (keywordEach kws X.env)).filterMap (·.1) = ks := by rfl)
    (hdb : (x == ("__debug__" : Str)) = false := by decide) (he : starEach (e :: es) X.env = (false, eval e X.env) :: starEach es X.env := by rfl)
    (hpl : ((backTo pos (starEach (e :: es) X.env)).any (·.1) || (backToKw pos (keywordEach kws X.env)).any (·.1.isNone)) = false := by rfl) :
    JE X G Wx (.Call (.Name x p) (e :: es) kws pos) (tCallKD n ks.length (spF G.c.K G.c.cl G.T j fm) idx (WE Wx) t tk) (mCallK n ks.length idx (nArg j fm) ma mk) :=
  ⟨pe_callKD F hr hg hm hk hb (fun σ => passAt tkk σ) ha.pe hkw.pe hall hks hdb he hpl, sim_callK ha.si hkw.si⟩
theorem je_callK0 {j : Nat} (F : FnOk X.prog X.w X.K X.mg X.base (L2.CX X.prog X.w) k f fd ps (spF G.c.K G.c.cl G.T j fm)) (hr : Room k X.A) (hm : X.mg x = some (.ref f)) (hk : PySem.W.keepIn X.K (.ref f) = true) (hb : KBp X.K fd ps 0 ks idx) (tkk : Takes X Wx)
    (hkw : JK X G Wx kws tk mk) (hg : Gl X x := by rfl) (hall : (backToKw pos (keywordEach kws X.env)).all (·.1.isSome) = true := by rfl) (hks : (backToKw pos (keywordEach kws X.env)).filterMap (·.1) = ks := by rfl)
    (hdb : (x == ("__debug__" : Str)) = false := by decide) (hpl : ((backTo pos (starEach [] X.env)).any (·.1) || (backToKw pos (keywordEach kws X.env)).any (·.1.isNone)) = false := by rfl) :
    JE X G Wx (.Call (.Name x p) [] kws pos) (tCallKD 0 ks.length (spF G.c.K G.c.cl G.T j fm) idx (WE Wx) tNil tk) (mCallK 0 ks.length idx (nArg j fm) mNil mk) :=
  ⟨pe_callKD0 F hr hg hm hk hb (fun σ => passAt tkk σ) hkw.pe hall hks hdb hpl, sim_callK (ja_nil (X := X)).si hkw.si⟩
theorem kb_of {K : PySem.W.Frag} {qual : Str} {st : Stmt} (F : Fun K x qual st f fd)
    (h : ∀ (kV doc pm : Value) (an : Option Addr) (cdv ct : Value) (us ws : List Value), us.length = n → ws.length = ks.length → bindArgs (PySem.W.fnOf x qual (defArgs st) (defBody st) (defScope st) .none kV doc pm an cdv ct) ⟨us, ks.zip ws⟩ = pure (ps.zip (pick idx (us ++ ws)))) : KBp K fd ps n ks idx := by
  obtain ⟨oc, od, kV, doc, pm, an, cdv, ct, osl, rfl, lk, hcd⟩ := F.ex
  exact fun s us ws _ h1 h2 => BindsTo.of_eq (h kV doc pm an cdv ct us ws h1 h2)
/-! ### a def whose last row hands back a list of its own making -/
structure JSF (X : Cx) (G : Gh) (Wx : WX) (s : List Stmt) (t : TS) (m : SD → List D → R (List D)) : Prop where
  pe : PSs X s t
  si : ∀ sd w σ H Hs De, RS G sd w σ H Hs → (∀ ds w', m sd w = .ok ds w' → ∀ a vs H' Hs', B G w' H' Hs' → H' a = some (.lst vs) → RepL G.c Hs' ds vs → Hs' a = none → (∀ o', G.H0 a = some o' → ¬ NoT o') → G.c.ap ≠ some a → De.rt (.ref a) H') → (∃ ds w', m sd w = .ok ds w') → t De σ H
theorem jsf_ret {m : ME (List D)} (h : JF X G Wx e te m) : JSF X G Wx [.Return (some e) pos] (tRet te) m := by
  refine ⟨pss_one (ps_ret h.pe), fun sd w σ H Hs De rs post ⟨ds, w', e⟩ => h.si sd w σ H Hs _ rs ?_⟩
  rw [e]
  intro a vs H' Hs' b h1 h2 h3 h4 h5
  exact post ds w' e a vs H' Hs' (rs.b.trans b) h1 h2 h3 (fun o' e hn => h4 o' (rs.b.keep a o' h5 hn e) hn) h5
theorem jsf_cons {st : Stmt} {sts : List Stmt} {t1 t2 : TS} {m1 : MS} {m2 : SD → List D → R (List D)} (h1 : JS X G Wx st t1 m1) (h2 : JSF X G Wx sts t2 m2) : JSF X G Wx (st :: sts) (tSeq t1 t2) (fun sd w => match m1 sd w with
    | .nx sd' w' => m2 sd' w'
    | _ => .bad) := by
  refine ⟨pss_cons h1.pe h2.pe, fun sd w σ H Hs De rs post ⟨ds, w', e⟩ => h1.si sd w σ H Hs _ rs ?_⟩
  cases e1 : m1 sd w with
  | nx sd1 w1 =>
    rw [e1] at e
    simp only at e
    intro σ' H' Hs' rs' sm
    refine h2.si sd1 w1 σ' H' Hs' De rs' (fun ds2 w2 e2 => ?_) ⟨ds, w', e⟩
    exact post ds2 w2 (by rw [e1]; exact e2)
  | _ => rw [e1] at e; cases e
end
def spPF (K : PySem.W.Frag) (cl : Nat → Addr) (T : List (Addr × Str)) (n : Nat) (fm : List D → List D → R (List D)) : Sp := fun vs H Q E => ∃ (Hs : Hp) (ds : List D) (es : List D),
  B (gh K cl T none (fun _ => none) H Hs) [] H Hs ∧ RepL ⟨K, none, cl⟩ Hs ds vs ∧ ds.length = n ∧ fm ds [] = .ok es [] ∧ ∀ a us H' Hs', B (gh K cl T none (fun _ => none) H Hs) [] H' Hs' → H' a = some (.lst us) → RepL ⟨K, none, cl⟩ Hs' es us → Hs' a = none → (∀ o', H a = some o' → ¬ NoT o') → Q (.ref a) H'
section
variable {P : Program} {w0 : World} {K : PySem.W.Frag} {mg : Str → Option Value} {base : Heap}
theorem ok_pen {x qual : Str} {st : Stmt} {f : Addr} {fd : FuncData} {N ps : List Str} {k : Nat} {cl : Nat → Addr} {T : List (Addr × Str)} {m : SD → List D → R (List D)} (F : Fun K x qual st f fd) (S : FnScope N ps (defScope st)) (hps : ps.length ≤ N.length)
    (hb : ∀ (cdv : Value) (A : Around) (outer : List Env) (s : Shared) (H : Hp) (E : XK) (ap : Option Addr) (HP Hs : Hp), Room k (A.deeper (envOfC qual (defScope st) s.heap.objs.size f cdv)) →
      ∃ t, JSF (cxOf (L2.CX P w0) P w0 K mg base N qual (defScope st) f cdv A outer s H E) (gh K cl T ap HP H Hs) (fun c d _ H => E c d H) (defBody st) t m) :
    FnOk P w0 K mg base (L2.CX P w0) (k + 1) f fd ps (spPF K cl T ps.length fun ds w => m (sd0 N.length ds) w) := by
  refine F.okX S (fun vs H Q E h => ?_) (fun cdv A outer s H vs Q E hr h => ?_)
  · obtain ⟨Hs, ds, es, _, r, hn, _⟩ := h
    rw [r.length, hn]
  · obtain ⟨Hs, ds, es, b, r, hn, em, post⟩ := h
    obtain ⟨t, J⟩ := hb cdv A outer s H E none (fun _ => none) Hs hr
    refine ⟨t, J.pe, J.si (sd0 N.length ds) [] (L2.start N vs) H Hs _ ⟨b, sl_start (G := gh K cl T none (fun _ => none) H Hs) r (by rw [hn]; exact hps)⟩ (fun ds' w' e a us H' Hs' b' h1 h2 h3 h4 _ => ?_) ⟨es, [], em⟩⟩
    have e3 : (R.ok es [] : R (List D)) = .ok ds' w' := em.symm.trans e
    cases e3
    exact post a us H' Hs' b' h1 h2 h3 h4
/-! ### the law -/
mutual
theorem rep_ap {K : PySem.W.Frag} {cl : Nat → Addr} {ap : Option Addr} {H : Hp} : ∀ {d : D} {v : V}, Rep ⟨K, none, cl⟩ H d v → Rep ⟨K, ap, cl⟩ H d v
  | .non, _, h => h
  | .bl _, _, h => h
  | .int _, _, h => h
  | .str _, _, h => h
  | .lst _, _, ⟨a, vs, h1, h2, h3⟩ => ⟨a, vs, h1, h2, repL_ap h3⟩
  | .tup _, _, ⟨a, vs, h1, h2, h3⟩ => ⟨a, vs, h1, h2, repL_ap h3⟩
  | .frz _, _, ⟨a, vs, h1, h2, h3⟩ => ⟨a, vs, h1, h2, repL_ap h3⟩
  | .pen, _, ⟨a, h, _⟩ => by cases h
  | .obj _ _ _, _, ⟨a, dx, fs, h1, h2, h3, h4⟩ => ⟨a, dx, fs, h1, h2, h3, repL_ap h4⟩
theorem repL_ap {K : PySem.W.Frag} {cl : Nat → Addr} {ap : Option Addr} {H : Hp} : ∀ {ds : List D} {vs : List V}, RepL ⟨K, none, cl⟩ H ds vs → RepL ⟨K, ap, cl⟩ H ds vs
  | [], _, h => h
  | _ :: _, _, ⟨v, r, h1, h2, h3⟩ => ⟨v, r, h1, rep_ap h2, repL_ap h3⟩
end
def tAny (X : Cx) (sts : List Stmt) : TS := fun De σ H => ∃ t, PSs X sts t ∧ t De σ H
theorem pss_any {X : Cx} {sts : List Stmt} : PSs X sts (tAny X sts) := ⟨fun pins s σ H De I ⟨t, p, h⟩ => p.run pins s σ H De I h⟩
/-- what the law is called with: the tables' addresses are empty tables -/
def spLaw (K : PySem.W.Frag) (T : List (Addr × Str)) (Pre : List Int → Prop) : Sp := fun vs H Q _ => ∃ (a : Addr) (ns : List Int), vs = [.ref a] ∧ SqL K H a (ns.map V.int) ∧ Pre ns ∧ LamX.Tabs T H ∧ ∀ H', Q (.bl true) H'
noncomputable def onlyN (H : Hp) : Hp := fun a => open Classical in if (∃ o, H a = some o ∧ NoT o) then H a else none
theorem onlyN_at {H : Hp} {a : Addr} {o : HO} (h : H a = some o) (n : NoT o) : onlyN H a = some o := by
  unfold onlyN
  rw [if_pos ⟨o, h, n⟩]; exact h
theorem onlyN_of {H : Hp} {a : Addr} {o : HO} (h : onlyN H a = some o) : H a = some o ∧ NoT o := by
  unfold onlyN at h
  split at h
  · rename_i hx
    obtain ⟨o', h1, h2⟩ := hx
    rw [h1] at h
    cases h
    exact ⟨h1, h2⟩
  · cases h
theorem ok_law {x qual : Str} {st st0 : Stmt} {rest : List Stmt} {f : Addr} {fd : FuncData} {s0 y : Str} {N : List Str} {k kp : Nat} {cl : Nat → Addr} {T : List (Addr × Str)} {Pre : List Int → Prop} {mr : MS} {pm : List D → List D → R (List D)} (F : Fun K x qual st f fd) (S : FnScope N [s0] (defScope st)) (hN : 2 ≤ N.length) (hbd : defBody st = st0 :: rest)
    (h0 : ∀ (cdv : Value) (A : Around) (outer : List Env) (s : Shared) (H : Hp) (E : XK), Room k (A.deeper (envOfC qual (defScope st) s.heap.objs.size f cdv)) →
      PS (cxOf (L2.CX P w0) P w0 K mg base N qual (defScope st) f cdv A outer s H E) st0 (tAsg (tCallS (spPF K cl T 1 pm) (WE fun c d _ H => E c d H) (tCons (tVar 0) tNil)) (gName 1)))
    (hb : ∀ (cdv : Value) (A : Around) (outer : List Env) (s : Shared) (H : Hp) (E : XK) (ap : Option Addr) (HP H1 Hs : Hp), Room k (A.deeper (envOfC qual (defScope st) s.heap.objs.size f cdv)) →
      ∃ t, JSs (cxOf (L2.CX P w0) P w0 K mg base N qual (defScope st) f cdv A outer s H E) (gh K cl T ap HP H1 Hs) (fun c d _ H => E c d H) rest t mr)
    (pure_law : ∀ ns, Pre ns → ∃ cells w', pm [.frz (ns.map D.int)] [] = .ok cells [] ∧ mr (.val (.frz (ns.map D.int)) :: .val .pen :: List.replicate (N.length - 2) .no) cells = .ret (.bl true) w') :
    FnOk P w0 K mg base (L2.CX P w0) (k + 1) f fd [s0] (spLaw K T Pre) := by
  refine F.okX S (fun vs H Q E h => ?_) (fun cdv A outer s H vs Q E hr h => ?_)
  · obtain ⟨a, ns, rfl, _⟩ := h; rfl
  · obtain ⟨a, ns, rfl, hS, hpre, hT, q⟩ := h
    obtain ⟨cells, w', e1, e2⟩ := pure_law ns hpre
    rw [hbd]
    refine ⟨_, pss_cons (h0 cdv A outer s H E hr) pss_any, ?_⟩
    have sN : Same (onlyN H) H := fun b o e => (onlyN_of e).1
    have b0 : B (gh K cl T none (fun _ => none) H (onlyN H)) [] H (onlyN H) := ⟨sN, Same.refl _, fun _ _ _ _ h => h, fun _ _ h => .inl h, (fun _ h => by cases h), (fun _ _ h => by cases h), fun b o e => (onlyN_of e).2, hT⟩
    have hSs : SqL K (onlyN H) a (ns.map V.int) := by
      rcases hS with (h | ⟨o, h⟩) | h
      · exact .inl (.inl (onlyN_at h lst_noT))
      · exact .inl (.inr ⟨o, onlyN_at h (fun _ e => by cases e)⟩)
      · exact .inr h
    have rF : Rep ⟨K, none, cl⟩ (onlyN H) (.frz (ns.map D.int)) (.ref a) := ⟨a, _, rfl, hSs, repL_int _⟩
    refine ⟨_, rfl, onlyN H, [.frz (ns.map D.int)], cells, b0, RepL.one rF, rfl, e1, fun p us H1 Hs1 b1 hp rl hps hf => ?_⟩
    obtain ⟨t, J⟩ := hb cdv A outer s H E (some p) Hs1 H1 Hs1 hr
    refine ⟨t, J.pe, J.si (.val (.frz (ns.map D.int)) :: .val .pen :: List.replicate (N.length - 2) .no) cells _ H1 Hs1 _ ⟨?_, ?_⟩ ?_⟩
    · exact ⟨b1.sub, Same.refl _, fun _ _ _ _ h => h, fun _ _ h => .inl h, fun a' ha' => by
        cases ha'
        exact ⟨⟨us, hp, repL_ap rl⟩, hps⟩, Same.refl _, b1.nt, b1.tab⟩
    · have hst : L2.start N [V.ref a] = some (.ref a) :: List.replicate (N.length - 1) none := rfl
      have hrep : List.replicate (N.length - 1) (none : Option V) = none :: List.replicate (N.length - 2) none := by
        have : N.length - 1 = (N.length - 2) + 1 := by omega
        rw [this]; rfl
      rw [hst, hrep]
      show SL _ _ (some (V.ref a) :: some (.ref p) :: List.replicate (N.length - 2) none) _ _
      have no_own : ∀ (i : Nat) (ds : List D), (SV.val (D.frz (ns.map D.int)) :: SV.val .pen :: List.replicate (N.length - 2) SV.no)[i]? ≠ some (SV.own ds) := fun i ds h => by
        match i, h with
        | 0, h => cases h
        | 1, h => cases h
        | i + 2, h =>
          have h' : (List.replicate (N.length - 2) SV.no)[i]? = some (SV.own ds) := h
          have := (List.mem_replicate.mp (List.mem_of_getElem? h')).2
          cases this
      refine ⟨by simp, fun i d h => ?_, fun i ds h => absurd h (no_own i ds), fun i j ds es a h => absurd h (no_own i ds)⟩
      match i, h with
      | 0, h => cases h; exact ⟨_, rfl, a, _, rfl, b1.sub0.seq hSs, repL_int _⟩
      | 1, h => cases h; exact ⟨_, rfl, p, rfl, rfl⟩
      | i + 2, h =>
        have h' : (List.replicate (N.length - 2) SV.no)[i]? = some (SV.val d) := h
        have := (List.mem_replicate.mp (List.mem_of_getElem? h')).2
        cases this
    · rw [e2]
      intro v H' Hs' b' rv
      rw [show v = .bl true from rv]
      exact q H'
end
end FT
end
section
set_option Elab.async false
set_option linter.all false
set_option maxRecDepth 100000
set_option maxHeartbeats 4000000
namespace FT
open PySem PySem.Spec PyProof.Rows L2
/-! ### zip of lists, tuples, texts, in any mix -/
inductive Sd where
  | lst (a : Addr)
  | tup (a : Addr)
  | txt (z : Str) (t : Tok)
def Sd.fp : Sd → Addr → List Addr
  | .lst a, i => [i, a]
  | .tup a, i => [i, a]
  | .txt _ _, i => [i]
def Sd.on : Sd → Addr → Nat → Heap → Prop
  | .lst a, it, i, h => h.IsListIter it a i
  | .tup a, it, i, h => h.IsTupleIter it a i
  | .txt x t, it, i, h => h.IsStrIter it (strIterType x) x t i
def chars (z : Str) : List V := z.cps.toList.map fun c => V.str ⟨#[c]⟩
def Sd.At (K : PySem.W.Frag) (H : Hp) : Sd → List V → Prop
  | .lst a, xs => SqL K H a xs
  | .tup a, xs => SqT K H a xs
  | .txt z _, xs => xs = chars z
theorem Sd.on_obj {sd : Sd} {it : Addr} {i : Nat} {h : Heap} (o : sd.on it i h) : ∃ ob, h.get? it = some ob ∧ ∀ v, ob.data ≠ .cell v := by
  cases sd with
  | lst a => obtain ⟨o, h1, _, h2⟩ := o; exact ⟨o, h1, fun v z => by rw [h2] at z; cases z⟩
  | tup a => obtain ⟨o, h1, _, h2⟩ := o; exact ⟨o, h1, fun v z => by rw [h2] at z; cases z⟩
  | txt x t => obtain ⟨o, h1, _, h2⟩ := o; exact ⟨o, h1, fun v z => by rw [h2] at z; cases z⟩
theorem Sd.on_at {sd : Sd} {it : Addr} {i : Nat} {h h' : Heap} (o : sd.on it i h) (k : ∀ ob, h.get? it = some ob → h'.get? it = some ob) : sd.on it i h' := by
  cases sd with
  | lst a => obtain ⟨o, h1, h2⟩ := o; exact ⟨o, k o h1, h2⟩
  | tup a => obtain ⟨o, h1, h2⟩ := o; exact ⟨o, k o h1, h2⟩
  | txt x t => obtain ⟨o, h1, h2⟩ := o; exact ⟨o, k o h1, h2⟩
theorem Sd.draws {X : Cx} {pins : List (Addr × Obj)} {σ : L2.St} {H : Hp} {s : Shared} (hc : X.calm = true) (I : Inv X pins σ H s) {sd : Sd} {xs : List V} (h : sd.At X.K H xs) (it : Addr) (S : ∀ a ∈ sd.fp it, a = it ∨ a ≠ it) (ne : ∀ a, sd = .lst a ∨ sd = .tup a → a ≠ it) :
    ∃ (P : Nat → Value → Prop) (St : Nat → Heap → Prop), Draws X.prog X.w X.A.in1 it (sd.fp it) xs.length P St ∧ (∀ i, sd.on it i s.heap → St i s.heap) ∧ (∀ i h, St i h → sd.on it i h) ∧ ∀ i v x, P i v → xs[i]? = some x → RelV x v := by
  have hh : X.A.in1.handled = none := I.ok.hd hc
  cases sd with
  | lst a =>
    obtain ⟨its, rv, p, hz⟩ := I.list h
    refine ⟨fun i v => its.toArray[i]? = some v, fun i h => h.IsListIter it a i ∧ h.IsList a its.toArray, by rw [rv.length]; exact Draws.list hh it a (ne a (.inl rfl)) its.toArray, fun i o => ⟨o, p.isList⟩, fun i h st => st.1, fun i v x hp hx => ?_⟩
    obtain ⟨u, e1, e2⟩ := rv.get hx
    have : its[i]? = some v := by simpa using hp
    rw [this] at e1; cases e1; exact e2
  | tup a =>
    obtain ⟨its, rv, p, hz⟩ := I.tuple h
    refine ⟨fun i v => its.toArray[i]? = some v, fun i h => h.IsTupleIter it a i ∧ h.IsTuple a its.toArray, by rw [rv.length]; exact Draws.tuple hh it a (ne a (.inr rfl)) its.toArray, fun i o => ⟨o, p⟩, fun i h st => st.1, fun i v x hp hx => ?_⟩
    obtain ⟨u, e1, e2⟩ := rv.get hx
    have : its[i]? = some v := by simpa using hp
    rw [this] at e1; cases e1; exact e2
  | txt z t =>
    have h : xs = chars z := h
    subst h
    refine ⟨fun i v => ∃ c u, z.cps[i]? = some c ∧ v = .str ⟨#[c]⟩ u, fun i h => h.IsStrIter it (strIterType z) z t i, by rw [show (chars z).length = z.cps.size by simp [chars]]; exact Draws.text hh it z t, fun i o => o, fun i h st => st, fun i v x ⟨c, u, h1, h2⟩ hx => ?_⟩
    subst h2
    unfold chars at hx
    rw [List.getElem?_map] at hx
    have : z.cps.toList[i]? = some c := by simpa using h1
    rw [this] at hx
    cases hx
    exact ⟨u, rfl⟩
/-- the two as they stand at each turn, the items in new pairs -/
def ItzA (K : PySem.W.Frag) (p q : Sd) : It :=
  ⟨fun i H => ∃ (xs ys : List V) (x y : V), p.At K H xs ∧ q.At K H ys ∧ xs[i]? = some x ∧ ys[i]? = some y,
    fun i H v H' => ∃ T x y, v = .ref T ∧ H T = none ∧ H' = upd H T (.tup [x, y]) ∧ (∀ xs, p.At K H xs → xs[i]? = some x) ∧ ∀ ys, q.At K H ys → ys[i]? = some y,
    fun i H => ∃ xs ys : List V, p.At K H xs ∧ q.At K H ys ∧ i = min xs.length ys.length⟩
theorem Sd.at_inj {X : Cx} {pins : List (Addr × Obj)} {σ : L2.St} {H : Hp} {s : Shared} (I : Inv X pins σ H s) {sd : Sd} {xs ys : List V} (h : sd.At X.K H xs) (h' : sd.At X.K H ys) : ys = xs := by
  cases sd with
  | lst a => exact I.list_inj h' h
  | tup a => exact I.tuple_inj h' h
  | txt z t => exact (show ys = chars z from h').trans (show xs = chars z from h).symm
theorem turn_zipA {P : Program} {w : World} {K : PySem.W.Frag} {elts : List Expr} {kk : Nat} {tpos : Pos} {p q : Sd} {z TI TO i1 i2 : Addr} (S : ZipSep2 z TI TO i1 i2 (p.fp i1) (q.fp i2)) (ne1 : ∀ a, p = .lst a ∨ p = .tup a → a ≠ i1) (ne2 : ∀ a, q = .lst a ∨ q = .tup a → a ≠ i2) :
    Turn P w K (.Tuple elts kk tpos) (ItzA K p q) [z, TI, TO, i1, i2] z (fun i h => IsZip h z TI TO .none ∧ IsTupOf2 h TI (.ref i1) (.ref i2) ∧ (∃ x y, IsTupOf2 h TO x y) ∧ p.on i1 i h ∧ q.on i2 i h) where
  mem := by simp
  obj := fun i h st c hc => by
    obtain ⟨hz, hTI, ⟨x, y, hTO⟩, h1, h2⟩ := st
    have e' : c = z ∨ c = TI ∨ c = TO ∨ c = i1 ∨ c = i2 := by simpa using hc
    rcases e' with e | e | e | e | e
    · rw [e]; exact ⟨_, hz, fun v q => nomatch q⟩
    · rw [e]; exact ⟨_, hTI, fun v q => nomatch q⟩
    · rw [e]; exact ⟨_, hTO, fun v q => nomatch q⟩
    · rw [e]; exact Sd.on_obj (sd := p) h1
    · rw [e]; exact Sd.on_obj (sd := q) h2
  keep := fun i h h' st k => by
    obtain ⟨hz, hTI, ⟨x, y, hTO⟩, h1, h2⟩ := st
    exact ⟨k z (by simp) _ hz, k TI (by simp) _ hTI, ⟨x, y, k TO (by simp) _ hTO⟩, Sd.on_at (sd := p) h1 fun o q => k i1 (by simp) o q, Sd.on_at (sd := q) h2 fun o q => k i2 (by simp) o q⟩
  item := by
    intro X hP hw hK hc i pins s σ H E I hf st hg
    subst hP hw hK
    obtain ⟨hz, hTI, ⟨x0, y0, hTO⟩, h1, h2⟩ := st
    obtain ⟨xs, ys, x, y, hqx, hqy, hx, hy⟩ := hg
    obtain ⟨P1, St1, D1, f1, g1, r1⟩ := Sd.draws hc I hqx i1 (fun a _ => Classical.em _) ne1
    obtain ⟨P2, St2, D2, f2, g2, r2⟩ := Sd.draws hc I hqy i2 (fun a _ => Classical.em _) ne2
    have hzl : z < s.heap.objs.size := Heap.lt_size hz
    refine wpAny_pyNext_zipD2_item S D1 D2 hz hTI hTO (f1 i h1) (f2 i h2) (List.getElem?_eq_some_iff.mp hx).1 (List.getElem?_eq_some_iff.mp hy).1 fun u u2 h' tk q1 q2 z' TO' st1' st2' hT hsz hk => ?_
    have ru := r1 i u x q1 hx
    have ru2 := r2 i u2 y q2 hy
    have h1' := g1 _ _ st1'
    have h2' := g2 _ _ st2'
    refine ⟨_, rfl, wpAny_letOwnedTupleGo_zip (s := { s with heap := h', toks := tk }) z' fun h'' z'' sb => ?_⟩
    have hT2 : h''.get? s.heap.objs.size = some { cls := .type "tuple", data := .seq #[u, u2] } := (sb.2 _ (Nat.ne_of_gt hzl)).trans hT
    have new : ObjOk X.prog X.w (upd H s.heap.objs.size (.tup [x, y])) h'' s.heap.objs.size (.tup [x, y]) :=
      ⟨by show 2 ≤ sizeLine; decide, [u, u2], .cons ru (.cons ru2 .nil), ⟨_, hT2, rfl, _, rfl⟩⟩
    have I1 : Inv X pins σ (upd H s.heap.objs.size (.tup [x, y])) { s with heap := h'', toks := tk } :=
      I.turnedNew (t' := tk) (ch := [z, TI, TO, i1, i2]) (fun c o hb q => (sb.2 c (fun q' => hb (by simp [q']))).trans (hk c o (fun q' => hb (by simp [q'])) (fun q' => hb (by simp [q'])) (fun q' => hb (by simp [q'])) (fun q' => hb (by simp [q'])) q)) hf (Nat.le_refl _) new
    have i1z : i1 ≠ z := fun e => S.zf1 (by rw [← e]; exact S.mem1)
    have i2z : i2 ≠ z := fun e => S.zf2 (by rw [← e]; exact S.mem2)
    refine ⟨.ref s.heap.objs.size, _, I1, rfl, ⟨_, x, y, rfl, I.hok.fresh (Nat.le_refl _), rfl, fun l hl => by rw [Sd.at_inj I hqx hl]; exact hx, fun l hl => by rw [Sd.at_inj I hqy hl]; exact hy⟩, ⟨z'', ?_, ⟨u, u2, ?_⟩, ?_, ?_⟩, fun c hcm => ?_⟩
    · exact (sb.2 _ S.TIz).trans (hk _ _ S.TIz S.TITO S.TIi1 S.TIi2 hTI)
    · exact (sb.2 _ S.TOz).trans TO'
    · exact Sd.on_at (sd := p) h1' fun o q => (sb.2 _ i1z).trans q
    · exact Sd.on_at (sd := q) h2' fun o q => (sb.2 _ i2z).trans q
    · have hlt : c < s.heap.objs.size := by
        have e' : c = z ∨ c = TI ∨ c = TO ∨ c = i1 ∨ c = i2 := by simpa using hcm
        rcases e' with e | e | e | e | e
        · rw [e]; exact hzl
        · rw [e]; exact Heap.lt_size hTI
        · rw [e]; exact Heap.lt_size hTO
        · rw [e]; obtain ⟨_, e1, _⟩ := Sd.on_obj (sd := p) h1; exact Heap.lt_size e1
        · rw [e]; obtain ⟨_, e2, _⟩ := Sd.on_obj (sd := q) h2; exact Heap.lt_size e2
      rw [upd_ne (Nat.ne_of_lt hlt)]
      exact (hf c hcm).1
  done := by
    intro X hP hw hK hc i pins s σ H E I hf st hg
    subst hP hw hK
    obtain ⟨hz, hTI, ⟨x0, y0, hTO⟩, h1, h2⟩ := st
    obtain ⟨xs, ys, hqx, hqy, hend⟩ := hg
    obtain ⟨P1, St1, D1, f1, g1, r1⟩ := Sd.draws hc I hqx i1 (fun a _ => Classical.em _) ne1
    obtain ⟨P2, St2, D2, f2, g2, r2⟩ := Sd.draws hc I hqy i2 (fun a _ => Classical.em _) ne2
    exact wpAny_pyNext_zipD2_end S D1 D2 hz hTI hTO (f1 i h1) (f2 i h2) (by omega) (by omega) (by omega) fun h' tk hk => ⟨rfl, I.turnedL (t' := tk) (ch := [z, TI, TO, i1, i2]) (fun c o hb q =>
      hk c o (fun q' => hb (by simp [q'])) (fun q' => hb (by simp [q'])) (fun q' => hb (by simp [q'])) (fun q' => hb (by simp [q'])) q) hf⟩
  self := fun A i s Q E st h => wpAny_pyIter_zip st.1 h
/-- what a value is to a zip -/
inductive SdOf : V → Value → Sd → Prop
  | lst (a : Addr) : SdOf (.ref a) (.ref a) (.lst a)
  | tup (a : Addr) : SdOf (.ref a) (.ref a) (.tup a)
  | txt (z : Str) (t : Tok) : SdOf (.str z) (.str z t) (.txt z t)
def sdO : Sd → Obj
  | .lst l => { cls := .type "list_iterator", data := .fields #[.ref l, .int 0 0] }
  | .tup l => { cls := .type "tuple_iterator", data := .fields #[.ref l, .int 0 0] }
  | .txt x t => { cls := .type (strIterType x), data := .fields #[.str x t, .int 0 0] }
theorem sdO_on {sd : Sd} {it : Addr} {h : Heap} (e : h.get? it = some (sdO sd)) : sd.on it 0 h := by
  cases sd with
  | lst a => exact ⟨_, e, rfl, rfl⟩
  | tup a => exact ⟨_, e, rfl, rfl⟩
  | txt x t => exact ⟨_, e, rfl, rfl⟩
theorem SdOf.begins {X : Cx} {pins : List (Addr × Obj)} {σ : L2.St} {H : Hp} {s : Shared} (I : Inv X pins σ H s) {x : V} {u : Value} {sd : Sd} {xs : List V} (h : SdOf x u sd) (a : sd.At X.K H xs) : ∃ Hq : Heap → Prop, Begins u (sdO sd) Hq ∧ Hq s.heap ∧ ∀ b ∈ sd.fp s.heap.objs.size, b = s.heap.objs.size ∨ b < s.heap.objs.size := by
  cases h with
  | lst a' =>
    obtain ⟨its, rv, p, hz⟩ := I.list a
    refine ⟨_, begins_list a' its.toArray, p.isList, fun b hb => ?_⟩
    have e : b = s.heap.objs.size ∨ b = a' := by simpa [Sd.fp] using hb
    rcases e with e | e
    · exact .inl e
    · exact .inr (by rw [e]; exact p.lt)
  | tup a' =>
    obtain ⟨its, rv, p, hz⟩ := I.tuple a
    obtain ⟨o1, ho1, _⟩ := id p
    refine ⟨_, begins_tuple a' its.toArray, p, fun b hb => ?_⟩
    have e : b = s.heap.objs.size ∨ b = a' := by simpa [Sd.fp] using hb
    rcases e with e | e
    · exact .inl e
    · exact .inr (by rw [e]; exact Heap.lt_size ho1)
  | txt z t => exact ⟨_, begins_text z t, trivial, fun b hb => .inl (by simpa [Sd.fp] using hb)⟩
def SdV (K : PySem.W.Frag) (H : Hp) (x : V) (f : Tok → Sd) (xs : List V) : Prop := (∃ a, x = .ref a ∧ (f = fun _ => .lst a) ∧ SqL K H a xs) ∨ (∃ a, x = .ref a ∧ (f = fun _ => .tup a) ∧ SqT K H a xs) ∨ ∃ z, x = .str z ∧ (f = fun t => .txt z t) ∧ xs = chars z
theorem SdV.of {K : PySem.W.Frag} {H : Hp} {x : V} {u : Value} {f : Tok → Sd} {xs : List V} (h : SdV K H x f xs) (r : RelV x u) : ∃ t, SdOf x u (f t) ∧ (f t).At K H xs := by
  rcases h with ⟨a, rfl, rfl, h⟩ | ⟨a, rfl, rfl, h⟩ | ⟨z, rfl, rfl, h⟩
  · cases r; exact ⟨0, .lst a, h⟩
  · cases r; exact ⟨0, .tup a, h⟩
  · obtain ⟨t, rfl⟩ := r; exact ⟨t, .txt z t, h⟩
theorem zsep (n : Nat) (fp1 fp2 : List Nat) (m1 : n ∈ fp1) (m2 : n + 1 ∈ fp2) (b1 : ∀ b ∈ fp1, b = n ∨ b < n) (b2 : ∀ b ∈ fp2, b = n + 1 ∨ b < n) : ZipSep2 (n + 4) (n + 2) (n + 3) n (n + 1) fp1 fp2 := by
  have k1 : ∀ m : Nat, n < m → m ∉ fp1 := fun m hm h => by have := b1 m h; omega
  have k2 : ∀ m : Nat, n < m → m ≠ n + 1 → m ∉ fp2 := fun m hm hn h => by have := b2 m h; omega
  refine ⟨Nat.ne_of_lt ?_, Nat.ne_of_lt ?_, Nat.ne_of_lt ?_, Nat.ne_of_gt ?_, m1, k1 _ ?_, k1 _ ?_, Nat.ne_of_gt ?_, m2, k2 _ ?_ (Nat.ne_of_gt ?_), k2 _ ?_ (Nat.ne_of_gt ?_), fun h => ?_, k1 _ ?_⟩
  all_goals first | omega | (have := b2 _ h; omega)
def iZipX (K : PySem.W.Frag) (ta : TA) : TI := fun σ H R => ta σ H fun vs H1 => ∃ x y f g xs ys, vs = [x, y] ∧ SdV K H1 x f xs ∧ SdV K H1 y g ys ∧ ∀ t t', R (ItzA K (f t) (g t')) H1
theorem pi_zipX {X : Cx} {e e2 : Expr} {ta : TA} {p pos tpos : Pos} {elts : List Expr} {kk : Nat} (hg : Gl X "zip") (hm : X.mg "zip" = none) (ha : PA X [e, e2] ta)
    (hs : starEach [e, e2] X.env = (false, eval e X.env) :: starEach [e2] X.env := by rfl) (hpl : (backTo pos (starEach [e2] X.env)).any (·.1) = false := by rfl) :
    PI X (.Tuple elts kk tpos) (.Call (.Name "zip" p) [e, e2] [] pos) (iZipX X.K ta) := by
  refine ⟨fun pins s σ H R I h => ?_⟩
  refine Call_ (ld_blt I hg hm PyProof.Rows.boot_zip (PyProof.Rows.callWith_type1 (thn (ha.run pos pins s σ H _ I h) fun us s1 ⟨vs, H1, I1, r1, q1⟩ => ?_) hs hpl))
  obtain ⟨x, y, f, g, xs, ys, ex, hx, hy, q⟩ := q1
  subst ex
  cases r1 with
  | cons r rr =>
    cases rr with
    | cons r' rr =>
      cases rr
      obtain ⟨t, o1, a1⟩ := hx.of r
      obtain ⟨t', o2, a2⟩ := hy.of r'
      obtain ⟨H1q, B1, b1, l1⟩ := o1.begins I1 a1
      obtain ⟨H2q, B2, b2, l2⟩ := o2.begins I1 a2
      have fresh5 : ∀ c, c ∈ [s1.heap.objs.size + 4, s1.heap.objs.size + 2, s1.heap.objs.size + 3, s1.heap.objs.size, s1.heap.objs.size + 1] → FpOk X pins H1 c := fun c hcm => by
        have e' : c = s1.heap.objs.size + 4 ∨ c = s1.heap.objs.size + 2 ∨ c = s1.heap.objs.size + 3 ∨ c = s1.heap.objs.size ∨ c = s1.heap.objs.size + 1 := by simpa using hcm
        have hle : s1.heap.objs.size ≤ c := by omega
        exact I1.fpOk hle (I1.hok.fresh hle)
      refine zip_begins2 B1 B2 b1 b2 fun h' hz hTI hTO h1 h2 hsz hk => wpAny_pyIter_zip hz ?_
      have I2 : Inv X pins σ H1 { s1 with heap := h' } := I1.kept (t' := s1.toks) hk
      have m1 : s1.heap.objs.size ∈ (f t).fp s1.heap.objs.size := by cases f t <;> simp [Sd.fp]
      have m2 : s1.heap.objs.size + 1 ∈ (g t').fp (s1.heap.objs.size + 1) := by cases g t' <;> simp [Sd.fp]
      have ll : ∀ (sd : Sd) (n : Addr), (∀ b ∈ sd.fp n, b = n ∨ b < n) → ∀ a, sd = .lst a ∨ sd = .tup a → a = n ∨ a < n := fun sd n hh a ha => by
        rcases ha with rfl | rfl
        · exact hh a (by simp [Sd.fp])
        · exact hh a (by simp [Sd.fp])
      have lt1 : ∀ a, f t = .lst a ∨ f t = .tup a → a < s1.heap.objs.size := fun a ha => by
        rcases ha with ha | ha
        · rw [ha] at a1; obtain ⟨its, rv, p, hz⟩ := I1.list a1; exact p.lt
        · rw [ha] at a1; obtain ⟨its, rv, p, hz⟩ := I1.tuple a1; obtain ⟨o1, ho1, _⟩ := id p; exact Heap.lt_size ho1
      have lt2 : ∀ a, g t' = .lst a ∨ g t' = .tup a → a < s1.heap.objs.size := fun a ha => by
        rcases ha with ha | ha
        · rw [ha] at a2; obtain ⟨its, rv, p, hz⟩ := I1.list a2; exact p.lt
        · rw [ha] at a2; obtain ⟨its, rv, p, hz⟩ := I1.tuple a2; obtain ⟨o1, ho1, _⟩ := id p; exact Heap.lt_size ho1
      have fpb : ∀ (sd : Sd) (n : Addr), (∀ a, sd = .lst a ∨ sd = .tup a → a < s1.heap.objs.size) → ∀ b ∈ sd.fp n, b = n ∨ b < s1.heap.objs.size := fun sd n hl b hb => by
        cases sd with
        | lst a =>
          have e : b = n ∨ b = a := by simpa [Sd.fp] using hb
          rcases e with e | e
          · exact .inl e
          · exact .inr (by rw [e]; exact hl a (.inl rfl))
        | tup a =>
          have e : b = n ∨ b = a := by simpa [Sd.fp] using hb
          rcases e with e | e
          · exact .inl e
          · exact .inr (by rw [e]; exact hl a (.inr rfl))
        | txt z t => exact .inl (by simpa [Sd.fp] using hb)
      have S := zsep s1.heap.objs.size _ _ m1 m2 (fpb _ _ lt1) (fpb _ _ lt2)
      exact ⟨s1.heap.objs.size + 4, [s1.heap.objs.size + 4, s1.heap.objs.size + 2, s1.heap.objs.size + 3, s1.heap.objs.size, s1.heap.objs.size + 1], _, _, H1, rfl, I2, turn_zipA S (fun a ha => Nat.ne_of_lt (lt1 a ha)) (fun a ha => Nat.ne_of_lt (Nat.lt_succ_of_lt (lt2 a ha))), ⟨hz, hTI, ⟨_, _, hTO⟩, sdO_on h1, sdO_on h2⟩, fresh5, q t t'⟩
end FT
end
section
set_option Elab.async false
set_option linter.all false
set_option maxRecDepth 100000
set_option maxHeartbeats 4000000
namespace FT
open PySem PySem.Spec PyProof.Rows L2
section
variable {X : Cx} {G : Gh} {Wx : WX} {w w' w1 w2 : List D} {H Hs H' Hs' H1 Hs1 H2 Hs2 : Hp} {sd : SD} {σ : L2.St}
theorem repL_chars {c : Cc} {s : List Nat} (o : SOk s) : RepL c H (s.map fun k => D.str [k]) (chars ⟨s.toArray⟩) := by
  have : ∀ t : List Nat, (∀ k ∈ t, k < 0x110000) → RepL c H (t.map fun k => D.str [k]) (t.map fun k => V.str ⟨#[k]⟩) := by
    intro t
    induction t with
    | nil => intro _; rfl
    | cons k t ih => exact fun h => ⟨_, _, rfl, ⟨rfl, by rw [sizeLine_eq]; show (1 : Nat) ≤ _; decide, fun c' hc => by rw [List.mem_singleton.mp hc]; exact h k List.mem_cons_self⟩, ih fun c' hc => h c' (List.mem_cons_of_mem _ hc)⟩
  exact this s o.2
theorem walk_zipA {c : Cc} {K : PySem.W.Frag} {p q : Sd} {ds es : List D} {P : Hp → Hp → Prop} (h : ∀ H Hs, P H Hs → Same Hs H → ∃ vs, p.At K H vs ∧ RepL c Hs ds vs) (h' : ∀ H Hs, P H Hs → Same Hs H → ∃ vs, q.At K H vs ∧ RepL c Hs es vs) : Walk c (ItzA K p q) (zipD ds es) P := by
  refine ⟨fun i d H Hs e p s => ?_, fun H Hs p s => ?_⟩
  · obtain ⟨vs, h1, h2⟩ := h H Hs p s
    obtain ⟨us, g1, g2⟩ := h' H Hs p s
    obtain ⟨d1, d2, e1, e2, rfl⟩ := zipD_get _ _ _ _ e
    obtain ⟨v, e3, r1⟩ := h2.get e1
    obtain ⟨u, e4, r2⟩ := g2.get e2
    refine ⟨⟨vs, us, v, u, h1, g1, e3, e4⟩, fun x H' ⟨T, x0, y0, y1, y2, y3, y4, y5⟩ => .inr ⟨T, _, _, y2, y3, y1, rfl, ?_⟩⟩
    have z1 := (y4 vs h1).symm.trans e3
    have z2 := (y5 us g1).symm.trans e4
    cases z1
    cases z2
    exact ⟨_, _, rfl, r1, _, _, rfl, r2, rfl⟩
  · obtain ⟨vs, h1, h2⟩ := h H Hs p s
    obtain ⟨us, g1, g2⟩ := h' H Hs p s
    refine ⟨vs, us, h1, g1, ?_⟩
    rw [h2.length, g2.length, zipD_len]
/-- one side of a zip, shared -/
theorem sideI {c : Cc} {d : D} {x : V} {ds : List D} (r : Rep c Hs1 d x) (e : items d = some ds) (s1 : Same Hs1 H1) : ∃ f xs, SdV c.K H1 x f xs ∧ ∀ t H2 Hs2, Same Hs1 Hs2 → Same Hs2 H2 → ∃ vs, (f t).At c.K H2 vs ∧ RepL c Hs2 ds vs := by
  cases d with
  | lst es =>
    cases e
    obtain ⟨a, vs, rfl, h1, h2⟩ := r
    exact ⟨_, vs, .inl ⟨a, rfl, rfl, .inl (.inl (s1 _ _ h1))⟩, fun t H2 Hs2 p s => ⟨vs, .inl (.inl (s _ _ (p _ _ h1))), h2.mono p⟩⟩
  | tup es =>
    cases e
    obtain ⟨a, vs, rfl, h1, h2⟩ := r
    exact ⟨_, vs, .inr (.inl ⟨a, rfl, rfl, sqT_mono s1 h1⟩), fun t H2 Hs2 p s => ⟨vs, sqT_mono (p.trans s) h1, h2.mono p⟩⟩
  | frz es =>
    cases e
    obtain ⟨a, vs, rfl, h1, h2⟩ := r
    exact ⟨_, vs, .inl ⟨a, rfl, rfl, s1.seq h1⟩, fun t H2 Hs2 p s => ⟨vs, (p.trans s).seq h1, h2.mono p⟩⟩
  | str z =>
    cases e
    obtain ⟨rfl, o⟩ := r
    exact ⟨_, _, .inr (.inr ⟨_, rfl, rfl, rfl⟩), fun t H2 Hs2 p s => ⟨_, rfl, repL_chars o⟩⟩
  | _ => cases e
theorem sideB {d : D} {x : V} {ds : List D} (r : RepB G.c H1 Hs1 d x) (e : items d = some ds) (s1 : Same Hs1 H1) : ∃ f xs, SdV G.c.K H1 x f xs ∧ ∀ t H2 Hs2, PB G H1 Hs1 H2 Hs2 → Same Hs2 H2 → ∃ vs, (f t).At G.c.K H2 vs ∧ RepL G.c Hs2 ds vs := by
  cases d with
  | lst es =>
    cases e
    obtain ⟨a, vs, rfl, h1, h2, h3⟩ := r
    exact ⟨_, vs, .inl ⟨a, rfl, rfl, .inl (.inl h1)⟩, fun t H2 Hs2 ⟨w2, p⟩ s => ⟨vs, .inl (.inl (p.keep _ _ h3 lst_noT h1)), h2.mono p.sub0⟩⟩
  | tup es =>
    obtain ⟨f, xs, h1, h2⟩ := sideI (c := G.c) (d := .tup es) r e s1
    exact ⟨f, xs, h1, fun t H2 Hs2 ⟨w2, p⟩ s => h2 t H2 Hs2 p.sub0 s⟩
  | frz es =>
    obtain ⟨f, xs, h1, h2⟩ := sideI (c := G.c) (d := .frz es) r e s1
    exact ⟨f, xs, h1, fun t H2 Hs2 ⟨w2, p⟩ s => h2 t H2 Hs2 p.sub0 s⟩
  | str z =>
    obtain ⟨f, xs, h1, h2⟩ := sideI (c := G.c) (d := .str z) r e s1
    exact ⟨f, xs, h1, fun t H2 Hs2 ⟨w2, p⟩ s => h2 t H2 Hs2 p.sub0 s⟩
  | _ => cases e
def fZipX (ds : List D) : Option (List D) := match ds with
  | [a, b] => (match items a, items b with
    | some xs, some ys => some (zipD xs ys)
    | _, _ => none)
  | _ => none
def mZipX (m : ME (List D)) : ME (List D) := fun sd w => (m sd w).bind fun ds w1 => match fZipX ds with
  | some xs => .ok xs w1
  | none => .bad
variable {tg e : Expr} {te : TE} {p p2 pos tpos : Pos} {elts : List Expr} {kk : Nat}
theorem jib_zipX {e2 : Expr} {t : TA} {m : ME (List D)} (hm : X.mg "zip" = none) (ha : JAB X G Wx [e, e2] t m) (hg : Gl X "zip" := by rfl)
    (hs : starEach [e, e2] X.env = (false, eval e X.env) :: starEach [e2] X.env := by rfl) (hpl : (backTo pos (starEach [e2] X.env)).any (·.1) = false := by rfl) (hK : X.K = G.c.K := by rfl) :
    JIB X G Wx (.Tuple elts kk tpos) (.Call (.Name "zip" p) [e, e2] [] pos) (iZipX G.c.K t) (mZipX m) := by
  refine ⟨by rw [← hK]; exact pi_zipX hg hm ha.pe hs hpl, fun sd w σ H Hs Q rs post => ?_⟩
  refine ha.si sd w σ H Hs _ rs ?_
  unfold mZipX at post
  cases e : m sd w with
  | ok ds w' =>
    rw [e] at post
    intro v H' Hs' b q
    have rs' := rs.step b
    have post' : PostI G Wx σ H Hs (PB G) Q (match fZipX ds with
      | some xs => .ok xs w'
      | none => .bad) := post
    cases ef : fZipX ds with
    | none => rw [ef] at post'; exact post'.elim
    | some xs =>
    rw [ef] at post'
    unfold fZipX at ef
    split at ef
    · rename_i da db
      split at ef
      · rename_i ys zs e1 e2
        cases ef
        obtain ⟨v1, v2, rfl, q1, q2⟩ := repBL2 q
        obtain ⟨f1, xs1, a1, a2⟩ := sideB q1 e1 rs'.b.sub
        obtain ⟨f2, xs2, b1, b2⟩ := sideB q2 e2 rs'.b.sub
        exact ⟨v1, v2, f1, f2, xs1, xs2, rfl, a1, b1, fun t t' => post' _ H' Hs' b (walk_zipA (a2 t) (b2 t'))⟩
      · cases ef
    · cases ef
  | exc c ns ds w' => rw [e] at post; exact post
  | bad => rw [e] at post; exact post
theorem ji_zipX {e2 : Expr} {t : TA} {m : ME (List D)} (hm : X.mg "zip" = none) (ha : JA X G Wx [e, e2] t m) (hg : Gl X "zip" := by rfl)
    (hs : starEach [e, e2] X.env = (false, eval e X.env) :: starEach [e2] X.env := by rfl) (hpl : (backTo pos (starEach [e2] X.env)).any (·.1) = false := by rfl) (hK : X.K = G.c.K := by rfl) :
    JI X G Wx (.Tuple elts kk tpos) (.Call (.Name "zip" p) [e, e2] [] pos) (iZipX G.c.K t) (mZipX m) := by
  refine ⟨by rw [← hK]; exact pi_zipX hg hm ha.pe hs hpl, fun sd w σ H Hs Q rs post => ?_⟩
  refine ha.si sd w σ H Hs _ rs ?_
  unfold mZipX at post
  cases e : m sd w with
  | ok ds w' =>
    rw [e] at post
    intro v H' Hs' b q
    have rs' := rs.step b
    have post' : PostI G Wx σ H Hs PM Q (match fZipX ds with
      | some xs => .ok xs w'
      | none => .bad) := post
    cases ef : fZipX ds with
    | none => rw [ef] at post'; exact post'.elim
    | some xs =>
    rw [ef] at post'
    unfold fZipX at ef
    split at ef
    · rename_i da db
      split at ef
      · rename_i ys zs e1 e2
        cases ef
        obtain ⟨v1, r1, rfl, q1, v2, r2, rfl, q2, g4⟩ := q
        rw [show r2 = [] from g4]
        obtain ⟨f1, xs1, a1, a2⟩ := sideI q1 e1 rs'.b.sub
        obtain ⟨f2, xs2, b1, b2⟩ := sideI q2 e2 rs'.b.sub
        exact ⟨v1, v2, f1, f2, xs1, xs2, rfl, a1, b1, fun t t' => post' _ H' Hs' b (walk_zipA (fun H2 Hs2 p s => a2 t H2 Hs2 p s) (fun H2 Hs2 p s => b2 t' H2 Hs2 p s))⟩
      · cases ef
    · cases ef
  | exc c ns ds w' => rw [e] at post; exact post
  | bad => rw [e] at post; exact post
/-! ### the module's own constants -/
theorem je_globI {x : Str} {i : Int} (hm : ∃ t, X.mg x = some (.int i t)) (hg : Gl X x := by rfl) (hd : (x == ("__debug__" : Str)) = false := by decide) : JE X G Wx (.Name x pos) (tC (.int i)) (mC (.int i)) :=
  let ⟨t, hm⟩ := hm
  je_glob hg hm ⟨t, rfl⟩ (fun _ => rfl) hd
theorem je_globS {x : Str} (s : List Nat) (hm : ∃ t, X.mg x = some (.str ⟨s.toArray⟩ t)) (hs : (decide (s.length ≤ 1000) && s.all (fun c => decide (c < 0x110000))) = true := by decide) (hg : Gl X x := by rfl) (hd : (x == ("__debug__" : Str)) = false := by decide) : JE X G Wx (.Name x pos) (tC (.str ⟨s.toArray⟩)) (mC (.str s)) :=
  let ⟨t, hm⟩ := hm
  je_glob hg hm ⟨t, rfl⟩ (fun _ => ⟨rfl, Nat.le_of_lt (small1000 (of_decide_eq_true (Bool.and_eq_true_iff.mp hs).1)), fun c hc => of_decide_eq_true (List.all_eq_true.mp (Bool.and_eq_true_iff.mp hs).2 c hc)⟩) hd
/-! ### list(x) of a text as well -/
theorem vals_signs {z : Str} {acc : Array Value} (h : ItemsOf (SignAt z) acc z.cps.size) : Vals (chars z) acc.toList := by
  have : ∀ (cs : List Nat) (vs : List Value), vs.length = cs.length → (∀ (j : Nat) (v : Value), vs[j]? = some v → ∃ (c : Nat) (u : Tok), cs[j]? = some c ∧ v = Value.str ⟨#[c]⟩ u) → Vals (cs.map fun c => V.str ⟨#[c]⟩) vs := by
    intro cs
    induction cs with
    | nil => intro vs hl _; cases vs with
      | nil => exact .nil
      | cons => cases hl
    | cons c cs ih =>
      intro vs hl hv
      cases vs with
      | nil => cases hl
      | cons v vs =>
        obtain ⟨c', u, h1, h2⟩ := hv 0 v rfl
        cases h1
        exact .cons ⟨u, h2⟩ (ih vs (by simpa using hl) fun j v' e => hv (j + 1) v' e)
  refine this z.cps.toList acc.toList (by simpa using h.1) fun j v e => ?_
  obtain ⟨c, u, h1, h2⟩ := h.2 j v (by simpa using e)
  exact ⟨c, u, by simpa using h1, h2⟩
def rListX (K : PySem.W.Frag) : List V → Hp → VK → Prop := fun xs H Q => rListOf K xs H Q ∨ ∃ z : Str, xs = [.str z] ∧ z.cps.size ≤ sizeLine ∧ ∀ l, H l = none → Q (.ref l) (upd H l (.lst (chars z)))
theorem call_list_txt (hc : X.calm = true) : CallR X (.type "list") (fun xs H Q => ∃ z : Str, xs = [.str z] ∧ z.cps.size ≤ sizeLine ∧ ∀ l, H l = none → Q (.ref l) (upd H l (.lst (chars z)))) := by
  intro pins s σ H xs us Q I r h
  obtain ⟨z, rfl, hz, q⟩ := h
  obtain ⟨u, rfl, rx⟩ := vals1 r
  obtain ⟨t, rfl⟩ := rx
  refine call_list_str (I.ok.hd hc) z t (fun h' tk acc' c' kp e it => ?_) hz
  exact ⟨.ref s.heap.objs.size, _, I.laid (t' := tk) kp (Nat.le_refl _) (show ObjOk X.prog X.w _ h' _ (.lst (chars z)) from ⟨by rw [show (chars z).length = z.cps.size by simp [chars]]; exact hz, acc'.toList, c', vals_signs it, e⟩), rfl, q _ (I.hok.fresh (Nat.le_refl _))⟩
def mListX (m : ME D) : ME (List D) := fun sd w => (m sd w).bind fun d w1 => match items d with
  | some ds => .ok ds w1
  | none => .bad
theorem jf_listX {m : ME D} (hm : X.mg "list" = none) (ha : JB X G Wx e te m) (hc : X.calm = true := by rfl) (hg : Gl X "list" := by rfl) (hK : X.K = G.c.K := by rfl) (he : starEach [e] X.env = (false, eval e X.env) :: starEach [] X.env := by rfl) : JF X G Wx (.Call (.Name "list" p) [e] [] pos) (tCB (rListX G.c.K) (tCons te tNil)) (mListX m) := by
  refine ⟨pe_callTy (by rw [← hK]; exact CallR.or call_list_of (call_list_txt hc)) hg hm (by decide +kernel) (pa_cons ha.pe pa_nil he) (by decide) (by decide) he rfl, fun sd w σ H Hs Q rs post => ?_⟩
  refine ha.si.bindF rs post fun d w1 v H1 Hs1 rs1 b1 q1 post1 => ?_
  cases d with
  | lst ds =>
    obtain ⟨a, vs, rfl, hp, rl, _⟩ := q1
    exact .inl ⟨a, vs, rfl, .inl (.inl (.inl hp)), fun l hl => newF rs1.b hl rl post1⟩
  | tup ds =>
    obtain ⟨a, vs, rfl, hp, rl⟩ := q1
    exact .inl ⟨a, vs, rfl, .inr (sqT_mono rs1.b.sub hp), fun l hl => newF rs1.b hl rl post1⟩
  | frz ds =>
    obtain ⟨a, vs, rfl, hp, rl⟩ := q1
    exact .inl ⟨a, vs, rfl, .inl (rs1.b.sub.seq hp), fun l hl => newF rs1.b hl rl post1⟩
  | str z =>
    obtain ⟨rfl, o⟩ := q1
    exact .inr ⟨_, rfl, by show z.toArray.size ≤ _; rw [List.size_toArray]; exact o.1, fun l hl => newF rs1.b hl (repL_chars o) post1⟩
  | _ => exact post1.elim
end
end FT
end
section
set_option Elab.async false
set_option linter.all false
set_option maxRecDepth 100000
set_option maxHeartbeats 4000000
namespace FT
open PySem PySem.Spec PyProof.Rows L2 LamX
section
variable {X : Cx} {G : Gh} {Wx : WX} {w w' w1 w2 : List D} {H Hs H' Hs' H1 Hs1 H2 Hs2 : Hp} {sd : SD} {σ : L2.St}
variable {elt tg it : Expr} {ifs : List Expr} {scope : Scope} {own : List (Str × Nat)} {pos spos py : Pos} {ti : TI} {mi : ME (List D)} {tgt : TG} {g : D → SD → Option SD} {js : List Nat} {tt : TT} {mt : ME Bool} {te : TE} {me : ME D} {i : Nat} {y : Str}
/-! ### name = [..] on one line -/
theorem js_setLcO (hN : X.N.Nodup) (hi : JIB X G Wx tg it ti mi) (ok : BlkOk X.N X.env.scope scope own)
    (hg : ∀ (s : Shared) (H : Hp) (C : Addr) (cl : List (Str × Addr)) (fp : List Addr), JG (X.blk s H scope (compEnvC scope cl C X.env) fp) G tg tgt g js)
    (ht : ∀ (s : Shared) (H : Hp) (C : Addr) (cl : List (Str × Addr)) (fp : List Addr), JTs (X.blk s H scope (compEnvC scope cl C X.env) fp) G F0 ifs tt mt)
    (he : ∀ (s : Shared) (H : Hp) (C : Addr) (cl : List (Str × Addr)) (fp : List Addr), JE (X.blk s H scope (compEnvC scope cl C X.env) fp) G F0 elt te me)
    (hy : X.N[i]? = some y := by rfl) (hyl : X.env.scope.names.lookup y = some .local := by rfl) (hsw : swapsWith (.ListComp elt [⟨tg, it, ifs, 0⟩] scope pos) (some (.Name y py)) spos.line X.env = pure true := by exact sw_true rfl rfl rfl rfl)
    (hjs : (∀ j ∈ js, j ∈ own.map (·.2)) := by decide) (hc : X.calm = true := by rfl) (hs : ∀ x, foldedSetIterable it X.env x = pure x := by intro _; rfl) :
    JS X G Wx (.Assign [.Name y py] (.ListComp elt [⟨tg, it, ifs, 0⟩] scope pos) spos) (tAsg (tLc ti tgt tt te (own.map (·.2))) (gName i)) (mSetO i (mComp mi g mt me (own.map (·.2)))) :=
  ⟨ps_setLc hc hN hy hyl hsw hi.pe ok (fun s H C cl fp => (hg s H C cl fp).pe) (fun s H C cl fp => (ht s H C cl fp).pe) (fun s H C cl fp => (he s H C cl fp).pe) hs,
    fun sd w σ H Hs De rs post => (jf_comp (pos := pos) hN hi ok hg ht he hjs hc hs).si sd w σ H Hs _ rs (PostF.toS rs post)⟩
theorem js_setLc (hN : X.N.Nodup) (hi : JIB X G Wx tg it ti mi) (ok : BlkOk X.N X.env.scope scope own)
    (hg : ∀ (s : Shared) (H : Hp) (C : Addr) (cl : List (Str × Addr)) (fp : List Addr), JG (X.blk s H scope (compEnvC scope cl C X.env) fp) G tg tgt g js)
    (ht : ∀ (s : Shared) (H : Hp) (C : Addr) (cl : List (Str × Addr)) (fp : List Addr), JTs (X.blk s H scope (compEnvC scope cl C X.env) fp) G F0 ifs tt mt)
    (he : ∀ (s : Shared) (H : Hp) (C : Addr) (cl : List (Str × Addr)) (fp : List Addr), JE (X.blk s H scope (compEnvC scope cl C X.env) fp) G F0 elt te me)
    (hy : X.N[i]? = some y := by rfl) (hyl : X.env.scope.names.lookup y = some .local := by rfl) (hsw : swapsWith (.ListComp elt [⟨tg, it, ifs, 0⟩] scope pos) (some (.Name y py)) spos.line X.env = pure true := by exact sw_true rfl rfl rfl rfl)
    (hjs : (∀ j ∈ js, j ∈ own.map (·.2)) := by decide) (hc : X.calm = true := by rfl) (hs : ∀ x, foldedSetIterable it X.env x = pure x := by intro _; rfl) :
    JS X G Wx (.Assign [.Name y py] (.ListComp elt [⟨tg, it, ifs, 0⟩] scope pos) spos) (tAsg (tLc ti tgt tt te (own.map (·.2))) (gName i)) (mAsg (gN i) (mF (mComp mi g mt me (own.map (·.2))))) :=
  ⟨ps_setLc hc hN hy hyl hsw hi.pe ok (fun s H C cl fp => (hg s H C cl fp).pe) (fun s H C cl fp => (ht s H C cl fp).pe) (fun s H C cl fp => (he s H C cl fp).pe) hs,
    sim_asg (je_f (jf_comp (pos := pos) hN hi ok hg ht he hjs hc hs)).si (jg_name (X := X) (pos := py) hN hy (.inl hyl) (.inr hyl)).si⟩
variable {tg1 it1 : Expr} {ifs1 : List Expr} {ti1 : TI} {mi1 : ME (List D)} {tgt1 : TG} {g1 : D → SD → Option SD} {js1 vs1 : List Nat} {tt1 : TT} {mt1 : ME Bool}
theorem js_setLc2O (hN : X.N.Nodup) (hi : JIB X G Wx tg it ti mi) (ok : BlkOk X.N X.env.scope scope own) (hv : (∀ i ∈ vs1, i ∈ own.map (·.2)))
    (hg : ∀ (s : Shared) (H : Hp) (C : Addr) (cl : List (Str × Addr)) (fp : List Addr), JG (X.blk s H scope (compEnvC scope cl C X.env) fp) G tg tgt g js)
    (ht : ∀ (s : Shared) (H : Hp) (C : Addr) (cl : List (Str × Addr)) (fp : List Addr), JTs (X.blk s H scope (compEnvC scope cl C X.env) fp) G F0 ifs tt mt)
    (hi1 : ∀ (s : Shared) (H : Hp) (C : Addr) (cl : List (Str × Addr)) (fp : List Addr), JI (X.blk s H scope (compEnvC scope cl C X.env) fp) G F0 tg1 it1 ti1 mi1)
    (hg1 : ∀ (s : Shared) (H : Hp) (C : Addr) (cl : List (Str × Addr)) (fp : List Addr), JG (X.blk s H scope (compEnvC scope cl C X.env) fp) G tg1 tgt1 g1 js1)
    (ht1 : ∀ (s : Shared) (H : Hp) (C : Addr) (cl : List (Str × Addr)) (fp : List Addr), JTs (X.blk s H scope (compEnvC scope cl C X.env) fp) G F0 ifs1 tt1 mt1)
    (he : ∀ (s : Shared) (H : Hp) (C : Addr) (cl : List (Str × Addr)) (fp : List Addr), JE (X.blk s H scope (compEnvC scope cl C X.env) fp) G F0 elt te me)
    (hy : X.N[i]? = some y := by rfl) (hyl : X.env.scope.names.lookup y = some .local := by rfl) (hsw : swapsWith (.ListComp elt [⟨tg, it, ifs, 0⟩, ⟨tg1, it1, ifs1, 0⟩] scope pos) (some (.Name y py)) spos.line X.env = pure true := by exact sw_true rfl rfl rfl rfl)
    (hjs : (∀ j ∈ js, j ∈ own.map (·.2)) := by decide) (hjs1 : (∀ j ∈ js1, j ∈ vs1) := by decide) (hc : X.calm = true := by rfl) (hs : ∀ x, foldedSetIterable it X.env x = pure x := by intro _; rfl) (hs1 : ∀ env x, foldedSetIterable it1 env x = pure x := by intro _ _; rfl) :
    JS X G Wx (.Assign [.Name y py] (.ListComp elt [⟨tg, it, ifs, 0⟩, ⟨tg1, it1, ifs1, 0⟩] scope pos) spos) (tAsg (tLc2 ti tgt tt ti1 tgt1 tt1 te (own.map (·.2)) vs1) (gName i)) (mSetO i (mComp2 mi g mt mi1 g1 mt1 me (own.map (·.2)) vs1)) :=
  ⟨ps_setLc2 hc hN hy hyl hsw hi.pe ok hv (fun s H C cl fp => (hg s H C cl fp).pe) (fun s H C cl fp => (ht s H C cl fp).pe) (fun s H C cl fp => (hi1 s H C cl fp).pe) (fun s H C cl fp => (hg1 s H C cl fp).pe) (fun s H C cl fp => (ht1 s H C cl fp).pe) (fun s H C cl fp => (he s H C cl fp).pe) hs hs1,
    fun sd w σ H Hs De rs post => (jf_comp2 (pos := pos) hN hi ok hv hg ht hi1 hg1 ht1 he hjs hjs1 hc hs hs1).si sd w σ H Hs _ rs (PostF.toS rs post)⟩
theorem js_setLc2 (hN : X.N.Nodup) (hi : JIB X G Wx tg it ti mi) (ok : BlkOk X.N X.env.scope scope own) (hv : (∀ i ∈ vs1, i ∈ own.map (·.2)))
    (hg : ∀ (s : Shared) (H : Hp) (C : Addr) (cl : List (Str × Addr)) (fp : List Addr), JG (X.blk s H scope (compEnvC scope cl C X.env) fp) G tg tgt g js)
    (ht : ∀ (s : Shared) (H : Hp) (C : Addr) (cl : List (Str × Addr)) (fp : List Addr), JTs (X.blk s H scope (compEnvC scope cl C X.env) fp) G F0 ifs tt mt)
    (hi1 : ∀ (s : Shared) (H : Hp) (C : Addr) (cl : List (Str × Addr)) (fp : List Addr), JI (X.blk s H scope (compEnvC scope cl C X.env) fp) G F0 tg1 it1 ti1 mi1)
    (hg1 : ∀ (s : Shared) (H : Hp) (C : Addr) (cl : List (Str × Addr)) (fp : List Addr), JG (X.blk s H scope (compEnvC scope cl C X.env) fp) G tg1 tgt1 g1 js1)
    (ht1 : ∀ (s : Shared) (H : Hp) (C : Addr) (cl : List (Str × Addr)) (fp : List Addr), JTs (X.blk s H scope (compEnvC scope cl C X.env) fp) G F0 ifs1 tt1 mt1)
    (he : ∀ (s : Shared) (H : Hp) (C : Addr) (cl : List (Str × Addr)) (fp : List Addr), JE (X.blk s H scope (compEnvC scope cl C X.env) fp) G F0 elt te me)
    (hy : X.N[i]? = some y := by rfl) (hyl : X.env.scope.names.lookup y = some .local := by rfl) (hsw : swapsWith (.ListComp elt [⟨tg, it, ifs, 0⟩, ⟨tg1, it1, ifs1, 0⟩] scope pos) (some (.Name y py)) spos.line X.env = pure true := by exact sw_true rfl rfl rfl rfl)
    (hjs : (∀ j ∈ js, j ∈ own.map (·.2)) := by decide) (hjs1 : (∀ j ∈ js1, j ∈ vs1) := by decide) (hc : X.calm = true := by rfl) (hs : ∀ x, foldedSetIterable it X.env x = pure x := by intro _; rfl) (hs1 : ∀ env x, foldedSetIterable it1 env x = pure x := by intro _ _; rfl) :
    JS X G Wx (.Assign [.Name y py] (.ListComp elt [⟨tg, it, ifs, 0⟩, ⟨tg1, it1, ifs1, 0⟩] scope pos) spos) (tAsg (tLc2 ti tgt tt ti1 tgt1 tt1 te (own.map (·.2)) vs1) (gName i)) (mAsg (gN i) (mF (mComp2 mi g mt mi1 g1 mt1 me (own.map (·.2)) vs1))) :=
  ⟨ps_setLc2 hc hN hy hyl hsw hi.pe ok hv (fun s H C cl fp => (hg s H C cl fp).pe) (fun s H C cl fp => (ht s H C cl fp).pe) (fun s H C cl fp => (hi1 s H C cl fp).pe) (fun s H C cl fp => (hg1 s H C cl fp).pe) (fun s H C cl fp => (ht1 s H C cl fp).pe) (fun s H C cl fp => (he s H C cl fp).pe) hs hs1,
    sim_asg (je_f (jf_comp2 (pos := pos) hN hi ok hv hg ht hi1 hg1 ht1 he hjs hjs1 hc hs hs1)).si (jg_name (X := X) (pos := py) hN hy (.inl hyl) (.inr hyl)).si⟩
/-! ### a, b = [..], e -/
theorem RS.setOwn {i : Nat} {ds : List D} {vs : List V} {a : Addr} (rs : RS G sd w σ H Hs) (h1 : H a = some (.lst vs)) (h2 : RepL G.c Hs ds vs) (h3 : Hs a = none) (h4 : ∀ o', G.H0 a = some o' → ¬ NoT o') (h5 : G.c.ap ≠ some a)
    (hne : ∀ (j : Nat) (es : List D), sd[j]? = some (SV.own es) → σ[j]? ≠ some (some (.ref a))) : RS G (sd.set i (.own ds)) w (σ.set i (some (.ref a))) H Hs := by
  have s' := rs.s
  refine ⟨rs.b, by rw [List.length_set, List.length_set, s'.len], fun j e h => ?_, fun j es h => ?_, fun j l es fs c q1 q2 q3 q4 => ?_⟩
  · rcases get_set h with ⟨rfl, h7, h8⟩ | ⟨hn, h7⟩
    · cases h7
    · rw [List.getElem?_set_ne hn]; exact s'.val j e h7
  · rcases get_set h with ⟨rfl, h7, h8⟩ | ⟨hn, h7⟩
    · cases h7
      exact ⟨a, vs, List.getElem?_set_self (by rw [s'.len]; exact h8), h1, h2, h3, h4, h5⟩
    · rw [List.getElem?_set_ne hn]; exact s'.own j es h7
  · rcases get_set q1 with ⟨rfl, h7, g1⟩ | ⟨n1, h7⟩
    · rcases get_set q2 with ⟨rfl, h8, _⟩ | ⟨n2, h8⟩
      · rfl
      · rw [List.getElem?_set_self (by rw [s'.len]; exact g1)] at q3
        rw [List.getElem?_set_ne n2] at q4
        cases q3
        exact absurd q4 (hne l fs h8)
    · rcases get_set q2 with ⟨rfl, h8, g2⟩ | ⟨n2, h8⟩
      · rw [List.getElem?_set_self (by rw [s'.len]; exact g2)] at q4
        rw [List.getElem?_set_ne n1] at q3
        cases q4
        exact absurd q3 (hne j es h7)
      · rw [List.getElem?_set_ne n1] at q3
        rw [List.getElem?_set_ne n2] at q4
        exact s'.sep j l es fs c h7 h8 q3 q4
def mParFE (i j : Nat) (ma : ME (List D)) (mb : ME D) : MS := fun sd w => eb (ma sd w) sd fun ds w1 => eb (mb sd w1) sd fun d w2 => .nx ((sd.set i (.own ds)).set j (.val d)) w2
theorem js_parFE {i j : Nat} {x y : Str} {a b : Expr} {ta tb : TE} {ma : ME (List D)} {mb : ME D} {px py pt pos : Pos} {kt k2 pt2} (hN : X.N.Nodup) (ha : JF X G Wx a ta ma) (hb : JE X G Wx b tb mb) (hi : X.N[i]? = some x := by rfl) (hj : X.N[j]? = some y := by rfl) (hij : i ≠ j := by decide)
    (hx : X.env.scope.names.lookup x = some .local := by rfl) (hy : X.env.scope.names.lookup y = some .local := by rfl)
    (hw : swappedStores [.Tuple [.Name x px, .Name y py] kt pt] (.Tuple [a, b] k2 pt2) X.env = pure (some [x, y]) := by rfl) (hc : X.calm = true := by rfl)
    (hs : swapsWithSole [.Tuple [.Name x px, .Name y py] kt pt] (.Tuple [a, b] k2 pt2) pos.line X.env = pure false := by rfl)
    (e1 : starEach [a, b] X.env = (false, eval a X.env) :: starEach [b] X.env := by rfl) (e2 : starEach [b] X.env = (false, eval b X.env) :: starEach [] X.env := by rfl) :
    JS X G Wx (.Assign [.Tuple [.Name x px, .Name y py] kt pt] (.Tuple [a, b] k2 pt2) pos) (tPar i j (tCons ta (tCons tb tNil))) (mParFE i j ma mb) := by
  refine ⟨ps_par hc hN hi hj hij hx hy (pa_cons ha.pe (pa_cons hb.pe pa_nil e2) e1) hw hs, fun sd w σ H Hs De rs post => ?_⟩
  refine ha.si sd w σ H Hs _ rs ?_
  unfold mParFE at post
  cases e : ma sd w with
  | exc c ns ds w' =>
    rw [e] at post
    exact fun dd H' Hs' b q => post dd σ H' Hs' (rs.step b) q
  | bad => rw [e] at post; exact post
  | ok ds w1 =>
    rw [e] at post
    have post1 : PostS G Wx Hs De (eb (mb sd w1) sd fun d w2 => .nx ((sd.set i (.own ds)).set j (.val d)) w2) := post
    intro a vs H1 Hs1 b1 h1 h2 h3 h4 h5
    have rs1 := rs.step b1
    have hne : ∀ (j : Nat) (es : List D), sd[j]? = some (SV.own es) → σ[j]? ≠ some (some (.ref a)) := fun j es hj hσ => by
      obtain ⟨c, us, e1, e2, _⟩ := rs.s.own j es hj
      rw [hσ] at e1
      cases e1
      exact h4 _ e2 lst_noT
    refine hb.si.bindS rs1 (post1.shift b1.sub0) fun d w2 v H2 Hs2 rs2 b2 q2 post2 => ?_
    refine ⟨.ref a, v, rfl, ?_⟩
    have hH2 := b2.keep a _ h5 lst_noT h1
    have hs2 := none_stay b2 h1 lst_noT h3
    have rs3 := rs2.setOwn (i := i) hH2 (h2.mono b2.sub0) hs2 (fun o' e hn => h4 o' (rs.b.keep a o' h5 hn e) hn) h5 hne
    exact post2 _ H2 Hs2 (rs3.setVal q2) (Same.refl _)
def mParEF (i j : Nat) (ma : ME D) (mb : ME (List D)) : MS := fun sd w => eb (ma sd w) sd fun d w1 => eb (mb sd w1) sd fun ds w2 => .nx ((sd.set j (.own ds)).set i (.val d)) w2
end
end FT
end
section
set_option Elab.async false
set_option linter.all false
set_option maxRecDepth 100000
set_option maxHeartbeats 4000000
namespace FT
open PySem PySem.Spec PyProof.Rows L2 LamX PySem.HandSPX
/-! ### a def that makes lambdas: its code object is known -/
structure FunC (K : PySem.W.Frag) (x qual : Str) (st : Stmt) (f : Addr) (fd : FuncData) (c : Addr) : Prop where
  ex : ∃ (oc : Value) (od : Option Addr) (kV doc pm : Value) (an : Option Addr) (ct : Value) (osl : Array (Option Value)),
    fd = PySem.W.fnOf x qual (defArgs st) (defBody st) (defScope st) .none kV doc pm an (.ref c) ct ∧ K.lookup f = some ⟨oc, od, .func fd, osl⟩ ∧ PySem.W.codeIn K (.ref c) qual = true
  kp : PySem.W.keepIn K (.ref f) = true
theorem FunC.f {K : PySem.W.Frag} {x qual : Str} {st : Stmt} {f c : Addr} {fd : FuncData} (F : FunC K x qual st f fd c) : Fun K x qual st f fd := by
  obtain ⟨oc, od, kV, doc, pm, an, ct, osl, rfl, lk, hcd⟩ := F.ex
  exact ⟨⟨oc, od, kV, doc, pm, an, _, ct, osl, rfl, lk, hcd⟩, F.kp⟩
theorem funC_mk {K : PySem.W.Frag} {x qual : Str} {st : Stmt} {f c : Addr} {oc : Value} {od an : Option Addr} {osl : Array (Option Value)} {kV doc pm ct : Value} (l : K.lookup f = some ⟨oc, od, .func (PySem.W.fnOf x qual (defArgs st) (defBody st) (defScope st) .none kV doc pm an (.ref c) ct), osl⟩)
    (cd : PySem.W.codeIn K (.ref c) qual = true) (k : PySem.W.keepIn K (.ref f) = true) : FunC K x qual st f (PySem.W.fnOf x qual (defArgs st) (defBody st) (defScope st) .none kV doc pm an (.ref c) ct) c :=
  ⟨⟨oc, od, kV, doc, pm, an, ct, osl, rfl, l, cd⟩, k⟩
section
variable {P : Program} {w0 : World} {K : PySem.W.Frag} {mg : Str → Option Value} {base : Heap}
theorem ok_fnC {x qual : Str} {st : Stmt} {f c : Addr} {fd : FuncData} {N ps : List Str} {k : Nat} {cl : Nat → Addr} {T : List (Addr × Str)} {m : MS} (F : FunC K x qual st f fd c) (S : FnScope N ps (defScope st)) (hps : ps.length ≤ N.length)
    (hb : ∀ (A : Around) (outer : List Env) (s : Shared) (H : Hp) (E : XK) (ap : Option Addr) (HP Hs : Hp), Room k (A.deeper (envOfC qual (defScope st) s.heap.objs.size f (.ref c))) →
      ∃ t, JSs (cxOf (L2.CX P w0) P w0 K mg base N qual (defScope st) f (.ref c) A outer s H E) (gh K cl T ap HP H Hs) (fun c d _ H => E c d H) (defBody st) t m) :
    FnOk P w0 K mg base (L2.CX P w0) (k + 1) f fd ps (spF K cl T ps.length (runB N.length m)) := by
  obtain ⟨oc, od, kV, doc, pm, an, ct, osl, rfl, lk, hcd⟩ := F.ex
  refine fn_of lk hcd S (fun vs H Q E h => ?_) (fun A outer s H vs Q E hr h => ?_)
  · obtain ⟨ap, HP, Hs, ds, w, _, r, hn, _⟩ := h
    rw [r.length, hn]
  · obtain ⟨ap, HP, Hs, ds, w, b, r, hn, post⟩ := h
    obtain ⟨t, J⟩ := hb A outer s H E ap HP Hs hr
    refine ⟨t, J.pe, J.si (sd0 N.length ds) w (L2.start N vs) H Hs _ ⟨b, sl_start (G := gh K cl T ap HP H Hs) r (by rw [hn]; exact hps)⟩ ?_⟩
    unfold runB at post
    cases e : m (sd0 N.length ds) w with
    | nx sd' w' =>
      rw [e] at post
      exact fun σ' H' Hs' rs _ => post _ H' Hs' rs.b rfl
    | ret d w' =>
      rw [e] at post
      exact fun v H' Hs' b' q => post v H' Hs' b' q
    | brk sd' w' => rw [e] at post; exact post.elim
    | cnt sd' w' => rw [e] at post; exact post.elim
    | exc sd' c ns ds w' =>
      rw [e] at post
      exact fun dd σ' H' Hs' rs q => post dd H' Hs' rs.b q
    | bad => rw [e] at post; exact post.elim
end
/-- the facts of an error class -/
structure ClsF (K : PySem.W.Frag) (mg : Str → Option Value) (x : Str) (C fI : Addr) : Prop where
  oex : OexC K C
  iC : PySem.W.findIn K (.ref C) "__init__" = some (some (.ref fI))
  tI : PySem.W.typeIn K (.ref fI) = some (.type "function")
  mg : mg x = some (.ref C)
  xf : XfC K C
theorem ClsF.xc {X : Cx} {G : Gh} {n : Nat} {x : Str} {fI : Addr} (h : ClsF X.K X.mg x (G.c.cl n) fI) : XC X G n x fI := ⟨h.oex, h.iC, h.tI, h.mg⟩
/-- all that one computation tells of an error class -/
theorem clsF_mk {K : PySem.W.Frag} {mg : Str → Option Value} {h : Heap} {x : Str} {C fI : Addr} (KX : K.In h) (G : h.Ns mainGlobals mg) {nm q : Str} {N : Addr} {bs : List Value} {bm sub : List Value} {sn : List Str} {ab : Bool} {col : Option Bool} {dd : Option Addr} {m0 m1 m2 m3 m5 : Option Value}
    (aC : PySem.W.nsIn K mainGlobals x = some (some (.ref C)))
    (xL : K.lookup C = some (excClassObj nm q C N bs bm true sn sub ab col dd m0 m1 m2 m3 m5 "ValueError.__new__")) (hbm : PySem.HandSPX.refsVE bm = true)
    (sa : PySem.W.findIn K (.ref C) "__setattr__" = some (some (.builtin "object.__setattr__"))) (exC : PySem.W.subIn K (.ref C) (.type "BaseException") = some true) (tyC : PySem.W.typeIn K (.ref C) = some (.type "type")) (kC : PySem.W.keepIn K (.ref C) = true)
    (a1 : PySem.W.findIn K (.ref C) "__init__" = some (some (.ref fI))) (t1 : PySem.W.typeIn K (.ref fI) = some (.type "function")) (xf : XfC K C) : ClsF K mg x C fI :=
  ⟨⟨⟨nm, q, N, bs, bm, sn, sub, ab, col, dd, m0, m1, m2, m3, m5, xL, hbm⟩, sa, exC, tyC, kC⟩, a1, t1, PySem.W.mg_of KX G aC, xf⟩
section
variable {P : Program} {w0 : World} {K : PySem.W.Frag} {mg : Str → Option Value} {base : Heap}
theorem ok_fnN {x qual : Str} {st : Stmt} {f : Addr} {fd : FuncData} {N ps : List Str} {k n n2 : Nat} {cl : Nat → Addr} {T : List (Addr × Str)} {m : MS} (F : Fun K x qual st f fd) (S : FnScope N ps (defScope st)) (e1 : ps.length = n) (e2 : N.length = n2) (hps : n ≤ n2)
    (hb : ∀ (cdv : Value) (A : Around) (outer : List Env) (s : Shared) (H : Hp) (E : XK) (ap : Option Addr) (HP Hs : Hp), Room k (A.deeper (envOfC qual (defScope st) s.heap.objs.size f cdv)) →
      ∃ t, JSs (cxOf (L2.CX P w0) P w0 K mg base N qual (defScope st) f cdv A outer s H E) (gh K cl T ap HP H Hs) (fun c d _ H => E c d H) (defBody st) t m) :
    FnOk P w0 K mg base (L2.CX P w0) (k + 1) f fd ps (spF K cl T n (runB n2 m)) := by
  subst e1 e2
  exact ok_fn F S hps hb
theorem ok_fnCN {x qual : Str} {st : Stmt} {f c : Addr} {fd : FuncData} {N ps : List Str} {k n n2 : Nat} {cl : Nat → Addr} {T : List (Addr × Str)} {m : MS} (F : FunC K x qual st f fd c) (S : FnScope N ps (defScope st)) (e1 : ps.length = n) (e2 : N.length = n2) (hps : n ≤ n2)
    (hb : ∀ (A : Around) (outer : List Env) (s : Shared) (H : Hp) (E : XK) (ap : Option Addr) (HP Hs : Hp), Room k (A.deeper (envOfC qual (defScope st) s.heap.objs.size f (.ref c))) →
      ∃ t, JSs (cxOf (L2.CX P w0) P w0 K mg base N qual (defScope st) f (.ref c) A outer s H E) (gh K cl T ap HP H Hs) (fun c d _ H => E c d H) (defBody st) t m) :
    FnOk P w0 K mg base (L2.CX P w0) (k + 1) f fd ps (spF K cl T n (runB n2 m)) := by
  subst e1 e2
  exact ok_fnC F S hps hb
theorem ok_penN {x qual : Str} {st : Stmt} {f : Addr} {fd : FuncData} {N ps : List Str} {k n n2 : Nat} {cl : Nat → Addr} {T : List (Addr × Str)} {m : SD → List D → R (List D)} {fm : List D → List D → R (List D)} (F : Fun K x qual st f fd) (S : FnScope N ps (defScope st)) (e1 : ps.length = n) (e2 : N.length = n2) (hps : n ≤ n2) (hf : fm = fun ds w => m (sd0 n2 ds) w)
    (hb : ∀ (cdv : Value) (A : Around) (outer : List Env) (s : Shared) (H : Hp) (E : XK) (ap : Option Addr) (HP Hs : Hp), Room k (A.deeper (envOfC qual (defScope st) s.heap.objs.size f cdv)) →
      ∃ t, JSF (cxOf (L2.CX P w0) P w0 K mg base N qual (defScope st) f cdv A outer s H E) (gh K cl T ap HP H Hs) (fun c d _ H => E c d H) (defBody st) t m) :
    FnOk P w0 K mg base (L2.CX P w0) (k + 1) f fd ps (spPF K cl T n fm) := by
  subst e1 e2 hf
  exact ok_pen F S hps hb
end
end FT
end
section
set_option Elab.async false
set_option linter.all false
set_option maxRecDepth 100000
set_option maxHeartbeats 4000000
namespace FT
open PySem PySem.Spec PyProof.Rows L2
section
variable {X : Cx} {G : Gh} {Wx : WX}
/-! ### comparisons as tests -/
structure JC (X : Cx) (G : Gh) (Wx : WX) (e : Expr) (t : TE) (m : ME D) : Prop where
  pt : PT X e (tTest t)
  si : Sim G Wx (ρE G) t m
def mTst (m : ME D) : ME Bool := fun sd w => (m sd w).bind fun d w1 => match d with
  | .bl k => .ok k w1
  | _ => .bad
variable {a b c : Expr} {ta tb tc : TE} {ma mb mc : ME D} {pos : Pos}
theorem jt_c {e : Expr} {t : TE} {m : ME D} (h : JC X G Wx e t m) : JT X G Wx e (tTest t) (mTst m) := by
  refine ⟨h.pt, fun sd w σ H Hs Q rs post => ?_⟩
  refine h.si.bind rs post fun d w1 v H1 Hs1 rs1 b1 q1 post1 => ?_
  cases d with
  | bl k => exact ⟨k, q1, post1 k H1 Hs1 rs1.b.refl_at rfl⟩
  | _ => exact post1.elim
theorem jc_cmp {op : CmpOp} {r : R2} {f : D → D → Option D} (ho : OpR X (compareOp op) r) (hf : OpD G r f) (ha : JB X G Wx a ta ma) (hb : JB X G Wx b tb mb) (hm : behindInMarks op b = false) :
    JC X G Wx (.Compare a [op] [b] pos) (tOp r ta tb) (mBin f ma mb) := ⟨pt_cmpR ho ha.pe hb.pe hm, sim_op hf ha.si hb.si⟩
theorem jc_eq {k : Nat} (hr : Room k X.A) (ha : JB X G Wx a ta ma) (hb : JB X G Wx b tb mb) (hK : X.K = G.c.K := by rfl) : JC X G Wx (.Compare a [.Eq] [b] pos) (tOp (rEqD G.c.K) ta tb) (mBin (oEq false) ma mb) :=
  jc_cmp (by rw [← hK]; exact op_eqD hr.units) (opd_eq rfl) ha hb (nomark _)
theorem jc_ne {k : Nat} (hr : Room k X.A) (ha : JB X G Wx a ta ma) (hb : JB X G Wx b tb mb) (hK : X.K = G.c.K := by rfl) : JC X G Wx (.Compare a [.NotEq] [b] pos) (tOp (rNeD G.c.K) ta tb) (mBin (oEq true) ma mb) :=
  jc_cmp (by rw [← hK]; exact op_neD hr.units) (opd_ne rfl) ha hb (nomark _)
theorem jc_lt (ha : JB X G Wx a ta ma) (hb : JB X G Wx b tb mb) : JC X G Wx (.Compare a [.Lt] [b] pos) (tOp (rCmp fLt sLt) ta tb) (mBin (oCmp fLt sLt) ma mb) := jc_cmp op_ltA opd_cmp ha hb (nomark _)
theorem jc_le (ha : JB X G Wx a ta ma) (hb : JB X G Wx b tb mb) : JC X G Wx (.Compare a [.LtE] [b] pos) (tOp (rCmp fLe sLe) ta tb) (mBin (oCmp fLe sLe) ma mb) := jc_cmp op_leA opd_cmp ha hb (nomark _)
theorem jc_gt (ha : JB X G Wx a ta ma) (hb : JB X G Wx b tb mb) : JC X G Wx (.Compare a [.Gt] [b] pos) (tOp (rCmp fGt sGt) ta tb) (mBin (oCmp fGt sGt) ma mb) := jc_cmp op_gtA opd_cmp ha hb (nomark _)
theorem jc_ge (ha : JB X G Wx a ta ma) (hb : JB X G Wx b tb mb) : JC X G Wx (.Compare a [.GtE] [b] pos) (tOp (rCmp fGe sGe) ta tb) (mBin (oCmp fGe sGe) ma mb) := jc_cmp op_geA opd_cmp ha hb (nomark _)
theorem jc_in {k : Nat} (hr : Room k X.A) (ha : JB X G Wx a ta ma) (hb : JB X G Wx b tb mb) (hm : behindInMarks .In b = false := by with_unfolding_all rfl) (hK : X.K = G.c.K := by rfl) : JC X G Wx (.Compare a [.In] [b] pos) (tOp (rInA G.c.K false) ta tb) (mBin (oIn false) ma mb) :=
  jc_cmp (by rw [← hK]; exact op_inA hr) (opd_in rfl false) ha hb hm
theorem jc_notin {k : Nat} (hr : Room k X.A) (ha : JB X G Wx a ta ma) (hb : JB X G Wx b tb mb) (hm : behindInMarks .NotIn b = false := by with_unfolding_all rfl) (hK : X.K = G.c.K := by rfl) : JC X G Wx (.Compare a [.NotIn] [b] pos) (tOp (rInA G.c.K true) ta tb) (mBin (oIn true) ma mb) :=
  jc_cmp (by rw [← hK]; exact op_notInA hr) (opd_in rfl true) ha hb hm
theorem jc_is (ha : JB X G Wx a ta ma) (hb : JB X G Wx b tb mb) : JC X G Wx (.Compare a [.Is] [b] pos) (tOp (rIsA false) ta tb) (mBin (oIs false) ma mb) := jc_cmp op_isA (opd_is false) ha hb (nomark _)
theorem jc_isnot (ha : JB X G Wx a ta ma) (hb : JB X G Wx b tb mb) : JC X G Wx (.Compare a [.IsNot] [b] pos) (tOp (rIsA true) ta tb) (mBin (oIs true) ma mb) := jc_cmp op_isNotA (opd_is true) ha hb (nomark _)
theorem jc_chain {op op' : CmpOp} {r r' : R2} {f g : D → D → Option D} (ho : OpR X (compareOp op) r) (ho' : OpR X (compareOp op') r') (hf : OpD G r f) (hg : OpD G r' g) (ha : JB X G Wx a ta ma) (hb : JB X G Wx b tb mb) (hc : JB X G Wx c tc mc)
    (hm : lastMarks [op, op'] [b, c] = false := by with_unfolding_all rfl) : JC X G Wx (.Compare a [op, op'] [b, c] pos) (tChain r r' ta tb tc) (mChain f g ma mb mc) :=
  ⟨pt_chain ho ho' ha.pe hb.pe hc.pe hm, (je_chain (pos := pos) ho ho' hf hg ha hb hc hm).si⟩
end
end FT
end
section
set_option Elab.async false
set_option linter.all false
set_option maxRecDepth 100000
set_option maxHeartbeats 4000000
namespace FT
open PySem PySem.Spec PyProof.Rows L2 LamX
theorem cx_no {P : Program} {w : World} {H : Hp} {s : Shared} {e : Value} {s' : Shared} (h : L2.CX P w [] H s (fun _ _ _ => False) e s') : False := by
  obtain ⟨_, _, _, _, _, _, _, _, _, _, _, _, h⟩ := h
  exact h
theorem finish {l : PySem.W.OpenLaw} {w : World} {K : PySem.W.Frag} {k n : Nat} {x : Str} {mg : Str → Option Value} {fa : Addr} {h : Heap} {fd : FuncData} {cs : List (Addr × Addr)} {T : List (Addr × Str)} {Pre : List Int → Prop} (KX : K.In h)
    (hb : ∀ (s : Shared) (u : Value), BindsTo s fd ⟨[u], []⟩ [(x, u)]) (hF : ∀ base : Heap, K.In base → base.Ns mainGlobals mg → (∀ p ∈ cs, TabB base mg p.1 p.2) → FnOk l.prog w K mg base (L2.CX l.prog w) k fa fd [x] (spLaw K T Pre))
    (hT : ∀ p ∈ cs, h.get? p.2 = some { cls := .none, data := .fields #[] }) (hN : ∀ p ∈ cs, K.lookup p.2 = none) (hC : ∀ p ∈ cs, PySem.W.codeHdIn K p.1 p.2 = true) (hTP : ∀ p ∈ T, ∃ q ∈ cs, q.2 = p.1)
    (hPre : ∀ ns : List Int, ns.length ≤ n → (∀ z ∈ ns, Builtin.Int.intBits z ≤ 1048576) → Pre ns) : LawAtS l w K (L2.CX l.prog w) k n x mg fa h := by
  refine ⟨fd, cs, spLaw K T Pre, hT, hN, fun p hp => PySem.W.codeHd_of_K KX (hC p hp), hb, fun H a ns hl hz hH hS => ?_, hF⟩
  refine ⟨a, ns, rfl, hS, hPre ns hl hz, fun p hp => ?_, fun H' => rfl⟩
  obtain ⟨q, hq, e⟩ := hTP p hp
  exact TabS.nil (by rw [← e]; exact hH q hq)
/-- an error of the class at S, and «except C» -/
theorem exm_of {K : PySem.W.Frag} {S C : Addr} {b : Bool} (h1 : PySem.W.subIn K (.ref C) (.type "BaseException") = some true) (h2 : PySem.W.isClsIn K C = true) (h3 : PySem.W.typeIn K (.ref C) = some (.type "type")) (h4 : PySem.W.subIn K (.ref S) (.ref C) = some b) :
    PySem.W.exmOne K (.ref S) (.ref C) = some b := by
  have e1 : (PySem.W.subIn K (.ref C) (.type "BaseException") == some true) = true := by rw [h1] <;> rfl
  have e2 : ((PySem.W.clsIn K C).isSome && PySem.W.typeIn K (.ref C) == some (.type "type")) = true := by
    have h2' : (PySem.W.clsIn K C).isSome = true := h2
    rw [h2', h3] <;> rfl
  show (if (PySem.W.subIn K (.ref C) (.type "BaseException") == some true) = true then (if ((PySem.W.clsIn K C).isSome && PySem.W.typeIn K (.ref C) == some (.type "type")) = true then PySem.W.subIn K (.ref S) (.ref C) else none) else none) = some b
  rw [if_pos e1, if_pos e2]
  exact h4
end FT
end
section
set_option Elab.async false
set_option linter.all false
set_option maxRecDepth 100000
set_option maxHeartbeats 4000000
namespace FT
open PySem PySem.Spec PyProof.Rows L2
/-! ### mirrors: loops and comprehensions that leave the pen alone -/
theorem compL_pure {g : D → SD → Option SD} {mt : ME Bool} {me : ME D} {sd0 : SD} {w : List D} (p : D → Bool) (h : D → D) : ∀ ds : List D,
    (∀ d ∈ ds, ∃ sd1, g d sd0 = some sd1 ∧ mt sd1 w = .ok (p d) w ∧ (p d = true → me sd1 w = .ok (h d) w)) → compL g mt me sd0 ds w = some ((ds.filter p).map h, w)
  | [], _ => rfl
  | d :: ds, H => by
    obtain ⟨sd1, h1, h2, h3⟩ := H d List.mem_cons_self
    have ih := compL_pure p h ds fun x hx => H x (List.mem_cons_of_mem _ hx)
    cases e : p d with
    | true =>
      rw [e] at h2
      simp only [compL, h1, h2, h3 e, ih, List.filter_cons, e, if_true, List.map_cons]
    | false =>
      rw [e] at h2
      simp only [compL, h1, h2, ih, List.filter_cons, e, Bool.false_eq_true, if_false]
theorem compL_map {g : D → SD → Option SD} {me : ME D} {sd0 : SD} {w : List D} (h : D → D) (ds : List D)
    (H : ∀ d ∈ ds, ∃ sd1, g d sd0 = some sd1 ∧ me sd1 w = .ok (h d) w) : compL g mYes me sd0 ds w = some (ds.map h, w) := by
  have := compL_pure (g := g) (mt := mYes) (me := me) (sd0 := sd0) (w := w) (fun _ => true) h ds fun d hd => by
    obtain ⟨sd1, h1, h2⟩ := H d hd
    exact ⟨sd1, h1, rfl, fun _ => h2⟩
  rw [this, List.filter_eq_self.mpr fun _ _ => rfl]
theorem forL_fold {α : Type} {g : D → SD → Option SD} {body : MS} {w : List D} (S : α → SD) (step : α → D → α) : ∀ (ds : List D) (a : α),
    (∀ d ∈ ds, ∀ a, ∃ sd1, g d (S a) = some sd1 ∧ body sd1 w = .nx (S (step a d)) w) → forL g body ds (S a) w = .nx (S (ds.foldl step a)) w
  | [], a, _ => rfl
  | d :: ds, a, H => by
    obtain ⟨sd1, h1, h2⟩ := H d List.mem_cons_self a
    have ih := forL_fold S step ds (step a d) fun x hx => H x (List.mem_cons_of_mem _ hx)
    simp only [forL, h1, h2, ih, List.foldl_cons]
/-- a loop with a promise along the way: it may hand back at once -/
theorem forL_inv {g : D → SD → Option SD} {body : MS} (J : Nat → SD → List D → Prop) (Rt : D → List D → Prop) : ∀ (ds : List D) (i : Nat) (sd : SD) (w : List D), J i sd w →
    (∀ j d sd w, ds[j]? = some d → J (i + j) sd w → ∃ sd1, g d sd = some sd1 ∧ ((∃ sd2 w2, body sd1 w = .nx sd2 w2 ∧ J (i + j + 1) sd2 w2) ∨ ∃ r w2, body sd1 w = .ret r w2 ∧ Rt r w2)) →
    (∃ sd2 w2, forL g body ds sd w = .nx sd2 w2 ∧ J (i + ds.length) sd2 w2) ∨ ∃ r w2, forL g body ds sd w = .ret r w2 ∧ Rt r w2
  | [], i, sd, w, h, _ => .inl ⟨sd, w, rfl, h⟩
  | d :: ds, i, sd, w, h, H => by
    obtain ⟨sd1, h1, h2⟩ := H 0 d sd w rfl h
    rcases h2 with ⟨sd2, w2, h2, h3⟩ | ⟨r, w2, h2, h3⟩
    · have ih := forL_inv J Rt ds (i + 1) sd2 w2 h3 fun j d' sd' w' e hj => by
        have := H (j + 1) d' sd' w' (by simpa using e) (by rw [show i + (j + 1) = i + 1 + j by omega]; exact hj)
        rw [show i + (j + 1) + 1 = i + 1 + j + 1 by omega] at this
        exact this
      rcases ih with ⟨sd3, w3, h4, h5⟩ | ⟨r, w3, h4, h5⟩
      · exact .inl ⟨sd3, w3, by simp only [forL, h1, h2, h4], by rw [List.length_cons, show i + (ds.length + 1) = i + 1 + ds.length by omega]; exact h5⟩
      · exact .inr ⟨r, w3, by simp only [forL, h1, h2, h4], h5⟩
    · exact .inr ⟨r, w2, by simp only [forL, h1, h2], h3⟩
/-- a comprehension with the pen used along the way -/
theorem compL_inv {g : D → SD → Option SD} {mt : ME Bool} {me : ME D} {sd0 : SD} (J : Nat → List D → Prop) (Pd : D → Prop) : ∀ (ds : List D) (i : Nat) (w : List D), J i w →
    (∀ j d w, ds[j]? = some d → J (i + j) w → ∃ sd1, g d sd0 = some sd1 ∧ mt sd1 w = .ok true w ∧ ∃ y w2, me sd1 w = .ok y w2 ∧ Pd y ∧ J (i + j + 1) w2) →
    ∃ ys w2, compL g mt me sd0 ds w = some (ys, w2) ∧ ys.length = ds.length ∧ (∀ y ∈ ys, Pd y) ∧ J (i + ds.length) w2
  | [], i, w, h, _ => ⟨[], w, rfl, rfl, fun _ h => absurd h (by simp), h⟩
  | d :: ds, i, w, h, H => by
    obtain ⟨sd1, h1, h2, y, w2, h3, h4, h5⟩ := H 0 d w rfl h
    obtain ⟨ys, w3, e1, e2, e3, e4⟩ := compL_inv J Pd ds (i + 1) w2 h5 fun j d' w' e hj => by
      have := H (j + 1) d' w' (by simpa using e) (by rw [show i + (j + 1) = i + 1 + j by omega]; exact hj)
      rw [show i + (j + 1) + 1 = i + 1 + j + 1 by omega] at this
      exact this
    refine ⟨y :: ys, w3, by simp only [compL, h1, h2, h3, e1], by simp [e2], fun z hz => ?_, by rw [List.length_cons, show i + (ds.length + 1) = i + 1 + ds.length by omega]; exact e4⟩
    rcases List.mem_cons.mp hz with rfl | hz
    · exact h4
    · exact e3 z hz
@[simp] theorem s_mV (i : Nat) (sd : SD) (w : List D) : mV i sd w = (match sd[i]? with
  | some (SV.val d) => .ok d w
  | _ => .bad) := (rfl)
@[simp] theorem s_mVB (i : Nat) (sd : SD) (w : List D) : mVB i sd w = (match sd[i]? with
  | some (SV.val d) => .ok d w
  | some (SV.own ds) => .ok (.lst ds) w
  | _ => .bad) := (rfl)
@[simp] theorem s_mC (d : D) (sd : SD) (w : List D) : mC d sd w = (.ok d w) := (rfl)
@[simp] theorem s_mBin (f : D → D → Option D) (ma mb : ME D) (sd : SD) (w : List D) : mBin f ma mb sd w = ((ma sd w).bind fun a w1 => (mb sd w1).bind fun b w2 => match f a b with
  | some d => .ok d w2
  | none => .bad) := (rfl)
@[simp] theorem s_mUn (f : D → Option D) (m : ME D) (sd : SD) (w : List D) : mUn f m sd w = ((m sd w).bind fun a w1 => match f a with
  | some d => .ok d w1
  | none => .bad) := (rfl)
@[simp] theorem s_mTst (m : ME D) (sd : SD) (w : List D) : mTst m sd w = ((m sd w).bind fun d w1 => match d with
  | .bl k => .ok k w1
  | _ => .bad) := (rfl)
@[simp] theorem s_mTru (m : ME D) (sd : SD) (w : List D) : mTru m sd w = ((m sd w).bind fun d w1 => match truthD d with
  | some b => .ok b w1
  | none => .bad) := (rfl)
@[simp] theorem s_mNotT (m : ME Bool) (sd : SD) (w : List D) : mNotT m sd w = ((m sd w).bind fun b w1 => .ok (!b) w1) := (rfl)
@[simp] theorem s_mAnd (m1 m2 : ME Bool) (sd : SD) (w : List D) : mAnd m1 m2 sd w = ((m1 sd w).bind fun b w1 => if b = true then m2 sd w1 else .ok false w1) := (rfl)
@[simp] theorem s_mOr (m1 m2 : ME Bool) (sd : SD) (w : List D) : mOr m1 m2 sd w = ((m1 sd w).bind fun b w1 => if b = true then .ok true w1 else m2 sd w1) := (rfl)
@[simp] theorem s_mAndV (m1 m2 : ME D) (sd : SD) (w : List D) : mAndV m1 m2 sd w = ((m1 sd w).bind fun d w1 => match d with
  | .bl true => m2 sd w1
  | .bl false => .ok (.bl false) w1
  | _ => .bad) := (rfl)
@[simp] theorem s_mOrV (m1 m2 : ME D) (sd : SD) (w : List D) : mOrV m1 m2 sd w = ((m1 sd w).bind fun d w1 => match d with
  | .bl true => .ok (.bl true) w1
  | .bl false => m2 sd w1
  | _ => .bad) := (rfl)
@[simp] theorem s_mNotV (m1 : ME D) (sd : SD) (w : List D) : mNotV m1 sd w = ((m1 sd w).bind fun d w1 => match d with
  | .bl c => .ok (.bl !c) w1
  | _ => .bad) := (rfl)
@[simp] theorem s_mIfE (mt : ME Bool) (m1 m2 : ME D) (sd : SD) (w : List D) : mIfE mt m1 m2 sd w = ((mt sd w).bind fun b w1 => if b = true then m1 sd w1 else m2 sd w1) := (rfl)
@[simp] theorem s_mChain (f g : D → D → Option D) (ma mb mc : ME D) (sd : SD) (w : List D) : mChain f g ma mb mc sd w = ((ma sd w).bind fun a w1 => (mb sd w1).bind fun b w2 => match f a b with
  | some (.bl true) => (mc sd w2).bind fun c w3 => match g b c with
    | some d => .ok d w3
    | none => .bad
  | some (.bl false) => .ok (.bl false) w2
  | _ => .bad) := (rfl)
@[simp] theorem s_mIsi (Ts : List String) (m : ME D) (sd : SD) (w : List D) : mIsi Ts m sd w = ((m sd w).bind fun d w1 => match tyN d with
  | some t => .ok (.bl (Ts.any fun T => isiB t T)) w1
  | none => .bad) := (rfl)
@[simp] theorem s_mCall (f : List D → List D → R D) (m : ME (List D)) (sd : SD) (w : List D) : mCall f m sd w = ((m sd w).bind fun ds w1 => f ds w1) := (rfl)
@[simp] theorem s_mCB (f : List D → List D → Option D) (m : ME (List D)) (sd : SD) (w : List D) : mCB f m sd w = ((m sd w).bind fun ds w1 => match f w1 ds with
  | some d => .ok d w1
  | none => .bad) := (rfl)
@[simp] theorem s_mMt (f : List Nat → List D → Option D) (mo : ME D) (m : ME (List D)) (sd : SD) (w : List D) : mMt f mo m sd w = ((mo sd w).bind fun o w1 => match o with
  | .str s => (m sd w1).bind fun ds w2 => (match f s ds with
    | some d => .ok d w2
    | none => .bad)
  | _ => .bad) := (rfl)
@[simp] theorem s_mNil  (sd : SD) (w : List D) : mNil  sd w = (.ok [] w) := (rfl)
@[simp] theorem s_mCons (m : ME D) (r : ME (List D)) (sd : SD) (w : List D) : mCons m r sd w = ((m sd w).bind fun d w1 => (r sd w1).bind fun ds w2 => .ok (d :: ds) w2) := (rfl)
@[simp] theorem s_mTup (m : ME (List D)) (sd : SD) (w : List D) : mTup m sd w = ((m sd w).bind fun ds w1 => if ds.length ≤ 1000 then .ok (.tup ds) w1 else .bad) := (rfl)
@[simp] theorem s_mLst (m : ME (List D)) (sd : SD) (w : List D) : mLst m sd w = ((m sd w).bind fun ds w1 => if ds.length ≤ 1000 then .ok (.lst ds) w1 else .bad) := (rfl)
@[simp] theorem s_mLstF (m : ME (List D)) (sd : SD) (w : List D) : mLstF m sd w = ((m sd w).bind fun ds w1 => if ds.length ≤ 1000 then .ok ds w1 else .bad) := (rfl)
@[simp] theorem s_mF (m : ME (List D)) (sd : SD) (w : List D) : mF m sd w = ((m sd w).bind fun ds w1 => .ok (.lst ds) w1) := (rfl)
@[simp] theorem s_mIx (ma mb : ME D) (sd : SD) (w : List D) : mIx ma mb sd w = ((ma sd w).bind fun a w1 => (mb sd w1).bind fun b w2 => match oIx w2 a b with
  | some d => .ok d w2
  | none => .bad) := (rfl)
@[simp] theorem s_mSl (ma : ME D) (ml mu : ME (Option Int)) (sd : SD) (w : List D) : mSl ma ml mu sd w = ((ma sd w).bind fun a w1 => (ml sd w1).bind fun l w2 => (mu sd w2).bind fun u w3 => match oSl a l u with
  | some d => .ok d w3
  | none => .bad) := (rfl)
@[simp] theorem s_mSeq (m1 m2 : MS) (sd : SD) (w : List D) : mSeq m1 m2 sd w = (match m1 sd w with
  | .nx sd' w' => m2 sd' w'
  | r => r) := (rfl)
@[simp] theorem s_mIf (mt : ME Bool) (m1 m2 : MS) (sd : SD) (w : List D) : mIf mt m1 m2 sd w = (eb (mt sd w) sd fun b w1 => if b = true then m1 sd w1 else m2 sd w1) := (rfl)
@[simp] theorem s_mRet (m : ME D) (sd : SD) (w : List D) : mRet m sd w = (eb (m sd w) sd fun d w1 => .ret d w1) := (rfl)
@[simp] theorem s_mRetN  (sd : SD) (w : List D) : mRetN  sd w = (.ret .non w) := (rfl)
@[simp] theorem s_mSkip  (sd : SD) (w : List D) : mSkip  sd w = (.nx sd w) := (rfl)
@[simp] theorem s_mBrk  (sd : SD) (w : List D) : mBrk  sd w = (.brk sd w) := (rfl)
@[simp] theorem s_mCnt  (sd : SD) (w : List D) : mCnt  sd w = (.cnt sd w) := (rfl)
@[simp] theorem s_mAsg (g : D → SD → Option SD) (m : ME D) (sd : SD) (w : List D) : mAsg g m sd w = (eb (m sd w) sd fun d w1 => match g d sd with
  | some sd' => .nx sd' w1
  | none => .bad) := (rfl)
@[simp] theorem s_mPar (i j : Nat) (m : ME (List D)) (sd : SD) (w : List D) : mPar i j m sd w = (eb (m sd w) sd fun ds w1 => match ds with
  | [d, e] => .nx ((sd.set i (.val d)).set j (.val e)) w1
  | _ => .bad) := (rfl)
@[simp] theorem s_mPar3 (i j l : Nat) (m : ME (List D)) (sd : SD) (w : List D) : mPar3 i j l m sd w = (eb (m sd w) sd fun ds w1 => match ds with
  | [d, e, f] => .nx (((sd.set i (.val d)).set j (.val e)).set l (.val f)) w1
  | _ => .bad) := (rfl)
@[simp] theorem s_mParFE (i j : Nat) (ma : ME (List D)) (mb : ME D) (sd : SD) (w : List D) : mParFE i j ma mb sd w = (eb (ma sd w) sd fun ds w1 => eb (mb sd w1) sd fun d w2 => .nx ((sd.set i (.own ds)).set j (.val d)) w2) := (rfl)
@[simp] theorem s_mSetO (i : Nat) (m : ME (List D)) (sd : SD) (w : List D) : mSetO i m sd w = (eb (m sd w) sd fun ds w1 => .nx (sd.set i (.own ds)) w1) := (rfl)
@[simp] theorem s_mApp (i : Nat) (m : ME D) (sd : SD) (w : List D) : mApp i m sd w = (match sd[i]? with
  | some (.own ds) => eb (m sd w) sd fun d w1 => if ds.length < 16777216 then .nx (sd.set i (.own (ds ++ [d]))) w1 else .bad
  | _ => .bad) := (rfl)
@[simp] theorem s_mExt (i : Nat) (m : ME D) (sd : SD) (w : List D) : mExt i m sd w = (match sd[i]? with
  | some (.own ds) => eb (m sd w) sd fun d w1 => (match d with
    | .lst es => if ds.length + es.length ≤ 16777216 then .nx (sd.set i (.own (ds ++ es))) w1 else .bad
    | _ => .bad)
  | _ => .bad) := (rfl)
@[simp] theorem s_mSetI (i : Nat) (mi m : ME D) (sd : SD) (w : List D) : mSetI i mi m sd w = (match sd[i]? with
  | some (.val .pen) => eb (m sd w) sd fun d w1 => eb (mi sd w1) sd fun k w2 => (match k with
    | .int k => (match ixN w2.length k with
      | some j => if flat d = true then .nx sd (w2.set j d) else .bad
      | none => .bad)
    | _ => .bad)
  | some (.own ds) => eb (m sd w) sd fun d w1 => eb (mi sd w1) sd fun k w2 => (match k with
    | .int k => (match ixN ds.length k with
      | some j => .nx (sd.set i (.own (ds.set j d))) w2
      | none => .bad)
    | _ => .bad)
  | _ => .bad) := (rfl)
@[simp] theorem s_mDrop (m : ME D) (sd : SD) (w : List D) : mDrop m sd w = (eb (m sd w) sd fun _ w1 => .nx sd w1) := (rfl)
@[simp] theorem s_mFr (i : Nat) (m : MS) (sd : SD) (w : List D) : mFr i m sd w = (match sd[i]? with
  | some (.own ds) => m (sd.set i (.val (.lst ds))) w
  | _ => .bad) := (rfl)
@[simp] theorem s_mYes  (sd : SD) (w : List D) : mYes  sd w = (.ok true w) := (rfl)
@[simp] theorem s_mListX (m : ME D) (sd : SD) (w : List D) : mListX m sd w = ((m sd w).bind fun d w1 => match items d with
  | some ds => .ok ds w1
  | none => .bad) := (rfl)
@[simp] theorem s_mSeqI (m : ME D) (sd : SD) (w : List D) : mSeqI m sd w = ((m sd w).bind fun d w1 => match items d with
  | some ds => .ok ds w1
  | none => .bad) := (rfl)
@[simp] theorem s_mZipX (m : ME (List D)) (sd : SD) (w : List D) : mZipX m sd w = ((m sd w).bind fun ds w1 => match fZipX ds with
  | some xs => .ok xs w1
  | none => .bad) := (rfl)
@[simp] theorem s_mEnum (m : ME D) (sd : SD) (w : List D) : mEnum m sd w = ((m sd w).bind fun d w1 => match d with
  | .lst ds => .ok (enumD 0 ds) w1
  | _ => .bad) := (rfl)
@[simp] theorem s_mRng1 (m : ME D) (sd : SD) (w : List D) : mRng1 m sd w = ((m sd w).bind fun d w1 => match d with
  | .int j => if -4611686018427387904 ≤ j ∧ j < 4611686018427387904 then .ok (rngD 0 j) w1 else .bad
  | _ => .bad) := (rfl)
@[simp] theorem s_mRng2 (m m2 : ME D) (sd : SD) (w : List D) : mRng2 m m2 sd w = ((m sd w).bind fun d w1 => (m2 sd w1).bind fun d2 w2 => match fRng2 d d2 with
  | some ds => .ok ds w2
  | none => .bad) := (rfl)
@[simp] theorem s_mComp (mi : ME (List D)) (g : D → SD → Option SD) (mt : ME Bool) (me : ME D) (vs : List Nat) (sd : SD) (w : List D) : mComp mi g mt me vs sd w = ((mi sd w).bind fun ds w1 => if ds.length ≤ 16777216 then (match compL g mt me (wipeD sd vs) ds w1 with
  | some (ys, w2) => .ok ys w2
  | none => .bad) else .bad) := (rfl)
@[simp] theorem s_mComp2 (mi : ME (List D)) (g : D → SD → Option SD) (mt : ME Bool) (mi1 : ME (List D)) (g1 : D → SD → Option SD) (mt1 : ME Bool) (me : ME D) (vs vs1 : List Nat) (sd : SD) (w : List D) : mComp2 mi g mt mi1 g1 mt1 me vs vs1 sd w = ((mi sd w).bind fun ds w1 => (match comp2L g mt mi1 g1 mt1 me vs1 (wipeD sd vs) ds w1 with
  | some (ys, w2) => if ys.length ≤ 1000000 then .ok ys w2 else .bad
  | none => .bad)) := (rfl)
@[simp] theorem s_mFor (g : D → SD → Option SD) (mi : ME (List D)) (body : MS) (sd : SD) (w : List D) : mFor g mi body sd w = (eb (mi sd w) sd fun ds w1 => forL g body ds sd w1) := (rfl)
@[simp] theorem s_mSortF (m : ME D) (sd : SD) (w : List D) : mSortF m sd w = ((m sd w).bind fun d w1 => match (match d with
  | .lst ds => fSort ds
  | _ => none) with
  | some es => .ok es w1
  | none => .bad) := (rfl)
@[simp] theorem s_mCallK (n m : Nat) (idx : List Nat) (f : List D → List D → R D) (ma mk : ME (List D)) (sd : SD) (w : List D) : mCallK n m idx f ma mk sd w = ((ma sd w).bind fun ds w1 => (mk sd w1).bind fun es w2 => if ds.length = n ∧ es.length = m then f (pick idx (ds ++ es)) w2 else .bad) := (rfl)
@[simp] theorem s_mHeard (nC : Nat) (xm : Nat → Nat → Bool) (hs : Hds) (m : ME D) (sd : SD) (w : List D) : mHeard nC xm hs m sd w = (match m sd w with
  | .ok _ w' => .ok .non w'
  | .exc c ns ds w' => if c < nC then (match hdsD xm c ns ds hs with
    | some d => .ok d w'
    | none => .bad) else .bad
  | .bad => .bad) := (rfl)
@[simp] theorem s_mRaise1 (n : Nat) (f : Str) (m : ME (List D)) (sd : SD) (w : List D) : mRaise1 n f m sd w = (eb (m sd w) sd fun ds w1 => match ds with
  | [d] => .exc sd n [f] [d] w1
  | _ => .bad) := (rfl)
@[simp] theorem s_mRaise2 (n : Nat) (f g : Str) (m : ME (List D)) (sd : SD) (w : List D) : mRaise2 n f g m sd w = (eb (m sd w) sd fun ds w1 => match ds with
  | [d, e] => .exc sd n [g, f] [e, d] w1
  | _ => .bad) := (rfl)
@[simp] theorem s_mNoP  (sd : SD) (w : List D) : mNoP  sd w = (.ok none w) := (rfl)
@[simp] theorem s_mPart (m : ME D) (sd : SD) (w : List D) : mPart m sd w = ((m sd w).bind fun d w1 => match d with
  | .int i => .ok (some i) w1
  | _ => .bad) := (rfl)
@[simp] theorem s_bind_ok {α β : Type} (a : α) (w : List D) (k : α → List D → R β) : R.bind (.ok a w) k = k a w := (rfl)
@[simp] theorem s_bind_exc {α β : Type} (c : Nat) (ns : List Str) (ds w : List D) (k : α → List D → R β) : R.bind (.exc c ns ds w) k = .exc c ns ds w := (rfl)
@[simp] theorem s_bind_bad {α β : Type} (k : α → List D → R β) : R.bind .bad k = .bad := (rfl)
@[simp] theorem s_eb_ok {α : Type} (a : α) (w : List D) (sd : SD) (k : α → List D → Out) : eb (.ok a w) sd k = k a w := (rfl)
@[simp] theorem s_eb_exc {α : Type} (c : Nat) (ns : List Str) (ds w : List D) (sd : SD) (k : α → List D → Out) : eb (.exc c ns ds w) sd k = .exc sd c ns ds w := (rfl)
@[simp] theorem s_eb_bad {α : Type} (sd : SD) (k : α → List D → Out) : eb .bad sd k = .bad := (rfl)
@[simp] theorem s_nArg (n : Nat) (f : List D → List D → R D) (ds w : List D) : nArg n f ds w = if ds.length = n then f ds w else .bad := (rfl)
@[simp] theorem s_gN (i : Nat) (d : D) (sd : SD) : gN i d sd = some (sd.set i (.val d)) := (rfl)
@[simp] theorem s_gsNil (sd : SD) : gsNil [] sd = some sd := (rfl)
@[simp] theorem s_gsCons (g : D → SD → Option SD) (r : List D → SD → Option SD) (d : D) (ds : List D) (sd : SD) : gsCons g r (d :: ds) sd = (g d sd).bind fun sd' => r ds sd' := (rfl)
@[simp] theorem s_gTu (n : Nat) (g : List D → SD → Option SD) (ds : List D) (sd : SD) : gTu n g (.tup ds) sd = if ds.length = n then g ds sd else none := (rfl)
@[simp] theorem s_wipe0 (sd : SD) : wipeD sd [] = sd := (rfl)
@[simp] theorem s_wipe1 (sd : SD) (v : Nat) (vs : List Nat) : wipeD sd (v :: vs) = (wipeD sd vs).set v .no := (rfl)
@[simp] theorem s_pick0 {α : Type} (xs : List α) : pick [] xs = [] := (rfl)
@[simp] theorem s_outR_nx (sd : SD) (w : List D) : outR (.nx sd w) = .ok .non w := (rfl)
@[simp] theorem s_outR_ret (d : D) (w : List D) : outR (.ret d w) = .ok d w := (rfl)
@[simp] theorem s_outR_exc (sd : SD) (c : Nat) (ns : List Str) (ds w : List D) : outR (.exc sd c ns ds w) = .exc c ns ds w := (rfl)
theorem s_runB (n : Nat) (m : MS) (ds w : List D) : runB n m ds w = outR (m (sd0 n ds) w) := rfl
end FT
end
section
set_option Elab.async false
set_option linter.all false
set_option maxRecDepth 100000
set_option maxHeartbeats 4000000
namespace K04
open PySem PySem.Spec PyProof.Rows L2 LamX FT
def topS (i : Nat) : Stmt := PySem.Challenge.pw_foretongue_k04_words_of_stocks_numbered.main.body.getD i (.Pass ⟨0, 0, 0, 0⟩)
def clsBody (s : Stmt) : List Stmt := match s with
  | .ClassDef _ _ _ b _ _ _ _ _ _ _ => b
  | _ => []
def topC (i j : Nat) : Stmt := (clsBody (topS i)).getD j (.Pass ⟨0, 0, 0, 0⟩)
abbrev s_is_integer : Stmt := topS 4
abbrev s_is_within : Stmt := topS 5
abbrev s_is_word : Stmt := topS 6
abbrev s_is_stock : Stmt := topS 7
abbrev s_of_stock : Stmt := topS 8
abbrev s_need_word : Stmt := topS 18
abbrev s_need_stock : Stmt := topS 19
abbrev s_need_word_of : Stmt := topS 20
abbrev s_number_in : Stmt := topS 21
abbrev s_word_with : Stmt := topS 22
abbrev s_many_with : Stmt := topS 23
abbrev s_last_word : Stmt := topS 24
abbrev s_words_of : Stmt := topS 25
abbrev s_word_number : Stmt := topS 26
abbrev s_word_at : Stmt := topS 27
abbrev s_next_word : Stmt := topS 28
abbrev s__law_well : Stmt := topS 30
abbrev s__law_dip : Stmt := topS 31
abbrev s__law_pick : Stmt := topS 32
abbrev s__law_stock : Stmt := topS 33
abbrev s__law_listed : Stmt := topS 34
abbrev s__law_ahead : Stmt := topS 35
abbrev s__law_behind : Stmt := topS 36
abbrev s__law_word_right : Stmt := topS 37
abbrev s__law_all_right : Stmt := topS 38
abbrev s__law_heard : Stmt := topS 39
abbrev s__law_refused_right : Stmt := topS 40
abbrev s__law_many_right : Stmt := topS 41
abbrev s_law : Stmt := topS 42
abbrev s_i_BadWord : Stmt := topC 11 0
abbrev s_i_BadStock : Stmt := topC 12 0
abbrev s_i_Misfit : Stmt := topC 14 0
abbrev s_i_BadNumber : Stmt := topC 13 0
abbrev s_i_TooMany : Stmt := topC 15 0
/-- where all stands -/
structure A where
  d_is_integer : Addr
  fd_is_integer : FuncData
  d_is_within : Addr
  fd_is_within : FuncData
  d_is_word : Addr
  fd_is_word : FuncData
  d_is_stock : Addr
  fd_is_stock : FuncData
  d_of_stock : Addr
  fd_of_stock : FuncData
  d_need_word : Addr
  fd_need_word : FuncData
  d_need_stock : Addr
  fd_need_stock : FuncData
  d_need_word_of : Addr
  fd_need_word_of : FuncData
  d_number_in : Addr
  fd_number_in : FuncData
  d_word_with : Addr
  fd_word_with : FuncData
  d_many_with : Addr
  fd_many_with : FuncData
  d_last_word : Addr
  fd_last_word : FuncData
  d_words_of : Addr
  fd_words_of : FuncData
  d_word_number : Addr
  fd_word_number : FuncData
  d_word_at : Addr
  fd_word_at : FuncData
  d_next_word : Addr
  fd_next_word : FuncData
  d__law_well : Addr
  fd__law_well : FuncData
  d__law_dip : Addr
  fd__law_dip : FuncData
  d__law_pick : Addr
  fd__law_pick : FuncData
  d__law_stock : Addr
  fd__law_stock : FuncData
  d__law_listed : Addr
  fd__law_listed : FuncData
  d__law_ahead : Addr
  fd__law_ahead : FuncData
  d__law_behind : Addr
  fd__law_behind : FuncData
  d__law_word_right : Addr
  fd__law_word_right : FuncData
  d__law_all_right : Addr
  fd__law_all_right : FuncData
  d__law_heard : Addr
  fd__law_heard : FuncData
  d__law_refused_right : Addr
  fd__law_refused_right : FuncData
  d__law_many_right : Addr
  fd__law_many_right : FuncData
  d_law : Addr
  fd_law : FuncData
  c__law_refused_right : Addr
  p__law_refused_right : Addr
  c__law_many_right : Addr
  p__law_many_right : Addr
  C_BadWord : Addr
  C_BadStock : Addr
  C_Misfit : Addr
  C_BadNumber : Addr
  C_TooMany : Addr
  i_BadWord : Addr
  fi_BadWord : FuncData
  i_BadStock : Addr
  fi_BadStock : FuncData
  i_Misfit : Addr
  fi_Misfit : FuncData
  i_BadNumber : Addr
  fi_BadNumber : FuncData
  i_TooMany : Addr
  fi_TooMany : FuncData
def A.cl (a : A) : Nat → Addr
  | 0 => a.C_BadWord
  | 1 => a.C_BadStock
  | 2 => a.C_Misfit
  | 3 => a.C_BadNumber
  | 4 => a.C_TooMany
  | _ => 0
def A.T (a : A) : List (Addr × Str) := [(a.p__law_refused_right, "_law_refused_right.<locals>.<lambda>"), (a.p__law_many_right, "_law_many_right.<locals>.<lambda>")]
abbrev nC : Nat := 5
def xm (c j : Nat) : Bool := ([[true, false, false, false, false], [false, true, false, false, false], [false, false, true, false, false], [false, false, false, true, false], [false, false, false, false, true]].getD c []).getD j false
def hdsL : Hds := [(0, [.s [119, 111, 114, 100], .f "part"]), (1, [.s [115, 116, 111, 99, 107], .f "part"]), (3, [.s [110, 117, 109, 98, 101, 114], .f "part"]), (2, [.s [109, 105, 115, 102, 105, 116], .f "part"]), (4, [.s [109, 97, 110, 121], .f "what", .f "most"])]
/-- the facts -/
structure Txt (K : PySem.W.Frag) (mg : Str → Option Value) (base : Heap) (a : A) : Prop where
  F_is_integer : Fun K "is_integer" "is_integer" s_is_integer a.d_is_integer a.fd_is_integer
  g_is_integer : mg "is_integer" = some (.ref a.d_is_integer)
  F_is_within : Fun K "is_within" "is_within" s_is_within a.d_is_within a.fd_is_within
  g_is_within : mg "is_within" = some (.ref a.d_is_within)
  F_is_word : Fun K "is_word" "is_word" s_is_word a.d_is_word a.fd_is_word
  g_is_word : mg "is_word" = some (.ref a.d_is_word)
  F_is_stock : Fun K "is_stock" "is_stock" s_is_stock a.d_is_stock a.fd_is_stock
  g_is_stock : mg "is_stock" = some (.ref a.d_is_stock)
  F_of_stock : Fun K "of_stock" "of_stock" s_of_stock a.d_of_stock a.fd_of_stock
  g_of_stock : mg "of_stock" = some (.ref a.d_of_stock)
  F_need_word : Fun K "need_word" "need_word" s_need_word a.d_need_word a.fd_need_word
  g_need_word : mg "need_word" = some (.ref a.d_need_word)
  F_need_stock : Fun K "need_stock" "need_stock" s_need_stock a.d_need_stock a.fd_need_stock
  g_need_stock : mg "need_stock" = some (.ref a.d_need_stock)
  F_need_word_of : Fun K "need_word_of" "need_word_of" s_need_word_of a.d_need_word_of a.fd_need_word_of
  g_need_word_of : mg "need_word_of" = some (.ref a.d_need_word_of)
  F_number_in : Fun K "number_in" "number_in" s_number_in a.d_number_in a.fd_number_in
  g_number_in : mg "number_in" = some (.ref a.d_number_in)
  F_word_with : Fun K "word_with" "word_with" s_word_with a.d_word_with a.fd_word_with
  g_word_with : mg "word_with" = some (.ref a.d_word_with)
  F_many_with : Fun K "many_with" "many_with" s_many_with a.d_many_with a.fd_many_with
  g_many_with : mg "many_with" = some (.ref a.d_many_with)
  F_last_word : Fun K "last_word" "last_word" s_last_word a.d_last_word a.fd_last_word
  g_last_word : mg "last_word" = some (.ref a.d_last_word)
  F_words_of : Fun K "words_of" "words_of" s_words_of a.d_words_of a.fd_words_of
  g_words_of : mg "words_of" = some (.ref a.d_words_of)
  F_word_number : Fun K "word_number" "word_number" s_word_number a.d_word_number a.fd_word_number
  g_word_number : mg "word_number" = some (.ref a.d_word_number)
  F_word_at : Fun K "word_at" "word_at" s_word_at a.d_word_at a.fd_word_at
  g_word_at : mg "word_at" = some (.ref a.d_word_at)
  F_next_word : Fun K "next_word" "next_word" s_next_word a.d_next_word a.fd_next_word
  g_next_word : mg "next_word" = some (.ref a.d_next_word)
  F__law_well : Fun K "_law_well" "_law_well" s__law_well a.d__law_well a.fd__law_well
  g__law_well : mg "_law_well" = some (.ref a.d__law_well)
  F__law_dip : Fun K "_law_dip" "_law_dip" s__law_dip a.d__law_dip a.fd__law_dip
  g__law_dip : mg "_law_dip" = some (.ref a.d__law_dip)
  F__law_pick : Fun K "_law_pick" "_law_pick" s__law_pick a.d__law_pick a.fd__law_pick
  g__law_pick : mg "_law_pick" = some (.ref a.d__law_pick)
  F__law_stock : Fun K "_law_stock" "_law_stock" s__law_stock a.d__law_stock a.fd__law_stock
  g__law_stock : mg "_law_stock" = some (.ref a.d__law_stock)
  F__law_listed : Fun K "_law_listed" "_law_listed" s__law_listed a.d__law_listed a.fd__law_listed
  g__law_listed : mg "_law_listed" = some (.ref a.d__law_listed)
  F__law_ahead : Fun K "_law_ahead" "_law_ahead" s__law_ahead a.d__law_ahead a.fd__law_ahead
  g__law_ahead : mg "_law_ahead" = some (.ref a.d__law_ahead)
  F__law_behind : Fun K "_law_behind" "_law_behind" s__law_behind a.d__law_behind a.fd__law_behind
  g__law_behind : mg "_law_behind" = some (.ref a.d__law_behind)
  F__law_word_right : Fun K "_law_word_right" "_law_word_right" s__law_word_right a.d__law_word_right a.fd__law_word_right
  g__law_word_right : mg "_law_word_right" = some (.ref a.d__law_word_right)
  F__law_all_right : Fun K "_law_all_right" "_law_all_right" s__law_all_right a.d__law_all_right a.fd__law_all_right
  g__law_all_right : mg "_law_all_right" = some (.ref a.d__law_all_right)
  F__law_heard : Fun K "_law_heard" "_law_heard" s__law_heard a.d__law_heard a.fd__law_heard
  g__law_heard : mg "_law_heard" = some (.ref a.d__law_heard)
  F__law_refused_right : Fun K "_law_refused_right" "_law_refused_right" s__law_refused_right a.d__law_refused_right a.fd__law_refused_right
  g__law_refused_right : mg "_law_refused_right" = some (.ref a.d__law_refused_right)
  F__law_many_right : Fun K "_law_many_right" "_law_many_right" s__law_many_right a.d__law_many_right a.fd__law_many_right
  g__law_many_right : mg "_law_many_right" = some (.ref a.d__law_many_right)
  F_law : Fun K "law" "law" s_law a.d_law a.fd_law
  g_law : mg "law" = some (.ref a.d_law)
  FC__law_refused_right : FunC K "_law_refused_right" "_law_refused_right" s__law_refused_right a.d__law_refused_right a.fd__law_refused_right a.c__law_refused_right
  tb__law_refused_right : TabB base mg a.c__law_refused_right a.p__law_refused_right
  FC__law_many_right : FunC K "_law_many_right" "_law_many_right" s__law_many_right a.d__law_many_right a.fd__law_many_right a.c__law_many_right
  tb__law_many_right : TabB base mg a.c__law_many_right a.p__law_many_right
  np__law_refused_right__law_many_right : a.p__law_refused_right ≠ a.p__law_many_right
  z_abs : mg "abs" = none
  z_all : mg "all" = none
  z_bool : mg "bool" = none
  z_enumerate : mg "enumerate" = none
  z_int : mg "int" = none
  z_isinstance : mg "isinstance" = none
  z_len : mg "len" = none
  z_list : mg "list" = none
  z_range : mg "range" = none
  z_sorted : mg "sorted" = none
  z_str : mg "str" = none
  z_tuple : mg "tuple" = none
  z_zip : mg "zip" = none
  k_LETTERS : ∃ t, mg "LETTERS" = some (.str ⟨([97, 98, 99, 100, 101, 102, 103, 104, 105, 106, 107, 108, 109, 110, 111, 112, 113, 114, 115, 116, 117, 118, 119, 120, 121, 122] : List Nat).toArray⟩ t)
  k_MOST_SOUNDS : ∃ t, mg "MOST_SOUNDS" = some (.int 12 t)
  k_MOST_STOCK : ∃ t, mg "MOST_STOCK" = some (.int 5 t)
  k_MOST_WORDS : ∃ t, mg "MOST_WORDS" = some (.int 20000 t)
  x_BadWord : ClsF K mg "BadWord" a.C_BadWord a.i_BadWord
  xn_BadWord_part : PySem.W.findIn K (.ref a.C_BadWord) "part" = some none
  x_BadStock : ClsF K mg "BadStock" a.C_BadStock a.i_BadStock
  xn_BadStock_part : PySem.W.findIn K (.ref a.C_BadStock) "part" = some none
  x_Misfit : ClsF K mg "Misfit" a.C_Misfit a.i_Misfit
  xn_Misfit_part : PySem.W.findIn K (.ref a.C_Misfit) "part" = some none
  x_BadNumber : ClsF K mg "BadNumber" a.C_BadNumber a.i_BadNumber
  xn_BadNumber_part : PySem.W.findIn K (.ref a.C_BadNumber) "part" = some none
  x_TooMany : ClsF K mg "TooMany" a.C_TooMany a.i_TooMany
  xn_TooMany_what : PySem.W.findIn K (.ref a.C_TooMany) "what" = some none
  xn_TooMany_most : PySem.W.findIn K (.ref a.C_TooMany) "most" = some none
  F_i_BadWord : Fun K "__init__" "BadWord.__init__" s_i_BadWord a.i_BadWord a.fi_BadWord
  F_i_BadStock : Fun K "__init__" "BadStock.__init__" s_i_BadStock a.i_BadStock a.fi_BadStock
  F_i_Misfit : Fun K "__init__" "Misfit.__init__" s_i_Misfit a.i_Misfit a.fi_Misfit
  F_i_BadNumber : Fun K "__init__" "BadNumber.__init__" s_i_BadNumber a.i_BadNumber a.fi_BadNumber
  F_i_TooMany : Fun K "__init__" "TooMany.__init__" s_i_TooMany a.i_TooMany a.fi_TooMany
  hx : ∀ c < nC, ∀ j < nC, PySem.W.exmOne K (.ref (a.cl c)) (.ref (a.cl j)) = some (xm c j)
section
variable {P : Program} {w0 : World} {K : PySem.W.Frag} {mg : Str → Option Value} {base : Heap} {a : A}
theorem sc_is_integer : FnScope ["value"] ["value"] (defScope s_is_integer) := ⟨rfl, rfl, rfl, by decide +kernel, rfl, by decide +kernel, by decide +kernel⟩
theorem b_is_integer (T : Txt K mg base a) : L2.Binds K a.fd_is_integer ["value"] [] := T.F_is_integer.binds fun _ _ _ _ _ _ us hl => match us, hl with
  | [_], _ => rfl
theorem sc_is_within : FnScope ["value", "least", "most"] ["value", "least", "most"] (defScope s_is_within) := ⟨rfl, rfl, rfl, by decide +kernel, rfl, by decide +kernel, by decide +kernel⟩
theorem b_is_within (T : Txt K mg base a) : L2.Binds K a.fd_is_within ["value", "least", "most"] [] := T.F_is_within.binds fun _ _ _ _ _ _ us hl => match us, hl with
  | [_, _, _], _ => rfl
theorem sc_is_word : FnScope ["value", "sign"] ["value"] (defScope s_is_word) := ⟨rfl, rfl, rfl, by decide +kernel, rfl, by decide +kernel, by decide +kernel⟩
theorem b_is_word (T : Txt K mg base a) : L2.Binds K a.fd_is_word ["value"] [] := T.F_is_word.binds fun _ _ _ _ _ _ us hl => match us, hl with
  | [_], _ => rfl
theorem sc_is_stock : FnScope ["value", "sign", "one", "other"] ["value"] (defScope s_is_stock) := ⟨rfl, rfl, rfl, by decide +kernel, rfl, by decide +kernel, by decide +kernel⟩
theorem b_is_stock (T : Txt K mg base a) : L2.Binds K a.fd_is_stock ["value"] [] := T.F_is_stock.binds fun _ _ _ _ _ _ us hl => match us, hl with
  | [_], _ => rfl
theorem sc_of_stock : FnScope ["word", "stock", "sound"] ["word", "stock"] (defScope s_of_stock) := ⟨rfl, rfl, rfl, by decide +kernel, rfl, by decide +kernel, by decide +kernel⟩
theorem b_of_stock (T : Txt K mg base a) : L2.Binds K a.fd_of_stock ["word", "stock"] [] := T.F_of_stock.binds fun _ _ _ _ _ _ us hl => match us, hl with
  | [_, _], _ => rfl
theorem sc_need_word : FnScope ["value", "part"] ["value", "part"] (defScope s_need_word) := ⟨rfl, rfl, rfl, by decide +kernel, rfl, by decide +kernel, by decide +kernel⟩
theorem b_need_word (T : Txt K mg base a) : L2.Binds K a.fd_need_word ["value", "part"] [] := T.F_need_word.binds fun _ _ _ _ _ _ us hl => match us, hl with
  | [_, _], _ => rfl
theorem sc_need_stock : FnScope ["value", "part"] ["value", "part"] (defScope s_need_stock) := ⟨rfl, rfl, rfl, by decide +kernel, rfl, by decide +kernel, by decide +kernel⟩
theorem b_need_stock (T : Txt K mg base a) : L2.Binds K a.fd_need_stock ["value", "part"] [] := T.F_need_stock.binds fun _ _ _ _ _ _ us hl => match us, hl with
  | [_, _], _ => rfl
theorem sc_need_word_of : FnScope ["word", "stock"] ["word", "stock"] (defScope s_need_word_of) := ⟨rfl, rfl, rfl, by decide +kernel, rfl, by decide +kernel, by decide +kernel⟩
theorem b_need_word_of (T : Txt K mg base a) : L2.Binds K a.fd_need_word_of ["word", "stock"] [] := T.F_need_word_of.binds fun _ _ _ _ _ _ us hl => match us, hl with
  | [_, _], _ => rfl
theorem sc_number_in : FnScope ["word", "stock", "number", "sound"] ["word", "stock"] (defScope s_number_in) := ⟨rfl, rfl, rfl, by decide +kernel, rfl, by decide +kernel, by decide +kernel⟩
theorem b_number_in (T : Txt K mg base a) : L2.Binds K a.fd_number_in ["word", "stock"] [] := T.F_number_in.binds fun _ _ _ _ _ _ us hl => match us, hl with
  | [_, _], _ => rfl
theorem sc_word_with : FnScope ["stock", "number", "word", "left"] ["stock", "number"] (defScope s_word_with) := ⟨rfl, rfl, rfl, by decide +kernel, rfl, by decide +kernel, by decide +kernel⟩
theorem b_word_with (T : Txt K mg base a) : L2.Binds K a.fd_word_with ["stock", "number"] [] := T.F_word_with.binds fun _ _ _ _ _ _ us hl => match us, hl with
  | [_, _], _ => rfl
theorem sc_many_with : FnScope ["stock", "sounds", "many", "turn"] ["stock", "sounds"] (defScope s_many_with) := ⟨rfl, rfl, rfl, by decide +kernel, rfl, by decide +kernel, by decide +kernel⟩
theorem b_many_with (T : Txt K mg base a) : L2.Binds K a.fd_many_with ["stock", "sounds"] [] := T.F_many_with.binds fun _ _ _ _ _ _ us hl => match us, hl with
  | [_, _], _ => rfl
theorem sc_last_word : FnScope ["stock"] ["stock"] (defScope s_last_word) := ⟨rfl, rfl, rfl, by decide +kernel, rfl, by decide +kernel, by decide +kernel⟩
theorem b_last_word (T : Txt K mg base a) : L2.Binds K a.fd_last_word ["stock"] [] := T.F_last_word.binds fun _ _ _ _ _ _ us hl => match us, hl with
  | [_], _ => rfl
theorem sc_words_of : FnScope ["stock", "most", "found", "longest", "turn", "word", "sound"] ["stock", "most"] (defScope s_words_of) := ⟨rfl, rfl, rfl, by decide +kernel, rfl, by decide +kernel, by decide +kernel⟩
theorem b_words_of (T : Txt K mg base a) : L2.Binds K a.fd_words_of ["stock", "most"] [] := T.F_words_of.binds fun _ _ _ _ _ _ us hl => match us, hl with
  | [_, _], _ => rfl
theorem sc_word_number : FnScope ["word", "stock"] ["word", "stock"] (defScope s_word_number) := ⟨rfl, rfl, rfl, by decide +kernel, rfl, by decide +kernel, by decide +kernel⟩
theorem b_word_number (T : Txt K mg base a) : L2.Binds K a.fd_word_number ["word", "stock"] [] := T.F_word_number.binds fun _ _ _ _ _ _ us hl => match us, hl with
  | [_, _], _ => rfl
theorem sc_word_at : FnScope ["stock", "number"] ["stock", "number"] (defScope s_word_at) := ⟨rfl, rfl, rfl, by decide +kernel, rfl, by decide +kernel, by decide +kernel⟩
theorem b_word_at (T : Txt K mg base a) : L2.Binds K a.fd_word_at ["stock", "number"] [] := T.F_word_at.binds fun _ _ _ _ _ _ us hl => match us, hl with
  | [_, _], _ => rfl
theorem sc_next_word : FnScope ["word", "stock"] ["word", "stock"] (defScope s_next_word) := ⟨rfl, rfl, rfl, by decide +kernel, rfl, by decide +kernel, by decide +kernel⟩
theorem b_next_word (T : Txt K mg base a) : L2.Binds K a.fd_next_word ["word", "stock"] [] := T.F_next_word.binds fun _ _ _ _ _ _ us hl => match us, hl with
  | [_, _], _ => rfl
theorem sc__law_well : FnScope ["_law_script", "_law_cell"] ["_law_script"] (defScope s__law_well) := ⟨rfl, rfl, rfl, by decide +kernel, rfl, by decide +kernel, by decide +kernel⟩
theorem b__law_well (T : Txt K mg base a) : L2.Binds K a.fd__law_well ["_law_script"] [] := T.F__law_well.binds fun _ _ _ _ _ _ us hl => match us, hl with
  | [_], _ => rfl
theorem sc__law_dip : FnScope ["_law_well_here", "_law_many", "_law_rest", "_law_at", "_law_cell", "_law_mixed"] ["_law_well_here", "_law_many"] (defScope s__law_dip) := ⟨rfl, rfl, rfl, by decide +kernel, rfl, by decide +kernel, by decide +kernel⟩
theorem b__law_dip (T : Txt K mg base a) : L2.Binds K a.fd__law_dip ["_law_well_here", "_law_many"] [] := T.F__law_dip.binds fun _ _ _ _ _ _ us hl => match us, hl with
  | [_, _], _ => rfl
theorem sc__law_pick : FnScope ["_law_well_here", "_law_some"] ["_law_well_here", "_law_some"] (defScope s__law_pick) := ⟨rfl, rfl, rfl, by decide +kernel, rfl, by decide +kernel, by decide +kernel⟩
theorem b__law_pick (T : Txt K mg base a) : L2.Binds K a.fd__law_pick ["_law_well_here", "_law_some"] [] := T.F__law_pick.binds fun _ _ _ _ _ _ us hl => match us, hl with
  | [_, _], _ => rfl
theorem sc__law_stock : FnScope ["_law_well_here", "_law_many", "_law_letters", "_law_begin", "_law_stride", "_law_at"] ["_law_well_here", "_law_many"] (defScope s__law_stock) := ⟨rfl, rfl, rfl, by decide +kernel, rfl, by decide +kernel, by decide +kernel⟩
theorem b__law_stock (T : Txt K mg base a) : L2.Binds K a.fd__law_stock ["_law_well_here", "_law_many"] [] := T.F__law_stock.binds fun _ _ _ _ _ _ us hl => match us, hl with
  | [_, _], _ => rfl
theorem sc__law_listed : FnScope ["_law_stock_here", "_law_most", "_law_found", "_law_longest", "_law_turn", "_law_wider", "_law_sound", "_law_word"] ["_law_stock_here", "_law_most"] (defScope s__law_listed) := ⟨rfl, rfl, rfl, by decide +kernel, rfl, by decide +kernel, by decide +kernel⟩
theorem b__law_listed (T : Txt K mg base a) : L2.Binds K a.fd__law_listed ["_law_stock_here", "_law_most"] [] := T.F__law_listed.binds fun _ _ _ _ _ _ us hl => match us, hl with
  | [_, _], _ => rfl
theorem sc__law_ahead : FnScope ["_law_word", "_law_stock_here", "_law_shorter", "_law_place", "_law_many", "_law_sound", "_law_one"] ["_law_word", "_law_stock_here"] (defScope s__law_ahead) := ⟨rfl, rfl, rfl, by decide +kernel, rfl, by decide +kernel, by decide +kernel⟩
theorem b__law_ahead (T : Txt K mg base a) : L2.Binds K a.fd__law_ahead ["_law_word", "_law_stock_here"] [] := T.F__law_ahead.binds fun _ _ _ _ _ _ us hl => match us, hl with
  | [_, _], _ => rfl
theorem sc__law_behind : FnScope ["_law_word", "_law_stock_here", "_law_sounds", "_law_at"] ["_law_word", "_law_stock_here"] (defScope s__law_behind) := ⟨rfl, rfl, rfl, by decide +kernel, rfl, by decide +kernel, by decide +kernel⟩
theorem b__law_behind (T : Txt K mg base a) : L2.Binds K a.fd__law_behind ["_law_word", "_law_stock_here"] [] := T.F__law_behind.binds fun _ _ _ _ _ _ us hl => match us, hl with
  | [_, _], _ => rfl
theorem sc__law_word_right : FnScope ["_law_word", "_law_stock_here", "_law_number"] ["_law_word", "_law_stock_here"] (defScope s__law_word_right) := ⟨rfl, rfl, rfl, by decide +kernel, rfl, by decide +kernel, by decide +kernel⟩
theorem b__law_word_right (T : Txt K mg base a) : L2.Binds K a.fd__law_word_right ["_law_word", "_law_stock_here"] [] := T.F__law_word_right.binds fun _ _ _ _ _ _ us hl => match us, hl with
  | [_, _], _ => rfl
theorem sc__law_all_right : FnScope ["_law_stock_here", "_law_most", "_law_told", "_law_own", "_law_at", "_law_word", "_law_one", "_law_other"] ["_law_stock_here", "_law_most"] (defScope s__law_all_right) := ⟨rfl, rfl, rfl, by decide +kernel, rfl, by decide +kernel, by decide +kernel⟩
theorem b__law_all_right (T : Txt K mg base a) : L2.Binds K a.fd__law_all_right ["_law_stock_here", "_law_most"] [] := T.F__law_all_right.binds fun _ _ _ _ _ _ us hl => match us, hl with
  | [_, _], _ => rfl
theorem sc__law_heard : FnScope ["_law_ask", "error"] ["_law_ask"] (defScope s__law_heard) := ⟨rfl, rfl, rfl, by decide +kernel, rfl, by decide +kernel, by decide +kernel⟩
theorem b__law_heard (T : Txt K mg base a) : L2.Binds K a.fd__law_heard ["_law_ask"] [] := T.F__law_heard.binds fun _ _ _ _ _ _ us hl => match us, hl with
  | [_], _ => rfl
theorem sc__law_refused_right : FnScope ["_law_well_here", "_law_stock_here", "_law_odd", "_law_bad", "_law_none", "_law_last", "_law_beyond", "_law_strange", "_law_one", "_law_heard_here", "_law_due"] ["_law_well_here", "_law_stock_here"] (defScope s__law_refused_right) := ⟨rfl, rfl, rfl, by decide +kernel, rfl, by decide +kernel, by decide +kernel⟩
theorem b__law_refused_right (T : Txt K mg base a) : L2.Binds K a.fd__law_refused_right ["_law_well_here", "_law_stock_here"] [] := T.F__law_refused_right.binds fun _ _ _ _ _ _ us hl => match us, hl with
  | [_, _], _ => rfl
theorem sc__law_many_right : FnScope ["_law_stock_here", "_law_least"] ["_law_stock_here"] (defScope s__law_many_right) := ⟨rfl, rfl, rfl, by decide +kernel, rfl, by decide +kernel, by decide +kernel⟩
theorem b__law_many_right (T : Txt K mg base a) : L2.Binds K a.fd__law_many_right ["_law_stock_here"] [] := T.F__law_many_right.binds fun _ _ _ _ _ _ us hl => match us, hl with
  | [_], _ => rfl
theorem sc_law : FnScope ["_law_script", "_law_well_here", "_law_lap", "_law_stock_here", "_law_turn", "_law_word", "_law_sound"] ["_law_script"] (defScope s_law) := ⟨rfl, rfl, rfl, by decide +kernel, rfl, by decide +kernel, by decide +kernel⟩
theorem b_law (T : Txt K mg base a) : L2.Binds K a.fd_law ["_law_script"] [] := T.F_law.binds fun _ _ _ _ _ _ us hl => match us, hl with
  | [_], _ => rfl
theorem sc_i_BadWord : FnScope ["self", "part"] ["self", "part"] (defScope s_i_BadWord) := ⟨rfl, rfl, rfl, by decide +kernel, rfl, by decide +kernel, by decide +kernel⟩
theorem b_i_BadWord (T : Txt K mg base a) : L2.Binds K a.fi_BadWord ["self", "part"] [] := T.F_i_BadWord.binds fun _ _ _ _ _ _ us hl => match us, hl with
  | [_, _], _ => rfl
theorem ok_i_BadWord (T : Txt K mg base a) : FnOk P w0 K mg base (L2.CX P w0) 1 a.i_BadWord a.fi_BadWord ["self", "part"] (spI1 K "part") := ok_init1 (ps := []) T.F_i_BadWord sc_i_BadWord rfl (by decide) (by decide) (Or.inl rfl) (Or.inl rfl) (fun _ => rfl)
theorem sc_i_BadStock : FnScope ["self", "part"] ["self", "part"] (defScope s_i_BadStock) := ⟨rfl, rfl, rfl, by decide +kernel, rfl, by decide +kernel, by decide +kernel⟩
theorem b_i_BadStock (T : Txt K mg base a) : L2.Binds K a.fi_BadStock ["self", "part"] [] := T.F_i_BadStock.binds fun _ _ _ _ _ _ us hl => match us, hl with
  | [_, _], _ => rfl
theorem ok_i_BadStock (T : Txt K mg base a) : FnOk P w0 K mg base (L2.CX P w0) 1 a.i_BadStock a.fi_BadStock ["self", "part"] (spI1 K "part") := ok_init1 (ps := []) T.F_i_BadStock sc_i_BadStock rfl (by decide) (by decide) (Or.inl rfl) (Or.inl rfl) (fun _ => rfl)
theorem sc_i_Misfit : FnScope ["self", "part"] ["self", "part"] (defScope s_i_Misfit) := ⟨rfl, rfl, rfl, by decide +kernel, rfl, by decide +kernel, by decide +kernel⟩
theorem b_i_Misfit (T : Txt K mg base a) : L2.Binds K a.fi_Misfit ["self", "part"] [] := T.F_i_Misfit.binds fun _ _ _ _ _ _ us hl => match us, hl with
  | [_, _], _ => rfl
theorem ok_i_Misfit (T : Txt K mg base a) : FnOk P w0 K mg base (L2.CX P w0) 1 a.i_Misfit a.fi_Misfit ["self", "part"] (spI1 K "part") := ok_init1 (ps := []) T.F_i_Misfit sc_i_Misfit rfl (by decide) (by decide) (Or.inl rfl) (Or.inl rfl) (fun _ => rfl)
theorem sc_i_BadNumber : FnScope ["self", "part"] ["self", "part"] (defScope s_i_BadNumber) := ⟨rfl, rfl, rfl, by decide +kernel, rfl, by decide +kernel, by decide +kernel⟩
theorem b_i_BadNumber (T : Txt K mg base a) : L2.Binds K a.fi_BadNumber ["self", "part"] [] := T.F_i_BadNumber.binds fun _ _ _ _ _ _ us hl => match us, hl with
  | [_, _], _ => rfl
theorem ok_i_BadNumber (T : Txt K mg base a) : FnOk P w0 K mg base (L2.CX P w0) 1 a.i_BadNumber a.fi_BadNumber ["self", "part"] (spI1 K "part") := ok_init1 (ps := []) T.F_i_BadNumber sc_i_BadNumber rfl (by decide) (by decide) (Or.inl rfl) (Or.inl rfl) (fun _ => rfl)
theorem sc_i_TooMany : FnScope ["self", "what", "most"] ["self", "what", "most"] (defScope s_i_TooMany) := ⟨rfl, rfl, rfl, by decide +kernel, rfl, by decide +kernel, by decide +kernel⟩
theorem b_i_TooMany (T : Txt K mg base a) : L2.Binds K a.fi_TooMany ["self", "what", "most"] [] := T.F_i_TooMany.binds fun _ _ _ _ _ _ us hl => match us, hl with
  | [_, _, _], _ => rfl
theorem ok_i_TooMany (T : Txt K mg base a) : FnOk P w0 K mg base (L2.CX P w0) 1 a.i_TooMany a.fi_TooMany ["self", "what", "most"] (spI2 K "what" "most") := ok_init2 (ps := []) T.F_i_TooMany sc_i_TooMany rfl (by decide) (by decide) (by decide) (by decide) (Or.inl rfl) (Or.inl rfl) (Or.inl rfl) (fun _ => rfl) (fun _ => rfl)
theorem kb_0_word_number (T : Txt K mg base a) : KBp K a.fd_word_number ["word", "stock"] 0 ["word", "stock"] [0, 1] :=
  kb_of T.F_word_number fun _ _ _ _ _ _ us ws h1 h2 => match us, ws, h1, h2 with
  | [], [_, _], _, _ => rfl
theorem kb_1_word_at (T : Txt K mg base a) : KBp K a.fd_word_at ["stock", "number"] 0 ["stock", "number"] [0, 1] :=
  kb_of T.F_word_at fun _ _ _ _ _ _ us ws h1 h2 => match us, ws, h1, h2 with
  | [], [_, _], _, _ => rfl
theorem kb_2_next_word (T : Txt K mg base a) : KBp K a.fd_next_word ["word", "stock"] 0 ["word", "stock"] [0, 1] :=
  kb_of T.F_next_word fun _ _ _ _ _ _ us ws h1 h2 => match us, ws, h1, h2 with
  | [], [_, _], _, _ => rfl
theorem kb_3_words_of (T : Txt K mg base a) : KBp K a.fd_words_of ["stock", "most"] 0 ["stock", "most"] [0, 1] :=
  kb_of T.F_words_of fun _ _ _ _ _ _ us ws h1 h2 => match us, ws, h1, h2 with
  | [], [_, _], _, _ => rfl
theorem je_hd (T : Txt K mg base a) {N : List Str} {qual : Str} {sc : Scope} {f : Addr} {cdv : Value} {Ax : Around} {outer : List Env} {s : Shared} {H : Hp} {E : XK} {ap : Option Addr} {HP H1 Hs : Hp} {Wx : WX} {c Pt : Addr} {k : Nat} {params : Arguments} {body : Expr} {scope : Scope} {t : XK → TE} {mb : ME D} {p lpos pos : Pos}
    (L : LamT (cxOf (L2.CX P w0) P w0 K mg base N qual sc f cdv Ax outer s H E) (gh K a.cl a.T ap HP H1 Hs) c Pt) (hr : Room (k + 2) (cxOf (L2.CX P w0) P w0 K mg base N qual sc f cdv Ax outer s H E).A) (Ls : LamS sc scope) (hdef : defaultsOf params (cxOf (L2.CX P w0) P w0 K mg base N qual sc f cdv Ax outer s H E).env = ([], []))
    (hbind : ∀ (q : Str) (cl : List (Str × Addr)) (pm cv ctv : Value), bindArgs (PySem.W.kla_fn "<lambda>" q params body scope cl pm cv ctv) ⟨[], []⟩ = pure [])
    (hbody : ∀ (A2 : Around) (outer2 : List Env) (s2 : Shared) (H2 : Hp) (E2 : XK) (f2 c2 : Addr), Room k (A2.deeper (lamEnv (cxOf (L2.CX P w0) P w0 K mg base N qual sc f cdv Ax outer s H E) scope s2.heap.objs.size f2 c2)) → JE (lamCx (cxOf (L2.CX P w0) P w0 K mg base N qual sc f cdv Ax outer s H E) A2 outer2 s2 H2 E2 scope f2 c2) (gh K a.cl a.T ap HP H1 Hs) (fun c d _ H => E2 c d H) body (t E2) mb)
    (hg : Gl (cxOf (L2.CX P w0) P w0 K mg base N qual sc f cdv Ax outer s H E) "_law_heard" := by rfl) :
    JE (cxOf (L2.CX P w0) P w0 K mg base N qual sc f cdv Ax outer s H E) (gh K a.cl a.T ap HP H1 Hs) Wx (.Call (.Name "_law_heard" p) [.Lambda params body scope lpos] [] pos) (tLam a.T (TTA K a.cl hdsL) t) (mHeard nC xm hdsL mb) :=
  je_heard (G := gh K a.cl a.T ap HP H1 Hs) (i := 1) (nC := nC) (xm := xm) (l := hdsL) T.F__law_heard T.g__law_heard (b__law_heard T) sc__law_heard rfl rfl (Or.inl rfl) sc__law_heard.nd (by decide)
    (fun cdg s' H' => (HdA.cons rfl (by decide) T.x_BadWord.mg rfl rfl (XEs.s [119, 111, 114, 100] rfl rfl (XEs.f rfl (Or.inl rfl) (by decide) (by decide) T.x_BadWord.xf T.xn_BadWord_part rfl rfl XEs.nil))
      (HdA.cons rfl (by decide) T.x_BadStock.mg rfl rfl (XEs.s [115, 116, 111, 99, 107] rfl rfl (XEs.f rfl (Or.inl rfl) (by decide) (by decide) T.x_BadStock.xf T.xn_BadStock_part rfl rfl XEs.nil))
      (HdA.cons rfl (by decide) T.x_BadNumber.mg rfl rfl (XEs.s [110, 117, 109, 98, 101, 114] rfl rfl (XEs.f rfl (Or.inl rfl) (by decide) (by decide) T.x_BadNumber.xf T.xn_BadNumber_part rfl rfl XEs.nil))
      (HdA.cons rfl (by decide) T.x_Misfit.mg rfl rfl (XEs.s [109, 105, 115, 102, 105, 116] rfl rfl (XEs.f rfl (Or.inl rfl) (by decide) (by decide) T.x_Misfit.xf T.xn_Misfit_part rfl rfl XEs.nil))
      (HdA.cons rfl (by decide) T.x_TooMany.mg rfl rfl (XEs.s [109, 97, 110, 121] rfl rfl (XEs.f rfl (Or.inl rfl) (by decide) (by decide) T.x_TooMany.xf T.xn_TooMany_what rfl rfl (XEs.f rfl (Or.inl rfl) (by decide) (by decide) T.x_TooMany.xf T.xn_TooMany_most rfl rfl XEs.nil)))
      HdA.nil)))))) T.hx (by decide) L hr Ls hdef hbind hbody hg
def b_f_is_integer : MS :=
    (mRet (mAndV (mIsi ["int"] (mVB 0)) (mNotV (mIsi ["bool"] (mVB 0)))))
def f_is_integer : List D → List D → R D := runB 1 b_f_is_integer
theorem ok_is_integer (T : Txt K mg base a) : FnOk P w0 K mg base (L2.CX P w0) 1 a.d_is_integer a.fd_is_integer ["value"] (spF K a.cl a.T 1 f_is_integer) :=
  ok_fnN (m := b_f_is_integer) T.F_is_integer sc_is_integer rfl rfl (by decide) fun cdv Ax outer s H E ap HP Hs hr => ⟨_, (jss_one (js_ret (je_and (je_isi "int" "int" (by decide) T.z_isinstance T.z_int (by decide +kernel) (jb_v 0)) (je_one (je_not (je_isi "bool" "bool" (by decide) T.z_isinstance T.z_bool (by decide +kernel) (jb_v 0)))))))⟩
def b_f_is_within : MS :=
    (mSeq (mIf (mOr (mNotT (mTru (mCall (nArg 1 f_is_integer) (mCons (mV 0) mNil)))) (mAnd (mTst (mBin (oIs true) (mVB 1) (mC .non))) (mTst (mBin (oCmp fLt sLt) (mVB 0) (mVB 1)))))
    (mRet (mC (.bl false)))
    mSkip)
    (mRet (mOrV (mBin (oIs false) (mVB 2) (mC .non)) (mBin (oCmp fLe sLe) (mVB 0) (mVB 2)))))
def f_is_within : List D → List D → R D := runB 3 b_f_is_within
theorem ok_is_within (T : Txt K mg base a) : FnOk P w0 K mg base (L2.CX P w0) 2 a.d_is_within a.fd_is_within ["value", "least", "most"] (spF K a.cl a.T 3 f_is_within) :=
  ok_fnN (m := b_f_is_within) T.F_is_within sc_is_within rfl rfl (by decide) fun cdv Ax outer s H E ap HP Hs hr => ⟨_, (jss_cons (js_if (jt_w (jw_or (jt_not (jt_tru (jb (je_call (ok_is_integer T) (hr.mono (by decide)) T.g_is_integer T.F_is_integer.kp (b_is_integer T) (takes_of rfl rfl rfl rfl) (ja_cons (je_v 0) ja_nil))))) (jw_or1 (jt_w (jw_and (jt_c (jc_isnot (jb_v 1) (jb je_non))) (jw_and1 (jt_c (jc_lt (jb_v 0) (jb_v 1)))))))))
    (jss_one (js_ret je_bl))
    jss_nil)
    (jss_one (js_ret (je_or (je_is (jb_v 2) (jb je_non)) (je_one (je_le (jb_v 0) (jb_v 2)))))))⟩
def b_f_is_word : MS :=
    (mRet (mAndV (mIsi ["str"] (mVB 0)) (mAndV (mBin (oCmp fLe sLe) (mCB fLen (mCons (mVB 0) mNil)) (mC (.int 12))) (mCB fAll (mCons (mF (mComp (mSeqI (mVB 0)) (gN 1) mYes (mBin (oIn false) (mVB 1) (mC (.str [97, 98, 99, 100, 101, 102, 103, 104, 105, 106, 107, 108, 109, 110, 111, 112, 113, 114, 115, 116, 117, 118, 119, 120, 121, 122]))) [1])) mNil)))))
def f_is_word : List D → List D → R D := runB 2 b_f_is_word
theorem ok_is_word (T : Txt K mg base a) : FnOk P w0 K mg base (L2.CX P w0) 1 a.d_is_word a.fd_is_word ["value"] (spF K a.cl a.T 1 f_is_word) :=
  ok_fnN (m := b_f_is_word) T.F_is_word sc_is_word rfl rfl (by decide) fun cdv Ax outer s H E ap HP Hs hr => ⟨_, (jss_one (js_ret (je_and (je_isi "str" "str" (by decide) T.z_isinstance T.z_str (by decide +kernel) (jb_v 0)) (je_and (je_le (jb (je_len T.z_len (jab_cons (jb_v 0) jab_nil))) (jb (je_globI T.k_MOST_SOUNDS))) (je_one (je_all T.z_all (jab_cons (jb (je_f (jf_comp (own := [("sign", 1)]) sc_is_word.nd (jib_seq (jb_v 0)) (blkOk_by (N := ["value", "sign"]) (sc := defScope s_is_word) (own := [("sign", 1)]) (by decide +kernel)) (fun _ _ _ _ _ => (jg_name (i := 1) sc_is_word.nd)) (fun _ _ _ _ _ => jts_nil) (fun _ _ _ _ _ => (je_in hr (jb_v 1) (jb (je_globS [97, 98, 99, 100, 101, 102, 103, 104, 105, 106, 107, 108, 109, 110, 111, 112, 113, 114, 115, 116, 117, 118, 119, 120, 121, 122] T.k_LETTERS))))))) jab_nil)))))))⟩
def b_f_is_stock : MS :=
    (mSeq (mIf (mOr (mNotT (mTru (mIsi ["str"] (mVB 0)))) (mOr (mNotT (mTst (mChain oLe oLe (mC (.int 1)) (mCB fLen (mCons (mVB 0) mNil)) (mC (.int 5))))) (mNotT (mTru (mCB fAll (mCons (mF (mComp (mSeqI (mVB 0)) (gN 1) mYes (mBin (oIn false) (mVB 1) (mC (.str [97, 98, 99, 100, 101, 102, 103, 104, 105, 106, 107, 108, 109, 110, 111, 112, 113, 114, 115, 116, 117, 118, 119, 120, 121, 122]))) [1])) mNil))))))
    (mRet (mC (.bl false)))
    mSkip)
    (mRet (mCB fAll (mCons (mF (mComp (mZipX (mCons (mSl (mVB 0) mNoP (mPart (mUn oNeg (mC (.int 1))))) (mCons (mSl (mVB 0) (mPart (mC (.int 1))) mNoP) mNil))) (gTu 2 (gsCons (gN 2) (gsCons (gN 3) gsNil))) mYes (mBin (oCmp fLt sLt) (mVB 2) (mVB 3)) [2, 3])) mNil))))
def f_is_stock : List D → List D → R D := runB 4 b_f_is_stock
theorem ok_is_stock (T : Txt K mg base a) : FnOk P w0 K mg base (L2.CX P w0) 1 a.d_is_stock a.fd_is_stock ["value"] (spF K a.cl a.T 1 f_is_stock) :=
  ok_fnN (m := b_f_is_stock) T.F_is_stock sc_is_stock rfl rfl (by decide) fun cdv Ax outer s H E ap HP Hs hr => ⟨_, (jss_cons (js_if (jt_w (jw_or (jt_not (jt_tru (jb (je_isi "str" "str" (by decide) T.z_isinstance T.z_str (by decide +kernel) (jb_v 0))))) (jw_or (jt_not (jt_c (jc_chain op_leA op_leA opd_cmp opd_cmp (jb je_int) (jb (je_len T.z_len (jab_cons (jb_v 0) jab_nil))) (jb (je_globI T.k_MOST_STOCK))))) (jw_or1 (jt_not (jt_tru (jb (je_all T.z_all (jab_cons (jb (je_f (jf_comp (own := [("sign", 1)]) sc_is_stock.nd (jib_seq (jb_v 0)) (blkOk_by (N := ["value", "sign", "one", "other"]) (sc := defScope s_is_stock) (own := [("sign", 1)]) (by decide +kernel)) (fun _ _ _ _ _ => (jg_name (i := 1) sc_is_stock.nd)) (fun _ _ _ _ _ => jts_nil) (fun _ _ _ _ _ => (je_in hr (jb_v 1) (jb (je_globS [97, 98, 99, 100, 101, 102, 103, 104, 105, 106, 107, 108, 109, 110, 111, 112, 113, 114, 115, 116, 117, 118, 119, 120, 121, 122] T.k_LETTERS))))))) jab_nil)))))))))
    (jss_one (js_ret je_bl))
    jss_nil)
    (jss_one (js_ret (je_all T.z_all (jab_cons (jb (je_f (jf_comp (own := [("one", 2), ("other", 3)]) sc_is_stock.nd (jib_zipX T.z_zip (jab_cons (jb (je_sl (jb_v 0) jo_none (jo_some (je_neg je_int)))) (jab_cons (jb (je_sl (jb_v 0) (jo_some je_int) jo_none)) jab_nil))) (blkOk_by (N := ["value", "sign", "one", "other"]) (sc := defScope s_is_stock) (own := [("one", 2), ("other", 3)]) (by decide +kernel)) (fun _ _ _ _ _ => (jg_tup (n := 2) (jgs_cons (jg_name (i := 2) sc_is_stock.nd) (jgs_cons (jg_name (i := 3) sc_is_stock.nd) jgs_nil)))) (fun _ _ _ _ _ => jts_nil) (fun _ _ _ _ _ => (je_lt (jb_v 2) (jb_v 3)))))) jab_nil)))))⟩
def b_f_of_stock : MS :=
    (mRet (mCB fAll (mCons (mF (mComp (mSeqI (mVB 0)) (gN 2) mYes (mBin (oIn false) (mVB 2) (mVB 1)) [2])) mNil)))
def f_of_stock : List D → List D → R D := runB 3 b_f_of_stock
theorem ok_of_stock (T : Txt K mg base a) : FnOk P w0 K mg base (L2.CX P w0) 1 a.d_of_stock a.fd_of_stock ["word", "stock"] (spF K a.cl a.T 2 f_of_stock) :=
  ok_fnN (m := b_f_of_stock) T.F_of_stock sc_of_stock rfl rfl (by decide) fun cdv Ax outer s H E ap HP Hs hr => ⟨_, (jss_one (js_ret (je_all T.z_all (jab_cons (jb (je_f (jf_comp (own := [("sound", 2)]) sc_of_stock.nd (jib_seq (jb_v 0)) (blkOk_by (N := ["word", "stock", "sound"]) (sc := defScope s_of_stock) (own := [("sound", 2)]) (by decide +kernel)) (fun _ _ _ _ _ => (jg_name (i := 2) sc_of_stock.nd)) (fun _ _ _ _ _ => jts_nil) (fun _ _ _ _ _ => (je_in hr (jb_v 2) (jb_v 1)))))) jab_nil))))⟩
def b_f_need_word : MS :=
    (mIf (mNotT (mTru (mCall (nArg 1 f_is_word) (mCons (mV 0) mNil))))
    (mRaise1 0 "part" (mCons (mV 1) mNil))
    mSkip)
def f_need_word : List D → List D → R D := runB 2 b_f_need_word
theorem ok_need_word (T : Txt K mg base a) : FnOk P w0 K mg base (L2.CX P w0) 3 a.d_need_word a.fd_need_word ["value", "part"] (spF K a.cl a.T 2 f_need_word) :=
  ok_fnN (m := b_f_need_word) T.F_need_word sc_need_word rfl rfl (by decide) fun cdv Ax outer s H E ap HP Hs hr => ⟨_, (jss_one (js_if (jt_not (jt_tru (jb (je_call (ok_is_word T) (hr.mono (by decide)) T.g_is_word T.F_is_word.kp (b_is_word T) (takes_of rfl rfl rfl rfl) (ja_cons (je_v 0) ja_nil)))))
    (jss_one (js_raise1 (ClsF.xc (n := 0) T.x_BadWord) (ok_i_BadWord T) (hr.mono (by decide)) (b_i_BadWord T) T.xn_BadWord_part (takes_of rfl rfl rfl rfl) (ja_cons (je_v 1) ja_nil)))
    jss_nil))⟩
def b_f_need_stock : MS :=
    (mIf (mNotT (mTru (mCall (nArg 1 f_is_stock) (mCons (mV 0) mNil))))
    (mRaise1 1 "part" (mCons (mV 1) mNil))
    mSkip)
def f_need_stock : List D → List D → R D := runB 2 b_f_need_stock
theorem ok_need_stock (T : Txt K mg base a) : FnOk P w0 K mg base (L2.CX P w0) 3 a.d_need_stock a.fd_need_stock ["value", "part"] (spF K a.cl a.T 2 f_need_stock) :=
  ok_fnN (m := b_f_need_stock) T.F_need_stock sc_need_stock rfl rfl (by decide) fun cdv Ax outer s H E ap HP Hs hr => ⟨_, (jss_one (js_if (jt_not (jt_tru (jb (je_call (ok_is_stock T) (hr.mono (by decide)) T.g_is_stock T.F_is_stock.kp (b_is_stock T) (takes_of rfl rfl rfl rfl) (ja_cons (je_v 0) ja_nil)))))
    (jss_one (js_raise1 (ClsF.xc (n := 1) T.x_BadStock) (ok_i_BadStock T) (hr.mono (by decide)) (b_i_BadStock T) T.xn_BadStock_part (takes_of rfl rfl rfl rfl) (ja_cons (je_v 1) ja_nil)))
    jss_nil))⟩
def b_f_need_word_of : MS :=
    (mSeq (mDrop (mCall (nArg 2 f_need_word) (mCons (mV 0) (mCons (mC (.str [119, 111, 114, 100])) mNil))))
    (mSeq (mDrop (mCall (nArg 2 f_need_stock) (mCons (mV 1) (mCons (mC (.str [115, 116, 111, 99, 107])) mNil))))
    (mIf (mNotT (mTru (mCall (nArg 2 f_of_stock) (mCons (mV 0) (mCons (mV 1) mNil)))))
    (mRaise1 2 "part" (mCons (mC (.str [115, 116, 111, 99, 107])) mNil))
    mSkip)))
def f_need_word_of : List D → List D → R D := runB 2 b_f_need_word_of
theorem ok_need_word_of (T : Txt K mg base a) : FnOk P w0 K mg base (L2.CX P w0) 4 a.d_need_word_of a.fd_need_word_of ["word", "stock"] (spF K a.cl a.T 2 f_need_word_of) :=
  ok_fnN (m := b_f_need_word_of) T.F_need_word_of sc_need_word_of rfl rfl (by decide) fun cdv Ax outer s H E ap HP Hs hr => ⟨_, (jss_cons (js_drop (je_call (ok_need_word T) (hr.mono (by decide)) T.g_need_word T.F_need_word.kp (b_need_word T) (takes_of rfl rfl rfl rfl) (ja_cons (je_v 0) (ja_cons (je_str [119, 111, 114, 100]) ja_nil))))
    (jss_cons (js_drop (je_call (ok_need_stock T) (hr.mono (by decide)) T.g_need_stock T.F_need_stock.kp (b_need_stock T) (takes_of rfl rfl rfl rfl) (ja_cons (je_v 1) (ja_cons (je_str [115, 116, 111, 99, 107]) ja_nil))))
    (jss_one (js_if (jt_not (jt_tru (jb (je_call (ok_of_stock T) (hr.mono (by decide)) T.g_of_stock T.F_of_stock.kp (b_of_stock T) (takes_of rfl rfl rfl rfl) (ja_cons (je_v 0) (ja_cons (je_v 1) ja_nil))))))
    (jss_one (js_raise1 (ClsF.xc (n := 2) T.x_Misfit) (ok_i_Misfit T) (hr.mono (by decide)) (b_i_Misfit T) T.xn_Misfit_part (takes_of rfl rfl rfl rfl) (ja_cons (je_str [115, 116, 111, 99, 107]) ja_nil)))
    jss_nil))))⟩
def b_f_number_in : MS :=
    (mSeq (mAsg (gN 2) (mC (.int 0)))
    (mSeq (mFor (gN 3) (mSeqI (mV 0))
    (mAsg (gN 2) (mBin oAdd (mBin oAdd (mBin oMul (mVB 2) (mCB fLen (mCons (mVB 1) mNil))) (mMt fIndex (mVB 1) (mCons (mVB 3) mNil))) (mC (.int 1)))))
    (mRet (mV 2))))
def f_number_in : List D → List D → R D := runB 4 b_f_number_in
theorem ok_number_in (T : Txt K mg base a) : FnOk P w0 K mg base (L2.CX P w0) 1 a.d_number_in a.fd_number_in ["word", "stock"] (spF K a.cl a.T 2 f_number_in) :=
  ok_fnN (m := b_f_number_in) T.F_number_in sc_number_in rfl rfl (by decide) fun cdv Ax outer s H E ap HP Hs hr => ⟨_, (jss_cons (js_set (i := 2) sc_number_in.nd je_int)
    (jss_cons (js_for (passes_of rfl) (ji_seq (je_v 0)) (jg_name (i := 3) sc_number_in.nd)
    (jss_one (js_set (i := 2) sc_number_in.nd (je_add (jb (je_add (jb (je_mul (jb_v 2) (jb (je_len T.z_len (jab_cons (jb_v 1) jab_nil))))) (jb (je_index (jb_v 1) (jab_cons (jb_v 3) jab_nil))))) (jb je_int)))))
    (jss_one (js_ret (je_v 2)))))⟩
def b_f_word_with : MS :=
    (mSeq (mPar 2 3 (mCons (mC (.str [])) (mCons (mV 1) mNil)))
    (mSeq (whileL (mTst (mBin (oCmp fGt sGt) (mVB 3) (mC (.int 0))))
    (mSeq (mAsg (gN 2) (mBin oAdd (mIx (mVB 0) (mBin oMod (mBin oSub (mVB 3) (mC (.int 1))) (mCB fLen (mCons (mVB 0) mNil)))) (mVB 2)))
    (mAsg (gN 3) (mBin oDiv (mBin oSub (mVB 3) (mC (.int 1))) (mCB fLen (mCons (mVB 0) mNil))))) 1000)
    (mRet (mV 2))))
def f_word_with : List D → List D → R D := runB 4 b_f_word_with
theorem ok_word_with (T : Txt K mg base a) : FnOk P w0 K mg base (L2.CX P w0) 1 a.d_word_with a.fd_word_with ["stock", "number"] (spF K a.cl a.T 2 f_word_with) :=
  ok_fnN (m := b_f_word_with) T.F_word_with sc_word_with rfl rfl (by decide) fun cdv Ax outer s H E ap HP Hs hr => ⟨_, (jss_cons (js_par (i := 2) (j := 3) sc_word_with.nd (ja_cons (je_str []) (ja_cons (je_v 1) ja_nil)))
    (jss_cons (js_while 1000 (passes_of rfl) (jt_c (jc_gt (jb_v 3) (jb je_int)))
    (jss_cons (js_set (i := 2) sc_word_with.nd (je_add (jb (je_ix (jb_v 0) (jb (je_mod (jb (je_sub (jb_v 3) (jb je_int))) (jb (je_len T.z_len (jab_cons (jb_v 0) jab_nil))))))) (jb_v 2)))
    (jss_one (js_set (i := 3) sc_word_with.nd (je_div (jb (je_sub (jb_v 3) (jb je_int))) (jb (je_len T.z_len (jab_cons (jb_v 0) jab_nil))))))))
    (jss_one (js_ret (je_v 2)))))⟩
def b_f_many_with : MS :=
    (mSeq (mAsg (gN 2) (mC (.int 1)))
    (mSeq (mFor (gN 3) (mRng1 (mV 1))
    (mAsg (gN 2) (mBin oMul (mVB 2) (mCB fLen (mCons (mVB 0) mNil)))))
    (mRet (mV 2))))
def f_many_with : List D → List D → R D := runB 4 b_f_many_with
theorem ok_many_with (T : Txt K mg base a) : FnOk P w0 K mg base (L2.CX P w0) 1 a.d_many_with a.fd_many_with ["stock", "sounds"] (spF K a.cl a.T 2 f_many_with) :=
  ok_fnN (m := b_f_many_with) T.F_many_with sc_many_with rfl rfl (by decide) fun cdv Ax outer s H E ap HP Hs hr => ⟨_, (jss_cons (js_set (i := 2) sc_many_with.nd je_int)
    (jss_cons (js_for (passes_of rfl) (ji_rng1 T.z_range (je_v 1)) (jg_name (i := 3) sc_many_with.nd)
    (jss_one (js_set (i := 2) sc_many_with.nd (je_mul (jb_v 2) (jb (je_len T.z_len (jab_cons (jb_v 0) jab_nil)))))))
    (jss_one (js_ret (je_v 2)))))⟩
def b_f_last_word : MS :=
    (mRet (mBin oMul (mIx (mVB 0) (mUn oNeg (mC (.int 1)))) (mC (.int 12))))
def f_last_word : List D → List D → R D := runB 1 b_f_last_word
theorem ok_last_word (T : Txt K mg base a) : FnOk P w0 K mg base (L2.CX P w0) 1 a.d_last_word a.fd_last_word ["stock"] (spF K a.cl a.T 1 f_last_word) :=
  ok_fnN (m := b_f_last_word) T.F_last_word sc_last_word rfl rfl (by decide) fun cdv Ax outer s H E ap HP Hs hr => ⟨_, (jss_one (js_ret (je_mul (jb (je_ix (jb_v 0) (jb (je_neg je_int)))) (jb (je_globI T.k_MOST_SOUNDS)))))⟩
def b_f_words_of : MS :=
    (mSeq (mDrop (mCall (nArg 2 f_need_stock) (mCons (mV 0) (mCons (mC (.str [115, 116, 111, 99, 107])) mNil))))
    (mSeq (mIf (mNotT (mTru (mCall (nArg 3 f_is_within) (mCons (mV 1) (mCons (mC (.int 0)) (mCons (mC (.int 12)) mNil))))))
    (mRaise1 3 "part" (mCons (mC (.str [109, 111, 115, 116])) mNil))
    mSkip)
    (mSeq (mIf (mTst (mBin (oCmp fGt sGt) (mCall (nArg 2 f_many_with) (mCons (mV 0) (mCons (mV 1) mNil))) (mC (.int 20000))))
    (mRaise2 4 "what" "most" (mCons (mC (.str [119, 111, 114, 100, 115])) (mCons (mC (.int 20000)) mNil)))
    mSkip)
    (mSeq (mParFE 2 3 (mLstF (mCons (mC (.str [])) mNil)) (mLst (mCons (mC (.str [])) mNil)))
    (mSeq (mFor (gN 4) (mRng1 (mV 1))
    (mSeq (mAsg (gN 3) (mF (mComp2 (mSeqI (mVB 3)) (gN 5) mYes (mSeqI (mV 0)) (gN 6) mYes (mBin oAdd (mVB 5) (mVB 6)) [5, 6] [6])))
    (mExt 2 (mVB 3))))
    (mRet (mCB fTuple (mCons (mVB 2) mNil))))))))
def f_words_of : List D → List D → R D := runB 7 b_f_words_of
theorem ok_words_of (T : Txt K mg base a) : FnOk P w0 K mg base (L2.CX P w0) 4 a.d_words_of a.fd_words_of ["stock", "most"] (spF K a.cl a.T 2 f_words_of) :=
  ok_fnN (m := b_f_words_of) T.F_words_of sc_words_of rfl rfl (by decide) fun cdv Ax outer s H E ap HP Hs hr => ⟨_, (jss_cons (js_drop (je_call (ok_need_stock T) (hr.mono (by decide)) T.g_need_stock T.F_need_stock.kp (b_need_stock T) (takes_of rfl rfl rfl rfl) (ja_cons (je_v 0) (ja_cons (je_str [115, 116, 111, 99, 107]) ja_nil))))
    (jss_cons (js_if (jt_not (jt_tru (jb (je_call (ok_is_within T) (hr.mono (by decide)) T.g_is_within T.F_is_within.kp (b_is_within T) (takes_of rfl rfl rfl rfl) (ja_cons (je_v 1) (ja_cons je_int (ja_cons (je_globI T.k_MOST_SOUNDS) ja_nil)))))))
    (jss_one (js_raise1 (ClsF.xc (n := 3) T.x_BadNumber) (ok_i_BadNumber T) (hr.mono (by decide)) (b_i_BadNumber T) T.xn_BadNumber_part (takes_of rfl rfl rfl rfl) (ja_cons (je_str [109, 111, 115, 116]) ja_nil)))
    jss_nil)
    (jss_cons (js_if (jt_c (jc_gt (jb (je_call (ok_many_with T) (hr.mono (by decide)) T.g_many_with T.F_many_with.kp (b_many_with T) (takes_of rfl rfl rfl rfl) (ja_cons (je_v 0) (ja_cons (je_v 1) ja_nil)))) (jb (je_globI T.k_MOST_WORDS))))
    (jss_one (js_raise2 (ClsF.xc (n := 4) T.x_TooMany) (ok_i_TooMany T) (hr.mono (by decide)) (b_i_TooMany T) T.xn_TooMany_what T.xn_TooMany_most (takes_of rfl rfl rfl rfl) (ja_cons (je_str [119, 111, 114, 100, 115]) (ja_cons (je_globI T.k_MOST_WORDS) ja_nil))))
    jss_nil)
    (jss_cons (js_parFE (i := 2) (j := 3) sc_words_of.nd (jf_lst (ja_cons (je_str []) ja_nil)) (je_lst (ja_cons (je_str []) ja_nil)))
    (jss_cons (js_for (passes_of rfl) (ji_rng1 T.z_range (je_v 1)) (jg_name (i := 4) sc_words_of.nd)
    (jss_cons (js_setLc2 (i := 3) (own := [("word", 5), ("sound", 6)]) (vs1 := [6]) sc_words_of.nd (jib_seq (jb_v 3)) (blkOk_by (N := ["stock", "most", "found", "longest", "turn", "word", "sound"]) (sc := defScope s_words_of) (own := [("word", 5), ("sound", 6)]) (by decide +kernel)) (by decide) (fun _ _ _ _ _ => (jg_name (i := 5) sc_words_of.nd)) (fun _ _ _ _ _ => jts_nil) (fun _ _ _ _ _ => (ji_seq (je_v 0))) (fun _ _ _ _ _ => (jg_name (i := 6) sc_words_of.nd)) (fun _ _ _ _ _ => jts_nil) (fun _ _ _ _ _ => (je_add (jb_v 5) (jb_v 6))))
    (jss_one (js_ext 2 (jb_v 3)))))
    (jss_one (js_ret (je_tuple T.z_tuple (jab_cons (jb_v 2) jab_nil)))))))))⟩
def b_f_word_number : MS :=
    (mSeq (mDrop (mCall (nArg 2 f_need_word_of) (mCons (mV 0) (mCons (mV 1) mNil))))
    (mRet (mCall (nArg 2 f_number_in) (mCons (mV 0) (mCons (mV 1) mNil)))))
def f_word_number : List D → List D → R D := runB 2 b_f_word_number
theorem ok_word_number (T : Txt K mg base a) : FnOk P w0 K mg base (L2.CX P w0) 5 a.d_word_number a.fd_word_number ["word", "stock"] (spF K a.cl a.T 2 f_word_number) :=
  ok_fnN (m := b_f_word_number) T.F_word_number sc_word_number rfl rfl (by decide) fun cdv Ax outer s H E ap HP Hs hr => ⟨_, (jss_cons (js_drop (je_call (ok_need_word_of T) (hr.mono (by decide)) T.g_need_word_of T.F_need_word_of.kp (b_need_word_of T) (takes_of rfl rfl rfl rfl) (ja_cons (je_v 0) (ja_cons (je_v 1) ja_nil))))
    (jss_one (js_ret (je_call (ok_number_in T) (hr.mono (by decide)) T.g_number_in T.F_number_in.kp (b_number_in T) (takes_of rfl rfl rfl rfl) (ja_cons (je_v 0) (ja_cons (je_v 1) ja_nil))))))⟩
def b_f_word_at : MS :=
    (mSeq (mDrop (mCall (nArg 2 f_need_stock) (mCons (mV 0) (mCons (mC (.str [115, 116, 111, 99, 107])) mNil))))
    (mSeq (mIf (mNotT (mTru (mCall (nArg 3 f_is_within) (mCons (mV 1) (mCons (mC (.int 0)) (mCons (mCall (nArg 2 f_number_in) (mCons (mCall (nArg 1 f_last_word) (mCons (mV 0) mNil)) (mCons (mV 0) mNil))) mNil))))))
    (mRaise1 3 "part" (mCons (mC (.str [110, 117, 109, 98, 101, 114])) mNil))
    mSkip)
    (mRet (mCall (nArg 2 f_word_with) (mCons (mV 0) (mCons (mV 1) mNil))))))
def f_word_at : List D → List D → R D := runB 2 b_f_word_at
theorem ok_word_at (T : Txt K mg base a) : FnOk P w0 K mg base (L2.CX P w0) 4 a.d_word_at a.fd_word_at ["stock", "number"] (spF K a.cl a.T 2 f_word_at) :=
  ok_fnN (m := b_f_word_at) T.F_word_at sc_word_at rfl rfl (by decide) fun cdv Ax outer s H E ap HP Hs hr => ⟨_, (jss_cons (js_drop (je_call (ok_need_stock T) (hr.mono (by decide)) T.g_need_stock T.F_need_stock.kp (b_need_stock T) (takes_of rfl rfl rfl rfl) (ja_cons (je_v 0) (ja_cons (je_str [115, 116, 111, 99, 107]) ja_nil))))
    (jss_cons (js_if (jt_not (jt_tru (jb (je_call (ok_is_within T) (hr.mono (by decide)) T.g_is_within T.F_is_within.kp (b_is_within T) (takes_of rfl rfl rfl rfl) (ja_cons (je_v 1) (ja_cons je_int (ja_cons (je_call (ok_number_in T) (hr.mono (by decide)) T.g_number_in T.F_number_in.kp (b_number_in T) (takes_of rfl rfl rfl rfl) (ja_cons (je_call (ok_last_word T) (hr.mono (by decide)) T.g_last_word T.F_last_word.kp (b_last_word T) (takes_of rfl rfl rfl rfl) (ja_cons (je_v 0) ja_nil)) (ja_cons (je_v 0) ja_nil))) ja_nil)))))))
    (jss_one (js_raise1 (ClsF.xc (n := 3) T.x_BadNumber) (ok_i_BadNumber T) (hr.mono (by decide)) (b_i_BadNumber T) T.xn_BadNumber_part (takes_of rfl rfl rfl rfl) (ja_cons (je_str [110, 117, 109, 98, 101, 114]) ja_nil)))
    jss_nil)
    (jss_one (js_ret (je_call (ok_word_with T) (hr.mono (by decide)) T.g_word_with T.F_word_with.kp (b_word_with T) (takes_of rfl rfl rfl rfl) (ja_cons (je_v 0) (ja_cons (je_v 1) ja_nil)))))))⟩
def b_f_next_word : MS :=
    (mSeq (mDrop (mCall (nArg 2 f_need_word_of) (mCons (mV 0) (mCons (mV 1) mNil))))
    (mSeq (mIf (mTst (mBin (oEq false) (mVB 0) (mCall (nArg 1 f_last_word) (mCons (mV 1) mNil))))
    (mRet (mC .non))
    mSkip)
    (mRet (mCall (nArg 2 f_word_with) (mCons (mV 1) (mCons (mBin oAdd (mCall (nArg 2 f_number_in) (mCons (mV 0) (mCons (mV 1) mNil))) (mC (.int 1))) mNil))))))
def f_next_word : List D → List D → R D := runB 2 b_f_next_word
theorem ok_next_word (T : Txt K mg base a) : FnOk P w0 K mg base (L2.CX P w0) 5 a.d_next_word a.fd_next_word ["word", "stock"] (spF K a.cl a.T 2 f_next_word) :=
  ok_fnN (m := b_f_next_word) T.F_next_word sc_next_word rfl rfl (by decide) fun cdv Ax outer s H E ap HP Hs hr => ⟨_, (jss_cons (js_drop (je_call (ok_need_word_of T) (hr.mono (by decide)) T.g_need_word_of T.F_need_word_of.kp (b_need_word_of T) (takes_of rfl rfl rfl rfl) (ja_cons (je_v 0) (ja_cons (je_v 1) ja_nil))))
    (jss_cons (js_if (jt_c (jc_eq hr (jb_v 0) (jb (je_call (ok_last_word T) (hr.mono (by decide)) T.g_last_word T.F_last_word.kp (b_last_word T) (takes_of rfl rfl rfl rfl) (ja_cons (je_v 1) ja_nil)))))
    (jss_one (js_ret je_non))
    jss_nil)
    (jss_one (js_ret (je_call (ok_word_with T) (hr.mono (by decide)) T.g_word_with T.F_word_with.kp (b_word_with T) (takes_of rfl rfl rfl rfl) (ja_cons (je_v 1) (ja_cons (je_add (jb (je_call (ok_number_in T) (hr.mono (by decide)) T.g_number_in T.F_number_in.kp (b_number_in T) (takes_of rfl rfl rfl rfl) (ja_cons (je_v 0) (ja_cons (je_v 1) ja_nil)))) (jb je_int)) ja_nil)))))))⟩
def m__law_well : SD → List D → R (List D) :=
  (mLstF (mCons (mF (mComp (mSeqI (mSl (mVB 0) mNoP (mPart (mC (.int 60))))) (gN 1) mYes (mCB fInt (mCons (mVB 1) mNil)) [1])) (mCons (mC (.int 0)) (mCons (mC (.int 0)) mNil))))
def f__law_well : List D → List D → R (List D) := fun ds w => m__law_well (sd0 2 ds) w
theorem ok__law_well (T : Txt K mg base a) : FnOk P w0 K mg base (L2.CX P w0) 1 a.d__law_well a.fd__law_well ["_law_script"] (spPF K a.cl a.T 1 f__law_well) :=
  ok_penN (m := m__law_well) T.F__law_well sc__law_well rfl rfl (by decide) rfl fun cdv Ax outer s H E ap HP Hs hr => ⟨_, (jsf_ret (jf_lst (ja_cons (je_f (jf_comp (own := [("_law_cell", 1)]) sc__law_well.nd (jib_seq (jb (je_sl (jb_v 0) jo_none (jo_some je_int)))) (blkOk_by (N := ["_law_script", "_law_cell"]) (sc := defScope s__law_well) (own := [("_law_cell", 1)]) (by decide +kernel)) (fun _ _ _ _ _ => (jg_name (i := 1) sc__law_well.nd)) (fun _ _ _ _ _ => jts_nil) (fun _ _ _ _ _ => (je_int1 T.z_int (jab_cons (jb_v 1) jab_nil))))) (ja_cons je_int (ja_cons je_int ja_nil)))))⟩
def b_f__law_dip : MS :=
    (mSeq (mIf (mTst (mBin (oCmp fGt sGt) (mIx (mVB 0) (mC (.int 2))) (mC (.int 0))))
    (mSeq (mAsg (gN 2) (mCB fInt (mCons (mIx (mVB 0) (mC (.int 2))) mNil)))
    (mSeq (mSetI 0 (mC (.int 2)) (mBin oDiv (mVB 2) (mVB 1)))
    (mRet (mBin oMod (mCB fInt (mCons (mVB 2) mNil)) (mVB 1)))))
    mSkip)
    (mSeq (mAsg (gN 3) (mIx (mVB 0) (mC (.int 1))))
    (mSeq (mSetI 0 (mC (.int 1)) (mBin oAdd (mVB 3) (mC (.int 1))))
    (mSeq (mAsg (gN 4) (mBin oAdd (mBin oMul (mC (.int 62039)) (mVB 3)) (mC (.int 4657))))
    (mSeq (mIf (mTst (mBin (oEq true) (mIx (mVB 0) (mC (.int 0))) (mLst mNil)))
    (mAsg (gN 4) (mIx (mIx (mVB 0) (mC (.int 0))) (mBin oMod (mCB fInt (mCons (mVB 3) mNil)) (mCB fLen (mCons (mIx (mVB 0) (mC (.int 0))) mNil)))))
    mSkip)
    (mSeq (mIf (mAnd (mTst (mBin (oCmp fLt sLt) (mVB 3) (mCB fLen (mCons (mIx (mVB 0) (mC (.int 0))) mNil)))) (mTst (mBin (oCmp fGe sGe) (mCB fAbs (mCons (mVB 4) mNil)) (mBin oPow (mC (.int 10)) (mC (.int 18))))))
    (mSeq (mAsg (gN 2) (mBin oSub (mCB fAbs (mCons (mVB 4) mNil)) (mBin oPow (mC (.int 10)) (mC (.int 18)))))
    (mSeq (mSetI 0 (mC (.int 2)) (mBin oDiv (mCB fInt (mCons (mVB 2) mNil)) (mVB 1)))
    (mRet (mBin oMod (mCB fInt (mCons (mVB 2) mNil)) (mVB 1)))))
    mSkip)
    (mSeq (mAsg (gN 5) (mBin oMod (mCB fInt (mCons (mBin oPow (mBin oAdd (mBin oAdd (mBin oMod (mCB fInt (mCons (mVB 4) mNil)) (mC (.int 2147483579))) (mBin oMul (mC (.int 73459)) (mVB 3))) (mC (.int 4657))) (mC (.int 5))) mNil)) (mC (.int 2147483549))))
    (mSeq (mAsg (gN 5) (mBin oMod (mCB fInt (mCons (mBin oPow (mBin oAdd (mBin oAdd (mBin oMul (mVB 5) (mBin oAdd (mBin oMul (mC (.int 2)) (mVB 3)) (mC (.int 2699)))) (mBin oMul (mBin oMul (mC (.int 62039)) (mVB 3)) (mVB 3))) (mC (.int 90173))) (mC (.int 3))) mNil)) (mC (.int 2147483629))))
    (mRet (mBin oMod (mCB fInt (mCons (mBin oDiv (mVB 5) (mC (.int 64))) mNil)) (mVB 1)))))))))))
def f__law_dip : List D → List D → R D := runB 6 b_f__law_dip
theorem ok__law_dip (T : Txt K mg base a) : FnOk P w0 K mg base (L2.CX P w0) 1 a.d__law_dip a.fd__law_dip ["_law_well_here", "_law_many"] (spF K a.cl a.T 2 f__law_dip) :=
  ok_fnN (m := b_f__law_dip) T.F__law_dip sc__law_dip rfl rfl (by decide) fun cdv Ax outer s H E ap HP Hs hr => ⟨_, (jss_cons (js_if (jt_c (jc_gt (jb (je_ix (jb_v 0) (jb je_int))) (jb je_int)))
    (jss_cons (js_set (i := 2) sc__law_dip.nd (je_int1 T.z_int (jab_cons (jb (je_ix (jb_v 0) (jb je_int))) jab_nil)))
    (jss_cons (js_setI 0 (je_div (jb_v 2) (jb_v 1)) je_int)
    (jss_one (js_ret (je_mod (jb (je_int1 T.z_int (jab_cons (jb_v 2) jab_nil))) (jb_v 1))))))
    jss_nil)
    (jss_cons (js_set (i := 3) sc__law_dip.nd (je_ix (jb_v 0) (jb je_int)))
    (jss_cons (js_setI 0 (je_add (jb_v 3) (jb je_int)) je_int)
    (jss_cons (js_set (i := 4) sc__law_dip.nd (je_add (jb (je_mul (jb je_int) (jb_v 3))) (jb je_int)))
    (jss_cons (js_if (jt_c (jc_ne hr (jb (je_ix (jb_v 0) (jb je_int))) (jb (je_lst ja_nil))))
    (jss_one (js_set (i := 4) sc__law_dip.nd (je_ix (jb (je_ix (jb_v 0) (jb je_int))) (jb (je_mod (jb (je_int1 T.z_int (jab_cons (jb_v 3) jab_nil))) (jb (je_len T.z_len (jab_cons (jb (je_ix (jb_v 0) (jb je_int))) jab_nil))))))))
    jss_nil)
    (jss_cons (js_if (jt_w (jw_and (jt_c (jc_lt (jb_v 3) (jb (je_len T.z_len (jab_cons (jb (je_ix (jb_v 0) (jb je_int))) jab_nil))))) (jw_and1 (jt_c (jc_ge (jb (je_abs T.z_abs (jab_cons (jb_v 4) jab_nil))) (jb (je_pow (jb je_int) (jb je_int))))))))
    (jss_cons (js_set (i := 2) sc__law_dip.nd (je_sub (jb (je_abs T.z_abs (jab_cons (jb_v 4) jab_nil))) (jb (je_pow (jb je_int) (jb je_int)))))
    (jss_cons (js_setI 0 (je_div (jb (je_int1 T.z_int (jab_cons (jb_v 2) jab_nil))) (jb_v 1)) je_int)
    (jss_one (js_ret (je_mod (jb (je_int1 T.z_int (jab_cons (jb_v 2) jab_nil))) (jb_v 1))))))
    jss_nil)
    (jss_cons (js_set (i := 5) sc__law_dip.nd (je_mod (jb (je_int1 T.z_int (jab_cons (jb (je_pow (jb (je_add (jb (je_add (jb (je_mod (jb (je_int1 T.z_int (jab_cons (jb_v 4) jab_nil))) (jb je_int))) (jb (je_mul (jb je_int) (jb_v 3))))) (jb je_int))) (jb je_int))) jab_nil))) (jb je_int)))
    (jss_cons (js_set (i := 5) sc__law_dip.nd (je_mod (jb (je_int1 T.z_int (jab_cons (jb (je_pow (jb (je_add (jb (je_add (jb (je_mul (jb_v 5) (jb (je_add (jb (je_mul (jb je_int) (jb_v 3))) (jb je_int))))) (jb (je_mul (jb (je_mul (jb je_int) (jb_v 3))) (jb_v 3))))) (jb je_int))) (jb je_int))) jab_nil))) (jb je_int)))
    (jss_one (js_ret (je_mod (jb (je_int1 T.z_int (jab_cons (jb (je_div (jb_v 5) (jb je_int))) jab_nil))) (jb_v 1))))))))))))⟩
def b_f__law_pick : MS :=
    (mRet (mIx (mVB 1) (mCall (nArg 2 f__law_dip) (mCons (mV 0) (mCons (mCB fLen (mCons (mVB 1) mNil)) mNil)))))
def f__law_pick : List D → List D → R D := runB 2 b_f__law_pick
theorem ok__law_pick (T : Txt K mg base a) : FnOk P w0 K mg base (L2.CX P w0) 2 a.d__law_pick a.fd__law_pick ["_law_well_here", "_law_some"] (spF K a.cl a.T 2 f__law_pick) :=
  ok_fnN (m := b_f__law_pick) T.F__law_pick sc__law_pick rfl rfl (by decide) fun cdv Ax outer s H E ap HP Hs hr => ⟨_, (jss_one (js_ret (je_ix (jb_v 1) (jb (je_call (ok__law_dip T) (hr.mono (by decide)) T.g__law_dip T.F__law_dip.kp (b__law_dip T) (takes_of rfl rfl rfl rfl) (ja_cons (je_v 0) (ja_cons (je_len T.z_len (jab_cons (jb_v 1) jab_nil)) ja_nil)))))))⟩
def b_f__law_stock : MS :=
    (mSeq (mAsg (gTu 3 (gsCons (gN 2) (gsCons (gN 3) (gsCons (gN 4) gsNil)))) (mTup (mCons (mC (.str [97, 98, 99, 100, 101, 102, 103, 104, 105, 106, 107, 108, 109, 110, 111, 112, 113, 114, 115, 116, 117, 118, 119, 120, 121, 122])) (mCons (mCall (nArg 2 f__law_dip) (mCons (mV 0) (mCons (mC (.int 26)) mNil))) (mCons (mCall (nArg 2 f__law_pick) (mCons (mV 0) (mCons (mLst (mCons (mC (.int 1)) (mCons (mC (.int 3)) (mCons (mC (.int 5)) (mCons (mC (.int 7)) (mCons (mC (.int 9)) (mCons (mC (.int 11)) (mCons (mC (.int 15)) mNil)))))))) mNil))) mNil)))))
    (mRet (mMt fJoin (mC (.str [])) (mCons (mF (mSortF (mF (mComp (mRng1 (mV 1)) (gN 5) mYes (mIx (mVB 2) (mBin oMod (mBin oAdd (mVB 3) (mBin oMul (mVB 4) (mVB 5))) (mC (.int 26)))) [5])))) mNil))))
def f__law_stock : List D → List D → R D := runB 6 b_f__law_stock
theorem ok__law_stock (T : Txt K mg base a) : FnOk P w0 K mg base (L2.CX P w0) 3 a.d__law_stock a.fd__law_stock ["_law_well_here", "_law_many"] (spF K a.cl a.T 2 f__law_stock) :=
  ok_fnN (m := b_f__law_stock) T.F__law_stock sc__law_stock rfl rfl (by decide) fun cdv Ax outer s H E ap HP Hs hr => ⟨_, (jss_cons (js_asg (je_tup (ja_cons (je_str [97, 98, 99, 100, 101, 102, 103, 104, 105, 106, 107, 108, 109, 110, 111, 112, 113, 114, 115, 116, 117, 118, 119, 120, 121, 122]) (ja_cons (je_call (ok__law_dip T) (hr.mono (by decide)) T.g__law_dip T.F__law_dip.kp (b__law_dip T) (takes_of rfl rfl rfl rfl) (ja_cons (je_v 0) (ja_cons je_int ja_nil))) (ja_cons (je_call (ok__law_pick T) (hr.mono (by decide)) T.g__law_pick T.F__law_pick.kp (b__law_pick T) (takes_of rfl rfl rfl rfl) (ja_cons (je_v 0) (ja_cons (je_lst (ja_cons je_int (ja_cons je_int (ja_cons je_int (ja_cons je_int (ja_cons je_int (ja_cons je_int (ja_cons je_int ja_nil)))))))) ja_nil))) ja_nil)))) (jg_tup (n := 3) (jgs_cons (jg_name (i := 2) sc__law_stock.nd) (jgs_cons (jg_name (i := 3) sc__law_stock.nd) (jgs_cons (jg_name (i := 4) sc__law_stock.nd) jgs_nil)))))
    (jss_one (js_ret (je_join (jb (je_str [])) (jab_cons (jb (je_f (jf_sorted T.z_sorted (jb (je_f (jf_comp (own := [("_law_at", 5)]) sc__law_stock.nd (jib (ji_rng1 T.z_range (je_v 1))) (blkOk_by (N := ["_law_well_here", "_law_many", "_law_letters", "_law_begin", "_law_stride", "_law_at"]) (sc := defScope s__law_stock) (own := [("_law_at", 5)]) (by decide +kernel)) (fun _ _ _ _ _ => (jg_name (i := 5) sc__law_stock.nd)) (fun _ _ _ _ _ => jts_nil) (fun _ _ _ _ _ => (je_ix (jb_v 2) (jb (je_mod (jb (je_add (jb_v 3) (jb (je_mul (jb_v 4) (jb_v 5))))) (jb je_int))))))))))) jab_nil)))))⟩
def b_f__law_listed : MS :=
    (mSeq (mPar 2 3 (mCons (mLst (mCons (mC (.str [])) mNil)) (mCons (mLst (mCons (mC (.str [])) mNil)) mNil)))
    (mSeq (mFor (gN 4) (mRng1 (mV 1))
    (mSeq (mSetO 5 (mLstF mNil))
    (mSeq (mFor (gN 6) (mSeqI (mV 0))
    (mExt 5 (mF (mComp (mSeqI (mVB 3)) (gN 7) mYes (mBin oAdd (mVB 6) (mVB 7)) [7]))))
    (mSeq (mAsg (gN 3) (mF (mSortF (mVB 5))))
    (mAsg (gN 2) (mBin oAdd (mVB 2) (mVB 3)))))))
    (mRet (mV 2))))
def f__law_listed : List D → List D → R D := runB 8 b_f__law_listed
theorem ok__law_listed (T : Txt K mg base a) : FnOk P w0 K mg base (L2.CX P w0) 1 a.d__law_listed a.fd__law_listed ["_law_stock_here", "_law_most"] (spF K a.cl a.T 2 f__law_listed) :=
  ok_fnN (m := b_f__law_listed) T.F__law_listed sc__law_listed rfl rfl (by decide) fun cdv Ax outer s H E ap HP Hs hr => ⟨_, (jss_cons (js_par (i := 2) (j := 3) sc__law_listed.nd (ja_cons (je_lst (ja_cons (je_str []) ja_nil)) (ja_cons (je_lst (ja_cons (je_str []) ja_nil)) ja_nil)))
    (jss_cons (js_for (passes_of rfl) (ji_rng1 T.z_range (je_v 1)) (jg_name (i := 4) sc__law_listed.nd)
    (jss_cons (js_setO (i := 5) sc__law_listed.nd (jf_lst ja_nil))
    (jss_cons (js_for (passes_of rfl) (ji_seq (je_v 0)) (jg_name (i := 6) sc__law_listed.nd)
    (jss_one (js_ext 5 (jb (je_f (jf_comp (own := [("_law_word", 7)]) sc__law_listed.nd (jib_seq (jb_v 3)) (blkOk_by (N := ["_law_stock_here", "_law_most", "_law_found", "_law_longest", "_law_turn", "_law_wider", "_law_sound", "_law_word"]) (sc := defScope s__law_listed) (own := [("_law_word", 7)]) (by decide +kernel)) (fun _ _ _ _ _ => (jg_name (i := 7) sc__law_listed.nd)) (fun _ _ _ _ _ => jts_nil) (fun _ _ _ _ _ => (je_add (jb_v 6) (jb_v 7)))))))))
    (jss_cons (js_set (i := 3) sc__law_listed.nd (je_f (jf_sorted T.z_sorted (jb_v 5))))
    (jss_one (js_set (i := 2) sc__law_listed.nd (je_add (jb_v 2) (jb_v 3))))))))
    (jss_one (js_ret (je_v 2)))))⟩
def b_f__law_ahead : MS :=
    (mSeq (mAsg (gTu 3 (gsCons (gN 2) (gsCons (gN 3) (gsCons (gN 4) gsNil)))) (mTup (mCons (mC (.int 0)) (mCons (mC (.int 0)) (mCons (mC (.int 1)) mNil)))))
    (mSeq (mFor (gN 5) (mSeqI (mV 0))
    (mSeq (mPar 2 4 (mCons (mBin oAdd (mVB 2) (mVB 4)) (mCons (mBin oMul (mVB 4) (mCB fLen (mCons (mVB 1) mNil))) mNil)))
    (mAsg (gN 3) (mBin oAdd (mBin oMul (mVB 3) (mCB fLen (mCons (mVB 1) mNil))) (mCB fLen (mCons (mF (mComp (mSeqI (mVB 1)) (gN 6) (mTst (mBin (oCmp fLt sLt) (mVB 6) (mVB 5))) (mV 6) [6])) mNil))))))
    (mRet (mBin oAdd (mVB 2) (mVB 3)))))
def f__law_ahead : List D → List D → R D := runB 7 b_f__law_ahead
theorem ok__law_ahead (T : Txt K mg base a) : FnOk P w0 K mg base (L2.CX P w0) 1 a.d__law_ahead a.fd__law_ahead ["_law_word", "_law_stock_here"] (spF K a.cl a.T 2 f__law_ahead) :=
  ok_fnN (m := b_f__law_ahead) T.F__law_ahead sc__law_ahead rfl rfl (by decide) fun cdv Ax outer s H E ap HP Hs hr => ⟨_, (jss_cons (js_asg (je_tup (ja_cons je_int (ja_cons je_int (ja_cons je_int ja_nil)))) (jg_tup (n := 3) (jgs_cons (jg_name (i := 2) sc__law_ahead.nd) (jgs_cons (jg_name (i := 3) sc__law_ahead.nd) (jgs_cons (jg_name (i := 4) sc__law_ahead.nd) jgs_nil)))))
    (jss_cons (js_for (passes_of rfl) (ji_seq (je_v 0)) (jg_name (i := 5) sc__law_ahead.nd)
    (jss_cons (js_par (i := 2) (j := 4) sc__law_ahead.nd (ja_cons (je_add (jb_v 2) (jb_v 4)) (ja_cons (je_mul (jb_v 4) (jb (je_len T.z_len (jab_cons (jb_v 1) jab_nil)))) ja_nil)))
    (jss_one (js_set (i := 3) sc__law_ahead.nd (je_add (jb (je_mul (jb_v 3) (jb (je_len T.z_len (jab_cons (jb_v 1) jab_nil))))) (jb (je_len T.z_len (jab_cons (jb (je_f (jf_comp (own := [("_law_one", 6)]) sc__law_ahead.nd (jib_seq (jb_v 1)) (blkOk_by (N := ["_law_word", "_law_stock_here", "_law_shorter", "_law_place", "_law_many", "_law_sound", "_law_one"]) (sc := defScope s__law_ahead) (own := [("_law_one", 6)]) (by decide +kernel)) (fun _ _ _ _ _ => (jg_name (i := 6) sc__law_ahead.nd)) (fun _ _ _ _ _ => (jts_one (jt_c (jc_lt (jb_v 6) (jb_v 5))))) (fun _ _ _ _ _ => (je_v 6))))) jab_nil))))))))
    (jss_one (js_ret (je_add (jb_v 2) (jb_v 3))))))⟩
def b_f__law_behind : MS :=
    (mSeq (mParFE 2 3 (mListX (mVB 0)) (mBin oSub (mCB fLen (mCons (mVB 0) mNil)) (mC (.int 1))))
    (mSeq (whileL (mAnd (mTst (mBin (oCmp fGe sGe) (mVB 3) (mC (.int 0)))) (mTst (mBin (oEq false) (mIx (mVB 2) (mVB 3)) (mIx (mVB 1) (mUn oNeg (mC (.int 1)))))))
    (mSeq (mSetI 2 (mV 3) (mIx (mVB 1) (mC (.int 0))))
    (mAsg (gN 3) (mBin oSub (mVB 3) (mC (.int 1))))) 1000)
    (mSeq (mIf (mTst (mBin (oCmp fGe sGe) (mVB 3) (mC (.int 0))))
    (mSeq (mSetI 2 (mV 3) (mIx (mVB 1) (mBin oAdd (mMt fIndex (mVB 1) (mCons (mIx (mVB 2) (mVB 3)) mNil)) (mC (.int 1)))))
    (mRet (mMt fJoin (mC (.str [])) (mCons (mVB 2) mNil))))
    mSkip)
    (mRet (mIfE (mTst (mBin (oCmp fLt sLt) (mCB fLen (mCons (mVB 0) mNil)) (mC (.int 12)))) (mBin oAdd (mMt fJoin (mC (.str [])) (mCons (mVB 2) mNil)) (mIx (mVB 1) (mC (.int 0)))) (mC .non))))))
def f__law_behind : List D → List D → R D := runB 4 b_f__law_behind
theorem ok__law_behind (T : Txt K mg base a) : FnOk P w0 K mg base (L2.CX P w0) 1 a.d__law_behind a.fd__law_behind ["_law_word", "_law_stock_here"] (spF K a.cl a.T 2 f__law_behind) :=
  ok_fnN (m := b_f__law_behind) T.F__law_behind sc__law_behind rfl rfl (by decide) fun cdv Ax outer s H E ap HP Hs hr => ⟨_, (jss_cons (js_parFE (i := 2) (j := 3) sc__law_behind.nd (jf_listX T.z_list (jb_v 0)) (je_sub (jb (je_len T.z_len (jab_cons (jb_v 0) jab_nil))) (jb je_int)))
    (jss_cons (js_while 1000 (passes_of rfl) (jt_w (jw_and (jt_c (jc_ge (jb_v 3) (jb je_int))) (jw_and1 (jt_c (jc_eq hr (jb (je_ix (jb_v 2) (jb_v 3))) (jb (je_ix (jb_v 1) (jb (je_neg je_int)))))))))
    (jss_cons (js_setI 2 (je_ix (jb_v 1) (jb je_int)) (je_v 3))
    (jss_one (js_set (i := 3) sc__law_behind.nd (je_sub (jb_v 3) (jb je_int))))))
    (jss_cons (js_if (jt_c (jc_ge (jb_v 3) (jb je_int)))
    (jss_cons (js_setI 2 (je_ix (jb_v 1) (jb (je_add (jb (je_index (jb_v 1) (jab_cons (jb (je_ix (jb_v 2) (jb_v 3))) jab_nil))) (jb je_int)))) (je_v 3))
    (jss_one (js_ret (je_join (jb (je_str [])) (jab_cons (jb_v 2) jab_nil)))))
    jss_nil)
    (jss_one (js_ret (je_if (jt_c (jc_lt (jb (je_len T.z_len (jab_cons (jb_v 0) jab_nil))) (jb je_int))) (je_add (jb (je_join (jb (je_str [])) (jab_cons (jb_v 2) jab_nil))) (jb (je_ix (jb_v 1) (jb je_int)))) je_non))))))⟩
def b_f__law_word_right : MS :=
    (mSeq (mAsg (gN 2) (mCallK 0 2 [0, 1] (nArg 2 f_word_number) mNil (mCons (mV 0) (mCons (mV 1) mNil))))
    (mSeq (mIf (mOr (mTru (mIsi ["bool"] (mVB 2))) (mOr (mNotT (mTru (mIsi ["int"] (mVB 2)))) (mTst (mBin (oEq true) (mVB 2) (mCall (nArg 2 f__law_ahead) (mCons (mV 0) (mCons (mV 1) mNil)))))))
    (mRet (mC (.bl false)))
    mSkip)
    (mSeq (mIf (mOr (mTst (mBin (oEq true) (mCallK 0 2 [0, 1] (nArg 2 f_word_at) mNil (mCons (mV 1) (mCons (mV 2) mNil))) (mVB 0))) (mTst (mBin (oEq true) (mCallK 0 2 [0, 1] (nArg 2 f_next_word) mNil (mCons (mV 0) (mCons (mV 1) mNil))) (mCall (nArg 2 f__law_behind) (mCons (mV 0) (mCons (mV 1) mNil))))))
    (mRet (mC (.bl false)))
    mSkip)
    (mRet (mAndV (mCall (nArg 1 f_is_word) (mCons (mV 0) mNil)) (mAndV (mCall (nArg 2 f_of_stock) (mCons (mV 0) (mCons (mV 1) mNil))) (mCall (nArg 1 f_is_stock) (mCons (mV 1) mNil))))))))
def f__law_word_right : List D → List D → R D := runB 3 b_f__law_word_right
theorem ok__law_word_right (T : Txt K mg base a) : FnOk P w0 K mg base (L2.CX P w0) 6 a.d__law_word_right a.fd__law_word_right ["_law_word", "_law_stock_here"] (spF K a.cl a.T 2 f__law_word_right) :=
  ok_fnN (m := b_f__law_word_right) T.F__law_word_right sc__law_word_right rfl rfl (by decide) fun cdv Ax outer s H E ap HP Hs hr => ⟨_, (jss_cons (js_set (i := 2) sc__law_word_right.nd (je_callK0 (ok_word_number T) (hr.mono (by decide)) T.g_word_number T.F_word_number.kp (kb_0_word_number T) (takes_of rfl rfl rfl rfl) (jk_cons (je_v 0) (jk_cons (je_v 1) jk_nil))))
    (jss_cons (js_if (jt_w (jw_or (jt_tru (jb (je_isi "bool" "bool" (by decide) T.z_isinstance T.z_bool (by decide +kernel) (jb_v 2)))) (jw_or (jt_not (jt_tru (jb (je_isi "int" "int" (by decide) T.z_isinstance T.z_int (by decide +kernel) (jb_v 2))))) (jw_or1 (jt_c (jc_ne hr (jb_v 2) (jb (je_call (ok__law_ahead T) (hr.mono (by decide)) T.g__law_ahead T.F__law_ahead.kp (b__law_ahead T) (takes_of rfl rfl rfl rfl) (ja_cons (je_v 0) (ja_cons (je_v 1) ja_nil))))))))))
    (jss_one (js_ret je_bl))
    jss_nil)
    (jss_cons (js_if (jt_w (jw_or (jt_c (jc_ne hr (jb (je_callK0 (ok_word_at T) (hr.mono (by decide)) T.g_word_at T.F_word_at.kp (kb_1_word_at T) (takes_of rfl rfl rfl rfl) (jk_cons (je_v 1) (jk_cons (je_v 2) jk_nil)))) (jb_v 0))) (jw_or1 (jt_c (jc_ne hr (jb (je_callK0 (ok_next_word T) (hr.mono (by decide)) T.g_next_word T.F_next_word.kp (kb_2_next_word T) (takes_of rfl rfl rfl rfl) (jk_cons (je_v 0) (jk_cons (je_v 1) jk_nil)))) (jb (je_call (ok__law_behind T) (hr.mono (by decide)) T.g__law_behind T.F__law_behind.kp (b__law_behind T) (takes_of rfl rfl rfl rfl) (ja_cons (je_v 0) (ja_cons (je_v 1) ja_nil)))))))))
    (jss_one (js_ret je_bl))
    jss_nil)
    (jss_one (js_ret (je_and (je_call (ok_is_word T) (hr.mono (by decide)) T.g_is_word T.F_is_word.kp (b_is_word T) (takes_of rfl rfl rfl rfl) (ja_cons (je_v 0) ja_nil)) (je_and (je_call (ok_of_stock T) (hr.mono (by decide)) T.g_of_stock T.F_of_stock.kp (b_of_stock T) (takes_of rfl rfl rfl rfl) (ja_cons (je_v 0) (ja_cons (je_v 1) ja_nil))) (je_one (je_call (ok_is_stock T) (hr.mono (by decide)) T.g_is_stock T.F_is_stock.kp (b_is_stock T) (takes_of rfl rfl rfl rfl) (ja_cons (je_v 1) ja_nil))))))))))⟩
def b_f__law_all_right : MS :=
    (mSeq (mPar 2 3 (mCons (mCallK 0 2 [0, 1] (nArg 2 f_words_of) mNil (mCons (mV 0) (mCons (mV 1) mNil))) (mCons (mCall (nArg 2 f__law_listed) (mCons (mV 0) (mCons (mV 1) mNil))) mNil)))
    (mSeq (mIf (mOr (mNotT (mTru (mIsi ["tuple"] (mVB 2)))) (mTst (mBin (oEq true) (mF (mListX (mVB 2))) (mVB 3))))
    (mRet (mC (.bl false)))
    mSkip)
    (mSeq (mIf (mTst (mBin (oEq true) (mF (mComp (mEnum (mVB 3)) (gTu 2 (gsCons (gN 4) (gsCons (gN 5) gsNil))) (mOr (mTst (mBin (oEq true) (mCall (nArg 2 f_word_number) (mCons (mV 5) (mCons (mV 0) mNil))) (mVB 4))) (mTst (mBin (oEq true) (mCall (nArg 2 f_word_at) (mCons (mV 0) (mCons (mV 4) mNil))) (mVB 5)))) (mV 4) [4, 5])) (mLst mNil)))
    (mRet (mC (.bl false)))
    mSkip)
    (mRet (mBin (oEq false) (mF (mComp (mZipX (mCons (mVB 3) (mCons (mSl (mVB 3) (mPart (mC (.int 1))) mNoP) mNil))) (gTu 2 (gsCons (gN 6) (gsCons (gN 7) gsNil))) (mTst (mBin (oEq true) (mCall (nArg 2 f_next_word) (mCons (mV 6) (mCons (mV 0) mNil))) (mVB 7))) (mV 6) [6, 7])) (mLst mNil))))))
def f__law_all_right : List D → List D → R D := runB 8 b_f__law_all_right
theorem ok__law_all_right (T : Txt K mg base a) : FnOk P w0 K mg base (L2.CX P w0) 6 a.d__law_all_right a.fd__law_all_right ["_law_stock_here", "_law_most"] (spF K a.cl a.T 2 f__law_all_right) :=
  ok_fnN (m := b_f__law_all_right) T.F__law_all_right sc__law_all_right rfl rfl (by decide) fun cdv Ax outer s H E ap HP Hs hr => ⟨_, (jss_cons (js_par (i := 2) (j := 3) sc__law_all_right.nd (ja_cons (je_callK0 (ok_words_of T) (hr.mono (by decide)) T.g_words_of T.F_words_of.kp (kb_3_words_of T) (takes_of rfl rfl rfl rfl) (jk_cons (je_v 0) (jk_cons (je_v 1) jk_nil))) (ja_cons (je_call (ok__law_listed T) (hr.mono (by decide)) T.g__law_listed T.F__law_listed.kp (b__law_listed T) (takes_of rfl rfl rfl rfl) (ja_cons (je_v 0) (ja_cons (je_v 1) ja_nil))) ja_nil)))
    (jss_cons (js_if (jt_w (jw_or (jt_not (jt_tru (jb (je_isi "tuple" "tuple" (by decide) T.z_isinstance T.z_tuple (by decide +kernel) (jb_v 2))))) (jw_or1 (jt_c (jc_ne hr (jb (je_f (jf_listX T.z_list (jb_v 2)))) (jb_v 3))))))
    (jss_one (js_ret je_bl))
    jss_nil)
    (jss_cons (js_if (jt_c (jc_ne hr (jb (je_f (jf_comp (own := [("_law_at", 4), ("_law_word", 5)]) sc__law_all_right.nd (jib_enum T.z_enumerate (jb_v 3)) (blkOk_by (N := ["_law_stock_here", "_law_most", "_law_told", "_law_own", "_law_at", "_law_word", "_law_one", "_law_other"]) (sc := defScope s__law_all_right) (own := [("_law_at", 4), ("_law_word", 5)]) (by decide +kernel)) (fun _ _ _ _ _ => (jg_tup (n := 2) (jgs_cons (jg_name (i := 4) sc__law_all_right.nd) (jgs_cons (jg_name (i := 5) sc__law_all_right.nd) jgs_nil)))) (fun _ _ _ _ _ => (jts_one (jt_w (jw_or (jt_c (jc_ne hr (jb (je_call (ok_word_number T) (hr.mono (by decide)) T.g_word_number T.F_word_number.kp (b_word_number T) L2.takes0 (ja_cons (je_v 5) (ja_cons (je_v 0) ja_nil)))) (jb_v 4))) (jw_or1 (jt_c (jc_ne hr (jb (je_call (ok_word_at T) (hr.mono (by decide)) T.g_word_at T.F_word_at.kp (b_word_at T) L2.takes0 (ja_cons (je_v 0) (ja_cons (je_v 4) ja_nil)))) (jb_v 5)))))))) (fun _ _ _ _ _ => (je_v 4))))) (jb (je_lst ja_nil))))
    (jss_one (js_ret je_bl))
    jss_nil)
    (jss_one (js_ret (je_eq hr (jb (je_f (jf_comp (own := [("_law_one", 6), ("_law_other", 7)]) sc__law_all_right.nd (jib_zipX T.z_zip (jab_cons (jb_v 3) (jab_cons (jb (je_sl (jb_v 3) (jo_some je_int) jo_none)) jab_nil))) (blkOk_by (N := ["_law_stock_here", "_law_most", "_law_told", "_law_own", "_law_at", "_law_word", "_law_one", "_law_other"]) (sc := defScope s__law_all_right) (own := [("_law_one", 6), ("_law_other", 7)]) (by decide +kernel)) (fun _ _ _ _ _ => (jg_tup (n := 2) (jgs_cons (jg_name (i := 6) sc__law_all_right.nd) (jgs_cons (jg_name (i := 7) sc__law_all_right.nd) jgs_nil)))) (fun _ _ _ _ _ => (jts_one (jt_c (jc_ne hr (jb (je_call (ok_next_word T) (hr.mono (by decide)) T.g_next_word T.F_next_word.kp (b_next_word T) L2.takes0 (ja_cons (je_v 6) (ja_cons (je_v 0) ja_nil)))) (jb_v 7))))) (fun _ _ _ _ _ => (je_v 6))))) (jb (je_lst ja_nil))))))))⟩
def b_f__law_refused_right : MS :=
    (mSeq (mAsg (gN 2) (mCall (nArg 2 f__law_pick) (mCons (mV 0) (mCons (mLst (mCons (mC .non) (mCons (mC (.int 5)) (mCons (mC (.str [65])) (mCons (mC (.str [97, 45])) (mCons (mBin oMul (mC (.str [97])) (mC (.int 13))) (mCons (mLst (mCons (mC (.str [97])) mNil)) (mCons (mC (.str [97, 32, 98])) (mCons (mC (.str [49])) (mCons (mTup (mCons (mC (.str [97])) mNil)) (mCons (mC (.str [35])) mNil))))))))))) mNil))))
    (mSeq (mAsg (gN 3) (mCall (nArg 2 f__law_pick) (mCons (mV 0) (mCons (mLst (mCons (mC (.str [])) (mCons (mC (.str [98, 97])) (mCons (mC (.str [97, 97])) (mCons (mC (.str [97, 98, 99, 100, 101, 102])) (mCons (mC .non) (mCons (mC (.int 3)) (mCons (mLst (mCons (mC (.str [97])) (mCons (mC (.str [98])) mNil))) (mCons (mC (.str [97, 66])) (mCons (mC (.str [97, 32])) (mCons (mC (.str [45])) mNil))))))))))) mNil))))
    (mSeq (mAsg (gN 4) (mCall (nArg 2 f__law_pick) (mCons (mV 0) (mCons (mLst (mCons (mC .non) (mCons (mC (.bl true)) (mCons (mUn oNeg (mC (.int 1))) (mCons (mC (.str [49])) (mCons (mLst (mCons (mC (.int 1)) mNil)) (mCons (mTup (mCons (mC (.int 0)) mNil)) mNil))))))) mNil))))
    (mSeq (mAsg (gN 5) (mCall (nArg 2 f__law_ahead) (mCons (mBin oMul (mIx (mVB 1) (mUn oNeg (mC (.int 1)))) (mC (.int 12))) (mCons (mV 1) mNil))))
    (mSeq (mAsg (gTu 2 (gsCons (gN 6) (gsCons (gN 7) gsNil))) (mTup (mCons (mCall (nArg 2 f__law_pick) (mCons (mV 0) (mCons (mLst (mCons (mBin oAdd (mVB 5) (mC (.int 1))) (mCons (mBin oPow (mC (.int 10)) (mC (.int 40))) (mCons (mUn oNeg (mC (.int 3))) (mCons (mBin oMul (mVB 5) (mC (.int 2))) mNil))))) mNil))) (mCons (mCall (nArg 2 f__law_pick) (mCons (mV 0) (mCons (mF (mComp (mSeqI (mC (.str [97, 98, 99, 100, 101, 102, 103]))) (gN 8) (mTst (mBin (oIn true) (mVB 8) (mVB 1))) (mV 8) [8])) mNil))) mNil))))
    (mSeq (mIf (mOr (mTru (mCall (nArg 1 f_is_word) (mCons (mV 2) mNil))) (mTru (mCall (nArg 1 f_is_stock) (mCons (mV 3) mNil))))
    (mRet (mC (.bl false)))
    mSkip)
    (mSeq (mSetO 9 (mLstF (mCons (mHeard nC xm hdsL (mCall (nArg 2 f_words_of) (mCons (mV 3) (mCons (mV 4) mNil)))) mNil)))
    (mSeq (mApp 9 (mHeard nC xm hdsL (mCall (nArg 2 f_words_of) (mCons (mV 1) (mCons (mV 4) mNil)))))
    (mSeq (mApp 9 (mHeard nC xm hdsL (mCall (nArg 2 f_words_of) (mCons (mV 1) (mCons (mC (.int 13)) mNil)))))
    (mSeq (mApp 9 (mHeard nC xm hdsL (mCall (nArg 2 f_word_number) (mCons (mV 2) (mCons (mV 3) mNil)))))
    (mSeq (mApp 9 (mHeard nC xm hdsL (mCall (nArg 2 f_word_number) (mCons (mC (.str [])) (mCons (mV 3) mNil)))))
    (mSeq (mApp 9 (mHeard nC xm hdsL (mCall (nArg 2 f_word_number) (mCons (mV 7) (mCons (mV 1) mNil)))))
    (mSeq (mApp 9 (mHeard nC xm hdsL (mCall (nArg 2 f_next_word) (mCons (mV 2) (mCons (mV 3) mNil)))))
    (mSeq (mApp 9 (mHeard nC xm hdsL (mCall (nArg 2 f_next_word) (mCons (mC (.str [])) (mCons (mV 3) mNil)))))
    (mSeq (mApp 9 (mHeard nC xm hdsL (mCall (nArg 2 f_next_word) (mCons (mBin oAdd (mIx (mVB 1) (mC (.int 0))) (mVB 7)) (mCons (mV 1) mNil)))))
    (mSeq (mApp 9 (mHeard nC xm hdsL (mCall (nArg 2 f_word_at) (mCons (mV 3) (mCons (mV 4) mNil)))))
    (mSeq (mApp 9 (mHeard nC xm hdsL (mCall (nArg 2 f_word_at) (mCons (mV 1) (mCons (mV 4) mNil)))))
    (mSeq (mApp 9 (mHeard nC xm hdsL (mCall (nArg 2 f_word_at) (mCons (mV 1) (mCons (mV 6) mNil)))))
    (mSeq (mAsg (gN 10) (mLst (mCons (mTup (mCons (mC (.str [115, 116, 111, 99, 107])) (mCons (mC (.str [115, 116, 111, 99, 107])) mNil))) (mCons (mTup (mCons (mC (.str [110, 117, 109, 98, 101, 114])) (mCons (mC (.str [109, 111, 115, 116])) mNil))) (mCons (mTup (mCons (mC (.str [110, 117, 109, 98, 101, 114])) (mCons (mC (.str [109, 111, 115, 116])) mNil))) (mCons (mTup (mCons (mC (.str [119, 111, 114, 100])) (mCons (mC (.str [119, 111, 114, 100])) mNil))) (mCons (mTup (mCons (mC (.str [115, 116, 111, 99, 107])) (mCons (mC (.str [115, 116, 111, 99, 107])) mNil))) (mCons (mTup (mCons (mC (.str [109, 105, 115, 102, 105, 116])) (mCons (mC (.str [115, 116, 111, 99, 107])) mNil))) mNil))))))))
    (mSeq (mAsg (gN 10) (mBin oAdd (mBin oAdd (mVB 10) (mSl (mVB 10) (mPart (mC (.int 3))) mNoP)) (mLst (mCons (mTup (mCons (mC (.str [115, 116, 111, 99, 107])) (mCons (mC (.str [115, 116, 111, 99, 107])) mNil))) (mCons (mTup (mCons (mC (.str [110, 117, 109, 98, 101, 114])) (mCons (mC (.str [110, 117, 109, 98, 101, 114])) mNil))) (mCons (mTup (mCons (mC (.str [110, 117, 109, 98, 101, 114])) (mCons (mC (.str [110, 117, 109, 98, 101, 114])) mNil))) mNil))))))
    (mRet (mAndV (mBin (oEq false) (mVB 9) (mVB 10)) (mAndV (mBin (oEq false) (mCall (nArg 2 f_word_at) (mCons (mV 1) (mCons (mV 5) mNil))) (mBin oMul (mIx (mVB 1) (mUn oNeg (mC (.int 1)))) (mC (.int 12)))) (mBin (oIs false) (mCall (nArg 2 f_next_word) (mCons (mBin oMul (mIx (mVB 1) (mUn oNeg (mC (.int 1)))) (mC (.int 12))) (mCons (mV 1) mNil))) (mC .non)))))))))))))))))))))))))
def f__law_refused_right : List D → List D → R D := runB 11 b_f__law_refused_right
theorem ok__law_refused_right (T : Txt K mg base a) : FnOk P w0 K mg base (L2.CX P w0) 8 a.d__law_refused_right a.fd__law_refused_right ["_law_well_here", "_law_stock_here"] (spF K a.cl a.T 2 f__law_refused_right) :=
  ok_fnCN (m := b_f__law_refused_right) T.FC__law_refused_right sc__law_refused_right rfl rfl (by decide) fun Ax outer s H E ap HP Hs hr => by
    have LT : LamT (cxOf (L2.CX P w0) P w0 K mg base ["_law_well_here", "_law_stock_here", "_law_odd", "_law_bad", "_law_none", "_law_last", "_law_beyond", "_law_strange", "_law_one", "_law_heard_here", "_law_due"] "_law_refused_right" (defScope s__law_refused_right) a.d__law_refused_right (.ref a.c__law_refused_right) Ax outer s H E) (gh K a.cl a.T ap HP H Hs) a.c__law_refused_right a.p__law_refused_right := by
      refine ⟨T.tb__law_refused_right, rfl, List.mem_cons_self, fun p hp h => ?_⟩
      have hp' : p ∈ a.T := hp
      simp only [A.T, List.mem_cons, List.not_mem_nil, or_false] at hp'
      rcases hp' with rfl | rfl
      · exact rfl
      · exact absurd h.symm T.np__law_refused_right__law_many_right
    exact ⟨_, (jss_cons (js_set (i := 2) sc__law_refused_right.nd (je_call (ok__law_pick T) (hr.mono (by decide)) T.g__law_pick T.F__law_pick.kp (b__law_pick T) (takes_of rfl rfl rfl rfl) (ja_cons (je_v 0) (ja_cons (je_lst (ja_cons je_non (ja_cons je_int (ja_cons (je_str [65]) (ja_cons (je_str [97, 45]) (ja_cons (je_mul (jb (je_str [97])) (jb je_int)) (ja_cons (je_lst (ja_cons (je_str [97]) ja_nil)) (ja_cons (je_str [97, 32, 98]) (ja_cons (je_str [49]) (ja_cons (je_tup (ja_cons (je_str [97]) ja_nil)) (ja_cons (je_str [35]) ja_nil))))))))))) ja_nil))))
    (jss_cons (js_set (i := 3) sc__law_refused_right.nd (je_call (ok__law_pick T) (hr.mono (by decide)) T.g__law_pick T.F__law_pick.kp (b__law_pick T) (takes_of rfl rfl rfl rfl) (ja_cons (je_v 0) (ja_cons (je_lst (ja_cons (je_str []) (ja_cons (je_str [98, 97]) (ja_cons (je_str [97, 97]) (ja_cons (je_str [97, 98, 99, 100, 101, 102]) (ja_cons je_non (ja_cons je_int (ja_cons (je_lst (ja_cons (je_str [97]) (ja_cons (je_str [98]) ja_nil))) (ja_cons (je_str [97, 66]) (ja_cons (je_str [97, 32]) (ja_cons (je_str [45]) ja_nil))))))))))) ja_nil))))
    (jss_cons (js_set (i := 4) sc__law_refused_right.nd (je_call (ok__law_pick T) (hr.mono (by decide)) T.g__law_pick T.F__law_pick.kp (b__law_pick T) (takes_of rfl rfl rfl rfl) (ja_cons (je_v 0) (ja_cons (je_lst (ja_cons je_non (ja_cons je_bl (ja_cons (je_neg je_int) (ja_cons (je_str [49]) (ja_cons (je_lst (ja_cons je_int ja_nil)) (ja_cons (je_tup (ja_cons je_int ja_nil)) ja_nil))))))) ja_nil))))
    (jss_cons (js_set (i := 5) sc__law_refused_right.nd (je_call (ok__law_ahead T) (hr.mono (by decide)) T.g__law_ahead T.F__law_ahead.kp (b__law_ahead T) (takes_of rfl rfl rfl rfl) (ja_cons (je_mul (jb (je_ix (jb_v 1) (jb (je_neg je_int)))) (jb je_int)) (ja_cons (je_v 1) ja_nil))))
    (jss_cons (js_asg (je_tup (ja_cons (je_call (ok__law_pick T) (hr.mono (by decide)) T.g__law_pick T.F__law_pick.kp (b__law_pick T) (takes_of rfl rfl rfl rfl) (ja_cons (je_v 0) (ja_cons (je_lst (ja_cons (je_add (jb_v 5) (jb je_int)) (ja_cons (je_pow (jb je_int) (jb je_int)) (ja_cons (je_neg je_int) (ja_cons (je_mul (jb_v 5) (jb je_int)) ja_nil))))) ja_nil))) (ja_cons (je_call (ok__law_pick T) (hr.mono (by decide)) T.g__law_pick T.F__law_pick.kp (b__law_pick T) (takes_of rfl rfl rfl rfl) (ja_cons (je_v 0) (ja_cons (je_f (jf_comp (own := [("_law_one", 8)]) sc__law_refused_right.nd (jib_seq (jb (je_str [97, 98, 99, 100, 101, 102, 103]))) (blkOk_by (N := ["_law_well_here", "_law_stock_here", "_law_odd", "_law_bad", "_law_none", "_law_last", "_law_beyond", "_law_strange", "_law_one", "_law_heard_here", "_law_due"]) (sc := defScope s__law_refused_right) (own := [("_law_one", 8)]) (by decide +kernel)) (fun _ _ _ _ _ => (jg_name (i := 8) sc__law_refused_right.nd)) (fun _ _ _ _ _ => (jts_one (jt_c (jc_notin hr (jb_v 8) (jb_v 1))))) (fun _ _ _ _ _ => (je_v 8)))) ja_nil))) ja_nil))) (jg_tup (n := 2) (jgs_cons (jg_name (i := 6) sc__law_refused_right.nd) (jgs_cons (jg_name (i := 7) sc__law_refused_right.nd) jgs_nil))))
    (jss_cons (js_if (jt_w (jw_or (jt_tru (jb (je_call (ok_is_word T) (hr.mono (by decide)) T.g_is_word T.F_is_word.kp (b_is_word T) (takes_of rfl rfl rfl rfl) (ja_cons (je_v 2) ja_nil)))) (jw_or1 (jt_tru (jb (je_call (ok_is_stock T) (hr.mono (by decide)) T.g_is_stock T.F_is_stock.kp (b_is_stock T) (takes_of rfl rfl rfl rfl) (ja_cons (je_v 3) ja_nil)))))))
    (jss_one (js_ret je_bl))
    jss_nil)
    (jss_cons (js_setO (i := 9) sc__law_refused_right.nd (jf_lst (ja_cons (je_hd T (k := 4) LT (hr.mono (by decide)) (lamS_by (by decide +kernel)) rfl (fun _ _ _ _ _ => rfl) (fun A2 outer2 s2 H2 E2 f2 c2 hr2 => (je_call (ok_words_of T) (hr2.mono (by decide)) T.g_words_of T.F_words_of.kp (b_words_of T) (takes_of rfl rfl rfl rfl) (ja_cons (je_v 3) (ja_cons (je_v 4) ja_nil))))) ja_nil)))
    (jss_cons (js_app 9 (je_hd T (k := 4) LT (hr.mono (by decide)) (lamS_by (by decide +kernel)) rfl (fun _ _ _ _ _ => rfl) (fun A2 outer2 s2 H2 E2 f2 c2 hr2 => (je_call (ok_words_of T) (hr2.mono (by decide)) T.g_words_of T.F_words_of.kp (b_words_of T) (takes_of rfl rfl rfl rfl) (ja_cons (je_v 1) (ja_cons (je_v 4) ja_nil))))))
    (jss_cons (js_app 9 (je_hd T (k := 4) LT (hr.mono (by decide)) (lamS_by (by decide +kernel)) rfl (fun _ _ _ _ _ => rfl) (fun A2 outer2 s2 H2 E2 f2 c2 hr2 => (je_call (ok_words_of T) (hr2.mono (by decide)) T.g_words_of T.F_words_of.kp (b_words_of T) (takes_of rfl rfl rfl rfl) (ja_cons (je_v 1) (ja_cons je_int ja_nil))))))
    (jss_cons (js_app 9 (je_hd T (k := 5) LT (hr.mono (by decide)) (lamS_by (by decide +kernel)) rfl (fun _ _ _ _ _ => rfl) (fun A2 outer2 s2 H2 E2 f2 c2 hr2 => (je_call (ok_word_number T) (hr2.mono (by decide)) T.g_word_number T.F_word_number.kp (b_word_number T) (takes_of rfl rfl rfl rfl) (ja_cons (je_v 2) (ja_cons (je_v 3) ja_nil))))))
    (jss_cons (js_app 9 (je_hd T (k := 5) LT (hr.mono (by decide)) (lamS_by (by decide +kernel)) rfl (fun _ _ _ _ _ => rfl) (fun A2 outer2 s2 H2 E2 f2 c2 hr2 => (je_call (ok_word_number T) (hr2.mono (by decide)) T.g_word_number T.F_word_number.kp (b_word_number T) (takes_of rfl rfl rfl rfl) (ja_cons (je_str []) (ja_cons (je_v 3) ja_nil))))))
    (jss_cons (js_app 9 (je_hd T (k := 5) LT (hr.mono (by decide)) (lamS_by (by decide +kernel)) rfl (fun _ _ _ _ _ => rfl) (fun A2 outer2 s2 H2 E2 f2 c2 hr2 => (je_call (ok_word_number T) (hr2.mono (by decide)) T.g_word_number T.F_word_number.kp (b_word_number T) (takes_of rfl rfl rfl rfl) (ja_cons (je_v 7) (ja_cons (je_v 1) ja_nil))))))
    (jss_cons (js_app 9 (je_hd T (k := 5) LT (hr.mono (by decide)) (lamS_by (by decide +kernel)) rfl (fun _ _ _ _ _ => rfl) (fun A2 outer2 s2 H2 E2 f2 c2 hr2 => (je_call (ok_next_word T) (hr2.mono (by decide)) T.g_next_word T.F_next_word.kp (b_next_word T) (takes_of rfl rfl rfl rfl) (ja_cons (je_v 2) (ja_cons (je_v 3) ja_nil))))))
    (jss_cons (js_app 9 (je_hd T (k := 5) LT (hr.mono (by decide)) (lamS_by (by decide +kernel)) rfl (fun _ _ _ _ _ => rfl) (fun A2 outer2 s2 H2 E2 f2 c2 hr2 => (je_call (ok_next_word T) (hr2.mono (by decide)) T.g_next_word T.F_next_word.kp (b_next_word T) (takes_of rfl rfl rfl rfl) (ja_cons (je_str []) (ja_cons (je_v 3) ja_nil))))))
    (jss_cons (js_app 9 (je_hd T (k := 5) LT (hr.mono (by decide)) (lamS_by (by decide +kernel)) rfl (fun _ _ _ _ _ => rfl) (fun A2 outer2 s2 H2 E2 f2 c2 hr2 => (je_call (ok_next_word T) (hr2.mono (by decide)) T.g_next_word T.F_next_word.kp (b_next_word T) (takes_of rfl rfl rfl rfl) (ja_cons (je_add (jb (je_ix (jb_v 1) (jb je_int))) (jb_v 7)) (ja_cons (je_v 1) ja_nil))))))
    (jss_cons (js_app 9 (je_hd T (k := 4) LT (hr.mono (by decide)) (lamS_by (by decide +kernel)) rfl (fun _ _ _ _ _ => rfl) (fun A2 outer2 s2 H2 E2 f2 c2 hr2 => (je_call (ok_word_at T) (hr2.mono (by decide)) T.g_word_at T.F_word_at.kp (b_word_at T) (takes_of rfl rfl rfl rfl) (ja_cons (je_v 3) (ja_cons (je_v 4) ja_nil))))))
    (jss_cons (js_app 9 (je_hd T (k := 4) LT (hr.mono (by decide)) (lamS_by (by decide +kernel)) rfl (fun _ _ _ _ _ => rfl) (fun A2 outer2 s2 H2 E2 f2 c2 hr2 => (je_call (ok_word_at T) (hr2.mono (by decide)) T.g_word_at T.F_word_at.kp (b_word_at T) (takes_of rfl rfl rfl rfl) (ja_cons (je_v 1) (ja_cons (je_v 4) ja_nil))))))
    (jss_cons (js_app 9 (je_hd T (k := 4) LT (hr.mono (by decide)) (lamS_by (by decide +kernel)) rfl (fun _ _ _ _ _ => rfl) (fun A2 outer2 s2 H2 E2 f2 c2 hr2 => (je_call (ok_word_at T) (hr2.mono (by decide)) T.g_word_at T.F_word_at.kp (b_word_at T) (takes_of rfl rfl rfl rfl) (ja_cons (je_v 1) (ja_cons (je_v 6) ja_nil))))))
    (jss_cons (js_set (i := 10) sc__law_refused_right.nd (je_lst (ja_cons (je_tup (ja_cons (je_str [115, 116, 111, 99, 107]) (ja_cons (je_str [115, 116, 111, 99, 107]) ja_nil))) (ja_cons (je_tup (ja_cons (je_str [110, 117, 109, 98, 101, 114]) (ja_cons (je_str [109, 111, 115, 116]) ja_nil))) (ja_cons (je_tup (ja_cons (je_str [110, 117, 109, 98, 101, 114]) (ja_cons (je_str [109, 111, 115, 116]) ja_nil))) (ja_cons (je_tup (ja_cons (je_str [119, 111, 114, 100]) (ja_cons (je_str [119, 111, 114, 100]) ja_nil))) (ja_cons (je_tup (ja_cons (je_str [115, 116, 111, 99, 107]) (ja_cons (je_str [115, 116, 111, 99, 107]) ja_nil))) (ja_cons (je_tup (ja_cons (je_str [109, 105, 115, 102, 105, 116]) (ja_cons (je_str [115, 116, 111, 99, 107]) ja_nil))) ja_nil))))))))
    (jss_cons (js_set (i := 10) sc__law_refused_right.nd (je_add (jb (je_add (jb_v 10) (jb (je_sl (jb_v 10) (jo_some je_int) jo_none)))) (jb (je_lst (ja_cons (je_tup (ja_cons (je_str [115, 116, 111, 99, 107]) (ja_cons (je_str [115, 116, 111, 99, 107]) ja_nil))) (ja_cons (je_tup (ja_cons (je_str [110, 117, 109, 98, 101, 114]) (ja_cons (je_str [110, 117, 109, 98, 101, 114]) ja_nil))) (ja_cons (je_tup (ja_cons (je_str [110, 117, 109, 98, 101, 114]) (ja_cons (je_str [110, 117, 109, 98, 101, 114]) ja_nil))) ja_nil)))))))
    (jss_one (js_ret (je_and (je_eq hr (jb_v 9) (jb_v 10)) (je_and (je_eq hr (jb (je_call (ok_word_at T) (hr.mono (by decide)) T.g_word_at T.F_word_at.kp (b_word_at T) (takes_of rfl rfl rfl rfl) (ja_cons (je_v 1) (ja_cons (je_v 5) ja_nil)))) (jb (je_mul (jb (je_ix (jb_v 1) (jb (je_neg je_int)))) (jb je_int)))) (je_one (je_is (jb (je_call (ok_next_word T) (hr.mono (by decide)) T.g_next_word T.F_next_word.kp (b_next_word T) (takes_of rfl rfl rfl rfl) (ja_cons (je_mul (jb (je_ix (jb_v 1) (jb (je_neg je_int)))) (jb je_int)) (ja_cons (je_v 1) ja_nil)))) (jb je_non)))))))))))))))))))))))))))⟩
def b_f__law_many_right : MS :=
    (mSeq (mAsg (gN 1) (mIx (mLst (mCons (mC .non) (mCons (mC .non) (mCons (mC .non) (mCons (mC (.int 10)) (mCons (mC (.int 8)) (mCons (mC (.int 7)) mNil))))))) (mCB fLen (mCons (mVB 0) mNil))))
    (mSeq (mIf (mAnd (mTst (mBin (oIs true) (mVB 1) (mC .non))) (mTst (mBin (oEq true) (mHeard nC xm hdsL (mCall (nArg 2 f_words_of) (mCons (mV 0) (mCons (mV 1) mNil)))) (mTup (mCons (mC (.str [109, 97, 110, 121])) (mCons (mC (.str [119, 111, 114, 100, 115])) (mCons (mC (.int 20000)) mNil)))))))
    (mRet (mC (.bl false)))
    mSkip)
    (mRet (mOrV (mBin (oEq true) (mCB fLen (mCons (mVB 0) mNil)) (mC (.int 4))) (mBin (oEq false) (mCB fLen (mCons (mCall (nArg 2 f_words_of) (mCons (mV 0) (mCons (mC (.int 7)) mNil))) mNil)) (mC (.int 21845)))))))
def f__law_many_right : List D → List D → R D := runB 2 b_f__law_many_right
theorem ok__law_many_right (T : Txt K mg base a) : FnOk P w0 K mg base (L2.CX P w0) 7 a.d__law_many_right a.fd__law_many_right ["_law_stock_here"] (spF K a.cl a.T 1 f__law_many_right) :=
  ok_fnCN (m := b_f__law_many_right) T.FC__law_many_right sc__law_many_right rfl rfl (by decide) fun Ax outer s H E ap HP Hs hr => by
    have LT : LamT (cxOf (L2.CX P w0) P w0 K mg base ["_law_stock_here", "_law_least"] "_law_many_right" (defScope s__law_many_right) a.d__law_many_right (.ref a.c__law_many_right) Ax outer s H E) (gh K a.cl a.T ap HP H Hs) a.c__law_many_right a.p__law_many_right := by
      refine ⟨T.tb__law_many_right, rfl, (List.mem_cons_of_mem _ List.mem_cons_self), fun p hp h => ?_⟩
      have hp' : p ∈ a.T := hp
      simp only [A.T, List.mem_cons, List.not_mem_nil, or_false] at hp'
      rcases hp' with rfl | rfl
      · exact absurd h T.np__law_refused_right__law_many_right
      · exact rfl
    exact ⟨_, (jss_cons (js_set (i := 1) sc__law_many_right.nd (je_ix (jb (je_lst (ja_cons je_non (ja_cons je_non (ja_cons je_non (ja_cons je_int (ja_cons je_int (ja_cons je_int ja_nil)))))))) (jb (je_len T.z_len (jab_cons (jb_v 0) jab_nil)))))
    (jss_cons (js_if (jt_w (jw_and (jt_c (jc_isnot (jb_v 1) (jb je_non))) (jw_and1 (jt_c (jc_ne hr (jb (je_hd T (k := 4) LT (hr.mono (by decide)) (lamS_by (by decide +kernel)) rfl (fun _ _ _ _ _ => rfl) (fun A2 outer2 s2 H2 E2 f2 c2 hr2 => (je_call (ok_words_of T) (hr2.mono (by decide)) T.g_words_of T.F_words_of.kp (b_words_of T) (takes_of rfl rfl rfl rfl) (ja_cons (je_v 0) (ja_cons (je_v 1) ja_nil)))))) (jb (je_tup (ja_cons (je_str [109, 97, 110, 121]) (ja_cons (je_str [119, 111, 114, 100, 115]) (ja_cons je_int ja_nil))))))))))
    (jss_one (js_ret je_bl))
    jss_nil)
    (jss_one (js_ret (je_or (je_ne hr (jb (je_len T.z_len (jab_cons (jb_v 0) jab_nil))) (jb je_int)) (je_one (je_eq hr (jb (je_len T.z_len (jab_cons (jb (je_call (ok_words_of T) (hr.mono (by decide)) T.g_words_of T.F_words_of.kp (b_words_of T) (takes_of rfl rfl rfl rfl) (ja_cons (je_v 0) (ja_cons je_int ja_nil)))) jab_nil))) (jb je_int))))))))⟩
def b_f_law : MS :=
    (mSeq (mFor (gN 2) (mRng1 (mC (.int 3)))
    (mSeq (mAsg (gN 3) (mCall (nArg 2 f__law_stock) (mCons (mV 1) (mCons (mBin oAdd (mC (.int 1)) (mCall (nArg 2 f__law_dip) (mCons (mV 1) (mCons (mC (.int 5)) mNil)))) mNil))))
    (mSeq (mIf (mNotT (mTru (mCall (nArg 2 f__law_all_right) (mCons (mV 3) (mCons (mCall (nArg 2 f__law_dip) (mCons (mV 1) (mCons (mIx (mLst (mCons (mC (.int 0)) (mCons (mC (.int 13)) (mCons (mC (.int 7)) (mCons (mC (.int 5)) (mCons (mC (.int 4)) (mCons (mC (.int 4)) mNil))))))) (mCB fLen (mCons (mVB 3) mNil))) mNil))) mNil)))))
    (mRet (mC (.bl false)))
    mSkip)
    (mSeq (mFor (gN 4) (mRng1 (mC (.int 4)))
    (mSeq (mAsg (gN 5) (mMt fJoin (mC (.str [])) (mCons (mF (mComp (mRng1 (mCall (nArg 2 f__law_dip) (mCons (mV 1) (mCons (mC (.int 13)) mNil)))) (gN 6) mYes (mCall (nArg 2 f__law_pick) (mCons (mV 1) (mCons (mV 3) mNil))) [6])) mNil)))
    (mIf (mOr (mNotT (mTru (mCall (nArg 2 f__law_word_right) (mCons (mV 5) (mCons (mV 3) mNil))))) (mNotT (mTru (mCall (nArg 2 f__law_word_right) (mCons (mBin oAdd (mSl (mVB 5) mNoP (mPart (mC (.int 1)))) (mBin oMul (mIx (mVB 3) (mUn oNeg (mC (.int 1)))) (mCB fLen (mCons (mSl (mVB 5) (mPart (mC (.int 1))) mNoP) mNil)))) (mCons (mV 3) mNil))))))
    (mRet (mC (.bl false)))
    mSkip)))
    (mIf (mNotT (mTru (mCall (nArg 2 f__law_refused_right) (mCons (mV 1) (mCons (mV 3) mNil)))))
    (mRet (mC (.bl false)))
    mSkip)))))
    (mRet (mOrV (mBin (oCmp fGt sGt) (mCall (nArg 2 f__law_dip) (mCons (mV 1) (mCons (mC (.int 4)) mNil))) (mC (.int 0))) (mCall (nArg 1 f__law_many_right) (mCons (mCall (nArg 2 f__law_stock) (mCons (mV 1) (mCons (mBin oAdd (mC (.int 3)) (mCall (nArg 2 f__law_dip) (mCons (mV 1) (mCons (mC (.int 3)) mNil)))) mNil))) mNil)))))
theorem ok_law (T : Txt K mg base a) {Pre : List Int → Prop} (pure_law : ∀ ns, Pre ns → ∃ cells w', f__law_well [.frz (ns.map D.int)] [] = .ok cells [] ∧ b_f_law (.val (.frz (ns.map D.int)) :: .val .pen :: List.replicate 5 .no) cells = .ret (.bl true) w') :
    FnOk P w0 K mg base (L2.CX P w0) 9 a.d_law a.fd_law ["_law_script"] (spLaw K a.T Pre) :=
  FT.ok_law (y := "") (kp := 0) (pm := f__law_well) (mr := b_f_law) T.F_law sc_law (by decide) rfl
    (fun cdv Ax outer s H E hr => ps_set sc_law.nd rfl (by first | exact Or.inl rfl | exact Or.inr rfl) (by exact pe_callS (ok__law_well T) (hr.mono (by decide)) rfl T.g__law_well T.F__law_well.kp (b__law_well T) (fun σ => passAt (takes_of rfl rfl rfl rfl) σ) (pa_cons (pe_var rfl (by first | exact Or.inl rfl | exact Or.inr (Or.inl rfl))) pa_nil)))
    (fun cdv Ax outer s H E ap HP H1 Hs hr => ⟨_, (jss_cons (js_for (passes_of rfl) (ji_rng1 T.z_range je_int) (jg_name (i := 2) sc_law.nd)
    (jss_cons (js_set (i := 3) sc_law.nd (je_call (ok__law_stock T) (hr.mono (by decide)) T.g__law_stock T.F__law_stock.kp (b__law_stock T) (takes_of rfl rfl rfl rfl) (ja_cons (je_v 1) (ja_cons (je_add (jb je_int) (jb (je_call (ok__law_dip T) (hr.mono (by decide)) T.g__law_dip T.F__law_dip.kp (b__law_dip T) (takes_of rfl rfl rfl rfl) (ja_cons (je_v 1) (ja_cons je_int ja_nil))))) ja_nil))))
    (jss_cons (js_if (jt_not (jt_tru (jb (je_call (ok__law_all_right T) (hr.mono (by decide)) T.g__law_all_right T.F__law_all_right.kp (b__law_all_right T) (takes_of rfl rfl rfl rfl) (ja_cons (je_v 3) (ja_cons (je_call (ok__law_dip T) (hr.mono (by decide)) T.g__law_dip T.F__law_dip.kp (b__law_dip T) (takes_of rfl rfl rfl rfl) (ja_cons (je_v 1) (ja_cons (je_ix (jb (je_lst (ja_cons je_int (ja_cons je_int (ja_cons je_int (ja_cons je_int (ja_cons je_int (ja_cons je_int ja_nil)))))))) (jb (je_len T.z_len (jab_cons (jb_v 3) jab_nil)))) ja_nil))) ja_nil))))))
    (jss_one (js_ret je_bl))
    jss_nil)
    (jss_cons (js_for (passes_of rfl) (ji_rng1 T.z_range je_int) (jg_name (i := 4) sc_law.nd)
    (jss_cons (js_set (i := 5) sc_law.nd (je_join (jb (je_str [])) (jab_cons (jb (je_f (jf_comp (own := [("_law_sound", 6)]) sc_law.nd (jib (ji_rng1 T.z_range (je_call (ok__law_dip T) (hr.mono (by decide)) T.g__law_dip T.F__law_dip.kp (b__law_dip T) (takes_of rfl rfl rfl rfl) (ja_cons (je_v 1) (ja_cons je_int ja_nil))))) (blkOk_by (N := ["_law_script", "_law_well_here", "_law_lap", "_law_stock_here", "_law_turn", "_law_word", "_law_sound"]) (sc := defScope s_law) (own := [("_law_sound", 6)]) (by decide +kernel)) (fun _ _ _ _ _ => (jg_name (i := 6) sc_law.nd)) (fun _ _ _ _ _ => jts_nil) (fun _ _ _ _ _ => (je_call (ok__law_pick T) (hr.mono (by decide)) T.g__law_pick T.F__law_pick.kp (b__law_pick T) L2.takes0 (ja_cons (je_v 1) (ja_cons (je_v 3) ja_nil))))))) jab_nil)))
    (jss_one (js_if (jt_w (jw_or (jt_not (jt_tru (jb (je_call (ok__law_word_right T) (hr.mono (by decide)) T.g__law_word_right T.F__law_word_right.kp (b__law_word_right T) (takes_of rfl rfl rfl rfl) (ja_cons (je_v 5) (ja_cons (je_v 3) ja_nil)))))) (jw_or1 (jt_not (jt_tru (jb (je_call (ok__law_word_right T) (hr.mono (by decide)) T.g__law_word_right T.F__law_word_right.kp (b__law_word_right T) (takes_of rfl rfl rfl rfl) (ja_cons (je_add (jb (je_sl (jb_v 5) jo_none (jo_some je_int))) (jb (je_mul (jb (je_ix (jb_v 3) (jb (je_neg je_int)))) (jb (je_len T.z_len (jab_cons (jb (je_sl (jb_v 5) (jo_some je_int) jo_none)) jab_nil)))))) (ja_cons (je_v 3) ja_nil)))))))))
    (jss_one (js_ret je_bl))
    jss_nil))))
    (jss_one (js_if (jt_not (jt_tru (jb (je_call (ok__law_refused_right T) (hr.mono (by decide)) T.g__law_refused_right T.F__law_refused_right.kp (b__law_refused_right T) (takes_of rfl rfl rfl rfl) (ja_cons (je_v 1) (ja_cons (je_v 3) ja_nil))))))
    (jss_one (js_ret je_bl))
    jss_nil))))))
    (jss_one (js_ret (je_or (je_gt (jb (je_call (ok__law_dip T) (hr.mono (by decide)) T.g__law_dip T.F__law_dip.kp (b__law_dip T) (takes_of rfl rfl rfl rfl) (ja_cons (je_v 1) (ja_cons je_int ja_nil)))) (jb je_int)) (je_one (je_call (ok__law_many_right T) (hr.mono (by decide)) T.g__law_many_right T.F__law_many_right.kp (b__law_many_right T) (takes_of rfl rfl rfl rfl) (ja_cons (je_call (ok__law_stock T) (hr.mono (by decide)) T.g__law_stock T.F__law_stock.kp (b__law_stock T) (takes_of rfl rfl rfl rfl) (ja_cons (je_v 1) (ja_cons (je_add (jb je_int) (jb (je_call (ok__law_dip T) (hr.mono (by decide)) T.g__law_dip T.F__law_dip.kp (b__law_dip T) (takes_of rfl rfl rfl rfl) (ja_cons (je_v 1) (ja_cons je_int ja_nil))))) ja_nil))) ja_nil)))))))⟩) pure_law
end
end K04
end
section
set_option Elab.async false
set_option linter.all false
set_option maxRecDepth 100000
set_option maxHeartbeats 4000000
namespace K04
open PySem PySem.Spec PyProof.Rows L2 FT
def Well (n : Nat) (w : List D) : Prop := ∃ (cells : List Int) (k : Nat) (rest : Int), w = [.lst (cells.map D.int), .int k, .int rest] ∧ cells.length ≤ 60 ∧ k ≤ n ∧ 0 ≤ rest
def dipCell : MS := mIf (mTst (mBin (oEq true) (mIx (mVB 0) (mC (.int 0))) (mLst mNil)))
    (mAsg (gN 4) (mIx (mIx (mVB 0) (mC (.int 0))) (mBin oMod (mCB fInt (mCons (mVB 3) mNil)) (mCB fLen (mCons (mIx (mVB 0) (mC (.int 0))) mNil)))))
    mSkip
def dipMix : MS := mSeq (mAsg (gN 5) (mBin oMod (mCB fInt (mCons (mBin oPow (mBin oAdd (mBin oAdd (mBin oMod (mCB fInt (mCons (mVB 4) mNil)) (mC (.int 2147483579))) (mBin oMul (mC (.int 73459)) (mVB 3))) (mC (.int 4657))) (mC (.int 5))) mNil)) (mC (.int 2147483549))))
    (mSeq (mAsg (gN 5) (mBin oMod (mCB fInt (mCons (mBin oPow (mBin oAdd (mBin oAdd (mBin oMul (mVB 5) (mBin oAdd (mBin oMul (mC (.int 2)) (mVB 3)) (mC (.int 2699)))) (mBin oMul (mBin oMul (mC (.int 62039)) (mVB 3)) (mVB 3))) (mC (.int 90173))) (mC (.int 3))) mNil)) (mC (.int 2147483629))))
    (mRet (mBin oMod (mCB fInt (mCons (mBin oDiv (mVB 5) (mC (.int 64))) mNil)) (mVB 1))))
def dipBig : MS := mIf (mAnd (mTst (mBin (oCmp fLt sLt) (mVB 3) (mCB fLen (mCons (mIx (mVB 0) (mC (.int 0))) mNil)))) (mTst (mBin (oCmp fGe sGe) (mCB fAbs (mCons (mVB 4) mNil)) (mBin oPow (mC (.int 10)) (mC (.int 18))))))
    (mSeq (mAsg (gN 2) (mBin oSub (mCB fAbs (mCons (mVB 4) mNil)) (mBin oPow (mC (.int 10)) (mC (.int 18)))))
    (mSeq (mSetI 0 (mC (.int 2)) (mBin oDiv (mCB fInt (mCons (mVB 2) mNil)) (mVB 1)))
    (mRet (mBin oMod (mCB fInt (mCons (mVB 2) mNil)) (mVB 1)))))
    mSkip
def dipHead (r : MS) : MS := mSeq (mIf (mTst (mBin (oCmp fGt sGt) (mIx (mVB 0) (mC (.int 2))) (mC (.int 0))))
    (mSeq (mAsg (gN 2) (mCB fInt (mCons (mIx (mVB 0) (mC (.int 2))) mNil)))
    (mSeq (mSetI 0 (mC (.int 2)) (mBin oDiv (mVB 2) (mVB 1)))
    (mRet (mBin oMod (mCB fInt (mCons (mVB 2) mNil)) (mVB 1)))))
    mSkip)
    (mSeq (mAsg (gN 3) (mIx (mVB 0) (mC (.int 1))))
    (mSeq (mSetI 0 (mC (.int 1)) (mBin oAdd (mVB 3) (mC (.int 1))))
    (mSeq (mAsg (gN 4) (mBin oAdd (mBin oMul (mC (.int 62039)) (mVB 3)) (mC (.int 4657)))) r)))
theorem dip_split : b_f__law_dip = dipHead (mSeq dipCell (mSeq dipBig dipMix)) := rfl
theorem ev_cell (m k : Int) (kn : Nat) (hk : k = kn) (c0 : Int) (cells : List Int) (rest k1 : Int) : ∃ c : Int, dipCell [.val .pen, .val (.int m), .no, .val (.int k), .val (.int c0), .no] [.lst (cells.map D.int), .int k1, .int rest] = .nx [.val .pen, .val (.int m), .no, .val (.int k), .val (.int c), .no] [.lst (cells.map D.int), .int k1, .int rest] := by
  subst hk
  cases cells with
  | nil => exact ⟨c0, by simp [dipCell, oIx, atI, ixN, oEq, dep, eqD, eqL]⟩
  | cons z zs =>
    have hl : kn % (zs.length + 1) < (z :: zs).length := Nat.mod_lt _ (Nat.succ_pos _)
    refine ⟨(z :: zs)[kn % (zs.length + 1)], ?_⟩
    have e1 : ((kn : Int) % ((zs.length : Int) + 1)) = ((kn % (zs.length + 1) : Nat) : Int) := by simp
    have e2 : (D.int z :: zs.map D.int)[kn % (zs.length + 1)]? = some (D.int (z :: zs)[kn % (zs.length + 1)]) := by
      rw [← List.map_cons, List.getElem?_map, List.getElem?_eq_getElem hl]; rfl
    have e3 : (kn : Int) % ((zs.length : Int) + 1) < (zs.length : Int) + 1 := Int.emod_lt_of_pos _ (by omega)
    have e4 : (0 : Int) < (zs.length : Int) + 1 := by omega
    have e5 : (0 : Int) ≤ (kn : Int) % ((zs.length : Int) + 1) := Int.emod_nonneg _ (by omega)
    have e6 : ((kn : Int) % ((zs.length : Int) + 1)).toNat = kn % (zs.length + 1) := by rw [e1]; rfl
    simp [dipCell, oIx, atI, ixN, oEq, dep, eqD, eqL, fInt, fLen, oMod, oInt, e4, e2, e3, e5, e6]
theorem ev_mix (m k c : Int) (h0 : 0 < m) (hk0 : 0 ≤ k) (hk : k < 10000) (r2 : SV) (r5 : SV) (w : List D) : ∃ (r : Int), dipMix [.val .pen, .val (.int m), r2, .val (.int k), .val (.int c), r5] w = .ret (.int r) w ∧ 0 ≤ r ∧ r < m := by
  have b1 : 0 ≤ c % 2147483579 := Int.emod_nonneg _ (by omega)
  have b2 : c % 2147483579 < 2147483579 := Int.emod_lt_of_pos _ (by omega)
  have p1 : cPow (c % 2147483579 + 73459 * k + 4657) 5 = true := by
    unfold cPow
    simp only [Bool.and_eq_true, decide_eq_true_eq]
    omega
  generalize hx1 : (c % 2147483579 + 73459 * k + 4657) ^ 5 % 2147483549 = x1
  have b3 : 0 ≤ x1 := by rw [← hx1]; exact Int.emod_nonneg _ (by omega)
  have b4 : x1 < 2147483549 := by rw [← hx1]; exact Int.emod_lt_of_pos _ (by omega)
  have q1 : 0 ≤ x1 * (2 * k + 2699) := Int.mul_nonneg b3 (by omega)
  have q2 : x1 * (2 * k + 2699) ≤ 2147483549 * 22699 := Int.mul_le_mul (by omega) (by omega) (by omega) (by omega)
  have q3 : 0 ≤ 62039 * k * k := Int.mul_nonneg (by omega) hk0
  have q4 : 62039 * k * k ≤ 620390000 * 10000 := Int.mul_le_mul (by omega) (by omega) hk0 (by omega)
  have p2 : cPow (x1 * (2 * k + 2699) + 62039 * k * k + 90173) 3 = true := by
    unfold cPow
    simp only [Bool.and_eq_true, decide_eq_true_eq]
    omega
  refine ⟨((x1 * (2 * k + 2699) + 62039 * k * k + 90173) ^ 3 % 2147483629 / 64) % m, ?_, Int.emod_nonneg _ (by omega), Int.emod_lt_of_pos _ h0⟩
  have g1 : -18446744073709551616 < x1 := by omega
  have g2 : x1 < 18446744073709551616 := by omega
  have g3 : -18446744073709551616 < k := by omega
  have g4 : k < 18446744073709551616 := by omega
  have hx1' := hx1
  simp [dipMix, oMod, oInt, oPow, oAdd, oMul, fInt, p1, p2, hx1, g1, g2, g3, g4, oDiv, cDiv, h0]
theorem ev_big (m k c : Int) (h0 : 0 < m) (h1 : m < 1073741824) (cells : List Int) (rest k1 : Int) : dipBig [.val .pen, .val (.int m), .no, .val (.int k), .val (.int c), .no] [.lst (cells.map D.int), .int k1, .int rest] = .nx [.val .pen, .val (.int m), .no, .val (.int k), .val (.int c), .no] [.lst (cells.map D.int), .int k1, .int rest] ∨
    ∃ r rest', dipBig [.val .pen, .val (.int m), .no, .val (.int k), .val (.int c), .no] [.lst (cells.map D.int), .int k1, .int rest] = .ret (.int r) [.lst (cells.map D.int), .int k1, .int rest'] ∧ 0 ≤ r ∧ r < m ∧ 0 ≤ rest' := by
  by_cases hk : k < cells.length
  · generalize ha : (if c < 0 then -c else c) = a
    by_cases hb : 1000000000000000000 ≤ a
    · refine .inr ⟨(a - 1000000000000000000) % m, (a - 1000000000000000000) / m, ?_, Int.emod_nonneg _ (by omega), Int.emod_lt_of_pos _ h0, Int.ediv_nonneg (by omega) (by omega)⟩
      have e : ¬ a < 1000000000000000000 := by omega
      simp [dipBig, oIx, atI, ixN, oCmp, fLen, hk, fAbs, ha, oPow, oInt, cPow, oSub, fInt, oDiv, cDiv, h0, h1, flat, oMod, hb, e]
    · refine .inl ?_
      have e : a < 1000000000000000000 := by omega
      simp [dipBig, oIx, atI, ixN, oCmp, fLen, hk, fAbs, ha, oPow, oInt, cPow, oSub, fInt, oDiv, cDiv, h0, h1, flat, oMod, hb, e]
  · refine .inl ?_
    simp [dipBig, oIx, atI, ixN, oCmp, fLen, hk]
theorem ev_dip {n : Nat} {w : List D} {m : Int} (h : Well n w) (hn : n < 10000) (h0 : 0 < m) (h1 : m < 1073741824) : ∃ r w', f__law_dip [.pen, .int m] w = .ok (.int r) w' ∧ 0 ≤ r ∧ r < m ∧ Well (n + 1) w' := by
  obtain ⟨cells, k, rest, rfl, hc, hk, hr⟩ := h
  by_cases hp : rest > 0
  · refine ⟨rest % m, [.lst (cells.map D.int), .int k, .int (rest / m)], ?_, Int.emod_nonneg _ (by omega), Int.emod_lt_of_pos _ h0, ⟨cells, k, _, rfl, hc, by omega, Int.ediv_nonneg hr (by omega)⟩⟩
    simp [f__law_dip, dip_split, dipHead, s_runB, sd0, oIx, atI, ixN, oCmp, fGt, hp, fInt, oDiv, oInt, cDiv, h0, h1, flat, oMod]
  · obtain ⟨c, e1⟩ := ev_cell m k k rfl (62039 * k + 4657) cells rest (k + 1)
    rcases ev_big m k c h0 h1 cells rest (k + 1) with e2 | ⟨r, rest', e2, b1, b2, b3⟩
    · obtain ⟨r, e3, b1, b2⟩ := ev_mix m k c h0 (by omega) (by omega) .no .no [.lst (cells.map D.int), .int (k + 1), .int rest]
      refine ⟨r, _, ?_, b1, b2, ⟨cells, k + 1, rest, rfl, hc, by omega, hr⟩⟩
      simp [f__law_dip, dip_split, dipHead, s_runB, sd0, oIx, atI, ixN, oCmp, fGt, hp, oAdd, oMul, flat, e1, e2, e3]
    · refine ⟨r, _, ?_, b1, b2, ⟨cells, k + 1, rest', rfl, hc, by omega, b3⟩⟩
      simp [f__law_dip, dip_split, dipHead, s_runB, sd0, oIx, atI, ixN, oCmp, fGt, hp, oAdd, oMul, flat, e1, e2]
theorem ev_pick {n : Nat} {w : List D} {d : D} {ds : List D} (h : Well n w) (hn : n < 10000) (hd : d = .lst ds ∨ ∃ s : List Nat, d = .str s ∧ ds = s.map fun c => D.str [c]) (h0 : 0 < ds.length) (h1 : ds.length < 1073741824) : ∃ r w', f__law_pick [.pen, d] w = .ok r w' ∧ r ∈ ds ∧ Well (n + 1) w' := by
  obtain ⟨r, w', e, b1, b2, W⟩ := ev_dip (m := ds.length) h hn (by omega) (by omega)
  have hr : r.toNat < ds.length := by omega
  have e4 : r < (ds.length : Int) := b2
  rcases hd with rfl | ⟨s, rfl, rfl⟩
  · refine ⟨ds[r.toNat], w', ?_, List.getElem_mem _, W⟩
    simp [f__law_pick, b_f__law_pick, s_runB, sd0, fLen, e, oIx, atI, ixN, b1, e4, List.getElem?_eq_getElem hr]
  · rw [List.length_map] at *
    refine ⟨.str [s[r.toNat]], w', ?_, List.mem_map.mpr ⟨_, List.getElem_mem _, rfl⟩, W⟩
    simp [f__law_pick, b_f__law_pick, s_runB, sd0, fLen, e, oIx, atI, ixN, b1, e4, List.getElem?_eq_getElem hr]
end K04
end
section
set_option Elab.async false
set_option linter.all false
set_option maxRecDepth 100000
set_option maxHeartbeats 4000000
namespace K04
open PySem PySem.Spec PyProof.Rows L2 FT
abbrev LET : List Nat := [97, 98, 99, 100, 101, 102, 103, 104, 105, 106, 107, 108, 109, 110, 111, 112, 113, 114, 115, 116, 117, 118, 119, 120, 121, 122]
structure Stock (st : List Nat) : Prop where
  srt : st.Pairwise (· < ·)
  let_ : ∀ c ∈ st, 97 ≤ c ∧ c ≤ 122
  pos : 1 ≤ st.length
  few : st.length ≤ 5
theorem let_at : ∀ j < 26, LET[j]? = some (97 + j) := by decide
theorem dInts_str {ns : List (List Nat)} (h : ns ≠ []) : dInts (ns.map D.str) = none := by
  cases ns with
  | nil => exact absurd rfl h
  | cons a r => rfl
theorem dStrs_map : ∀ ns : List (List Nat), dStrs (ns.map D.str) = some ns
  | [] => rfl
  | a :: r => by
    have := dStrs_map r
    simp only [List.map_cons, dStrs, this, Option.map_some]
theorem joinD_nil : ∀ xs : List (List Nat), joinD [] xs = xs.flatten
  | [] => rfl
  | [x] => by simp [joinD]
  | x :: y :: r => by simp [joinD, joinD_nil (y :: r)]
theorem singles {ns : List (List Nat)} (h : ∀ x ∈ ns, ∃ c, x = [c]) : ∃ cs : List Nat, ns = cs.map fun c => [c] := by
  induction ns with
  | nil => exact ⟨[], rfl⟩
  | cons a r ih =>
    obtain ⟨c, rfl⟩ := h a List.mem_cons_self
    obtain ⟨cs, rfl⟩ := ih fun x hx => h x (List.mem_cons_of_mem _ hx)
    exact ⟨c :: cs, rfl⟩
theorem flat_single : ∀ cs : List Nat, (cs.map fun c => [c]).flatten = cs
  | [] => rfl
  | c :: cs => by simp [flat_single cs]
theorem sum_single : ∀ cs : List Nat, ((cs.map fun c => [c]).map List.length).sum = cs.length
  | [] => rfl
  | c :: cs => by
    have := sum_single cs
    simp only [List.map_cons, List.sum_cons, List.length_cons, this, List.length_nil]
    omega
/-- the letters, sorted -/
theorem sorted_of {cs : List Nat} (hn : cs.Nodup) (hne : cs ≠ []) : ∃ st : List Nat, st.Perm cs ∧ st.Pairwise (· < ·) ∧ fSort ((cs.map fun c => [c]).map D.str) = some ((st.map fun c => [c]).map D.str) := by
  have hp := List.mergeSort_perm cs (fun a b : Nat => decide (a ≤ b))
  have hs : (cs.mergeSort (fun a b : Nat => decide (a ≤ b))).Pairwise (· ≤ ·) := by
    have := List.pairwise_mergeSort (le := fun a b : Nat => decide (a ≤ b)) (fun a b c h1 h2 => decide_eq_true (Nat.le_trans (of_decide_eq_true h1) (of_decide_eq_true h2))) (fun a b => by
      rcases Nat.le_total a b with h | h
      · simp [h]
      · simp [h]) cs
    exact this.imp fun h => of_decide_eq_true h
  generalize cs.mergeSort (fun a b : Nat => decide (a ≤ b)) = st at hp hs
  have hn' : st.Nodup := hp.nodup_iff.mpr hn
  have hlt : st.Pairwise (· < ·) := (hs.and hn').imp fun h => Nat.lt_of_le_of_ne h.1 h.2
  refine ⟨st, hp, hlt, ?_⟩
  have e := sortS_of (ns := cs.map fun c => [c]) (ms := st.map fun c => [c]) (hp.map _) (List.pairwise_map.mpr (hlt.imp fun {a b} h => List.not_lt.mp fun q => by
    cases q with
    | rel h2 => omega
    | cons h2 => cases h2))
  unfold fSort
  rw [dInts_str (by simpa using hne), dStrs_map]
  show some ((sortS _).map D.str) = _
  rw [← e]
theorem stride_nd (b : Nat) (s : Nat) (hs : s ∈ [1, 3, 5, 7, 9, 11, 15]) (m : Nat) (hm : m < 6) : ((List.range m).map fun i => 97 + (b + s * i) % 26).Nodup := by
  refine List.pairwise_map.mpr (List.Pairwise.imp_of_mem (fun {i j} hi hj hij => ?_) (List.pairwise_lt_range (n := m)))
  have h1 := List.mem_range.mp hi
  have h2 := List.mem_range.mp hj
  simp only [List.mem_cons, List.not_mem_nil, or_false] at hs
  rcases hs with rfl | rfl | rfl | rfl | rfl | rfl | rfl <;> omega
theorem mul_small (a b : Int) (h1 : -100000000000 < a) (h2 : a < 100000000000) : oMul (.int a) (.int b) = some (.int (a * b)) := by
  have g1 : -18446744073709551616 < a := by omega
  have g2 : a < 18446744073709551616 := by omega
  simp [oMul, g1, g2]
theorem mul_small2 (a b : Int) (h1 : -100000000000 < b) (h2 : b < 100000000000) : oMul (.int a) (.int b) = some (.int (a * b)) := by
  have g1 : -18446744073709551616 < b := by omega
  have g2 : b < 18446744073709551616 := by omega
  simp [oMul, g1, g2]
theorem t1 (bn sn i m : Nat) (hsn' : sn ≤ 15) (w2 : List D) : (mIx (mVB 2) (mBin oMod (mBin oAdd (mVB 3) (mBin oMul (mVB 4) (mVB 5))) (mC (.int 26)))) [.val .pen, .val (.int m), .val (.str LET), .val (.int bn), .val (.int sn), .val (.int i)] w2 = .ok (.str [97 + (bn + sn * i) % 26]) w2 := by
  have e3 : ((bn : Int) + sn * (i : Int)) % 26 = (((bn + sn * i) % 26 : Nat) : Int) := by simp
  have e9 : oMul (.int sn) (.int i) = some (.int (sn * i)) := by
    exact mul_small _ _ (by omega) (by omega)
  have e10 : oMod (.int (bn + sn * i)) (.int 26) = some (.int (((bn + sn * i) % 26 : Nat) : Int)) := by
    simp [oMod, oInt]
  have hj : (bn + sn * i) % 26 < 26 := Nat.mod_lt _ (by decide)
  generalize (bn + sn * i) % 26 = j at *
  have e11 : oIx w2 (.str LET) (.int (j : Int)) = some (.str [97 + j]) := by
    have e7 := let_at j hj
    have e5 : (j : Int) < 26 := by omega
    have e12 : ixN LET.length (j : Int) = some j := by
      unfold ixN
      rw [if_pos (by omega), if_pos (by exact e5)]; rfl
    simp only [oIx, atI, e12, Option.bind_some, e7, Option.map_some]
  simp [oAdd, e9, e10, e11]
theorem ev_stock {n : Nat} {w : List D} {m : Nat} (h : Well n w) (hn : n < 9000) (h0 : 0 < m) (h1 : m ≤ 5) : ∃ st w', f__law_stock [.pen, .int m] w = .ok (.str st) w' ∧ Stock st ∧ st.length = m ∧ Well (n + 2) w' := by
  obtain ⟨b, w1, e1, b1, b2, W1⟩ := ev_dip (m := 26) h (by omega) (by omega) (by omega)
  obtain ⟨s, w2, e2, b3, W2⟩ := ev_pick (d := .lst [.int 1, .int 3, .int 5, .int 7, .int 9, .int 11, .int 15]) W1 (by omega) (.inl rfl) (by simp) (by simp)
  obtain ⟨sn, hs, rfl⟩ : ∃ sn ∈ [1, 3, 5, 7, 9, 11, 15], s = .int ((sn : Nat) : Int) := by
    simp only [List.mem_cons, List.not_mem_nil, or_false] at b3
    rcases b3 with rfl | rfl | rfl | rfl | rfl | rfl | rfl
    · exact ⟨1, by decide, rfl⟩
    · exact ⟨3, by decide, rfl⟩
    · exact ⟨5, by decide, rfl⟩
    · exact ⟨7, by decide, rfl⟩
    · exact ⟨9, by decide, rfl⟩
    · exact ⟨11, by decide, rfl⟩
    · exact ⟨15, by decide, rfl⟩
  obtain ⟨bn, rfl⟩ : ∃ bn : Nat, b = bn := ⟨b.toNat, by omega⟩
  have hb : bn < 26 := by omega
  obtain ⟨st, hp, hlt, hf⟩ := sorted_of (stride_nd bn sn hs m (by omega)) (by
    intro q
    have := congrArg List.length q
    simp at this
    omega)
  have hlen : st.length = m := by rw [hp.length_eq]; simp
  refine ⟨st, w2, ?_, ⟨hlt, fun c hc => ?_, by omega, by omega⟩, hlen, W2⟩
  · have hc : compL (gN 5) mYes (mIx (mVB 2) (mBin oMod (mBin oAdd (mVB 3) (mBin oMul (mVB 4) (mVB 5))) (mC (.int 26)))) [.val .pen, .val (.int m), .val (.str LET), .val (.int bn), .val (.int sn), .no] (rngD 0 m) w2 = some ((rngD 0 m).map (fun d => match d with | .int i => .str [97 + (bn + sn * i.toNat) % 26] | _ => .non), w2) := by
      refine compL_map _ _ fun d hd => ?_
      unfold rngD at hd
      obtain ⟨i, hi, rfl⟩ := List.mem_map.mp hd
      refine ⟨_, rfl, ?_⟩
      have hsn : sn ≤ 15 := by revert hs; simp; omega
      have q := t1 bn sn i m hsn w2
      simpa using q
    have hr : (rngD 0 m).map (fun d => match d with | .int i => D.str [97 + (bn + sn * i.toNat) % 26] | _ => .non) = (((List.range m).map fun i => 97 + (bn + sn * i) % 26).map fun c => [c]).map D.str := by
      unfold rngD
      simp [List.map_map, Function.comp_def]
    rw [hr] at hc
    have hj : dStrs ((st.map fun c => [c]).map D.str) = some (st.map fun c => [c]) := dStrs_map _
    have hml : m ≤ 16777216 := by omega
    have hsum := sum_single st
    have hj2 : joinD [] (st.map fun c => [c]) = st := by rw [joinD_nil, flat_single]
    have r1 : -4611686018427387904 ≤ (m : Int) := by omega
    have r2 : (m : Int) < 4611686018427387904 := by omega
    have rl : (rngD 0 m).length ≤ 16777216 := by unfold rngD; simp; omega
    have hc' : compL (gN 5) mYes (mIx (mVB 2) (mBin oMod (mBin oAdd (mVB 3) (mBin oMul (mVB 4) (mVB 5))) (mC (.int 26)))) [.val .pen, .val (.int m), .val (.str LET), .val (.int bn), .val (.int sn), .no] (rngD 0 m) w2 = some ((((List.range m).map fun i => 97 + (bn + sn * i) % 26).map fun c => [c]).map D.str, w2) := hc
    generalize (((List.range m).map fun i => 97 + (bn + sn * i) % 26).map fun c => [c]).map D.str = src at hc' hf
    have hsum' : ((st.map fun c => [c]).map List.length).sum + (st.map fun c => [c]).length * ([] : List Nat).length ≤ 16777216 := by
      rw [hsum]; simp; omega
    have hfj : fJoin [] [.lst ((st.map fun c => [c]).map D.str)] = some (.str st) := by
      unfold fJoin
      simp only [hj]
      rw [if_pos hsum', hj2]
    generalize (st.map fun c => [c]).map D.str = es at *
    simp [f__law_stock, b_f__law_stock, s_runB, sd0, e1, e2, r1, r2, rl, hc', hf, hfj]
  · have := hp.mem_iff.mp hc
    obtain ⟨i, _, rfl⟩ := List.mem_map.mp this
    have := Nat.mod_lt (bn + sn * i) (show 0 < 26 by decide)
    omega
end K04
end
section
set_option Elab.async false
set_option linter.all false
set_option maxRecDepth 100000
set_option maxHeartbeats 4000000
namespace K04
open PySem PySem.Spec PyProof.Rows L2 FT
theorem bools_map : ∀ bs : List Bool, bools (bs.map D.bl) = some bs
  | [] => rfl
  | b :: bs => by
    have := bools_map bs
    simp only [List.map_cons, bools, this, Option.map_some]
/-- all([c in t for c in s]) -/
theorem comp_in {i : Nat} {t : ME D} {sdv : SD} {w : List D} (tt : List Nat) (s : List Nat) (hi : i < sdv.length) (ht : ∀ d, t (sdv.set i (.val d)) w = .ok (.str tt) w) :
    compL (gN i) mYes (mBin (oIn false) (mVB i) t) sdv (s.map fun c => D.str [c]) w = some ((s.map fun c => decide (c ∈ tt)).map D.bl, w) := by
  rw [compL_map (fun d => match d with | .str [c] => .bl (decide (c ∈ tt)) | _ => .non) _ fun d hd => ?_]
  · simp [List.map_map, Function.comp_def]
  · obtain ⟨c, _, rfl⟩ := List.mem_map.mp hd
    refine ⟨_, rfl, ?_⟩
    simp [hi, ht, oIn]
def wordB (s : List Nat) : Bool := decide (s.length ≤ 12) && s.all fun c => decide (c ∈ LET)
theorem all_map_id {α : Type} (f : α → Bool) : ∀ l : List α, (l.map f).all id = l.all f
  | [] => rfl
  | a :: l => by simp [all_map_id f l]
theorem ev_is_word_str (s : List Nat) (hs : s.length ≤ 16777216) (w : List D) : f_is_word [.str s] w = .ok (.bl (wordB s)) w := by
  have hc := comp_in (i := 1) (t := mC (.str LET)) (sdv := [.val (.str s), .no]) (w := w) LET s (by simp) (fun d => rfl)
  have hfa : fAll w [.lst ((s.map fun c => decide (c ∈ LET)).map D.bl)] = some (.bl (s.all fun c => decide (c ∈ LET))) := by
    show Option.map _ (bools _) = _
    rw [bools_map, Option.map_some, all_map_id]
  unfold wordB
  generalize (s.map fun c => decide (c ∈ LET)).map D.bl = l at hc hfa
  generalize (s.all fun c => decide (c ∈ LET)) = b at hfa
  by_cases h : s.length ≤ 12
  · have h' : (s.length : Int) ≤ 12 := by omega
    simp [f_is_word, b_f_is_word, s_runB, sd0, tyN, isiB, fLen, oCmp, fLe, h', items, hs, hc, hfa, h]
  · have h' : ¬ (s.length : Int) ≤ 12 := by omega
    simp [f_is_word, b_f_is_word, s_runB, sd0, tyN, isiB, fLen, oCmp, fLe, h', h]
/-- what is no text -/
def noStr : D → Bool
  | .non => true
  | .bl _ => true
  | .int _ => true
  | .lst _ => true
  | .tup _ => true
  | _ => false
theorem ev_is_word_no (d : D) (hd : noStr d = true) (w : List D) : f_is_word [d] w = .ok (.bl false) w := by
  match d, hd with
  | .non, _ => simp [f_is_word, b_f_is_word, s_runB, sd0, tyN, isiB]
  | .bl _, _ => simp [f_is_word, b_f_is_word, s_runB, sd0, tyN, isiB]
  | .int _, _ => simp [f_is_word, b_f_is_word, s_runB, sd0, tyN, isiB]
  | .lst _, _ => simp [f_is_word, b_f_is_word, s_runB, sd0, tyN, isiB]
  | .tup _, _ => simp [f_is_word, b_f_is_word, s_runB, sd0, tyN, isiB]
theorem ev_of_stock (s st : List Nat) (hs : s.length ≤ 16777216) (w : List D) : f_of_stock [.str s, .str st] w = .ok (.bl (s.all fun c => decide (c ∈ st))) w := by
  have hc := comp_in (i := 2) (t := mVB 1) (sdv := [.val (.str s), .val (.str st), .no]) (w := w) st s (by simp) (fun d => by simp)
  have hfa : fAll w [.lst ((s.map fun c => decide (c ∈ st)).map D.bl)] = some (.bl (s.all fun c => decide (c ∈ st))) := by
    show Option.map _ (bools _) = _
    rw [bools_map, Option.map_some, all_map_id]
  generalize (s.map fun c => decide (c ∈ st)).map D.bl = l at hc hfa
  generalize (s.all fun c => decide (c ∈ st)) = b at hfa
  simp [f_of_stock, b_f_of_stock, s_runB, sd0, items, hs, hc, hfa]
/-- the number of a word -/
def numN (st s : List Nat) : Nat := s.foldl (fun n c => n * st.length + st.idxOf c + 1) 0
theorem ev_number_in (s st : List Nat) (hst : st.length ≤ 5) (hw : ∀ c ∈ s, c ∈ st) (w : List D) : f_number_in [.str s, .str st] w = .ok (.int (numN st s)) w := by
  have hl := forL_fold (g := gN 3) (w := w) (body := (mAsg (gN 2) (mBin oAdd (mBin oAdd (mBin oMul (mVB 2) (mCB fLen (mCons (mVB 1) mNil))) (mMt fIndex (mVB 1) (mCons (mVB 3) mNil))) (mC (.int 1)))))
    (fun a : Nat × SV => [.val (.str s), .val (.str st), .val (.int a.1), a.2]) (fun a d => match d with
      | .str [c] => (a.1 * st.length + st.idxOf c + 1, .val d)
      | _ => a) (s.map fun c => D.str [c]) (0, .no) (fun d hd a => by
        obtain ⟨c, hc, rfl⟩ := List.mem_map.mp hd
        refine ⟨_, rfl, ?_⟩
        have e1 : oMul (.int a.1) (.int st.length) = some (.int (a.1 * st.length)) := mul_small2 _ _ (by omega) (by omega)
        have e2 : c ∈ st := hw c hc
        simp [fLen, e1, fIndex, e2, oAdd])
  have hf : ∀ (l : List Nat) (a : Nat × SV), ((l.map fun c => D.str [c]).foldl (fun (a : Nat × SV) (d : D) => match d with
      | .str [c] => (a.1 * st.length + st.idxOf c + 1, SV.val d)
      | _ => a) a).1 = l.foldl (fun n c => n * st.length + st.idxOf c + 1) a.1 := by
    intro l
    induction l with
    | nil => intro a; rfl
    | cons c l ih => intro a; exact ih _
  have hf0 := hf s (0, .no)
  generalize ((s.map fun c => D.str [c]).foldl _ _) = r at hl hf0
  obtain ⟨r1, r2⟩ := r
  have h00 : ((0 : Nat) : Int) = 0 := rfl
  simp only [h00] at hf0 hl
  rw [show numN st s = r1 from hf0.symm]
  simp [f_number_in, b_f_number_in, s_runB, sd0, items, hl]
end K04
end
section
set_option Elab.async false
set_option linter.all false
set_option maxRecDepth 100000
set_option maxHeartbeats 4000000
namespace K04
open PySem PySem.Spec PyProof.Rows L2 FT
theorem ev_last_word {st : List Nat} {c : Nat} (hc : st[st.length - 1]? = some c) (h1 : 1 ≤ st.length) (w : List D) : f_last_word [.str st] w = .ok (.str (List.replicate 12 c)) w := by
  have e1 : atI st (-1) = some c := by
    unfold atI ixN
    rw [if_neg (by decide), if_pos (by omega)]
    show st[((-1 : Int) + st.length).toNat]? = _
    rw [show ((-1 : Int) + st.length).toNat = st.length - 1 by omega]
    exact hc
  have e2 : oMul (.str [c]) (.int 12) = some (.str (List.replicate 12 c)) := rfl
  simp [f_last_word, b_f_last_word, s_runB, sd0, oNeg, oIx, e1, e2]
theorem ev_many_with (st : List Nat) (m : Nat) (hst : st.length ≤ 5) (hm : m ≤ 13) (w : List D) : f_many_with [.str st, .int m] w = .ok (.int ((st.length ^ m : Nat) : Int)) w := by
  have hl := forL_fold (g := gN 3) (w := w) (body := (mAsg (gN 2) (mBin oMul (mVB 2) (mCB fLen (mCons (mVB 0) mNil)))))
    (fun a : Nat × SV => [.val (.str st), .val (.int m), .val (.int a.1), a.2]) (fun a d => (a.1 * st.length, .val d)) (rngD 0 m) (1, .no) (fun d hd a => by
        refine ⟨_, rfl, ?_⟩
        have e1 : oMul (.int a.1) (.int st.length) = some (.int (a.1 * st.length)) := mul_small2 _ _ (by omega) (by omega)
        simp [fLen, e1])
  have hf : ∀ (l : List D) (a : Nat × SV), (l.foldl (fun (a : Nat × SV) (d : D) => (a.1 * st.length, SV.val d)) a).1 = a.1 * st.length ^ l.length := by
    intro l
    induction l with
    | nil => intro a; simp
    | cons c l ih => intro a; rw [List.foldl_cons, ih, List.length_cons, Nat.pow_succ']; simp [Nat.mul_assoc]
  have hf0 := hf (rngD 0 m) (1, .no)
  have hlen : (rngD 0 (m : Int)).length = m := by unfold rngD; simp
  have r1 : -4611686018427387904 ≤ (m : Int) := by omega
  have r2 : (m : Int) < 4611686018427387904 := by omega
  rw [hlen, Nat.one_mul] at hf0
  generalize ((rngD 0 (m : Int)).foldl _ _) = r at hl hf0
  obtain ⟨x1, x2⟩ := r
  have h00 : ((1 : Nat) : Int) = 1 := rfl
  simp only [h00] at hf0 hl
  rw [← hf0]
  simp [f_many_with, b_f_many_with, s_runB, sd0, r1, r2, hl]
theorem zip_lt : ∀ (a b : List Nat), zipD (a.map fun c => D.str [c]) (b.map fun c => D.str [c]) = (a.zip b).map fun p => D.tup [.str [p.1], .str [p.2]]
  | [], _ => by simp [zipD]
  | _ :: _, [] => by simp [zipD]
  | x :: a, y :: b => by simp [zipD, zip_lt a b]
theorem adj_of_pw : ∀ {l : List Nat}, l.Pairwise (· < ·) → (l.zip (l.drop 1)).all (fun p => decide (p.1 < p.2)) = true
  | [], _ => rfl
  | [a], _ => rfl
  | a :: b :: r, h => by
    have h' := List.pairwise_cons.mp h
    have := adj_of_pw h'.2
    simp only [List.drop_succ_cons, List.drop_zero, List.zip_cons_cons, List.all_cons, Bool.and_eq_true, decide_eq_true_eq] at this ⊢
    exact ⟨h'.1 b List.mem_cons_self, this⟩
def stockB (s : List Nat) : Bool := decide (1 ≤ s.length) && decide (s.length ≤ 5) && s.all (fun c => decide (c ∈ LET)) && (s.zip (s.drop 1)).all fun p => decide (p.1 < p.2)
theorem zip_take (s : List Nat) : (s.take (s.length - 1)).zip (s.drop 1) = s.zip (s.drop 1) := by
  apply List.ext_getElem?
  intro i
  simp only [List.getElem?_zip_eq_some, List.zip, List.getElem?_zipWith, List.getElem?_take, List.getElem?_drop]
  by_cases h : i < s.length - 1
  · rw [if_pos h]
  · rw [if_neg h, show s[1 + i]? = none from List.getElem?_eq_none (by omega)]
    cases s[i]? <;> rfl
theorem ev_is_stock_str (s : List Nat) (hs : s.length ≤ 16777216) (w : List D) : f_is_stock [.str s] w = .ok (.bl (stockB s)) w := by
  have hc := comp_in (i := 1) (t := mC (.str LET)) (sdv := [.val (.str s), .no, .no, .no]) (w := w) LET s (by simp) (fun d => rfl)
  have hfa : fAll w [.lst ((s.map fun c => decide (c ∈ LET)).map D.bl)] = some (.bl (s.all fun c => decide (c ∈ LET))) := by
    show Option.map _ (bools _) = _
    rw [bools_map, Option.map_some, all_map_id]
  have hz : fZipX [.str (FT.cutD s none (some (-1))), .str (FT.cutD s (some 1) none)] = some ((s.zip (s.drop 1)).map fun p => D.tup [.str [p.1], .str [p.2]]) := by
    have c1 : FT.cutD s none (some (-1)) = s.take (s.length - 1) := by
      show (s.drop 0).take (((-1 : Int) + s.length).toNat - 0) = _
      rw [List.drop_zero, show ((-1 : Int) + s.length).toNat - 0 = s.length - 1 by omega]
    have c2 : FT.cutD s (some 1) none = s.drop 1 := by
      show (s.drop (min 1 s.length)).take (s.length - min 1 s.length) = _
      rw [List.take_of_length_le (by rw [List.length_drop]; omega)]
      cases s with
      | nil => rfl
      | cons a r => rw [show min 1 (a :: r).length = 1 by simp]
    rw [c1, c2]
    show some (zipD _ _) = _
    rw [zip_lt, zip_take]
  have hc2 : compL (gTu 2 (gsCons (gN 2) (gsCons (gN 3) gsNil))) mYes (mBin (oCmp fLt sLt) (mVB 2) (mVB 3)) [.val (.str s), .no, .no, .no] ((s.zip (s.drop 1)).map fun p => D.tup [.str [p.1], .str [p.2]]) w = some (((s.zip (s.drop 1)).map fun p => decide (p.1 < p.2)).map D.bl, w) := by
    rw [compL_map (fun d => match d with | .tup [.str [a], .str [b]] => .bl (decide (a < b)) | _ => .non) _ fun d hd => ?_]
    · simp [List.map_map, Function.comp_def]
    · obtain ⟨p, _, rfl⟩ := List.mem_map.mp hd
      refine ⟨_, rfl, ?_⟩
      have : decide ([p.1] < [p.2]) = decide (p.1 < p.2) := by
        congr 1
        simp [List.cons_lt_cons_iff]
      simp [oCmp, sLt, this]
  have hfa2 : fAll w [.lst (((s.zip (s.drop 1)).map fun p => decide (p.1 < p.2)).map D.bl)] = some (.bl ((s.zip (s.drop 1)).all fun p => decide (p.1 < p.2))) := by
    show Option.map _ (bools _) = _
    rw [bools_map, Option.map_some, all_map_id]
  have hzl : ((s.zip (s.drop 1)).map fun p => D.tup [.str [p.1], .str [p.2]]).length ≤ 16777216 := by simp; omega
  unfold stockB
  generalize (s.map fun c => decide (c ∈ LET)).map D.bl = l at hc hfa
  generalize (s.all fun c => decide (c ∈ LET)) = b at hfa
  generalize ((s.zip (s.drop 1)).map fun p => decide (p.1 < p.2)).map D.bl = l2 at hc2 hfa2
  generalize ((s.zip (s.drop 1)).all fun p => decide (p.1 < p.2)) = b2 at hfa2
  generalize ((s.zip (s.drop 1)).map fun p => D.tup [.str [p.1], .str [p.2]]) = zz at hz hc2 hzl
  by_cases h1 : 1 ≤ s.length
  · have h1' : (1 : Int) ≤ s.length := by omega
    by_cases h5 : s.length ≤ 5
    · have h5' : (s.length : Int) ≤ 5 := by omega
      cases b with
      | true => simp [f_is_stock, b_f_is_stock, s_runB, sd0, tyN, isiB, truthD, oCmp, fLe, fLen, h1', h5', items, hs, hc, hfa, oSl, oNeg, hz, hc2, hzl, hfa2, h1, h5]
      | false => simp [f_is_stock, b_f_is_stock, s_runB, sd0, tyN, isiB, truthD, oCmp, fLe, fLen, h1', h5', items, hs, hc, hfa, h1, h5]
    · have h5' : ¬ (s.length : Int) ≤ 5 := by omega
      simp [f_is_stock, b_f_is_stock, s_runB, sd0, tyN, isiB, truthD, oCmp, fLe, fLen, h1', h5', h1, h5]
  · have h1' : ¬ (1 : Int) ≤ s.length := by omega
    simp [f_is_stock, b_f_is_stock, s_runB, sd0, tyN, isiB, truthD, oCmp, fLe, fLen, h1', h1]
end K04
end
section
set_option Elab.async false
set_option linter.all false
set_option maxRecDepth 100000
set_option maxHeartbeats 4000000
namespace K04
open PySem PySem.Spec PyProof.Rows L2 FT
theorem ev_is_stock_no (d : D) (hd : noStr d = true) (w : List D) : f_is_stock [d] w = .ok (.bl false) w := by
  match d, hd with
  | .non, _ => simp [f_is_stock, b_f_is_stock, s_runB, sd0, tyN, isiB, truthD]
  | .bl _, _ => simp [f_is_stock, b_f_is_stock, s_runB, sd0, tyN, isiB, truthD]
  | .int _, _ => simp [f_is_stock, b_f_is_stock, s_runB, sd0, tyN, isiB, truthD]
  | .lst _, _ => simp [f_is_stock, b_f_is_stock, s_runB, sd0, tyN, isiB, truthD]
  | .tup _, _ => simp [f_is_stock, b_f_is_stock, s_runB, sd0, tyN, isiB, truthD]
/-- of any value -/
def wordD : D → Bool
  | .str s => wordB s
  | _ => false
def stockD : D → Bool
  | .str s => stockB s
  | _ => false
def okD : D → Bool
  | .str s => decide (s.length ≤ 16777216)
  | d => noStr d
theorem ev_is_word (d : D) (h : okD d = true) (w : List D) : f_is_word [d] w = .ok (.bl (wordD d)) w := by
  match d, h with
  | .str s, h => exact ev_is_word_str s (of_decide_eq_true h) w
  | .non, _ => exact ev_is_word_no .non rfl w
  | .bl x, _ => exact ev_is_word_no (.bl x) rfl w
  | .int x, _ => exact ev_is_word_no (.int x) rfl w
  | .lst x, _ => exact ev_is_word_no (.lst x) rfl w
  | .tup x, _ => exact ev_is_word_no (.tup x) rfl w
theorem ev_is_stock (d : D) (h : okD d = true) (w : List D) : f_is_stock [d] w = .ok (.bl (stockD d)) w := by
  match d, h with
  | .str s, h => exact ev_is_stock_str s (of_decide_eq_true h) w
  | .non, _ => exact ev_is_stock_no .non rfl w
  | .bl x, _ => exact ev_is_stock_no (.bl x) rfl w
  | .int x, _ => exact ev_is_stock_no (.int x) rfl w
  | .lst x, _ => exact ev_is_stock_no (.lst x) rfl w
  | .tup x, _ => exact ev_is_stock_no (.tup x) rfl w
theorem ev_need_word (d p : D) (h : okD d = true) (w : List D) : f_need_word [d, p] w = if wordD d = true then .ok .non w else .exc 0 ["part"] [p] w := by
  have e := ev_is_word d h w
  cases hw : wordD d <;> rw [hw] at e <;> simp [f_need_word, b_f_need_word, s_runB, sd0, e, truthD]
theorem ev_need_stock (d p : D) (h : okD d = true) (w : List D) : f_need_stock [d, p] w = if stockD d = true then .ok .non w else .exc 1 ["part"] [p] w := by
  have e := ev_is_stock d h w
  cases hw : stockD d <;> rw [hw] at e <;> simp [f_need_stock, b_f_need_stock, s_runB, sd0, e, truthD]
theorem Stock.ok {st : List Nat} (S : Stock st) : stockD (.str st) = true ∧ okD (.str st) = true := by
  have h := S.few
  have h1 := S.pos
  have h2 : st.all (fun c => decide (c ∈ LET)) = true := List.all_eq_true.mpr fun c hc => by
    obtain ⟨a, b⟩ := S.let_ c hc
    have : ∀ j < 26, 97 + j ∈ LET := by decide
    have q := this (c - 97) (by omega)
    rw [show 97 + (c - 97) = c by omega] at q
    exact decide_eq_true q
  refine ⟨?_, decide_eq_true (by omega)⟩
  show stockB st = true
  unfold stockB
  rw [h2, adj_of_pw S.srt]
  simp [h, h1]
end K04
end
section
set_option Elab.async false
set_option linter.all false
set_option maxRecDepth 100000
set_option maxHeartbeats 4000000
namespace K04
open PySem PySem.Spec PyProof.Rows L2 FT
abbrev sWord : List Nat := [119, 111, 114, 100]
abbrev sStock : List Nat := [115, 116, 111, 99, 107]
/-- what a word of a stock must be: the first fault -/
theorem ev_need_word_of_ok (s st : List Nat) (hs : wordB s = true) (S : Stock st) (hw : ∀ c ∈ s, c ∈ st) (w : List D) : f_need_word_of [.str s, .str st] w = .ok .non w := by
  have hl : s.length ≤ 16777216 := by
    have := (Bool.and_eq_true_iff.mp hs).1
    have := of_decide_eq_true this
    omega
  have e1 := ev_need_word (.str s) (.str sWord) (decide_eq_true hl) w
  have e2 := ev_need_stock (.str st) (.str sStock) S.ok.2 w
  have e3 := ev_of_stock s st hl w
  rw [if_pos (show wordD (.str s) = true from hs)] at e1
  rw [if_pos S.ok.1] at e2
  rw [show (s.all fun c => decide (c ∈ st)) = true from List.all_eq_true.mpr fun c hc => decide_eq_true (hw c hc)] at e3
  simp [f_need_word_of, b_f_need_word_of, s_runB, sd0, e1, e2, e3, truthD]
theorem ev_word_number_ok (s st : List Nat) (hs : wordB s = true) (S : Stock st) (hw : ∀ c ∈ s, c ∈ st) (w : List D) : f_word_number [.str s, .str st] w = .ok (.int (numN st s)) w := by
  have e1 := ev_need_word_of_ok s st hs S hw w
  have e2 := ev_number_in s st S.few hw w
  simp [f_word_number, b_f_word_number, s_runB, sd0, e1, e2]
end K04
end
section
set_option Elab.async false
set_option linter.all false
set_option maxRecDepth 100000
set_option maxHeartbeats 4000000
namespace K04
open PySem PySem.Spec PyProof.Rows L2 FT
/-! ### words in a row: plain lists -/
def WW (st : List Nat) : Nat → List (List Nat)
  | 0 => [[]]
  | n + 1 => (WW st n).flatMap fun w => st.map fun c => w ++ [c]
def UU (st : List Nat) : Nat → List (List Nat)
  | 0 => [[]]
  | n + 1 => UU st n ++ WW st (n + 1)
theorem ww_succ (st : List Nat) (n : Nat) : WW st (n + 1) = (WW st n).flatMap fun w => st.map fun c => w ++ [c] := rfl
theorem uu_succ (st : List Nat) (n : Nat) : UU st (n + 1) = UU st n ++ WW st (n + 1) := rfl
theorem snoc_ind {P : List Nat → Prop} (nil : P []) (append_singleton : ∀ s c, P s → P (s ++ [c])) (s : List Nat) : P s := by
  rw [← List.reverse_reverse s]
  generalize s.reverse = r
  induction r with
  | nil => exact nil
  | cons a r ih => rw [List.reverse_cons]; exact append_singleton _ _ ih
theorem ww_len (st : List Nat) : ∀ n, (WW st n).length = st.length ^ n
  | 0 => rfl
  | n + 1 => by
    simp only [WW, List.length_flatMap, List.length_map]
    have : ((WW st n).map fun _ => st.length).sum = (WW st n).length * st.length := by
      generalize WW st n = l
      induction l with
      | nil => simp
      | cons a l ih => simp [ih, Nat.succ_mul, Nat.add_comm]
    rw [this, ww_len st n, Nat.pow_succ]
theorem mem_ww {st : List Nat} : ∀ {n : Nat} {s : List Nat}, s ∈ WW st n → s.length = n ∧ ∀ c ∈ s, c ∈ st
  | 0, s, h => by
    simp [WW] at h; subst h; simp
  | n + 1, s, h => by
    simp only [WW, List.mem_flatMap, List.mem_map] at h
    obtain ⟨a, ha, c, hc, rfl⟩ := h
    obtain ⟨h1, h2⟩ := mem_ww ha
    refine ⟨by simp [h1], fun x hx => ?_⟩
    rcases List.mem_append.mp hx with hx | hx
    · exact h2 x hx
    · rw [List.mem_singleton.mp hx]; exact hc
theorem mem_uu {st : List Nat} : ∀ {n : Nat} {s : List Nat}, s ∈ UU st n → s.length ≤ n ∧ ∀ c ∈ s, c ∈ st
  | 0, s, h => by
    simp [UU] at h; subst h; simp
  | n + 1, s, h => by
    rcases List.mem_append.mp h with h | h
    · have := mem_uu h; exact ⟨by omega, this.2⟩
    · have := mem_ww h; exact ⟨by omega, this.2⟩
/-- the same from the other end -/
theorem ww_cons (st : List Nat) : ∀ n, WW st (n + 1) = st.flatMap fun c => (WW st n).map fun w => c :: w
  | 0 => by
    simp only [WW, List.flatMap_cons, List.flatMap_nil, List.append_nil, List.nil_append, List.map_cons, List.map_nil]
    induction st with
    | nil => rfl
    | cons a l ih => simp [List.flatMap_cons, ih]
  | n + 1 => by
    rw [ww_succ st (n + 1), ww_cons st n]
    rw [List.flatMap_assoc]
    congr 1
    funext c
    rw [List.flatMap_map, ← ww_cons st n, ww_succ st n, List.map_flatMap]
    congr 1
    funext w
    simp
theorem ww_sorted {st : List Nat} (h : st.Pairwise (· < ·)) : ∀ n, (WW st n).Pairwise (· ≤ ·)
  | 0 => by simp [WW]
  | n + 1 => by
    rw [ww_cons]
    rw [List.pairwise_flatMap]
    refine ⟨fun a _ => ?_, h.imp fun {a b} hab => ?_⟩
    · rw [List.pairwise_map]
      exact (ww_sorted h n).imp fun {x y} hxy => List.not_lt.mp fun q => by
        cases q with
        | rel h2 => omega
        | cons h2 => exact absurd h2 (List.not_lt.mpr hxy)
    · intro x hx y hy
      obtain ⟨x', _, rfl⟩ := List.mem_map.mp hx
      obtain ⟨y', _, rfl⟩ := List.mem_map.mp hy
      exact List.not_lt.mp fun q => by
        cases q with
        | rel h2 => omega
        | cons h2 => omega
/-! ### numbers -/
theorem numN_snoc (st s : List Nat) (c : Nat) : numN st (s ++ [c]) = numN st s * st.length + st.idxOf c + 1 := by
  unfold numN; rw [List.foldl_append]; rfl
def off (k : Nat) : Nat → Nat
  | 0 => 0
  | n + 1 => off k n * k + 1
theorem off_succ (k n : Nat) : off k (n + 1) = off k n * k + 1 := rfl
theorem off_pow (k : Nat) : ∀ n, off k (n + 1) = off k n + k ^ n
  | 0 => by simp [off]
  | n + 1 => by
    rw [off_succ, off_pow k n, Nat.pow_succ, Nat.add_mul, ← off_pow k n, off_succ]
    omega
theorem idx_self {st : List Nat} (h : st.Nodup) : st.map (fun c => st.idxOf c) = List.range st.length := by
  apply List.ext_getElem
  · simp
  · intro i h1 h2
    simp only [List.length_map] at h1
    rw [List.getElem_map, List.getElem_range, h.idxOf_getElem]
theorem range_block (k : Nat) : ∀ (N a : Nat), (List.range' a N).flatMap (fun x => List.range' (x * k + 1) k) = List.range' (a * k + 1) (N * k)
  | 0, a => by simp
  | N + 1, a => by
    rw [List.range'_succ, List.flatMap_cons, range_block k N (a + 1), Nat.add_mul, Nat.one_mul, show a * k + k + 1 = a * k + 1 + k by omega,
      show (N + 1) * k = k + N * k by rw [Nat.add_mul, Nat.one_mul]; omega]
    exact List.range'_append_1 ..
theorem ww_num {st : List Nat} (h : st.Nodup) : ∀ n, (WW st n).map (numN st) = List.range' (off st.length n) (st.length ^ n)
  | 0 => rfl
  | n + 1 => by
    rw [ww_succ, List.map_flatMap, off_succ, Nat.pow_succ, ← range_block, ← ww_num h n, List.flatMap_map]
    congr 1
    funext w
    rw [List.map_map, List.range'_eq_map_range]
    rw [← idx_self h, List.map_map]
    refine List.map_congr_left fun c _ => ?_
    simp only [Function.comp_apply, numN_snoc]
    omega
theorem uu_num {st : List Nat} (h : st.Nodup) : ∀ n, (UU st n).map (numN st) = List.range (off st.length (n + 1))
  | 0 => by simp [UU, off, numN]
  | n + 1 => by
    rw [uu_succ, List.map_append, uu_num h n, ww_num h (n + 1), off_pow st.length (n + 1), List.range_eq_range', List.range_eq_range']
    have := List.range'_append_1 (s := 0) (m := off st.length (n + 1)) (n := st.length ^ (n + 1))
    rw [Nat.zero_add] at this
    exact this
theorem uu_len {st : List Nat} (h : st.Nodup) (n : Nat) : (UU st n).length = off st.length (n + 1) := by
  have := congrArg List.length (uu_num h n)
  simpa using this
theorem uu_num_at {st : List Nat} (h : st.Nodup) {n i : Nat} {s : List Nat} (e : (UU st n)[i]? = some s) : numN st s = i := by
  have := congrArg (·[i]?) (uu_num h n)
  simp only [List.getElem?_map, e, Option.map_some] at this
  have hi : i < (UU st n).length := by
    rcases List.getElem?_eq_some_iff.mp e with ⟨hi, _⟩; exact hi
  rw [uu_len h] at hi
  rw [List.getElem?_range hi] at this
  exact Option.some.inj this
/-- the last word -/
theorem num_le_rep {st : List Nat} {l : Nat} (hl : st.idxOf l = st.length - 1) (h1 : 1 ≤ st.length) : ∀ (s : List Nat), (∀ c ∈ s, c ∈ st) → numN st s ≤ numN st (List.replicate s.length l) := by
  intro s
  induction s using snoc_ind with
  | nil => intro _; simp
  | append_singleton s c ih =>
    intro h
    have i1 := ih fun x hx => h x (List.mem_append_left _ hx)
    have i2 : st.idxOf c < st.length := List.idxOf_lt_length_of_mem (h c (by simp))
    rw [List.length_append, List.length_singleton, List.replicate_succ', numN_snoc, numN_snoc, hl]
    have := Nat.mul_le_mul_right st.length i1
    omega
theorem num_rep_mono {st : List Nat} (l : Nat) (h1 : 1 ≤ st.length) (n : Nat) : numN st (List.replicate n l) < numN st (List.replicate (n + 1) l) := by
  rw [List.replicate_succ', numN_snoc]
  have := Nat.le_mul_of_pos_right (numN st (List.replicate n l)) h1
  omega
theorem num_le_last {st : List Nat} {l : Nat} (hl : st.idxOf l = st.length - 1) (h1 : 1 ≤ st.length) {s : List Nat} (h : ∀ c ∈ s, c ∈ st) {n : Nat} (hn : s.length ≤ n) : numN st s ≤ numN st (List.replicate n l) := by
  have := num_le_rep hl h1 s h
  obtain ⟨d, rfl⟩ := Nat.exists_eq_add_of_le hn
  clear hn
  induction d with
  | zero => exact this
  | succ d ih => exact Nat.le_of_lt (Nat.lt_of_le_of_lt ih (num_rep_mono l h1 _))
/-- carrying -/
theorem num_carry {st : List Nat} {l f : Nat} (hl : st.idxOf l = st.length - 1) (hf : st.idxOf f = 0) (h1 : 1 ≤ st.length) {x y : List Nat} (h : numN st y = numN st x + 1) : ∀ j, numN st (y ++ List.replicate j f) = numN st (x ++ List.replicate j l) + 1
  | 0 => by simpa using h
  | j + 1 => by
    rw [List.replicate_succ', List.replicate_succ', ← List.append_assoc, ← List.append_assoc, numN_snoc, numN_snoc, num_carry hl hf h1 h j, hl, hf, Nat.add_mul]
    omega
end K04
end
section
set_option Elab.async false
set_option linter.all false
set_option maxRecDepth 100000
set_option maxHeartbeats 4000000
namespace K04
open PySem PySem.Spec PyProof.Rows L2 FT
@[simp] theorem s_outR_bad : outR .bad = .bad := (rfl)
theorem oEq_ss (neg : Bool) (x y : List Nat) : oEq neg (.str x) (.str y) = some (.bl (if neg then !(x == y) else x == y)) := (rfl)
theorem oEq_ii (neg : Bool) (x y : Int) : oEq neg (.int x) (.int y) = some (.bl (if neg then !(x == y) else x == y)) := (rfl)
theorem oEq_ns (neg : Bool) (x : List Nat) : oEq neg .non (.str x) = some (.bl (if neg then true else false)) := by cases neg <;> exact (rfl)
theorem oEq_sn (neg : Bool) (x : List Nat) : oEq neg (.str x) .non = some (.bl (if neg then true else false)) := by cases neg <;> exact (rfl)
theorem oEq_nn (neg : Bool) : oEq neg .non .non = some (.bl (if neg then false else true)) := by cases neg <;> exact (rfl)
theorem wh_step {mt : ME Bool} {body : MS} {n : Nat} {sd sd2 : SD} {w : List D} (h1 : mt sd w = .ok true w) (h2 : body sd w = .nx sd2 w) : whileL mt body (n + 1) sd w = whileL mt body n sd2 w := by
  simp only [whileL, h1, s_eb_ok, if_true, h2]
theorem wh_end {mt : ME Bool} {body : MS} {n : Nat} {sd : SD} {w : List D} (h1 : mt sd w = .ok false w) : whileL mt body (n + 1) sd w = .nx sd w := by
  simp only [whileL, h1, s_eb_ok, Bool.false_eq_true, if_false]
theorem at_nat (st : List Nat) (i c : Nat) (h : st[i]? = some c) : atI st ((i : Nat) : Int) = some c := by
  obtain ⟨hi, _⟩ := List.getElem?_eq_some_iff.mp h
  unfold atI ixN
  rw [if_pos (by omega), if_pos (by omega)]
  exact h
def bodyW : MS := (mSeq (mAsg (gN 2) (mBin oAdd (mIx (mVB 0) (mBin oMod (mBin oSub (mVB 3) (mC (.int 1))) (mCB fLen (mCons (mVB 0) mNil)))) (mVB 2)))
    (mAsg (gN 3) (mBin oDiv (mBin oSub (mVB 3) (mC (.int 1))) (mCB fLen (mCons (mVB 0) mNil)))))
def testW : ME Bool := (mTst (mBin (oCmp fGt sGt) (mVB 3) (mC (.int 0))))
theorem ww_body {st : List Nat} {N i c : Nat} {x : SV} {acc : List Nat} (hi : st[i]? = some c) (hk : st.length ≤ 5) (ha : acc.length ≤ 1000) (w : List D) :
    bodyW [.val (.str st), x, .val (.str acc), .val (.int ((N * st.length + i + 1 : Nat) : Int))] w = .nx [.val (.str st), x, .val (.str (c :: acc)), .val (.int (N : Nat))] w := by
  obtain ⟨hi2, _⟩ := List.getElem?_eq_some_iff.mp hi
  have h0 : (0 : Int) < st.length := by omega
  have h1 : (st.length : Int) < 1073741824 := by omega
  have m1 : (N * st.length + i) % st.length = i := by rw [Nat.mul_comm, Nat.mul_add_mod, Nat.mod_eq_of_lt hi2]
  have m2 : (N * st.length + i) / st.length = N := by rw [Nat.mul_comm, Nat.mul_add_div (by omega), Nat.div_eq_of_lt hi2, Nat.add_zero]
  generalize N * st.length + i = p at m1 m2
  have e1 : (((p + 1 : Nat) : Int) - 1) = (p : Int) := by omega
  have e2 : oMod (.int (p : Int)) (.int (st.length : Int)) = some (.int (i : Nat)) := by
    have : (p : Int) % (st.length : Int) = (i : Nat) := by rw [← Int.natCast_emod, m1]
    simp only [oMod, oInt, h0, this, decide_true, if_true]
  have e3 : oDiv (.int (p : Int)) (.int (st.length : Int)) = some (.int (N : Nat)) := by
    have : (p : Int) / (st.length : Int) = (N : Nat) := by rw [← Int.natCast_ediv, m2]
    simp only [oDiv, oInt, cDiv, h0, h1, this, decide_true, Bool.and_self, if_true]
  have e4 : oSub (.int ((p + 1 : Nat) : Int)) (.int 1) = some (.int p) := by
    simp only [oSub, oInt, if_true, e1]
  have e5 := at_nat st i c hi
  have e6 : 1 + acc.length ≤ 16777216 := by omega
  generalize ((p + 1 : Nat) : Int) = q at e4
  simp [bodyW, e4, fLen, e2, e3, oIx, e5, oAdd, oStr, e6]
theorem get_idx {st : List Nat} {c : Nat} (h : c ∈ st) : st[st.idxOf c]? = some c := by
  rw [List.getElem?_eq_getElem (List.idxOf_lt_length_of_mem h), List.getElem_idxOf]
theorem ww_loop {st : List Nat} (hk : st.length ≤ 5) (x : SV) (w : List D) : ∀ (s : List Nat), (∀ c ∈ s, c ∈ st) → ∀ (acc : List Nat) (n : Nat), s.length + acc.length ≤ 1000 → s.length < n →
    whileL testW bodyW n [.val (.str st), x, .val (.str acc), .val (.int (numN st s))] w = .nx [.val (.str st), x, .val (.str (s ++ acc)), .val (.int 0)] w := by
  intro s
  induction s using snoc_ind with
  | nil =>
    intro _ acc n _ hn
    obtain ⟨m, rfl⟩ : ∃ m, n = m + 1 := ⟨n - 1, by simp at hn; omega⟩
    exact wh_end (by simp [testW, oCmp, fGt, numN])
  | append_singleton s c ih =>
    intro h acc n ha hn
    rw [List.length_append, List.length_singleton] at ha hn
    obtain ⟨m, rfl⟩ : ∃ m, n = m + 1 := ⟨n - 1, by omega⟩
    have hc := get_idx (h c (by simp))
    rw [numN_snoc]
    have t : testW [.val (.str st), x, .val (.str acc), .val (.int ((numN st s * st.length + st.idxOf c + 1 : Nat) : Int))] w = .ok true w := by
      have : (0 : Int) < ((numN st s * st.length + st.idxOf c + 1 : Nat) : Int) := by omega
      generalize ((numN st s * st.length + st.idxOf c + 1 : Nat) : Int) = q at this
      simp [testW, oCmp, fGt, this]
    rw [wh_step t (ww_body hc hk (by omega) w), ih (fun x hx => h x (List.mem_append_left _ hx)) (c :: acc) m (by simp; omega) (by omega)]
    simp
theorem ww_split : b_f_word_with = mSeq (mPar 2 3 (mCons (mC (.str [])) (mCons (mV 1) mNil))) (mSeq (whileL testW bodyW 1000) (mRet (mV 2))) := rfl
theorem ev_word_with {st s : List Nat} (hk : st.length ≤ 5) (h : ∀ c ∈ s, c ∈ st) (hs : s.length ≤ 100) (w : List D) : f_word_with [.str st, .int (numN st s)] w = .ok (.str s) w := by
  have := ww_loop hk (.val (.int (numN st s))) w s h [] 1000 (by simp; omega) (by omega)
  generalize ((numN st s : Nat) : Int) = q at this
  simp [f_word_with, ww_split, s_runB, sd0, this]
theorem ev_is_integer (d : D) (h : okD d = true) (w : List D) : f_is_integer [d] w = .ok (.bl (match d with | .int _ => true | _ => false)) w := by
  match d, h with
  | .str s, h => simp [f_is_integer, b_f_is_integer, s_runB, sd0, tyN, isiB]
  | .non, _ => simp [f_is_integer, b_f_is_integer, s_runB, sd0, tyN, isiB]
  | .bl x, _ => simp [f_is_integer, b_f_is_integer, s_runB, sd0, tyN, isiB]
  | .int x, _ => simp [f_is_integer, b_f_is_integer, s_runB, sd0, tyN, isiB]
  | .lst x, _ => simp [f_is_integer, b_f_is_integer, s_runB, sd0, tyN, isiB]
  | .tup x, _ => simp [f_is_integer, b_f_is_integer, s_runB, sd0, tyN, isiB]
def withinD (d : D) (hi : Int) : Bool := match d with
  | .int v => decide (0 ≤ v) && decide (v ≤ hi)
  | _ => false
theorem ev_is_within (d : D) (h : okD d = true) (hi : Int) (w : List D) : f_is_within [d, .int 0, .int hi] w = .ok (.bl (withinD d hi)) w := by
  have e := ev_is_integer d h w
  match d, h with
  | .str s, h => simp [f_is_within, b_f_is_within, s_runB, sd0, e, truthD, withinD]
  | .non, _ => simp [f_is_within, b_f_is_within, s_runB, sd0, e, truthD, withinD]
  | .bl x, _ => simp [f_is_within, b_f_is_within, s_runB, sd0, e, truthD, withinD]
  | .lst x, _ => simp [f_is_within, b_f_is_within, s_runB, sd0, e, truthD, withinD]
  | .tup x, _ => simp [f_is_within, b_f_is_within, s_runB, sd0, e, truthD, withinD]
  | .int v, _ =>
    by_cases h0 : 0 ≤ v
    · have h1 : ¬ v < 0 := by omega
      simp [f_is_within, b_f_is_within, s_runB, sd0, e, truthD, withinD, oIs, isNon, oCmp, fLt, fLe, h0, h1]
    · have h1 : v < 0 := by omega
      simp [f_is_within, b_f_is_within, s_runB, sd0, e, truthD, withinD, oIs, isNon, oCmp, fLt, fLe, h0, h1]
/-- the last sound -/
structure LastS (st : List Nat) (l : Nat) : Prop where
  at_ : st[st.length - 1]? = some l
  idx : st.idxOf l = st.length - 1
  mem : l ∈ st
theorem Stock.nd {st : List Nat} (S : Stock st) : st.Nodup := S.srt.imp fun h => Nat.ne_of_lt h
theorem Stock.last {st : List Nat} (S : Stock st) : ∃ l, LastS st l := by
  have h1 := S.pos
  have hl : st.length - 1 < st.length := by omega
  refine ⟨st[st.length - 1], List.getElem?_eq_getElem hl, ?_, List.getElem_mem _⟩
  exact S.nd.idxOf_getElem _ hl
abbrev lastN (st : List Nat) (l : Nat) : Nat := numN st (List.replicate 12 l)
theorem rep_mem {st : List Nat} {l : Nat} (L : LastS st l) (n : Nat) : ∀ c ∈ List.replicate n l, c ∈ st := fun c hc => by
  rw [(List.mem_replicate.mp hc).2]; exact L.mem
theorem ev_word_at_gen {st : List Nat} {l : Nat} (S : Stock st) (L : LastS st l) (d : D) (hd : okD d = true) (w : List D) :
    f_word_at [.str st, d] w = if withinD d (lastN st l) = true then f_word_with [.str st, d] w else .exc 3 ["part"] [.str [110, 117, 109, 98, 101, 114]] w := by
  have e1 := ev_need_stock (.str st) (.str [115, 116, 111, 99, 107]) S.ok.2 w
  rw [if_pos S.ok.1] at e1
  have e2 := ev_last_word L.at_ S.pos w
  have e3 : f_number_in [.str (List.replicate 12 l), .str st] w = .ok (.int (lastN st l)) w := ev_number_in (List.replicate 12 l) st S.few (rep_mem L 12) w
  have e4 := ev_is_within d hd (lastN st l) w
  generalize ((lastN st l : Nat) : Int) = q at *
  generalize List.replicate 12 l = rr at *
  cases hw : withinD d q <;> rw [hw] at e4
  · simp [f_word_at, b_f_word_at, s_runB, sd0, e1, e2, e3, e4, truthD]
  · cases hr : f_word_with [.str st, d] w <;> simp [f_word_at, b_f_word_at, s_runB, sd0, e1, e2, e3, e4, truthD, hr]
theorem ev_word_at {st s : List Nat} (S : Stock st) (h : ∀ c ∈ s, c ∈ st) (hs : s.length ≤ 12) (w : List D) : f_word_at [.str st, .int (numN st s)] w = .ok (.str s) w := by
  obtain ⟨l, L⟩ := S.last
  rw [ev_word_at_gen S L (.int (numN st s)) rfl w, if_pos, ev_word_with S.few h (by omega)]
  have := num_le_last L.idx S.pos h hs
  simp only [withinD, Bool.and_eq_true, decide_eq_true_eq]
  exact ⟨by omega, by unfold lastN; omega⟩
/-- next_word -/
theorem wordB_of {st s : List Nat} (S : Stock st) (h : ∀ c ∈ s, c ∈ st) (hs : s.length ≤ 12) : wordB s = true := by
  unfold wordB
  simp only [Bool.and_eq_true, decide_eq_true_eq, List.all_eq_true]
  refine ⟨hs, fun c hc => ?_⟩
  obtain ⟨a, b⟩ := S.let_ c (h c hc)
  have : ∀ j < 26, 97 + j ∈ LET := by decide
  have q := this (c - 97) (by omega)
  rw [show 97 + (c - 97) = c by omega] at q
  exact q
theorem ev_next_word {st s t : List Nat} {l : Nat} (S : Stock st) (L : LastS st l) (h : ∀ c ∈ s, c ∈ st) (hs : s.length ≤ 12) (ht : ∀ c ∈ t, c ∈ st) (hl : t.length ≤ 100) (hn : numN st t = numN st s + 1) (hne : s ≠ List.replicate 12 l) (w : List D) : f_next_word [.str s, .str st] w = .ok (.str t) w := by
  have e1 := ev_need_word_of_ok s st (wordB_of S h hs) S h w
  have e2 := ev_last_word L.at_ S.pos w
  have e3 := ev_number_in s st S.few h w
  have e4 := ev_word_with S.few ht hl w
  have hne' : (s == List.replicate 12 l) = false := beq_eq_false_iff_ne.mpr hne
  rw [hn] at e4
  have e5 : oAdd (.int (numN st s)) (.int 1) = some (.int ((numN st s + 1 : Nat) : Int)) := rfl
  generalize ((numN st s + 1 : Nat) : Int) = q at *
  generalize List.replicate 12 l = r at *
  simp [f_next_word, b_f_next_word, s_runB, sd0, e1, e2, e3, e5, e4, oEq_ss, hne']
theorem ev_next_word_last {st : List Nat} {l : Nat} (S : Stock st) (L : LastS st l) (w : List D) : f_next_word [.str (List.replicate 12 l), .str st] w = .ok .non w := by
  have e1 := ev_need_word_of_ok (List.replicate 12 l) st (wordB_of S (rep_mem L 12) (by simp)) S (rep_mem L 12) w
  have e2 := ev_last_word L.at_ S.pos w
  generalize List.replicate 12 l = r at *
  simp [f_next_word, b_f_next_word, s_runB, sd0, e1, e2, oEq_ss]
theorem not_last {st s t : List Nat} {l : Nat} (S : Stock st) (L : LastS st l) (ht : ∀ c ∈ t, c ∈ st) (hl : t.length ≤ 12) (hn : numN st s < numN st t) : s ≠ List.replicate 12 l := fun e => by
  have := num_le_last L.idx S.pos ht hl
  rw [← e] at this
  omega
end K04
end
section
set_option Elab.async false
set_option linter.all false
set_option maxRecDepth 100000
set_option maxHeartbeats 4000000
namespace K04
open PySem PySem.Spec PyProof.Rows L2 FT
theorem forL_run {g : D → SD → Option SD} {body : MS} {w : List D} (J : Nat → SD → Prop) : ∀ (ds : List D) (i : Nat) (sd : SD), J i sd →
    (∀ j d sd, ds[j]? = some d → J (i + j) sd → ∃ sd1 sd2, g d sd = some sd1 ∧ body sd1 w = .nx sd2 w ∧ J (i + j + 1) sd2) → ∃ sd2, forL g body ds sd w = .nx sd2 w ∧ J (i + ds.length) sd2
  | [], i, sd, h, _ => ⟨sd, rfl, h⟩
  | d :: ds, i, sd, h, H => by
    obtain ⟨sd1, sd2, h1, h2, h3⟩ := H 0 d sd rfl h
    obtain ⟨sd3, h4, h5⟩ := forL_run J ds (i + 1) sd2 h3 fun j d' sd' e hj => by
      have := H (j + 1) d' sd' (by simpa using e) (by rw [show i + (j + 1) = i + 1 + j by omega]; exact hj)
      rw [show i + (j + 1) + 1 = i + 1 + j + 1 by omega] at this
      exact this
    exact ⟨sd3, by simp only [forL, h1, h2, h4], by rw [List.length_cons, show i + (ds.length + 1) = i + 1 + ds.length by omega]; exact h5⟩
theorem rng_len (m : Nat) : (rngD 0 (m : Int)).length = m := by unfold rngD; simp
theorem off_le (k : Nat) (h : 1 ≤ k) : ∀ n, off k n ≤ n * k ^ n
  | 0 => by simp [off]
  | n + 1 => by
    have i := off_le k h n
    have : k ^ n ≤ k ^ (n + 1) := Nat.pow_le_pow_right h (by omega)
    have e : n * k ^ n ≤ n * k ^ (n + 1) := Nat.mul_le_mul_left _ this
    rw [off_pow, Nat.add_mul, Nat.one_mul]
    omega
theorem small_of {st : List Nat} (S : Stock st) {m : Nat} (hm : m ≤ 12) (hp : st.length ^ m ≤ 20000) {i : Nat} (hi : i ≤ m) : (WW st i).length ≤ 20000 ∧ (UU st i).length ≤ 260000 := by
  have h1 : st.length ^ i ≤ st.length ^ m := Nat.pow_le_pow_right S.pos hi
  refine ⟨by rw [ww_len]; omega, ?_⟩
  have h2 := off_le st.length S.pos i
  have h3 : i * st.length ^ i ≤ 12 * 20000 := Nat.mul_le_mul (by omega) (by omega)
  rw [uu_len S.nd, off_pow]
  omega
/-- all longer words -/
theorem comp2_words {st : List Nat} (S : Stock st) {a b c d : SV} (w : List D) : ∀ (ws : List (List Nat)), (∀ x ∈ ws, x.length ≤ 12) →
    comp2L (gN 5) mYes (mSeqI (mV 0)) (gN 6) mYes (mBin oAdd (mVB 5) (mVB 6)) [6] [.val (.str st), a, b, c, d, .no, .no] (ws.map D.str) w = some ((ws.flatMap fun x => st.map fun c => x ++ [c]).map D.str, w)
  | [], _ => rfl
  | x :: ws, h => by
    have ih := comp2_words S (a := a) (b := b) (c := c) (d := d) w ws fun y hy => h y (List.mem_cons_of_mem _ hy)
    have hx := h x List.mem_cons_self
    have hc := compL_map (g := gN 6) (me := mBin oAdd (mVB 5) (mVB 6)) (sd0 := [.val (.str st), a, b, c, d, .val (.str x), .no]) (w := w) (fun d => match d with
      | .str c => .str (x ++ c)
      | _ => .non) (st.map fun c => D.str [c]) fun d hd => by
        obtain ⟨c, _, rfl⟩ := List.mem_map.mp hd
        refine ⟨_, rfl, ?_⟩
        have : x.length + 1 ≤ 16777216 := by omega
        simp [oAdd, oStr, this]
    rw [List.map_map] at hc
    have hl : (st.map fun c => D.str [c]).length ≤ 1000000 := by rw [List.length_map]; have := S.few; omega
    have hi : items (.str st) = some (st.map fun c => D.str [c]) := rfl
    generalize (st.map fun c => D.str [c]) = es at hc hl hi
    rw [List.flatMap_cons, List.map_append, List.map_map]
    simp [comp2L, hi, hl, hc, ih]
def bodyS : MS := (mSeq (mAsg (gN 3) (mF (mComp2 (mSeqI (mVB 3)) (gN 5) mYes (mSeqI (mV 0)) (gN 6) mYes (mBin oAdd (mVB 5) (mVB 6)) [5, 6] [6])))
    (mExt 2 (mVB 3)))
theorem bodyS_run {st : List Nat} (S : Stock st) {m : Nat} (hm : m ≤ 12) (hp : st.length ^ m ≤ 20000) {i : Nat} (hi : i < m) {a : SV} {t : SV} (w : List D) :
    bodyS [.val (.str st), a, .own ((UU st i).map D.str), .val (.lst ((WW st i).map D.str)), t, .no, .no] w = .nx [.val (.str st), a, .own ((UU st (i + 1)).map D.str), .val (.lst ((WW st (i + 1)).map D.str)), t, .no, .no] w := by
  have c := comp2_words S (a := a) (b := .own ((UU st i).map D.str)) (c := .val (.lst ((WW st i).map D.str))) (d := t) w (WW st i) fun x hx => by
    have := (mem_ww hx).1; omega
  have l1 := (small_of S hm hp (i := i + 1) (by omega)).1
  have l2 := (small_of S hm hp (i := i) (by omega)).2
  have l0 := (small_of S hm hp (i := i) (by omega)).1
  change comp2L _ _ _ _ _ _ _ _ _ _ = some ((WW st (i + 1)).map D.str, w) at c
  rw [uu_succ, List.map_append]
  have k1 : ((WW st (i + 1)).map D.str).length ≤ 20000 := by rw [List.length_map]; exact l1
  have k2 : ((UU st i).map D.str).length ≤ 260000 := by rw [List.length_map]; exact l2
  generalize (WW st (i + 1)).map D.str = l at c k1
  generalize (UU st i).map D.str = u at c k2
  generalize (WW st i).map D.str = v at c
  have k3 : l.length ≤ 1000000 := by omega
  have k4 : u.length + l.length ≤ 16777216 := by omega
  simp [bodyS, items, c, k3, k4]
theorem wo_split : b_f_words_of = (mSeq (mDrop (mCall (nArg 2 f_need_stock) (mCons (mV 0) (mCons (mC (.str [115, 116, 111, 99, 107])) mNil))))
    (mSeq (mIf (mNotT (mTru (mCall (nArg 3 f_is_within) (mCons (mV 1) (mCons (mC (.int 0)) (mCons (mC (.int 12)) mNil))))))
    (mRaise1 3 "part" (mCons (mC (.str [109, 111, 115, 116])) mNil))
    mSkip)
    (mSeq (mIf (mTst (mBin (oCmp fGt sGt) (mCall (nArg 2 f_many_with) (mCons (mV 0) (mCons (mV 1) mNil))) (mC (.int 20000))))
    (mRaise2 4 "what" "most" (mCons (mC (.str [119, 111, 114, 100, 115])) (mCons (mC (.int 20000)) mNil)))
    mSkip)
    (mSeq (mParFE 2 3 (mLstF (mCons (mC (.str [])) mNil)) (mLst (mCons (mC (.str [])) mNil)))
    (mSeq (mFor (gN 4) (mRng1 (mV 1)) bodyS)
    (mRet (mCB fTuple (mCons (mVB 2) mNil)))))))) := rfl
theorem ev_words_of {st : List Nat} (S : Stock st) {m : Nat} (hm : m ≤ 12) (hp : st.length ^ m ≤ 20000) (w : List D) : f_words_of [.str st, .int m] w = .ok (.tup ((UU st m).map D.str)) w := by
  have e1 := ev_need_stock (.str st) (.str [115, 116, 111, 99, 107]) S.ok.2 w
  rw [if_pos S.ok.1] at e1
  have e2 := ev_is_within (.int m) rfl 12 w
  have e2' : withinD (.int m) 12 = true := by simp [withinD]; omega
  rw [e2'] at e2
  have e3 := ev_many_with st m S.few (by omega) w
  have e4 : ¬ (20000 : Int) < ((st.length ^ m : Nat) : Int) := by omega
  generalize ((st.length ^ m : Nat) : Int) = q at e3 e4
  obtain ⟨sd2, h1, h2⟩ := forL_run (g := gN 4) (body := bodyS) (w := w) (fun i sd => i ≤ m ∧ ∃ t, sd = [.val (.str st), .val (.int m), .own ((UU st i).map D.str), .val (.lst ((WW st i).map D.str)), t, .no, .no]) (rngD 0 m) 0 [.val (.str st), .val (.int m), .own [.str []], .val (.lst [.str []]), .no, .no, .no] ⟨by omega, .no, rfl⟩
    (fun j d sd hd hj => by
      rw [Nat.zero_add] at hj ⊢
      obtain ⟨_, t, rfl⟩ := hj
      have : j < m := by
        have := (List.getElem?_eq_some_iff.mp hd).1
        rw [rng_len] at this; exact this
      refine ⟨_, _, rfl, bodyS_run S hm hp this w, by omega, _, rfl⟩)
  obtain ⟨_, t, rfl⟩ := h2
  rw [Nat.zero_add, rng_len] at h1
  have r1 : -4611686018427387904 ≤ (m : Int) := by omega
  have r2 : (m : Int) < 4611686018427387904 := by omega
  simp [f_words_of, wo_split, s_runB, sd0, e1, e2, truthD, e3, oCmp, fGt, e4, r1, r2, h1, fTuple]
/-! ### the law's own list -/
def bodyL1 : MS := (mExt 5 (mF (mComp (mSeqI (mVB 3)) (gN 7) mYes (mBin oAdd (mVB 6) (mVB 7)) [7])))
def bodyL : MS := (mSeq (mSetO 5 (mLstF mNil))
    (mSeq (mFor (gN 6) (mSeqI (mV 0)) bodyL1)
    (mSeq (mAsg (gN 3) (mF (mSortF (mVB 5))))
    (mAsg (gN 2) (mBin oAdd (mVB 2) (mVB 3))))))
theorem ls_split : b_f__law_listed = (mSeq (mPar 2 3 (mCons (mLst (mCons (mC (.str [])) mNil)) (mCons (mLst (mCons (mC (.str [])) mNil)) mNil)))
    (mSeq (mFor (gN 4) (mRng1 (mV 1)) bodyL) (mRet (mV 2)))) := rfl
abbrev pre (st : List Nat) (n j : Nat) : List (List Nat) := (st.take j).flatMap fun c => (WW st n).map fun x => c :: x
theorem pre_succ {st : List Nat} {n j c : Nat} (h : st[j]? = some c) : pre st n (j + 1) = pre st n j ++ (WW st n).map fun x => c :: x := by
  unfold pre
  rw [List.take_add_one, h, List.flatMap_append]
  simp
theorem pre_len {st : List Nat} {n j : Nat} (hj : j ≤ st.length) : (pre st n j).length = j * st.length ^ n := by
  unfold pre
  rw [List.length_flatMap]
  have : ((st.take j).map fun c => ((WW st n).map fun x => c :: x).length).sum = (st.take j).length * st.length ^ n := by
    generalize st.take j = l
    induction l with
    | nil => simp
    | cons a l ih => rw [List.map_cons, List.sum_cons, ih, List.length_map, ww_len, List.length_cons, Nat.succ_mul, Nat.add_comm]
  rw [this, List.length_take, Nat.min_eq_left hj]
theorem bodyL1_run {st : List Nat} (S : Stock st) {m : Nat} (hm : m ≤ 12) (hp : st.length ^ m ≤ 20000) {i : Nat} (hi : i < m) {j c : Nat} (hj : st[j]? = some c) {a b t : SV} (w : List D) :
    bodyL1 [.val (.str st), a, b, .val (.lst ((WW st i).map D.str)), t, .own ((pre st i j).map D.str), .val (.str [c]), .no] w = .nx [.val (.str st), a, b, .val (.lst ((WW st i).map D.str)), t, .own ((pre st i (j + 1)).map D.str), .val (.str [c]), .no] w := by
  have hc := compL_map (g := gN 7) (me := mBin oAdd (mVB 6) (mVB 7)) (sd0 := [.val (.str st), a, b, .val (.lst ((WW st i).map D.str)), t, .own ((pre st i j).map D.str), .val (.str [c]), .no]) (w := w) (fun d => match d with
      | .str x => .str (c :: x)
      | _ => .non) ((WW st i).map D.str) fun d hd => by
        obtain ⟨x, hx, rfl⟩ := List.mem_map.mp hd
        refine ⟨_, rfl, ?_⟩
        have : 1 + x.length ≤ 16777216 := by have := (mem_ww hx).1; omega
        simp [oAdd, oStr, this]
  have h2 : ((WW st i).map D.str).map (fun d => match d with
      | .str x => D.str (c :: x)
      | _ => .non) = ((WW st i).map fun x => c :: x).map D.str := by simp [Function.comp_def]
  rw [h2] at hc
  rw [pre_succ hj, List.map_append]
  have hj' := (List.getElem?_eq_some_iff.mp hj).1
  have q : st.length ^ (i + 1) ≤ st.length ^ m := Nat.pow_le_pow_right S.pos (by omega)
  have q2 : (j + 1) * st.length ^ i ≤ st.length ^ (i + 1) := by
    rw [Nat.pow_succ, Nat.mul_comm]
    exact Nat.mul_le_mul_left _ (by omega)
  have k2 : ((pre st i j).map D.str).length + (((WW st i).map fun x => c :: x).map D.str).length ≤ 16777216 := by
    rw [List.length_map, List.length_map, List.length_map, pre_len (by omega), ww_len]
    rw [Nat.add_mul, Nat.one_mul] at q2
    omega
  have k3 : ((WW st i).map D.str).length ≤ 16777216 := by
    rw [List.length_map]
    have := (small_of S hm hp (i := i) (by omega)).1
    omega
  generalize ((WW st i).map fun x => c :: x).map D.str = l at hc k2
  generalize (pre st i j).map D.str = u at hc k2
  generalize (WW st i).map D.str = v at hc k3
  simp [bodyL1, items, hc, k2, k3]
theorem sort_ww {st : List Nat} (S : Stock st) (n : Nat) : fSort ((WW st n).map D.str) = some ((WW st n).map D.str) := by
  have hne : WW st n ≠ [] := fun e => by
    have := ww_len st n
    rw [e] at this
    have := Nat.pow_pos (n := n) S.pos
    simp at *
    omega
  unfold fSort
  rw [dInts_str hne, dStrs_map]
  show some ((sortS _).map D.str) = _
  rw [← sortS_of (List.Perm.refl _) (ww_sorted S.srt n)]
theorem bodyL_run {st : List Nat} (S : Stock st) {m : Nat} (hm : m ≤ 12) (hp : st.length ^ m ≤ 20000) {i : Nat} (hi : i < m) {a o s : SV} {t : SV} (w : List D) :
    ∃ s', bodyL [.val (.str st), a, .val (.lst ((UU st i).map D.str)), .val (.lst ((WW st i).map D.str)), t, o, s, .no] w = .nx [.val (.str st), a, .val (.lst ((UU st (i + 1)).map D.str)), .val (.lst ((WW st (i + 1)).map D.str)), t, .own ((WW st (i + 1)).map D.str), s', .no] w := by
  obtain ⟨sd2, h1, h2⟩ := forL_run (g := gN 6) (body := bodyL1) (w := w) (fun j sd => j ≤ st.length ∧ ∃ s, sd = [.val (.str st), a, .val (.lst ((UU st i).map D.str)), .val (.lst ((WW st i).map D.str)), t, .own ((pre st i j).map D.str), s, .no]) (st.map fun c => D.str [c]) 0 [.val (.str st), a, .val (.lst ((UU st i).map D.str)), .val (.lst ((WW st i).map D.str)), t, .own [], s, .no] ⟨by omega, s, rfl⟩
    (fun j d sd hd hj => by
      rw [Nat.zero_add] at hj ⊢
      obtain ⟨_, s, rfl⟩ := hj
      rw [List.getElem?_map] at hd
      cases hc : st[j]? with
      | none => rw [hc] at hd; cases hd
      | some c =>
        rw [hc] at hd; cases hd
        have := (List.getElem?_eq_some_iff.mp hc).1
        refine ⟨_, _, rfl, bodyL1_run S hm hp hi hc w, by omega, _, rfl⟩)
  obtain ⟨_, s', rfl⟩ := h2
  rw [Nat.zero_add, List.length_map] at h1
  have e : pre st i st.length = WW st (i + 1) := by
    unfold pre; rw [List.take_length, ww_cons]
  rw [e] at h1
  have l1 := (small_of S hm hp (i := i + 1) (by omega)).1
  have l2 := (small_of S hm hp (i := i) (by omega)).2
  have k : ((UU st i).map D.str).length + ((WW st (i + 1)).map D.str).length ≤ 16777216 := by
    rw [List.length_map, List.length_map]; omega
  have hs := sort_ww S (i + 1)
  refine ⟨s', ?_⟩
  rw [uu_succ, List.map_append]
  generalize (WW st (i + 1)).map D.str = l at h1 k hs
  generalize (UU st i).map D.str = u at h1 k
  generalize (WW st i).map D.str = v at h1
  have hi' : items (.str st) = some (st.map fun c => D.str [c]) := rfl
  generalize (st.map fun c => D.str [c]) = es at h1 hi'
  simp [bodyL, hi', h1, hs, oAdd, oLst, k]
theorem ev_listed {st : List Nat} (S : Stock st) {m : Nat} (hm : m ≤ 12) (hp : st.length ^ m ≤ 20000) (w : List D) : f__law_listed [.str st, .int m] w = .ok (.lst ((UU st m).map D.str)) w := by
  obtain ⟨sd2, h1, h2⟩ := forL_run (g := gN 4) (body := bodyL) (w := w) (fun i sd => i ≤ m ∧ ∃ t o s, sd = [.val (.str st), .val (.int m), .val (.lst ((UU st i).map D.str)), .val (.lst ((WW st i).map D.str)), t, o, s, .no]) (rngD 0 m) 0 [.val (.str st), .val (.int m), .val (.lst [.str []]), .val (.lst [.str []]), .no, .no, .no, .no] ⟨by omega, .no, .no, .no, rfl⟩
    (fun j d sd hd hj => by
      rw [Nat.zero_add] at hj ⊢
      obtain ⟨_, t, o, s, rfl⟩ := hj
      have : j < m := by
        have := (List.getElem?_eq_some_iff.mp hd).1
        rw [rng_len] at this; exact this
      obtain ⟨s', e⟩ := bodyL_run S hm hp this (a := .val (.int m)) (o := o) (s := s) (t := .val d) w
      exact ⟨_, _, rfl, e, by omega, _, _, _, rfl⟩)
  obtain ⟨_, t, o, s, rfl⟩ := h2
  rw [Nat.zero_add, rng_len] at h1
  have r1 : -4611686018427387904 ≤ (m : Int) := by omega
  have r2 : (m : Int) < 4611686018427387904 := by omega
  simp [f__law_listed, ls_split, s_runB, sd0, r1, r2, h1]
end K04
end
section
set_option Elab.async false
set_option linter.all false
set_option maxRecDepth 100000
set_option maxHeartbeats 4000000
namespace K04
open PySem PySem.Spec PyProof.Rows L2 FT
theorem less_idx : ∀ {st : List Nat} {c : Nat}, st.Pairwise (· < ·) → c ∈ st → (st.filter fun x => decide (x < c)).length = st.idxOf c
  | [], c, _, h => absurd h (by simp)
  | a :: st, c, hp, h => by
    obtain ⟨h1, h2⟩ := List.pairwise_cons.mp hp
    by_cases e : a = c
    · subst e
      have : st.filter (fun x => decide (x < a)) = [] := List.filter_eq_nil_iff.mpr fun x hx => by
        have := h1 x hx; simp; omega
      simp [this, List.idxOf_cons_self]
    · have hc : c ∈ st := by
        rcases List.mem_cons.mp h with h | h
        · exact absurd h.symm e
        · exact h
      have := h1 c hc
      rw [List.filter_cons, if_pos (by simpa using this), List.length_cons, less_idx h2 hc, List.idxOf_cons, beq_eq_false_iff_ne.mpr e, cond_false]
def bodyA : MS := (mSeq (mPar 2 4 (mCons (mBin oAdd (mVB 2) (mVB 4)) (mCons (mBin oMul (mVB 4) (mCB fLen (mCons (mVB 1) mNil))) mNil)))
    (mAsg (gN 3) (mBin oAdd (mBin oMul (mVB 3) (mCB fLen (mCons (mVB 1) mNil))) (mCB fLen (mCons (mF (mComp (mSeqI (mVB 1)) (gN 6) (mTst (mBin (oCmp fLt sLt) (mVB 6) (mVB 5))) (mV 6) [6])) mNil)))))
theorem ah_split : b_f__law_ahead = (mSeq (mAsg (gTu 3 (gsCons (gN 2) (gsCons (gN 3) (gsCons (gN 4) gsNil)))) (mTup (mCons (mC (.int 0)) (mCons (mC (.int 0)) (mCons (mC (.int 1)) mNil)))))
    (mSeq (mFor (gN 5) (mSeqI (mV 0)) bodyA) (mRet (mBin oAdd (mVB 2) (mVB 3))))) := rfl
theorem bodyA_run {st : List Nat} (S : Stock st) {c : Nat} (hc : c ∈ st) (a : SV) (sh pl mn : Nat) (w : List D) :
    bodyA [a, .val (.str st), .val (.int sh), .val (.int pl), .val (.int mn), .val (.str [c]), .no] w = .nx [a, .val (.str st), .val (.int ((sh + mn : Nat) : Int)), .val (.int ((pl * st.length + st.idxOf c : Nat) : Int)), .val (.int ((mn * st.length : Nat) : Int)), .val (.str [c]), .no] w := by
  have hcl : ∀ x y z : SV, compL (gN 6) (mTst (mBin (oCmp fLt sLt) (mVB 6) (mVB 5))) (mV 6) [a, .val (.str st), x, y, z, .val (.str [c]), .no] (st.map fun c => D.str [c]) w = some (((st.filter fun x => decide (x < c)).map fun c => D.str [c]), w) := by
    intro x y z
    have := compL_pure (g := gN 6) (mt := mTst (mBin (oCmp fLt sLt) (mVB 6) (mVB 5))) (me := mV 6) (sd0 := [a, .val (.str st), x, y, z, .val (.str [c]), .no]) (w := w) (fun d => match d with
      | .str [x] => decide (x < c)
      | _ => false) id (st.map fun c => D.str [c]) fun d hd => by
        obtain ⟨x, _, rfl⟩ := List.mem_map.mp hd
        refine ⟨_, rfl, ?_, fun _ => by simp⟩
        have : decide ([x] < [c]) = decide (x < c) := by
          congr 1
          simp [List.cons_lt_cons_iff]
        simp [oCmp, sLt, this]
    rw [this, List.map_id, List.filter_map]
    rfl
  have hl : ((st.filter fun x => decide (x < c)).map fun c => D.str [c]).length = st.idxOf c := by rw [List.length_map, less_idx S.srt hc]
  have hi : items (.str st) = some (st.map fun c => D.str [c]) := rfl
  have hi2 : (st.map fun c => D.str [c]).length ≤ 16777216 := by rw [List.length_map]; have := S.few; omega
  generalize ((st.filter fun x => decide (x < c)).map fun c => D.str [c]) = l at hcl hl
  generalize (st.map fun c => D.str [c]) = es at hcl hi hi2
  have hk : ∀ n : Nat, oMul (.int n) (.int st.length) = some (.int (n * st.length)) := fun n => mul_small2 _ _ (by omega) (by have := S.few; omega)
  simp [bodyA, oAdd, hk, fLen, hi, hi2, hcl, hl]
theorem ev_ahead {st : List Nat} (S : Stock st) {s : List Nat} (h : ∀ c ∈ s, c ∈ st) (w : List D) : f__law_ahead [.str s, .str st] w = .ok (.int (numN st s)) w := by
  obtain ⟨sd2, h1, h2⟩ := forL_run (g := gN 5) (body := bodyA) (w := w) (fun j sd => ∃ (sh pl mn : Nat) (t : SV), sd = [.val (.str s), .val (.str st), .val (.int sh), .val (.int pl), .val (.int mn), t, .no] ∧ sh + pl = numN st (s.take j) ∧ sh * st.length + 1 = sh + mn) (s.map fun c => D.str [c]) 0 [.val (.str s), .val (.str st), .val (.int 0), .val (.int 0), .val (.int 1), .no, .no] ⟨0, 0, 1, .no, rfl, rfl, by simp⟩
    (fun j d sd hd hj => by
      rw [Nat.zero_add] at hj ⊢
      obtain ⟨sh, pl, mn, t, rfl, g1, g2⟩ := hj
      rw [List.getElem?_map] at hd
      cases hc : s[j]? with
      | none => rw [hc] at hd; cases hd
      | some c =>
        rw [hc] at hd; cases hd
        have hm : c ∈ st := h c (List.mem_of_getElem? hc)
        refine ⟨_, _, rfl, bodyA_run S hm _ sh pl mn w, sh + mn, _, _, _, rfl, ?_, ?_⟩
        · rw [List.take_add_one, hc]
          simp only [Option.toList]
          rw [numN_snoc, ← g1, Nat.add_mul]
          omega
        · rw [Nat.add_mul]
          omega)
  obtain ⟨sh, pl, mn, t, rfl, g1, g2⟩ := h2
  rw [Nat.zero_add, List.length_map, List.take_length] at g1
  have hi : items (.str s) = some (s.map fun c => D.str [c]) := rfl
  generalize (s.map fun c => D.str [c]) = es at h1 hi
  rw [← g1]
  simp [f__law_ahead, ah_split, s_runB, sd0, hi, h1, oAdd]
/-! ### the next one by carrying -/
theorem tail_of (l : Nat) (s : List Nat) : ∃ p j, s = p ++ List.replicate j l ∧ (p = [] ∨ ∃ p' d, p = p' ++ [d] ∧ d ≠ l) := by
  induction s using snoc_ind with
  | nil => exact ⟨[], 0, rfl, .inl rfl⟩
  | append_singleton s c ih =>
    by_cases e : c = l
    · subst e
      obtain ⟨p, j, rfl, h⟩ := ih
      exact ⟨p, j + 1, by rw [List.replicate_succ', List.append_assoc], h⟩
    · exact ⟨s ++ [c], 0, by simp, .inr ⟨s, c, rfl, e⟩⟩
theorem set_mid {α : Type} (z y : α) : ∀ (xs ys : List α), (xs ++ y :: ys).set xs.length z = xs ++ z :: ys
  | [], _ => rfl
  | x :: xs, ys => by simp [set_mid z y xs ys]
theorem get_mid {α : Type} (y : α) : ∀ (xs ys : List α), (xs ++ y :: ys)[xs.length]? = some y
  | [], _ => rfl
  | x :: xs, ys => by simp
abbrev S1 (s : List Nat) : List D := s.map fun c => D.str [c]
def testB : ME Bool := (mAnd (mTst (mBin (oCmp fGe sGe) (mVB 3) (mC (.int 0)))) (mTst (mBin (oEq false) (mIx (mVB 2) (mVB 3)) (mIx (mVB 1) (mUn oNeg (mC (.int 1)))))))
def bodyB : MS := (mSeq (mSetI 2 (mV 3) (mIx (mVB 1) (mC (.int 0))))
    (mAsg (gN 3) (mBin oSub (mVB 3) (mC (.int 1)))))
theorem atI_nat {α : Type} (xs : List α) (i : Nat) (x : α) (h : xs[i]? = some x) : atI xs ((i : Nat) : Int) = some x := by
  obtain ⟨hi, _⟩ := List.getElem?_eq_some_iff.mp h
  unfold atI ixN
  rw [if_pos (by omega), if_pos (by omega)]
  exact h
theorem ixN_nat {n i : Nat} (h : i < n) : ixN n ((i : Nat) : Int) = some i := by
  unfold ixN
  rw [if_pos (by omega), if_pos (by omega)]; rfl
theorem last_at {st : List Nat} {l : Nat} (L : LastS st l) (h1 : 1 ≤ st.length) : atI st (-1) = some l := by
  unfold atI ixN
  rw [if_neg (by decide), if_pos (by omega)]
  show st[((-1 : Int) + st.length).toNat]? = _
  rw [show ((-1 : Int) + st.length).toNat = st.length - 1 by omega]
  exact L.at_
theorem step_B {st : List Nat} (S : Stock st) {l f : Nat} (L : LastS st l) (hf : st[0]? = some f) {a : SV} {xs ys : List Nat} (w : List D) :
    testB [a, .val (.str st), .own (S1 (xs ++ l :: ys)), .val (.int (xs.length : Nat))] w = .ok true w ∧
    bodyB [a, .val (.str st), .own (S1 (xs ++ l :: ys)), .val (.int (xs.length : Nat))] w = .nx [a, .val (.str st), .own (S1 (xs ++ f :: ys)), .val (.int ((xs.length : Int) - 1))] w := by
  have e1 : atI (S1 (xs ++ l :: ys)) ((xs.length : Nat) : Int) = some (.str [l]) := atI_nat _ _ _ (by
    unfold S1
    rw [List.getElem?_map, get_mid]; rfl)
  have e2 := last_at L S.pos
  have e3 : atI st 0 = some f := atI_nat st 0 f hf
  have e4 : (S1 (xs ++ l :: ys)).set xs.length (.str [f]) = S1 (xs ++ f :: ys) := by
    unfold S1
    rw [List.map_append, List.map_append, List.map_cons, List.map_cons]
    have := set_mid (D.str [f]) (D.str [l]) (xs.map fun c => D.str [c]) (ys.map fun c => D.str [c])
    rw [List.length_map] at this
    exact this
  have e5 : ixN (S1 (xs ++ l :: ys)).length ((xs.length : Nat) : Int) = some xs.length := ixN_nat (by simp [S1])
  have e6 : (0 : Int) ≤ (xs.length : Int) := by omega
  generalize S1 (xs ++ l :: ys) = u at *
  generalize S1 (xs ++ f :: ys) = v at *
  generalize xs.length = i at *
  refine ⟨?_, ?_⟩
  · simp [testB, oCmp, fGe, e6, oIx, e1, oNeg, e2, oEq_ss]
  · simp [bodyB, oIx, e3, e5, e4, oSub, oInt]
theorem loop_B {st : List Nat} (S : Stock st) {l f : Nat} (L : LastS st l) (hf : st[0]? = some f) {a : SV} (p : List Nat) (w : List D) : ∀ (j i n : Nat), j < n →
    whileL testB bodyB n [a, .val (.str st), .own (S1 (p ++ List.replicate j l ++ List.replicate i f)), .val (.int (((p.length + j : Nat) : Int) - 1))] w = whileL testB bodyB (n - j) [a, .val (.str st), .own (S1 (p ++ List.replicate (j + i) f)), .val (.int ((p.length : Int) - 1))] w
  | 0, i, n, h => by simp
  | j + 1, i, n, h => by
    obtain ⟨m, rfl⟩ : ∃ m, n = m + 1 := ⟨n - 1, by omega⟩
    have e1 : p ++ List.replicate (j + 1) l ++ List.replicate i f = (p ++ List.replicate j l) ++ l :: List.replicate i f := by
      rw [List.replicate_succ']; simp
    have e2 : (p ++ List.replicate j l) ++ f :: List.replicate i f = p ++ List.replicate j l ++ List.replicate (i + 1) f := by
      rw [List.replicate_succ]
    have e3 : (((p.length + (j + 1) : Nat) : Int) - 1) = (((p ++ List.replicate j l).length : Nat) : Int) := by
      rw [List.length_append, List.length_replicate]; omega
    obtain ⟨s1, s2⟩ := step_B S L hf (a := a) (xs := p ++ List.replicate j l) (ys := List.replicate i f) w
    rw [e1, e3, wh_step s1 s2, e2]
    have ih := loop_B S L hf (a := a) p w j (i + 1) m (by omega)
    rw [List.length_append, List.length_replicate, ih, show m + 1 - (j + 1) = m - j by omega, show j + 1 + i = j + (i + 1) by omega]
def tailB : MS := (mSeq (mIf (mTst (mBin (oCmp fGe sGe) (mVB 3) (mC (.int 0))))
    (mSeq (mSetI 2 (mV 3) (mIx (mVB 1) (mBin oAdd (mMt fIndex (mVB 1) (mCons (mIx (mVB 2) (mVB 3)) mNil)) (mC (.int 1)))))
    (mRet (mMt fJoin (mC (.str [])) (mCons (mVB 2) mNil))))
    mSkip)
    (mRet (mIfE (mTst (mBin (oCmp fLt sLt) (mCB fLen (mCons (mVB 0) mNil)) (mC (.int 12)))) (mBin oAdd (mMt fJoin (mC (.str [])) (mCons (mVB 2) mNil)) (mIx (mVB 1) (mC (.int 0)))) (mC .non))))
theorem be_split : b_f__law_behind = (mSeq (mParFE 2 3 (mListX (mVB 0)) (mBin oSub (mCB fLen (mCons (mVB 0) mNil)) (mC (.int 1)))) (mSeq (whileL testB bodyB 1000) tailB)) := rfl
theorem join1 (s : List Nat) (hs : s.length ≤ 16777216) : fJoin [] [.lst (S1 s)] = some (.str s) := by
  have h0 : S1 s = (s.map fun c => [c]).map D.str := by simp [S1, Function.comp_def]
  have hj : dStrs ((s.map fun c => [c]).map D.str) = some (s.map fun c => [c]) := dStrs_map _
  have hsum' : ((s.map fun c => [c]).map List.length).sum + (s.map fun c => [c]).length * ([] : List Nat).length ≤ 16777216 := by
    rw [sum_single]; simp; omega
  rw [h0]
  unfold fJoin
  simp only [hj]
  rw [if_pos hsum', joinD_nil, flat_single]
theorem ev_behind {st : List Nat} (S : Stock st) {l : Nat} (L : LastS st l) {s : List Nat} (h : ∀ c ∈ s, c ∈ st) (hs : s.length ≤ 12) (w : List D) :
    (s = List.replicate 12 l ∧ f__law_behind [.str s, .str st] w = .ok .non w) ∨ ∃ t, f__law_behind [.str s, .str st] w = .ok (.str t) w ∧ (∀ c ∈ t, c ∈ st) ∧ t.length ≤ 12 ∧ numN st t = numN st s + 1 := by
  obtain ⟨f, hf⟩ : ∃ f, st[0]? = some f := ⟨st[0]'(S.pos), List.getElem?_eq_getElem _⟩
  have hf0 : st.idxOf f = 0 := by
    obtain ⟨hi, e⟩ := List.getElem?_eq_some_iff.mp hf
    rw [← e]
    exact S.nd.idxOf_getElem _ hi
  have hfm : f ∈ st := List.mem_of_getElem? hf
  obtain ⟨p, j, rfl, hp⟩ := tail_of l s
  have hlen : p.length + j ≤ 12 := by simpa using hs
  have lp := loop_B S L hf (a := .val (.str (p ++ List.replicate j l))) p w j 0 1000 (by omega)
  rw [List.replicate_zero, List.append_nil, Nat.add_zero] at lp
  have hit : items (.str (p ++ List.replicate j l)) = some (S1 (p ++ List.replicate j l)) := rfl
  have hln : fLen w [.str (p ++ List.replicate j l)] = some (.int ((p.length + j : Nat) : Int)) := by
    show some (D.int ((p ++ List.replicate j l).length : Nat)) = _
    rw [List.length_append, List.length_replicate]
  obtain ⟨m, hm⟩ : ∃ m, 1000 - j = m + 1 := ⟨1000 - j - 1, by omega⟩
  rw [hm] at lp
  have hsub : oSub (.int ((p.length + j : Nat) : Int)) (.int 1) = some (.int (((p.length + j : Nat) : Int) - 1)) := rfl
  rcases hp with rfl | ⟨p', d, rfl, hd⟩
  · have t0 : testB [.val (.str ([] ++ List.replicate j l)), .val (.str st), .own (S1 ([] ++ List.replicate j f)), .val (.int ((([] : List Nat).length : Int) - 1))] w = .ok false w := by
      simp [testB, oCmp, fGe]
    rw [wh_end t0] at lp
    have e3 : atI st 0 = some f := atI_nat st 0 f hf
    have jn := join1 (List.replicate j f) (by simp at *; omega)
    by_cases hj : j < 12
    · refine .inr ⟨List.replicate j f ++ [f], ?_, ?_, ?_, ?_⟩
      · have c1 : ((([] : List Nat).length + j : Nat) : Int) < 12 := by simp; omega
        have c2 : ([] ++ List.replicate j l).length ≤ 16777216 := by simp; omega
        have c3 : (List.replicate j f).length + 1 ≤ 16777216 := by simp; omega
        simp only [List.nil_append] at *
        generalize (((List.length (α := Nat) []) + j : Nat) : Int) = q at *
        generalize List.replicate j l = r at *
        generalize List.replicate j f = r2 at *
        generalize S1 r = u at *
        generalize S1 r2 = u2 at *
        simp [f__law_behind, be_split, s_runB, sd0, hit, hln, hsub, lp, tailB, oCmp, fGe, fLt, c1, jn, oIx, e3, oAdd, oStr, c3]
      · intro c hc
        rcases List.mem_append.mp hc with hc | hc
        · rw [(List.mem_replicate.mp hc).2]; exact hfm
        · rw [List.mem_singleton.mp hc]; exact hfm
      · simp; omega
      · have := num_carry (st := st) L.idx hf0 S.pos (x := []) (y := [f]) (by simp [numN, hf0]) j
        rw [← List.replicate_succ', List.replicate_succ]
        exact this
    · have hj' : j = 12 := by simp at hlen; omega
      subst hj'
      refine .inl ⟨rfl, ?_⟩
      have c1 : ¬ ((([] : List Nat).length + 12 : Nat) : Int) < 12 := by simp
      simp only [List.nil_append] at *
      generalize (((List.length (α := Nat) []) + 12 : Nat) : Int) = q at *
      generalize List.replicate 12 l = r at *
      generalize List.replicate 12 f = r2 at *
      generalize S1 r = u at *
      generalize S1 r2 = u2 at *
      simp [f__law_behind, be_split, s_runB, sd0, hit, hln, hsub, lp, tailB, oCmp, fGe, fLt, c1]
  · have hdm : d ∈ st := h d (by simp)
    have hdi : st.idxOf d < st.length - 1 := by
      have h1 := List.idxOf_lt_length_of_mem hdm
      have h2 : st.idxOf d ≠ st.length - 1 := fun e => by
        have g1 := get_idx hdm
        rw [e, L.at_] at g1
        exact hd (Option.some.inj g1).symm
      omega
    have hel : st.idxOf d + 1 < st.length := by omega
    obtain ⟨e, he⟩ : ∃ e, st[st.idxOf d + 1]? = some e := ⟨st[st.idxOf d + 1], List.getElem?_eq_getElem hel⟩
    have hem : e ∈ st := List.mem_of_getElem? he
    have hei : st.idxOf e = st.idxOf d + 1 := by
      obtain ⟨hi, q⟩ := List.getElem?_eq_some_iff.mp he
      rw [← q]
      exact S.nd.idxOf_getElem _ hi
    have a1 : atI (S1 (p' ++ [d] ++ List.replicate j f)) ((p'.length : Nat) : Int) = some (.str [d]) := atI_nat _ _ _ (by
      unfold S1
      rw [List.append_assoc, List.getElem?_map]
      show Option.map _ (p' ++ d :: List.replicate j f)[p'.length]? = _
      rw [get_mid]; rfl)
    have a2 := last_at L S.pos
    have a3 : ixN (S1 (p' ++ [d] ++ List.replicate j f)).length ((p'.length : Nat) : Int) = some p'.length := ixN_nat (by simp [S1])
    have a4 : (S1 (p' ++ [d] ++ List.replicate j f)).set p'.length (.str [e]) = S1 (p' ++ e :: List.replicate j f) := by
      unfold S1
      rw [List.append_assoc, List.singleton_append, List.map_append, List.map_append, List.map_cons, List.map_cons]
      have := set_mid (D.str [e]) (D.str [d]) (p'.map fun c => D.str [c]) ((List.replicate j f).map fun c => D.str [c])
      rw [List.length_map] at this
      exact this
    have a5 : atI st ((st.idxOf d + 1 : Nat) : Int) = some e := atI_nat st _ e he
    have jn := join1 (p' ++ e :: List.replicate j f) (by simp at hlen ⊢; omega)
    have pl : ((p' ++ [d]).length : Int) - 1 = (p'.length : Nat) := by simp
    rw [pl] at lp
    have t0 : testB [.val (.str (p' ++ [d] ++ List.replicate j l)), .val (.str st), .own (S1 (p' ++ [d] ++ List.replicate j f)), .val (.int (p'.length : Nat))] w = .ok false w := by
      have hbe : (d == l) = false := beq_eq_false_iff_ne.mpr hd
      generalize S1 (p' ++ [d] ++ List.replicate j f) = u at *
      simp [testB, oCmp, fGe, oIx, a1, oNeg, a2, oEq_ss, hbe, hd]
    rw [wh_end t0] at lp
    refine .inr ⟨p' ++ e :: List.replicate j f, ?_, ?_, ?_, ?_⟩
    · have c1 : (0 : Int) ≤ (p'.length : Int) := by omega
      generalize S1 (p' ++ [d] ++ List.replicate j f) = u at *
      generalize S1 (p' ++ e :: List.replicate j f) = u2 at *
      generalize (p' ++ e :: List.replicate j f) = r2 at *
      generalize (p' ++ [d] ++ List.replicate j l) = r at *
      generalize S1 r = u3 at *
      generalize (((p' ++ [d]).length + j : Nat) : Int) = q at *
      have a6 : oAdd (.int (st.idxOf d)) (.int 1) = some (.int ((st.idxOf d + 1 : Nat) : Int)) := rfl
      generalize ((st.idxOf d + 1 : Nat) : Int) = q2 at *
      simp [f__law_behind, be_split, s_runB, sd0, hit, hln, hsub, lp, tailB, oCmp, fGe, fLt, jn, oIx, a1, fIndex, hdm, a6, a5, a3, a4]
    · intro c hc
      rcases List.mem_append.mp hc with hc | hc
      · exact h c (by simp [hc])
      · rcases List.mem_cons.mp hc with rfl | hc
        · exact hem
        · rw [(List.mem_replicate.mp hc).2]; exact hfm
    · simp at hlen ⊢; omega
    · have := num_carry (st := st) L.idx hf0 S.pos (x := p' ++ [d]) (y := p' ++ [e]) (by rw [numN_snoc, numN_snoc, hei]; omega) j
      simpa using this
end K04
end
section
set_option Elab.async false
set_option linter.all false
set_option maxRecDepth 100000
set_option maxHeartbeats 4000000
namespace K04
open PySem PySem.Spec PyProof.Rows L2 FT
theorem pick01 {α : Type} (a b : α) : pick [0, 1] [a, b] = [a, b] := (rfl)
theorem ev_word_right {st : List Nat} (S : Stock st) {s : List Nat} (h : ∀ c ∈ s, c ∈ st) (hs : s.length ≤ 12) (w : List D) : f__law_word_right [.str s, .str st] w = .ok (.bl true) w := by
  obtain ⟨l, L⟩ := S.last
  have e1 := ev_word_number_ok s st (wordB_of S h hs) S h w
  have e2 := ev_ahead S h w
  have e3 := ev_word_at S h hs w
  have e4 := ev_is_word (.str s) (decide_eq_true (by omega)) w
  rw [show wordD (.str s) = true from wordB_of S h hs] at e4
  have e5 := ev_of_stock s st (by omega) w
  rw [show (s.all fun c => decide (c ∈ st)) = true from List.all_eq_true.mpr fun c hc => decide_eq_true (h c hc)] at e5
  have e6 := ev_is_stock (.str st) S.ok.2 w
  rw [S.ok.1] at e6
  have hb : ∃ d, f_next_word [.str s, .str st] w = .ok d w ∧ f__law_behind [.str s, .str st] w = .ok d w ∧ oEq true d d = some (.bl false) := by
    rcases ev_behind S L h hs w with ⟨rfl, e⟩ | ⟨t, e, h1, h2, h3⟩
    · exact ⟨_, ev_next_word_last S L w, e, by simp [oEq_nn]⟩
    · exact ⟨_, ev_next_word S L h hs h1 (by omega) h3 (not_last S L h1 h2 (by omega)) w, e, by simp [oEq_ss]⟩
  obtain ⟨d, e7, e8, e9⟩ := hb
  generalize ((numN st s : Nat) : Int) = q at *
  simp [f__law_word_right, b_f__law_word_right, s_runB, sd0, pick01, e1, e2, e3, e4, e5, e6, e7, e8, e9, tyN, isiB, truthD, oEq_ii, oEq_ss]
theorem eqL_strs : ∀ ws : List (List Nat), eqL (ws.map D.str) (ws.map D.str) = true
  | [] => (rfl)
  | x :: ws => by
    show (eqD (.str x) (.str x) && eqL (ws.map D.str) (ws.map D.str)) = true
    rw [eqL_strs ws, Bool.and_true]
    show (x == x) = true
    simp
theorem dep_strs (ws : List (List Nat)) : dep 8 (.lst (ws.map D.str)) = true := by
  show (ws.map D.str).all (dep 7) = true
  rw [List.all_eq_true]
  intro d hd
  obtain ⟨x, _, rfl⟩ := List.mem_map.mp hd
  rfl
theorem oEq_strs (neg : Bool) (ws : List (List Nat)) : oEq neg (.lst (ws.map D.str)) (.lst (ws.map D.str)) = some (.bl (if neg then false else true)) := by
  unfold oEq
  rw [dep_strs ws]
  have : eqD (.lst (ws.map D.str)) (.lst (ws.map D.str)) = true := eqL_strs ws
  rw [this]
  cases neg <;> rfl
theorem oEq_e (neg : Bool) : oEq neg (.lst []) (.lst []) = some (.bl (if neg then false else true)) := by cases neg <;> exact (rfl)
theorem fList_tup (ds : List D) : items (.tup ds) = some ds := (rfl)
theorem ev_all_right {st : List Nat} (S : Stock st) {m : Nat} (hm : m ≤ 12) (hp : st.length ^ m ≤ 20000) (w : List D) : f__law_all_right [.str st, .int m] w = .ok (.bl true) w := by
  obtain ⟨l, L⟩ := S.last
  have e1 := ev_words_of S hm hp w
  have e2 := ev_listed S hm hp w
  have e3 := oEq_strs true (UU st m)
  have hin : ∀ {i s}, (UU st m)[i]? = some s → s.length ≤ 12 ∧ (∀ c ∈ s, c ∈ st) ∧ numN st s = i := fun {i s} h => by
    have := mem_uu (List.mem_of_getElem? h)
    exact ⟨by omega, this.2, uu_num_at S.nd h⟩
  have c1 : ∀ x y z, compL (gTu 2 (gsCons (gN 4) (gsCons (gN 5) gsNil))) (mOr (mTst (mBin (oEq true) (mCall (nArg 2 f_word_number) (mCons (mV 5) (mCons (mV 0) mNil))) (mVB 4))) (mTst (mBin (oEq true) (mCall (nArg 2 f_word_at) (mCons (mV 0) (mCons (mV 4) mNil))) (mVB 5)))) (mV 4)
      [.val (.str st), x, y, z, .no, .no, .no, .no] (enumD 0 ((UU st m).map D.str)) w = some ([], w) := by
    intro x y z
    rw [compL_pure (fun _ => false) id]
    · simp
    · intro d hd
      obtain ⟨i, hi⟩ := List.mem_iff_getElem?.mp hd
      rw [enumD_get, List.getElem?_map, Nat.zero_add] at hi
      cases hs : (UU st m)[i]? with
      | none => rw [hs] at hi; cases hi
      | some s =>
        rw [hs] at hi
        cases hi
        obtain ⟨h1, h2, h3⟩ := hin hs
        refine ⟨_, rfl, ?_, fun h => absurd h (by simp)⟩
        have g1 := ev_word_number_ok s st (wordB_of S h2 h1) S h2 w
        have g2 := ev_word_at S h2 h1 w
        rw [h3] at g1 g2
        simp [g1, g2, oEq_ii, oEq_ss]
  have c2 : ∀ x y z, compL (gTu 2 (gsCons (gN 6) (gsCons (gN 7) gsNil))) (mTst (mBin (oEq true) (mCall (nArg 2 f_next_word) (mCons (mV 6) (mCons (mV 0) mNil))) (mVB 7))) (mV 6)
      [.val (.str st), x, y, z, .no, .no, .no, .no] (zipD ((UU st m).map D.str) (((UU st m).map D.str).drop 1)) w = some ([], w) := by
    intro x y z
    rw [compL_pure (fun _ => false) id]
    · simp
    · intro d hd
      obtain ⟨i, hi⟩ := List.mem_iff_getElem?.mp hd
      obtain ⟨a, b, ha, hb, rfl⟩ := zipD_get _ _ _ _ hi
      rw [List.getElem?_map] at ha
      rw [List.getElem?_drop, List.getElem?_map] at hb
      cases hs : (UU st m)[i]? with
      | none => rw [hs] at ha; cases ha
      | some s =>
        cases ht : (UU st m)[1 + i]? with
        | none => rw [ht] at hb; cases hb
        | some t =>
          rw [hs] at ha; cases ha
          rw [ht] at hb; cases hb
          obtain ⟨h1, h2, h3⟩ := hin hs
          obtain ⟨k1, k2, k3⟩ := hin ht
          refine ⟨_, rfl, ?_, fun h => absurd h (by simp)⟩
          have g := ev_next_word S L h2 h1 k2 (by omega) (by omega) (not_last S L k2 k1 (by omega)) w
          simp [g, oEq_ss]
  have hlen : ((UU st m).map D.str).length ≤ 260000 := by rw [List.length_map]; exact (small_of S hm hp (Nat.le_refl m)).2
  have hen : (enumD 0 ((UU st m).map D.str)).length ≤ 16777216 := by rw [enumD_len]; omega
  have hzl : (zipD ((UU st m).map D.str) (((UU st m).map D.str).drop 1)).length ≤ 16777216 := by rw [zipD_len]; omega
  have hcut : FT.cutD ((UU st m).map D.str) (some 1) none = ((UU st m).map D.str).drop 1 := by
    generalize (UU st m).map D.str = l
    show (l.drop (min 1 l.length)).take (l.length - min 1 l.length) = _
    rw [List.take_of_length_le (by rw [List.length_drop]; omega)]
    cases l with
    | nil => rfl
    | cons a r => rw [show min 1 (a :: r).length = 1 by simp]
  have hz : fZipX [.lst ((UU st m).map D.str), .lst (((UU st m).map D.str).drop 1)] = some (zipD ((UU st m).map D.str) (((UU st m).map D.str).drop 1)) := rfl
  generalize zipD ((UU st m).map D.str) (((UU st m).map D.str).drop 1) = zz at *
  generalize hee : enumD 0 ((UU st m).map D.str) = ee at *
  generalize ((UU st m).map D.str).drop 1 = u1 at *
  have c1' := c1 (.val (.int m)) (.val (.tup ((UU st m).map D.str))) (.val (.lst ((UU st m).map D.str)))
  have c2' := c2 (.val (.int m)) (.val (.tup ((UU st m).map D.str))) (.val (.lst ((UU st m).map D.str)))
  clear c1 c2 hin
  generalize (UU st m).map D.str = u at *
  simp [f__law_all_right, b_f__law_all_right, s_runB, sd0, pick01, e1, e2, tyN, isiB, truthD, fList_tup, e3, hee, hen, c1', oEq_e, oSl, hcut, hz, hzl, c2']
end K04
end
section
set_option Elab.async false
set_option linter.all false
set_option maxRecDepth 100000
set_option maxHeartbeats 4000000
namespace K04
open PySem PySem.Spec PyProof.Rows L2 FT
abbrev sNumber : List Nat := [110, 117, 109, 98, 101, 114]
abbrev sMost : List Nat := [109, 111, 115, 116]
abbrev sMisfit : List Nat := [109, 105, 115, 102, 105, 116]
abbrev sMany : List Nat := [109, 97, 110, 121]
abbrev sWords : List Nat := [119, 111, 114, 100, 115]
theorem hd0 (p : D) : hdsD xm 0 ["part"] [p] hdsL = some (.tup [.str sWord, p]) := (rfl)
theorem hd1 (p : D) : hdsD xm 1 ["part"] [p] hdsL = some (.tup [.str sStock, p]) := (rfl)
theorem hd2 (p : D) : hdsD xm 2 ["part"] [p] hdsL = some (.tup [.str sMisfit, p]) := (rfl)
theorem hd3 (p : D) : hdsD xm 3 ["part"] [p] hdsL = some (.tup [.str sNumber, p]) := (rfl)
theorem hd4 (p q : D) : hdsD xm 4 ["most", "what"] [q, p] hdsL = some (.tup [.str sMany, p, q]) := (rfl)
theorem hr0 {m : ME D} {sd : SD} {w : List D} {p : D} (h : m sd w = .exc 0 ["part"] [p] w) : mHeard nC xm hdsL m sd w = .ok (.tup [.str sWord, p]) w := by
  rw [s_mHeard, h]; simp [nC, hd0]
theorem hr1 {m : ME D} {sd : SD} {w : List D} {p : D} (h : m sd w = .exc 1 ["part"] [p] w) : mHeard nC xm hdsL m sd w = .ok (.tup [.str sStock, p]) w := by
  rw [s_mHeard, h]; simp [nC, hd1]
theorem hr2 {m : ME D} {sd : SD} {w : List D} {p : D} (h : m sd w = .exc 2 ["part"] [p] w) : mHeard nC xm hdsL m sd w = .ok (.tup [.str sMisfit, p]) w := by
  rw [s_mHeard, h]; simp [nC, hd2]
theorem hr3 {m : ME D} {sd : SD} {w : List D} {p : D} (h : m sd w = .exc 3 ["part"] [p] w) : mHeard nC xm hdsL m sd w = .ok (.tup [.str sNumber, p]) w := by
  rw [s_mHeard, h]; simp [nC, hd3]
theorem hr4 {m : ME D} {sd : SD} {w : List D} {p q : D} (h : m sd w = .exc 4 ["most", "what"] [q, p] w) : mHeard nC xm hdsL m sd w = .ok (.tup [.str sMany, p, q]) w := by
  rw [s_mHeard, h]; simp [nC, hd4]
/-! ### refusals -/
theorem no_words_of {d n : D} (hd : okD d = true) (hs : stockD d = false) (w : List D) : f_words_of [d, n] w = .exc 1 ["part"] [.str sStock] w := by
  have e1 := ev_need_stock d (.str sStock) hd w
  rw [hs, if_neg (by simp)] at e1
  simp [f_words_of, b_f_words_of, s_runB, sd0, e1]
theorem no_words_of2 {st : List Nat} (S : Stock st) {n : D} (hn : okD n = true) (hi : withinD n 12 = false) (w : List D) : f_words_of [.str st, n] w = .exc 3 ["part"] [.str sMost] w := by
  have e1 := ev_need_stock (.str st) (.str sStock) S.ok.2 w
  rw [if_pos S.ok.1] at e1
  have e2 := ev_is_within n hn 12 w
  rw [hi] at e2
  simp [f_words_of, b_f_words_of, s_runB, sd0, e1, e2, truthD]
theorem no_words_of3 {st : List Nat} (S : Stock st) {m : Nat} (hm : m ≤ 12) (hp : 20000 < st.length ^ m) (w : List D) : f_words_of [.str st, .int m] w = .exc 4 ["most", "what"] [.int 20000, .str sWords] w := by
  have e1 := ev_need_stock (.str st) (.str sStock) S.ok.2 w
  rw [if_pos S.ok.1] at e1
  have e2 := ev_is_within (.int m) rfl 12 w
  have e2' : withinD (.int m) 12 = true := by simp [withinD]; omega
  rw [e2'] at e2
  have e3 := ev_many_with st m S.few (by omega) w
  have e4 : (20000 : Int) < ((st.length ^ m : Nat) : Int) := by omega
  generalize ((st.length ^ m : Nat) : Int) = q at e3 e4
  simp [f_words_of, b_f_words_of, s_runB, sd0, e1, e2, truthD, e3, oCmp, fGt, e4]
theorem no_word_of1 {d n : D} (hd : okD d = true) (hs : wordD d = false) (w : List D) : f_need_word_of [d, n] w = .exc 0 ["part"] [.str sWord] w := by
  have e1 := ev_need_word d (.str sWord) hd w
  rw [hs, if_neg (by simp)] at e1
  simp [f_need_word_of, b_f_need_word_of, s_runB, sd0, e1]
theorem no_word_of2 {d n : D} (hd : okD d = true) (hs : wordD d = true) (hn : okD n = true) (hs2 : stockD n = false) (w : List D) : f_need_word_of [d, n] w = .exc 1 ["part"] [.str sStock] w := by
  have e1 := ev_need_word d (.str sWord) hd w
  rw [hs, if_pos rfl] at e1
  have e2 := ev_need_stock n (.str sStock) hn w
  rw [hs2, if_neg (by simp)] at e2
  simp [f_need_word_of, b_f_need_word_of, s_runB, sd0, e1, e2]
theorem no_word_of3 {s st : List Nat} (hs : wordB s = true) (S : Stock st) (hx : (s.all fun c => decide (c ∈ st)) = false) (w : List D) : f_need_word_of [.str s, .str st] w = .exc 2 ["part"] [.str sStock] w := by
  have hl : s.length ≤ 16777216 := by
    have := (Bool.and_eq_true_iff.mp hs).1
    have := of_decide_eq_true this
    omega
  have e1 := ev_need_word (.str s) (.str sWord) (decide_eq_true hl) w
  rw [if_pos (show wordD (.str s) = true from hs)] at e1
  have e2 := ev_need_stock (.str st) (.str sStock) S.ok.2 w
  rw [if_pos S.ok.1] at e2
  have e3 := ev_of_stock s st hl w
  rw [hx] at e3
  simp [f_need_word_of, b_f_need_word_of, s_runB, sd0, e1, e2, e3, truthD]
theorem no_word_number {d n : D} {c : Nat} {p : D} {w : List D} (h : f_need_word_of [d, n] w = .exc c ["part"] [p] w) : f_word_number [d, n] w = .exc c ["part"] [p] w := by
  simp [f_word_number, b_f_word_number, s_runB, sd0, h]
theorem no_next_word {d n : D} {c : Nat} {p : D} {w : List D} (h : f_need_word_of [d, n] w = .exc c ["part"] [p] w) : f_next_word [d, n] w = .exc c ["part"] [p] w := by
  simp [f_next_word, b_f_next_word, s_runB, sd0, h]
theorem no_word_at1 {d n : D} (hd : okD d = true) (hs : stockD d = false) (w : List D) : f_word_at [d, n] w = .exc 1 ["part"] [.str sStock] w := by
  have e1 := ev_need_stock d (.str sStock) hd w
  rw [hs, if_neg (by simp)] at e1
  simp [f_word_at, b_f_word_at, s_runB, sd0, e1]
theorem no_word_at2 {st : List Nat} {l : Nat} (S : Stock st) (L : LastS st l) {d : D} (hd : okD d = true) (h : withinD d (lastN st l) = false) (w : List D) : f_word_at [.str st, d] w = .exc 3 ["part"] [.str sNumber] w := by
  rw [ev_word_at_gen S L d hd w, if_neg (by simp [h])]
theorem last_bound {st : List Nat} {l : Nat} (S : Stock st) (L : LastS st l) : ∀ n, numN st (List.replicate n l) + 2 ≤ 2 * 5 ^ n
  | 0 => by simp [numN]
  | n + 1 => by
    have ih := last_bound S L n
    have h1 := S.pos
    have h2 := S.few
    rw [List.replicate_succ', numN_snoc, L.idx, Nat.pow_succ]
    have := Nat.mul_le_mul_left (numN st (List.replicate n l)) h2
    omega
theorem last_pos {st : List Nat} {l : Nat} : 0 < lastN st l := by
  unfold lastN
  rw [show (12 : Nat) = 11 + 1 from rfl, List.replicate_succ', numN_snoc]
  omega
theorem within_no : ∀ d ∈ [D.non, .bl true, .int (-1), .str [49], .lst [.int 1], .tup [.int 0]], ∀ q, okD d = true ∧ withinD d q = false := by
  intro d hd q
  simp only [List.mem_cons, List.not_mem_nil, or_false] at hd
  rcases hd with rfl | rfl | rfl | rfl | rfl | rfl <;> exact ⟨rfl, rfl⟩
theorem odd_no : ∀ d ∈ [D.non, .int 5, .str [65], .str [97, 45], .str [97, 97, 97, 97, 97, 97, 97, 97, 97, 97, 97, 97, 97], .lst [.str [97]], .str [97, 32, 98], .str [49], .tup [.str [97]], .str [35]], okD d = true ∧ wordD d = false := by
  intro d hd
  simp only [List.mem_cons, List.not_mem_nil, or_false] at hd
  rcases hd with rfl | rfl | rfl | rfl | rfl | rfl | rfl | rfl | rfl | rfl <;> exact ⟨rfl, rfl⟩
theorem bad_no : ∀ d ∈ [D.str [], .str [98, 97], .str [97, 97], .str [97, 98, 99, 100, 101, 102], .non, .int 3, .lst [.str [97], .str [98]], .str [97, 66], .str [97, 32], .str [45]], okD d = true ∧ stockD d = false := by
  intro d hd
  simp only [List.mem_cons, List.not_mem_nil, or_false] at hd
  rcases hd with rfl | rfl | rfl | rfl | rfl | rfl | rfl | rfl | rfl | rfl <;> exact ⟨rfl, rfl⟩
end K04
end
section
set_option Elab.async false
set_option linter.all false
set_option maxRecDepth 100000
set_option maxHeartbeats 4000000
namespace K04
open PySem PySem.Spec PyProof.Rows L2 FT
def refTail : MS :=
    (mSeq (mSetO 9 (mLstF (mCons (mHeard nC xm hdsL (mCall (nArg 2 f_words_of) (mCons (mV 3) (mCons (mV 4) mNil)))) mNil)))
    (mSeq (mApp 9 (mHeard nC xm hdsL (mCall (nArg 2 f_words_of) (mCons (mV 1) (mCons (mV 4) mNil)))))
    (mSeq (mApp 9 (mHeard nC xm hdsL (mCall (nArg 2 f_words_of) (mCons (mV 1) (mCons (mC (.int 13)) mNil)))))
    (mSeq (mApp 9 (mHeard nC xm hdsL (mCall (nArg 2 f_word_number) (mCons (mV 2) (mCons (mV 3) mNil)))))
    (mSeq (mApp 9 (mHeard nC xm hdsL (mCall (nArg 2 f_word_number) (mCons (mC (.str [])) (mCons (mV 3) mNil)))))
    (mSeq (mApp 9 (mHeard nC xm hdsL (mCall (nArg 2 f_word_number) (mCons (mV 7) (mCons (mV 1) mNil)))))
    (mSeq (mApp 9 (mHeard nC xm hdsL (mCall (nArg 2 f_next_word) (mCons (mV 2) (mCons (mV 3) mNil)))))
    (mSeq (mApp 9 (mHeard nC xm hdsL (mCall (nArg 2 f_next_word) (mCons (mC (.str [])) (mCons (mV 3) mNil)))))
    (mSeq (mApp 9 (mHeard nC xm hdsL (mCall (nArg 2 f_next_word) (mCons (mBin oAdd (mIx (mVB 1) (mC (.int 0))) (mVB 7)) (mCons (mV 1) mNil)))))
    (mSeq (mApp 9 (mHeard nC xm hdsL (mCall (nArg 2 f_word_at) (mCons (mV 3) (mCons (mV 4) mNil)))))
    (mSeq (mApp 9 (mHeard nC xm hdsL (mCall (nArg 2 f_word_at) (mCons (mV 1) (mCons (mV 4) mNil)))))
    (mSeq (mApp 9 (mHeard nC xm hdsL (mCall (nArg 2 f_word_at) (mCons (mV 1) (mCons (mV 6) mNil)))))
    (mSeq (mAsg (gN 10) (mLst (mCons (mTup (mCons (mC (.str [115, 116, 111, 99, 107])) (mCons (mC (.str [115, 116, 111, 99, 107])) mNil))) (mCons (mTup (mCons (mC (.str [110, 117, 109, 98, 101, 114])) (mCons (mC (.str [109, 111, 115, 116])) mNil))) (mCons (mTup (mCons (mC (.str [110, 117, 109, 98, 101, 114])) (mCons (mC (.str [109, 111, 115, 116])) mNil))) (mCons (mTup (mCons (mC (.str [119, 111, 114, 100])) (mCons (mC (.str [119, 111, 114, 100])) mNil))) (mCons (mTup (mCons (mC (.str [115, 116, 111, 99, 107])) (mCons (mC (.str [115, 116, 111, 99, 107])) mNil))) (mCons (mTup (mCons (mC (.str [109, 105, 115, 102, 105, 116])) (mCons (mC (.str [115, 116, 111, 99, 107])) mNil))) mNil))))))))
    (mSeq (mAsg (gN 10) (mBin oAdd (mBin oAdd (mVB 10) (mSl (mVB 10) (mPart (mC (.int 3))) mNoP)) (mLst (mCons (mTup (mCons (mC (.str [115, 116, 111, 99, 107])) (mCons (mC (.str [115, 116, 111, 99, 107])) mNil))) (mCons (mTup (mCons (mC (.str [110, 117, 109, 98, 101, 114])) (mCons (mC (.str [110, 117, 109, 98, 101, 114])) mNil))) (mCons (mTup (mCons (mC (.str [110, 117, 109, 98, 101, 114])) (mCons (mC (.str [110, 117, 109, 98, 101, 114])) mNil))) mNil))))))
    (mRet (mAndV (mBin (oEq false) (mVB 9) (mVB 10)) (mAndV (mBin (oEq false) (mCall (nArg 2 f_word_at) (mCons (mV 1) (mCons (mV 5) mNil))) (mBin oMul (mIx (mVB 1) (mUn oNeg (mC (.int 1)))) (mC (.int 12)))) (mBin (oIs false) (mCall (nArg 2 f_next_word) (mCons (mBin oMul (mIx (mVB 1) (mUn oNeg (mC (.int 1)))) (mC (.int 12))) (mCons (mV 1) mNil))) (mC .non)))))))))))))))))))
theorem rf_split : b_f__law_refused_right = (mSeq (mAsg (gN 2) (mCall (nArg 2 f__law_pick) (mCons (mV 0) (mCons (mLst (mCons (mC .non) (mCons (mC (.int 5)) (mCons (mC (.str [65])) (mCons (mC (.str [97, 45])) (mCons (mBin oMul (mC (.str [97])) (mC (.int 13))) (mCons (mLst (mCons (mC (.str [97])) mNil)) (mCons (mC (.str [97, 32, 98])) (mCons (mC (.str [49])) (mCons (mTup (mCons (mC (.str [97])) mNil)) (mCons (mC (.str [35])) mNil))))))))))) mNil))))
    (mSeq (mAsg (gN 3) (mCall (nArg 2 f__law_pick) (mCons (mV 0) (mCons (mLst (mCons (mC (.str [])) (mCons (mC (.str [98, 97])) (mCons (mC (.str [97, 97])) (mCons (mC (.str [97, 98, 99, 100, 101, 102])) (mCons (mC .non) (mCons (mC (.int 3)) (mCons (mLst (mCons (mC (.str [97])) (mCons (mC (.str [98])) mNil))) (mCons (mC (.str [97, 66])) (mCons (mC (.str [97, 32])) (mCons (mC (.str [45])) mNil))))))))))) mNil))))
    (mSeq (mAsg (gN 4) (mCall (nArg 2 f__law_pick) (mCons (mV 0) (mCons (mLst (mCons (mC .non) (mCons (mC (.bl true)) (mCons (mUn oNeg (mC (.int 1))) (mCons (mC (.str [49])) (mCons (mLst (mCons (mC (.int 1)) mNil)) (mCons (mTup (mCons (mC (.int 0)) mNil)) mNil))))))) mNil))))
    (mSeq (mAsg (gN 5) (mCall (nArg 2 f__law_ahead) (mCons (mBin oMul (mIx (mVB 1) (mUn oNeg (mC (.int 1)))) (mC (.int 12))) (mCons (mV 1) mNil))))
    (mSeq (mAsg (gTu 2 (gsCons (gN 6) (gsCons (gN 7) gsNil))) (mTup (mCons (mCall (nArg 2 f__law_pick) (mCons (mV 0) (mCons (mLst (mCons (mBin oAdd (mVB 5) (mC (.int 1))) (mCons (mBin oPow (mC (.int 10)) (mC (.int 40))) (mCons (mUn oNeg (mC (.int 3))) (mCons (mBin oMul (mVB 5) (mC (.int 2))) mNil))))) mNil))) (mCons (mCall (nArg 2 f__law_pick) (mCons (mV 0) (mCons (mF (mComp (mSeqI (mC (.str [97, 98, 99, 100, 101, 102, 103]))) (gN 8) (mTst (mBin (oIn true) (mVB 8) (mVB 1))) (mV 8) [8])) mNil))) mNil))))
    (mSeq (mIf (mOr (mTru (mCall (nArg 1 f_is_word) (mCons (mV 2) mNil))) (mTru (mCall (nArg 1 f_is_stock) (mCons (mV 3) mNil))))
    (mRet (mC (.bl false)))
    mSkip) refTail)))))) := rfl
theorem fewer : ∀ {l st : List Nat}, l.Nodup → (∀ x ∈ l, x ∈ st) → l.length ≤ st.length
  | [], _, _, _ => by simp
  | a :: l, st, hn, h => by
    obtain ⟨h1, h2⟩ := List.nodup_cons.mp hn
    have := fewer (l := l) (st := st.erase a) h2 fun x hx => (List.mem_erase_of_ne (fun e : x = a => h1 (by rw [← e]; exact hx))).mpr (h x (List.mem_cons_of_mem _ hx))
    have hm := h a List.mem_cons_self
    rw [List.length_erase_of_mem hm] at this
    have := List.length_pos_of_mem hm
    rw [List.length_cons]; omega
abbrev ABG : List Nat := [97, 98, 99, 100, 101, 102, 103]
theorem strange {st : List Nat} (S : Stock st) : 0 < (ABG.filter fun x => !decide (x ∈ st)).length := by
  refine Nat.pos_of_ne_zero fun e => ?_
  have h := List.filter_eq_nil_iff.mp (List.length_eq_zero_iff.mp e)
  have := fewer (l := ABG) (st := st) (by decide) fun x hx => by
    have := h x hx
    simpa using this
  have := S.few
  simp at *
  omega
abbrev HL : List D := [.tup [.str sStock, .str sStock], .tup [.str sNumber, .str sMost], .tup [.str sNumber, .str sMost], .tup [.str sWord, .str sWord], .tup [.str sStock, .str sStock], .tup [.str sMisfit, .str sStock],
  .tup [.str sWord, .str sWord], .tup [.str sStock, .str sStock], .tup [.str sMisfit, .str sStock], .tup [.str sStock, .str sStock], .tup [.str sNumber, .str sNumber], .tup [.str sNumber, .str sNumber]]
theorem hl_eq : oEq false (.lst HL) (.lst HL) = some (.bl true) := (rfl)
theorem cut3 (a b c d e f : D) : FT.cutD [a, b, c, d, e, f] (some 3) none = [d, e, f] := (rfl)
theorem wb (s : List Nat) (h : s.length ≤ 12) (h2 : ∀ c ∈ s, c ∈ LET) : wordB s = true := by
  unfold wordB
  rw [decide_eq_true h, List.all_eq_true.mpr fun c hc => decide_eq_true (h2 c hc)]; rfl
theorem ev_refTail {st : List Nat} {l f x : Nat} (S : Stock st) (L : LastS st l) (hf : st[0]? = some f) (hx : x ∈ ABG) (hxs : x ∉ st) {odd bad non bey : D} (h1 : okD odd = true ∧ wordD odd = false) (h2 : okD bad = true ∧ stockD bad = false) (h3 : ∀ q, okD non = true ∧ withinD non q = false)
    (h4 : okD bey = true ∧ withinD bey (lastN st l) = false) (w : List D) :
    refTail [.val .pen, .val (.str st), .val odd, .val bad, .val non, .val (.int (lastN st l)), .val bey, .val (.str [x]), .no, .no, .no] w = .ret (.bl true) w := by
  have hfm : f ∈ st := List.mem_of_getElem? hf
  have hfl : f ∈ LET := by
    obtain ⟨a, b⟩ := S.let_ f hfm
    have : ∀ j < 26, 97 + j ∈ LET := by decide
    have q := this (f - 97) (by omega)
    rw [show 97 + (f - 97) = f by omega] at q
    exact q
  have hxl : x ∈ LET := by
    have : ∀ x ∈ ABG, x ∈ LET := by decide
    exact this x hx
  have g1 := no_words_of (n := non) h2.1 h2.2 w
  have g2 := no_words_of2 S (h3 12).1 (h3 12).2 w
  have g3 := no_words_of2 S (n := .int 13) rfl (by decide) w
  have g4 := no_word_number (no_word_of1 (n := bad) h1.1 h1.2 w)
  have g5 := no_word_number (no_word_of2 (d := .str []) rfl (by decide) h2.1 h2.2 w)
  have g6 := no_word_number (no_word_of3 (s := [x]) (wb [x] (by simp) (fun c hc => by rw [List.mem_singleton.mp hc]; exact hxl)) S (by simp [hxs]) w)
  have g7 := no_next_word (no_word_of1 (n := bad) h1.1 h1.2 w)
  have g8 := no_next_word (no_word_of2 (d := .str []) rfl (by decide) h2.1 h2.2 w)
  have g9 := no_next_word (no_word_of3 (s := [f, x]) (wb [f, x] (by simp) (fun c hc => by
    rcases List.mem_cons.mp hc with rfl | hc
    · exact hfl
    · rw [List.mem_singleton.mp hc]; exact hxl)) S (by simp [hxs]) w)
  have g10 := no_word_at1 (n := non) h2.1 h2.2 w
  have g11 := no_word_at2 S L (h3 0).1 (h3 _).2 w
  have g12 := no_word_at2 S L h4.1 h4.2 w
  have g13 := ev_word_at S (rep_mem L 12) (by simp) w
  have g14 := ev_next_word_last S L w
  change f_word_at [.str st, .int ((lastN st l : Nat) : Int)] w = _ at g13
  have a0 := atI_nat st 0 f hf
  have a1 := last_at L S.pos
  have a2 : oMul (.str [l]) (.int 12) = some (.str (List.replicate 12 l)) := rfl
  have a3 : oAdd (.str [f]) (.str [x]) = some (.str [f, x]) := rfl
  have h00 : ((0 : Nat) : Int) = 0 := rfl
  rw [h00] at a0
  generalize ((lastN st l : Nat) : Int) = q at *
  generalize List.replicate 12 l = rr at *
  have hle := hl_eq
  simp [refTail, nC, hd0, hd1, hd2, hd3, g1, g2, g3, g4, g5, g6, g7, g8, g9, g10, g11, g12, g13, g14, oIx, a0, a1, a2, a3, oNeg, oSl, cut3, oAdd, oStr, oLst, hle, oEq_ss, oIs, isNon]
end K04
end
section
set_option Elab.async false
set_option linter.all false
set_option maxRecDepth 100000
set_option maxHeartbeats 4000000
namespace K04
open PySem PySem.Spec PyProof.Rows L2 FT
theorem ev_refused_right {st : List Nat} (S : Stock st) {n : Nat} {w : List D} (W : Well n w) (hn : n < 9000) : ∃ w', f__law_refused_right [.pen, .str st] w = .ok (.bl true) w' ∧ Well (n + 5) w' := by
  obtain ⟨l, L⟩ := S.last
  obtain ⟨f, hf⟩ : ∃ f, st[0]? = some f := ⟨st[0]'(S.pos), List.getElem?_eq_getElem _⟩
  obtain ⟨odd, w1, p1, m1, W1⟩ := ev_pick (d := .lst [D.non, .int 5, .str [65], .str [97, 45], .str [97, 97, 97, 97, 97, 97, 97, 97, 97, 97, 97, 97, 97], .lst [.str [97]], .str [97, 32, 98], .str [49], .tup [.str [97]], .str [35]]) W (by omega) (.inl rfl) (by simp) (by simp)
  obtain ⟨bad, w2, p2, m2, W2⟩ := ev_pick (d := .lst [D.str [], .str [98, 97], .str [97, 97], .str [97, 98, 99, 100, 101, 102], .non, .int 3, .lst [.str [97], .str [98]], .str [97, 66], .str [97, 32], .str [45]]) W1 (by omega) (.inl rfl) (by simp) (by simp)
  obtain ⟨non, w3, p3, m3, W3⟩ := ev_pick (d := .lst [D.non, .bl true, .int (-1), .str [49], .lst [.int 1], .tup [.int 0]]) W2 (by omega) (.inl rfl) (by simp) (by simp)
  have e1 := ev_ahead S (rep_mem L 12) w3
  have hlb := last_bound S L 12
  have hlp : 0 < lastN st l := last_pos
  change numN st (List.replicate 12 l) + 2 ≤ _ at hlb
  change f__law_ahead [.str (List.replicate 12 l), .str st] w3 = .ok (.int (lastN st l)) w3 at e1
  obtain ⟨bey, w4, p4, m4, W4⟩ := ev_pick (d := .lst [.int ((lastN st l : Int) + 1), .int 10000000000000000000000000000000000000000, .int (-3), .int ((lastN st l : Int) * 2)]) W3 (by omega) (.inl rfl) (by simp) (by simp)
  have hbey : okD bey = true ∧ withinD bey (lastN st l) = false := by
    simp only [List.mem_cons, List.not_mem_nil, or_false] at m4
    rcases m4 with rfl | rfl | rfl | rfl
    · refine ⟨rfl, ?_⟩
      simp only [withinD, Bool.and_eq_false_iff, decide_eq_false_iff_not]; exact .inr (by omega)
    · refine ⟨rfl, ?_⟩
      simp only [withinD, Bool.and_eq_false_iff, decide_eq_false_iff_not]; exact .inr (by unfold lastN; omega)
    · exact ⟨rfl, rfl⟩
    · refine ⟨rfl, ?_⟩
      simp only [withinD, Bool.and_eq_false_iff, decide_eq_false_iff_not]; exact .inr (by omega)
  obtain ⟨x, w5, p5, m5, W5⟩ := ev_pick (d := .lst (S1 (ABG.filter fun x => !decide (x ∈ st)))) W4 (by omega) (.inl rfl) (by
    have := strange S
    show 0 < (List.map _ _).length
    rw [List.length_map]; exact this) (by
    show (List.map _ _).length < _
    rw [List.length_map]
    have := List.length_filter_le (fun x => !decide (x ∈ st)) ABG
    simp at this
    omega)
  obtain ⟨x, mx, rfl⟩ := List.mem_map.mp m5
  obtain ⟨x1, x2⟩ := List.mem_filter.mp mx
  have x2' : x ∉ st := by simpa using x2
  have hc : ∀ q : D, compL (gN 8) (mTst (mBin (oIn true) (mVB 8) (mVB 1))) (mV 8) [.val .pen, .val (.str st), .val odd, .val bad, .val non, .val q, .no, .no, .no, .no, .no] (ABG.map fun c => D.str [c]) w4 = some (S1 (ABG.filter fun x => !decide (x ∈ st)), w4) := by
    intro q
    have := compL_pure (g := gN 8) (mt := mTst (mBin (oIn true) (mVB 8) (mVB 1))) (me := mV 8) (sd0 := [.val .pen, .val (.str st), .val odd, .val bad, .val non, .val q, .no, .no, .no, .no, .no]) (w := w4) (fun d => match d with
      | .str [x] => !decide (x ∈ st)
      | _ => false) id (ABG.map fun c => D.str [c]) fun d hd => by
        obtain ⟨x, _, rfl⟩ := List.mem_map.mp hd
        refine ⟨_, rfl, ?_, fun _ => by simp⟩
        simp [oIn]
    rw [this, List.map_id, List.filter_map]
    rfl
  have hi : items (.str ABG) = some (ABG.map fun c => D.str [c]) := rfl
  have hil : (ABG.map fun c => D.str [c]).length ≤ 16777216 := by decide
  have rt := ev_refTail S L hf x1 x2' (odd_no odd m1) (bad_no bad m2) (within_no non m3) hbey w5
  have g1 := ev_is_word odd (odd_no odd m1).1 w5
  rw [(odd_no odd m1).2] at g1
  have g2 := ev_is_stock bad (bad_no bad m2).1 w5
  rw [(bad_no bad m2).2] at g2
  have a1 := last_at L S.pos
  have a2 : oMul (.str [l]) (.int 12) = some (.str (List.replicate 12 l)) := rfl
  have a3 : oMul (.str [97]) (.int 13) = some (.str [97, 97, 97, 97, 97, 97, 97, 97, 97, 97, 97, 97, 97]) := rfl
  have a4 : oMul (.int (lastN st l)) (.int 2) = some (.int ((lastN st l : Int) * 2)) := mul_small2 _ _ (by omega) (by omega)
  have a5 : oPow (.int 10) (.int 40) = some (.int 10000000000000000000000000000000000000000) := by
    simp [oPow, oInt, cPow]
  have hc' := hc (.int (lastN st l))
  clear hlb hlp hbey hc
  generalize ((lastN st l : Nat) : Int) = q at *
  generalize List.replicate 12 l = rr at *
  generalize S1 (ABG.filter fun x => !decide (x ∈ st)) = fl at *
  generalize (ABG.map fun c => D.str [c]) = es at *
  refine ⟨w5, ?_, W5⟩
  simp [f__law_refused_right, rf_split, s_runB, sd0, p1, p2, p3, oNeg, oIx, a1, a2, a3, e1, a4, a5, oAdd, p4, hi, hil, hc', p5, g1, g2, truthD, rt]
theorem ev_many_right {st : List Nat} (S : Stock st) (h3 : 3 ≤ st.length) (w : List D) : f__law_many_right [.str st] w = .ok (.bl true) w := by
  have h5 := S.few
  have hw7 : ∀ (k : Nat), st.length = k → 20000 < k ^ 7 → f_words_of [.str st, .int 7] w = .exc 4 ["most", "what"] [.int 20000, .str sWords] w := fun k e h => no_words_of3 S (m := 7) (by omega) (by rw [e]; exact h) w
  have eqm : oEq true (.tup [.str sMany, .str sWords, .int 20000]) (.tup [.str [109, 97, 110, 121], .str [119, 111, 114, 100, 115], .int 20000]) = some (.bl false) := (rfl)
  have hk : st.length = 3 ∨ st.length = 4 ∨ st.length = 5 := by omega
  have hlen : fLen w [.str st] = some (.int (st.length : Nat)) := rfl
  rcases hk with hk | hk | hk
  · have g := no_words_of3 S (m := 10) (by omega) (by rw [hk]; decide) w
    have i1 : oIx w (.lst [D.non, .non, .non, .int 10, .int 8, .int 7]) (.int 3) = some (.int 10) := rfl
    rw [hk] at hlen
    simp only [Int.cast_ofNat_Int] at hlen g
    simp [f__law_many_right, b_f__law_many_right, s_runB, sd0, hlen, i1, oIs, isNon, nC, g, hd4, eqm, oEq_ii]
  · have g := no_words_of3 S (m := 8) (by omega) (by rw [hk]; decide) w
    have g2 := ev_words_of S (m := 7) (by omega) (by rw [hk]; decide) w
    have i1 : oIx w (.lst [D.non, .non, .non, .int 10, .int 8, .int 7]) (.int 4) = some (.int 8) := rfl
    have hl2 : fLen w [.tup ((UU st 7).map D.str)] = some (.int 21845) := by
      show some (D.int (((UU st 7).map D.str).length : Nat)) = _
      rw [List.length_map, uu_len S.nd, hk]; rfl
    rw [hk] at hlen
    simp only [Int.cast_ofNat_Int] at hlen g g2
    generalize (UU st 7).map D.str = u at *
    simp [f__law_many_right, b_f__law_many_right, s_runB, sd0, hlen, i1, oIs, isNon, nC, g, hd4, eqm, oEq_ii, g2, hl2]
  · have g := no_words_of3 S (m := 7) (by omega) (by rw [hk]; decide) w
    have i1 : oIx w (.lst [D.non, .non, .non, .int 10, .int 8, .int 7]) (.int 5) = some (.int 7) := rfl
    rw [hk] at hlen
    simp only [Int.cast_ofNat_Int] at hlen g
    simp [f__law_many_right, b_f__law_many_right, s_runB, sd0, hlen, i1, oIs, isNon, nC, g, hd4, eqm, oEq_ii]
end K04
end
section
set_option Elab.async false
set_option linter.all false
set_option maxRecDepth 100000
set_option maxHeartbeats 4000000
namespace K04
open PySem PySem.Spec PyProof.Rows L2 FT
def drawS : MS := (mAsg (gN 5) (mMt fJoin (mC (.str [])) (mCons (mF (mComp (mRng1 (mCall (nArg 2 f__law_dip) (mCons (mV 1) (mCons (mC (.int 13)) mNil)))) (gN 6) mYes (mCall (nArg 2 f__law_pick) (mCons (mV 1) (mCons (mV 3) mNil))) [6])) mNil)))
def askS : MS := (mIf (mOr (mNotT (mTru (mCall (nArg 2 f__law_word_right) (mCons (mV 5) (mCons (mV 3) mNil))))) (mNotT (mTru (mCall (nArg 2 f__law_word_right) (mCons (mBin oAdd (mSl (mVB 5) mNoP (mPart (mC (.int 1)))) (mBin oMul (mIx (mVB 3) (mUn oNeg (mC (.int 1)))) (mCB fLen (mCons (mSl (mVB 5) (mPart (mC (.int 1))) mNoP) mNil)))) (mCons (mV 3) mNil))))))
    (mRet (mC (.bl false)))
    mSkip)
theorem singles2 {st : List Nat} : ∀ {ys : List D}, (∀ y ∈ ys, ∃ c ∈ st, y = .str [c]) → ∃ s : List Nat, ys = S1 s ∧ ∀ c ∈ s, c ∈ st
  | [], _ => ⟨[], rfl, by simp⟩
  | y :: ys, h => by
    obtain ⟨c, hc, rfl⟩ := h y List.mem_cons_self
    obtain ⟨s, rfl, hs⟩ := singles2 fun z hz => h z (List.mem_cons_of_mem _ hz)
    exact ⟨c :: s, rfl, fun x hx => by
      rcases List.mem_cons.mp hx with rfl | hx
      · exact hc
      · exact hs x hx⟩
theorem ev_draw {st : List Nat} (S : Stock st) {n : Nat} {w : List D} (W : Well n w) (hn : n < 9000) (a b c d : SV) : ∃ s w', drawS [a, .val .pen, b, .val (.str st), c, d, .no] w = .nx [a, .val .pen, b, .val (.str st), c, .val (.str s), .no] w' ∧ s.length ≤ 12 ∧ (∀ c ∈ s, c ∈ st) ∧ ∃ m, m ≤ n + 13 ∧ Well m w' := by
  obtain ⟨r, w1, e1, b1, b2, W1⟩ := ev_dip (m := 13) W (by omega) (by omega) (by omega)
  obtain ⟨m, rfl⟩ : ∃ m : Nat, r = m := ⟨r.toNat, by omega⟩
  obtain ⟨ys, w2, e2, l2, p2, W2⟩ := compL_inv (g := gN 6) (mt := mYes) (me := mCall (nArg 2 f__law_pick) (mCons (mV 1) (mCons (mV 3) mNil))) (sd0 := [a, .val .pen, b, .val (.str st), c, d, .no]) (fun i w => i ≤ 12 ∧ Well (n + 1 + i) w) (fun y => ∃ c ∈ st, y = .str [c]) (rngD 0 m) 0 w1 ⟨by omega, W1⟩
    (fun j x w hx hj => by
      rw [Nat.zero_add] at hj ⊢
      have hjm : j < m := by
        have := (List.getElem?_eq_some_iff.mp hx).1
        rw [rng_len] at this; exact this
      obtain ⟨y, w3, e3, m3, W3⟩ := ev_pick (d := .str st) (ds := st.map fun c => D.str [c]) hj.2 (by omega) (.inr ⟨st, rfl, rfl⟩) (by rw [List.length_map]; exact S.pos) (by rw [List.length_map]; have := S.few; omega)
      refine ⟨_, rfl, rfl, y, w3, by simp [e3], ?_, by omega, W3⟩
      obtain ⟨c, hc, rfl⟩ := List.mem_map.mp m3
      exact ⟨c, hc, rfl⟩)
  obtain ⟨s, rfl, hs⟩ := singles2 p2
  rw [rng_len] at l2 W2
  have hl : s.length = m := by simpa [S1] using l2
  refine ⟨s, w2, ?_, by omega, hs, _, ?_, W2.2⟩
  · have jn := join1 s (by omega)
    have r1 : -4611686018427387904 ≤ (m : Int) := by omega
    have r2 : (m : Int) < 4611686018427387904 := by omega
    have rl : (rngD 0 m).length ≤ 16777216 := by rw [rng_len]; omega
    generalize S1 s = u at *
    simp [drawS, e1, r1, r2, rl, e2, jn]
  · omega
theorem flat_rep (l : Nat) : ∀ k, (List.replicate k [l]).flatten = List.replicate k l
  | 0 => rfl
  | k + 1 => by rw [List.replicate_succ, List.flatten_cons, flat_rep l k]; rfl
theorem ev_ask {st : List Nat} (S : Stock st) {s : List Nat} (hs : s.length ≤ 12) (h : ∀ c ∈ s, c ∈ st) (a b c : SV) (w : List D) : askS [a, .val .pen, b, .val (.str st), c, .val (.str s), .no] w = .nx [a, .val .pen, b, .val (.str st), c, .val (.str s), .no] w := by
  obtain ⟨l, L⟩ := S.last
  have e1 := ev_word_right S h hs w
  have c1 : FT.cutD s none (some 1) = s.take 1 := by
    show (s.drop 0).take (min 1 s.length - 0) = _
    rw [List.drop_zero]
    cases s with
    | nil => rfl
    | cons a r => rw [show min 1 (a :: r).length - 0 = 1 by simp]
  have c2 : FT.cutD s (some 1) none = s.drop 1 := by
    show (s.drop (min 1 s.length)).take (s.length - min 1 s.length) = _
    rw [List.take_of_length_le (by rw [List.length_drop]; omega)]
    cases s with
    | nil => rfl
    | cons a r => rw [show min 1 (a :: r).length = 1 by simp]
  have c3 : oMul (.str [l]) (.int ((s.drop 1).length : Nat)) = some (.str (List.replicate (s.drop 1).length l)) := by
    generalize hk : (s.drop 1).length = k
    have hk2 : k ≤ 12 := by rw [← hk, List.length_drop]; omega
    have : ∀ k ≤ 12, (decide (((k : Nat) : Int) < 65536) && decide (-65536 < ((k : Nat) : Int)) && decide ([l].length * ((k : Nat) : Int).toNat ≤ 16777216)) = true := by
      intro k hk
      simp
      omega
    unfold oMul
    have q := this k hk2
    simp only [Int.toNat_natCast, flat_rep] at q ⊢
    rw [if_pos q]
  have a1 := last_at L S.pos
  have e2 := ev_word_right S (s := s.take 1 ++ List.replicate (s.drop 1).length l) (fun c hc => by
    rcases List.mem_append.mp hc with hc | hc
    · exact h c (List.mem_of_mem_take hc)
    · rw [(List.mem_replicate.mp hc).2]; exact L.mem) (by simp; omega) w
  have c4 : (s.take 1).length + (List.replicate (s.drop 1).length l).length ≤ 16777216 := by simp; omega
  have c5 : fLen w [.str (s.drop 1)] = some (.int ((s.drop 1).length : Nat)) := rfl
  generalize hq : (((s.drop 1).length : Nat) : Int) = q at *
  generalize List.replicate (s.drop 1).length l = r1 at *
  generalize s.take 1 = r2 at *
  generalize s.drop 1 = r3 at *
  simp [askS, e1, truthD, oSl, c1, c2, c3, c5, oIx, oNeg, a1, oAdd, oStr, c4, e2]
end K04
end
section
set_option Elab.async false
set_option linter.all false
set_option maxRecDepth 100000
set_option maxHeartbeats 4000000
namespace K04
open PySem PySem.Spec PyProof.Rows L2 FT
def lapS : MS := (mSeq (mAsg (gN 3) (mCall (nArg 2 f__law_stock) (mCons (mV 1) (mCons (mBin oAdd (mC (.int 1)) (mCall (nArg 2 f__law_dip) (mCons (mV 1) (mCons (mC (.int 5)) mNil)))) mNil))))
    (mSeq (mIf (mNotT (mTru (mCall (nArg 2 f__law_all_right) (mCons (mV 3) (mCons (mCall (nArg 2 f__law_dip) (mCons (mV 1) (mCons (mIx (mLst (mCons (mC (.int 0)) (mCons (mC (.int 13)) (mCons (mC (.int 7)) (mCons (mC (.int 5)) (mCons (mC (.int 4)) (mCons (mC (.int 4)) mNil))))))) (mCB fLen (mCons (mVB 3) mNil))) mNil))) mNil)))))
    (mRet (mC (.bl false)))
    mSkip)
    (mSeq (mFor (gN 4) (mRng1 (mC (.int 4)))
    (mSeq drawS askS))
    (mIf (mNotT (mTru (mCall (nArg 2 f__law_refused_right) (mCons (mV 1) (mCons (mV 3) mNil)))))
    (mRet (mC (.bl false)))
    mSkip))))
def endS : MS := (mRet (mOrV (mBin (oCmp fGt sGt) (mCall (nArg 2 f__law_dip) (mCons (mV 1) (mCons (mC (.int 4)) mNil))) (mC (.int 0))) (mCall (nArg 1 f__law_many_right) (mCons (mCall (nArg 2 f__law_stock) (mCons (mV 1) (mCons (mBin oAdd (mC (.int 3)) (mCall (nArg 2 f__law_dip) (mCons (mV 1) (mCons (mC (.int 3)) mNil)))) mNil))) mNil))))
theorem law_split : b_f_law = mSeq (mFor (gN 2) (mRng1 (mC (.int 3))) lapS) endS := rfl
theorem bound_tab (k : Nat) (h1 : 1 ≤ k) (h5 : k ≤ 5) (w : List D) : ∃ q : Nat, oIx w (.lst [D.int 0, .int 13, .int 7, .int 5, .int 4, .int 4]) (.int (k : Nat)) = some (.int q) ∧ 0 < q ∧ q ≤ 13 ∧ ∀ m < q, k ^ m ≤ 20000 := by
  have hk : k = 1 ∨ k = 2 ∨ k = 3 ∨ k = 4 ∨ k = 5 := by omega
  rcases hk with rfl | rfl | rfl | rfl | rfl
  · exact ⟨13, rfl, by decide, by decide, by decide⟩
  · exact ⟨7, rfl, by decide, by decide, by decide⟩
  · exact ⟨5, rfl, by decide, by decide, by decide⟩
  · exact ⟨4, rfl, by decide, by decide, by decide⟩
  · exact ⟨4, rfl, by decide, by decide, by decide⟩
theorem ev_lap {n : Nat} {w : List D} (W : Well n w) (hn : n < 8000) (a b c d e : SV) : ∃ c' d' e' w', lapS [a, .val .pen, b, c, d, e, .no] w = .nx [a, .val .pen, b, c', d', e', .no] w' ∧ ∃ m, m ≤ n + 100 ∧ Well m w' := by
  obtain ⟨r, w1, e1, b1, b2, W1⟩ := ev_dip (m := 5) W (by omega) (by omega) (by omega)
  obtain ⟨k, rfl⟩ : ∃ k : Nat, r = k := ⟨r.toNat, by omega⟩
  obtain ⟨st, w2, e2, S, hl, W2⟩ := ev_stock (m := 1 + k) W1 (by omega) (by omega) (by omega)
  have hk1 : oAdd (.int 1) (.int (k : Nat)) = some (.int ((1 + k : Nat) : Int)) := by
    show some (D.int _) = _
    congr 2
  have hlen : fLen w2 [.str st] = some (.int (st.length : Nat)) := rfl
  obtain ⟨q, t1, t2, t3, t4⟩ := bound_tab st.length S.pos S.few w2
  obtain ⟨r, w3, e3, b3, b4, W3⟩ := ev_dip (m := q) W2 (by omega) (by omega) (by omega)
  obtain ⟨m, rfl⟩ : ∃ m : Nat, r = m := ⟨r.toNat, by omega⟩
  have e4 := ev_all_right S (m := m) (by omega) (t4 m (by omega)) w3
  rcases forL_inv (g := gN 4) (body := mSeq drawS askS) (fun i sd w => i ≤ 4 ∧ (∃ d e, sd = [a, .val .pen, b, .val (.str st), d, e, .no]) ∧ ∃ m, m ≤ n + 4 + 13 * i ∧ Well m w) (fun _ _ => False) (rngD 0 4) 0 [a, .val .pen, b, .val (.str st), d, e, .no] w3 ⟨by omega, ⟨_, _, rfl⟩, _, Nat.le_refl _, W3⟩
    (fun j x sd w hx hj => by
      rw [Nat.zero_add] at hj ⊢
      obtain ⟨_, ⟨d, e, rfl⟩, m, hm, W⟩ := hj
      have hj4 : j < 4 := (List.getElem?_eq_some_iff.mp hx).1
      obtain ⟨s, w4, e5, h1, h2, m2, hm2, W4⟩ := ev_draw S W (by omega) a b (.val x) e
      have e6 := ev_ask S h1 h2 a b (.val x) w4
      exact ⟨_, rfl, .inl ⟨_, w4, by rw [s_mSeq]; simp only [List.set_cons_succ, List.set_cons_zero]; rw [e5]; exact e6, by omega, ⟨_, _, rfl⟩, m2, by omega, W4⟩⟩) with ⟨sd2, w4, e5, _, ⟨d', e', rfl⟩, m2, hm2, W4⟩ | ⟨_, _, _, h⟩
  · have hr4 : (rngD 0 4).length = 4 := rfl
    rw [hr4] at hm2
    obtain ⟨w5, e6, W5⟩ := ev_refused_right S W4 (by omega)
    refine ⟨.val (.str st), d', e', w5, ?_, m2 + 5, ?_, W5⟩
    · generalize ((1 + k : Nat) : Int) = z at *
      simp [lapS, e1, hk1, e2, hlen, t1, e3, e4, truthD, e5, e6]
    · omega
  · exact h.elim
theorem ev_end {n : Nat} {w : List D} (W : Well n w) (hn : n < 8000) (a b c d e : SV) : ∃ w', endS [a, .val .pen, b, c, d, e, .no] w = .ret (.bl true) w' := by
  obtain ⟨r, w1, e1, b1, b2, W1⟩ := ev_dip (m := 4) W (by omega) (by omega) (by omega)
  by_cases h : 0 < r
  · exact ⟨w1, by simp [endS, e1, oCmp, fGt, h]⟩
  · obtain ⟨r2, w2, e2, b3, b4, W2⟩ := ev_dip (m := 3) W1 (by omega) (by omega) (by omega)
    obtain ⟨k, rfl⟩ : ∃ k : Nat, r2 = k := ⟨r2.toNat, by omega⟩
    obtain ⟨st, w3, e3, S, hl, W3⟩ := ev_stock (m := 3 + k) W2 (by omega) (by omega) (by omega)
    have hk1 : oAdd (.int 3) (.int (k : Nat)) = some (.int ((3 + k : Nat) : Int)) := by
      show some (D.int _) = _
      congr 2
    have e4 := ev_many_right S (by omega) w3
    refine ⟨w3, ?_⟩
    generalize ((3 + k : Nat) : Int) = z at *
    simp [endS, e1, oCmp, fGt, h, e2, hk1, e3, e4]
theorem ev_law {w : List D} (W : Well 0 w) (a : SV) : ∃ w', b_f_law [a, .val .pen, .no, .no, .no, .no, .no] w = .ret (.bl true) w' := by
  rcases forL_inv (g := gN 2) (body := lapS) (fun i sd w => i ≤ 3 ∧ (∃ b c d e, sd = [a, .val .pen, b, c, d, e, .no]) ∧ ∃ m, m ≤ 100 * i ∧ Well m w) (fun _ _ => False) (rngD 0 3) 0 [a, .val .pen, .no, .no, .no, .no, .no] w ⟨by omega, ⟨_, _, _, _, rfl⟩, _, Nat.le_refl _, W⟩
    (fun j x sd w hx hj => by
      rw [Nat.zero_add] at hj ⊢
      obtain ⟨_, ⟨b, c, d, e, rfl⟩, m, hm, W⟩ := hj
      have hj3 : j < 3 := (List.getElem?_eq_some_iff.mp hx).1
      obtain ⟨c', d', e', w', e1, m2, hm2, W'⟩ := ev_lap W (by omega) a (.val x) c d e
      exact ⟨_, rfl, .inl ⟨_, w', e1, by omega, ⟨_, _, _, _, rfl⟩, m2, by omega, W'⟩⟩) with ⟨sd2, w2, e1, _, ⟨b, c, d, e, rfl⟩, m, hm, W2⟩ | ⟨_, _, _, h⟩
  · have hr : (rngD 0 3).length = 3 := rfl
    rw [hr] at hm
    obtain ⟨w3, e2⟩ := ev_end W2 (by omega) a b c d e
    refine ⟨w3, ?_⟩
    rw [law_split]
    simp [e1, e2]
  · exact h.elim
def Pre (ns : List Int) : Prop := ns.length ≤ 63 ∧ ∀ z ∈ ns, Builtin.Int.intBits z ≤ 1048576
theorem pre_ok : ∀ ns : List Int, ns.length ≤ 63 → (∀ z ∈ ns, Builtin.Int.intBits z ≤ 1048576) → Pre ns := fun _ h1 h2 => ⟨h1, h2⟩
theorem pure_law : ∀ ns, Pre ns → ∃ cells w', f__law_well [.frz (ns.map D.int)] [] = .ok cells [] ∧ b_f_law (.val (.frz (ns.map D.int)) :: .val .pen :: List.replicate 5 .no) cells = .ret (.bl true) w' := by
  intro ns _
  have hcut : oSl (.frz (ns.map D.int)) none (some 60) = some (.lst ((ns.take 60).map D.int)) := by
    show some (D.lst (((ns.map D.int).drop 0).take (min 60 (ns.map D.int).length - 0))) = _
    rw [List.drop_zero, Nat.sub_zero, List.length_map]
    congr 2
    rw [← List.map_take]
    congr 1
    rcases Nat.le_total 60 ns.length with h | h
    · rw [Nat.min_eq_left h]
    · rw [Nat.min_eq_right h, List.take_of_length_le (Nat.le_refl _), List.take_of_length_le h]
  have hc : compL (gN 1) mYes (mCB fInt (mCons (mVB 1) mNil)) [.val (.frz (ns.map D.int)), .no] ((ns.take 60).map D.int) [] = some ((ns.take 60).map D.int, []) := by
    rw [compL_map id, List.map_id]
    intro d hd
    obtain ⟨z, _, rfl⟩ := List.mem_map.mp hd
    exact ⟨_, rfl, by simp [fInt]⟩
  have hl : ((ns.take 60).map D.int).length ≤ 16777216 := by rw [List.length_map, List.length_take]; omega
  have hl2 : (ns.take 60).length ≤ 60 := by rw [List.length_take]; omega
  obtain ⟨w', e⟩ := ev_law (w := [.lst ((ns.take 60).map D.int), .int 0, .int 0]) ⟨ns.take 60, 0, 0, rfl, hl2, by omega, by omega⟩ (.val (.frz (ns.map D.int)))
  refine ⟨_, w', ?_, e⟩
  generalize (ns.take 60).map D.int = u at *
  generalize D.frz (ns.map D.int) = z at *
  simp [f__law_well, m__law_well, sd0, hcut, items, hl, hc]
end K04
end
section
set_option Elab.async false
set_option linter.all false
set_option maxRecDepth 100000
set_option maxHeartbeats 4000000
namespace K04
open PySem PySem.Spec PyProof.Rows L2 LamX FT
end K04
namespace K04
open PySem PySem.Spec PyProof.Rows L2 LamX FT PySem.HandSPX
theorem all_mk {l : PySem.W.OpenLaw} {w : World} {K : PySem.W.Frag} {h : Heap} {mg : Str → Option Value} {fa : Addr} (X : K.In h) (G : h.Ns mainGlobals mg) (hfa : mg "law" = some (.ref fa))
    {f_is_integer : Addr} {oc_is_integer kV_is_integer dc_is_integer pm_is_integer ct_is_integer : Value} {od_is_integer an_is_integer : Option Addr} {sl_is_integer : Array (Option Value)}
    {cd_is_integer : Value}
    {f_is_within : Addr} {oc_is_within kV_is_within dc_is_within pm_is_within ct_is_within : Value} {od_is_within an_is_within : Option Addr} {sl_is_within : Array (Option Value)}
    {cd_is_within : Value}
    {f_is_word : Addr} {oc_is_word kV_is_word dc_is_word pm_is_word ct_is_word : Value} {od_is_word an_is_word : Option Addr} {sl_is_word : Array (Option Value)}
    {cd_is_word : Value}
    {f_is_stock : Addr} {oc_is_stock kV_is_stock dc_is_stock pm_is_stock ct_is_stock : Value} {od_is_stock an_is_stock : Option Addr} {sl_is_stock : Array (Option Value)}
    {cd_is_stock : Value}
    {f_of_stock : Addr} {oc_of_stock kV_of_stock dc_of_stock pm_of_stock ct_of_stock : Value} {od_of_stock an_of_stock : Option Addr} {sl_of_stock : Array (Option Value)}
    {cd_of_stock : Value}
    {f_need_word : Addr} {oc_need_word kV_need_word dc_need_word pm_need_word ct_need_word : Value} {od_need_word an_need_word : Option Addr} {sl_need_word : Array (Option Value)}
    {cd_need_word : Value}
    {f_need_stock : Addr} {oc_need_stock kV_need_stock dc_need_stock pm_need_stock ct_need_stock : Value} {od_need_stock an_need_stock : Option Addr} {sl_need_stock : Array (Option Value)}
    {cd_need_stock : Value}
    {f_need_word_of : Addr} {oc_need_word_of kV_need_word_of dc_need_word_of pm_need_word_of ct_need_word_of : Value} {od_need_word_of an_need_word_of : Option Addr} {sl_need_word_of : Array (Option Value)}
    {cd_need_word_of : Value}
    {f_number_in : Addr} {oc_number_in kV_number_in dc_number_in pm_number_in ct_number_in : Value} {od_number_in an_number_in : Option Addr} {sl_number_in : Array (Option Value)}
    {cd_number_in : Value}
    {f_word_with : Addr} {oc_word_with kV_word_with dc_word_with pm_word_with ct_word_with : Value} {od_word_with an_word_with : Option Addr} {sl_word_with : Array (Option Value)}
    {cd_word_with : Value}
    {f_many_with : Addr} {oc_many_with kV_many_with dc_many_with pm_many_with ct_many_with : Value} {od_many_with an_many_with : Option Addr} {sl_many_with : Array (Option Value)}
    {cd_many_with : Value}
    {f_last_word : Addr} {oc_last_word kV_last_word dc_last_word pm_last_word ct_last_word : Value} {od_last_word an_last_word : Option Addr} {sl_last_word : Array (Option Value)}
    {cd_last_word : Value}
    {f_words_of : Addr} {oc_words_of kV_words_of dc_words_of pm_words_of ct_words_of : Value} {od_words_of an_words_of : Option Addr} {sl_words_of : Array (Option Value)}
    {cd_words_of : Value}
    {f_word_number : Addr} {oc_word_number kV_word_number dc_word_number pm_word_number ct_word_number : Value} {od_word_number an_word_number : Option Addr} {sl_word_number : Array (Option Value)}
    {cd_word_number : Value}
    {f_word_at : Addr} {oc_word_at kV_word_at dc_word_at pm_word_at ct_word_at : Value} {od_word_at an_word_at : Option Addr} {sl_word_at : Array (Option Value)}
    {cd_word_at : Value}
    {f_next_word : Addr} {oc_next_word kV_next_word dc_next_word pm_next_word ct_next_word : Value} {od_next_word an_next_word : Option Addr} {sl_next_word : Array (Option Value)}
    {cd_next_word : Value}
    {f__law_well : Addr} {oc__law_well kV__law_well dc__law_well pm__law_well ct__law_well : Value} {od__law_well an__law_well : Option Addr} {sl__law_well : Array (Option Value)}
    {cd__law_well : Value}
    {f__law_dip : Addr} {oc__law_dip kV__law_dip dc__law_dip pm__law_dip ct__law_dip : Value} {od__law_dip an__law_dip : Option Addr} {sl__law_dip : Array (Option Value)}
    {cd__law_dip : Value}
    {f__law_pick : Addr} {oc__law_pick kV__law_pick dc__law_pick pm__law_pick ct__law_pick : Value} {od__law_pick an__law_pick : Option Addr} {sl__law_pick : Array (Option Value)}
    {cd__law_pick : Value}
    {f__law_stock : Addr} {oc__law_stock kV__law_stock dc__law_stock pm__law_stock ct__law_stock : Value} {od__law_stock an__law_stock : Option Addr} {sl__law_stock : Array (Option Value)}
    {cd__law_stock : Value}
    {f__law_listed : Addr} {oc__law_listed kV__law_listed dc__law_listed pm__law_listed ct__law_listed : Value} {od__law_listed an__law_listed : Option Addr} {sl__law_listed : Array (Option Value)}
    {cd__law_listed : Value}
    {f__law_ahead : Addr} {oc__law_ahead kV__law_ahead dc__law_ahead pm__law_ahead ct__law_ahead : Value} {od__law_ahead an__law_ahead : Option Addr} {sl__law_ahead : Array (Option Value)}
    {cd__law_ahead : Value}
    {f__law_behind : Addr} {oc__law_behind kV__law_behind dc__law_behind pm__law_behind ct__law_behind : Value} {od__law_behind an__law_behind : Option Addr} {sl__law_behind : Array (Option Value)}
    {cd__law_behind : Value}
    {f__law_word_right : Addr} {oc__law_word_right kV__law_word_right dc__law_word_right pm__law_word_right ct__law_word_right : Value} {od__law_word_right an__law_word_right : Option Addr} {sl__law_word_right : Array (Option Value)}
    {cd__law_word_right : Value}
    {f__law_all_right : Addr} {oc__law_all_right kV__law_all_right dc__law_all_right pm__law_all_right ct__law_all_right : Value} {od__law_all_right an__law_all_right : Option Addr} {sl__law_all_right : Array (Option Value)}
    {cd__law_all_right : Value}
    {f__law_heard : Addr} {oc__law_heard kV__law_heard dc__law_heard pm__law_heard ct__law_heard : Value} {od__law_heard an__law_heard : Option Addr} {sl__law_heard : Array (Option Value)}
    {cd__law_heard : Value}
    {f__law_refused_right : Addr} {oc__law_refused_right kV__law_refused_right dc__law_refused_right pm__law_refused_right ct__law_refused_right : Value} {od__law_refused_right an__law_refused_right : Option Addr} {sl__law_refused_right : Array (Option Value)}
    {cc__law_refused_right : Addr}
    {f__law_many_right : Addr} {oc__law_many_right kV__law_many_right dc__law_many_right pm__law_many_right ct__law_many_right : Value} {od__law_many_right an__law_many_right : Option Addr} {sl__law_many_right : Array (Option Value)}
    {cc__law_many_right : Addr}
    {f_law : Addr} {oc_law kV_law dc_law pm_law ct_law : Value} {od_law an_law : Option Addr} {sl_law : Array (Option Value)}
    {cd_law : Value}
    {t_LETTERS : Tok}
    {t_MOST_SOUNDS : Tok}
    {t_MOST_STOCK : Tok}
    {t_MOST_WORDS : Tok}
    {C_BadWord N_BadWord : Addr} {nm_BadWord q_BadWord : Str} {bs_BadWord bm_BadWord sub_BadWord : List Value} {sn_BadWord : List Str} {ab_BadWord : Bool} {col_BadWord : Option Bool} {dd_BadWord : Option Addr} {m0_BadWord m1_BadWord m2_BadWord m3_BadWord m5_BadWord : Option Value}
    {C_BadStock N_BadStock : Addr} {nm_BadStock q_BadStock : Str} {bs_BadStock bm_BadStock sub_BadStock : List Value} {sn_BadStock : List Str} {ab_BadStock : Bool} {col_BadStock : Option Bool} {dd_BadStock : Option Addr} {m0_BadStock m1_BadStock m2_BadStock m3_BadStock m5_BadStock : Option Value}
    {C_Misfit N_Misfit : Addr} {nm_Misfit q_Misfit : Str} {bs_Misfit bm_Misfit sub_Misfit : List Value} {sn_Misfit : List Str} {ab_Misfit : Bool} {col_Misfit : Option Bool} {dd_Misfit : Option Addr} {m0_Misfit m1_Misfit m2_Misfit m3_Misfit m5_Misfit : Option Value}
    {C_BadNumber N_BadNumber : Addr} {nm_BadNumber q_BadNumber : Str} {bs_BadNumber bm_BadNumber sub_BadNumber : List Value} {sn_BadNumber : List Str} {ab_BadNumber : Bool} {col_BadNumber : Option Bool} {dd_BadNumber : Option Addr} {m0_BadNumber m1_BadNumber m2_BadNumber m3_BadNumber m5_BadNumber : Option Value}
    {C_TooMany N_TooMany : Addr} {nm_TooMany q_TooMany : Str} {bs_TooMany bm_TooMany sub_TooMany : List Value} {sn_TooMany : List Str} {ab_TooMany : Bool} {col_TooMany : Option Bool} {dd_TooMany : Option Addr} {m0_TooMany m1_TooMany m2_TooMany m3_TooMany m5_TooMany : Option Value}
    {fi_BadWord : Addr} {oc_i_BadWord kV_i_BadWord dc_i_BadWord pm_i_BadWord ct_i_BadWord cd_i_BadWord : Value} {od_i_BadWord an_i_BadWord : Option Addr} {sl_i_BadWord : Array (Option Value)}
    {fi_BadStock : Addr} {oc_i_BadStock kV_i_BadStock dc_i_BadStock pm_i_BadStock ct_i_BadStock cd_i_BadStock : Value} {od_i_BadStock an_i_BadStock : Option Addr} {sl_i_BadStock : Array (Option Value)}
    {fi_Misfit : Addr} {oc_i_Misfit kV_i_Misfit dc_i_Misfit pm_i_Misfit ct_i_Misfit cd_i_Misfit : Value} {od_i_Misfit an_i_Misfit : Option Addr} {sl_i_Misfit : Array (Option Value)}
    {fi_BadNumber : Addr} {oc_i_BadNumber kV_i_BadNumber dc_i_BadNumber pm_i_BadNumber ct_i_BadNumber cd_i_BadNumber : Value} {od_i_BadNumber an_i_BadNumber : Option Addr} {sl_i_BadNumber : Array (Option Value)}
    {fi_TooMany : Addr} {oc_i_TooMany kV_i_TooMany dc_i_TooMany pm_i_TooMany ct_i_TooMany cd_i_TooMany : Value} {od_i_TooMany an_i_TooMany : Option Addr} {sl_i_TooMany : Array (Option Value)}
    {pp__law_refused_right : Addr} {pp__law_many_right : Addr}
    (a_is_integer : PySem.W.nsIn K mainGlobals "is_integer" = some (some (.ref f_is_integer)))
    (l_is_integer : K.lookup f_is_integer = some ⟨oc_is_integer, od_is_integer, .func (PySem.W.fnOf "is_integer" "is_integer" (defArgs s_is_integer) (defBody s_is_integer) (defScope s_is_integer) .none kV_is_integer dc_is_integer pm_is_integer an_is_integer cd_is_integer ct_is_integer), sl_is_integer⟩)
    (c_is_integer : PySem.W.codeIn K cd_is_integer "is_integer" = true)
    (k_is_integer : PySem.W.keepIn K (.ref f_is_integer) = true)
    (a_is_within : PySem.W.nsIn K mainGlobals "is_within" = some (some (.ref f_is_within)))
    (l_is_within : K.lookup f_is_within = some ⟨oc_is_within, od_is_within, .func (PySem.W.fnOf "is_within" "is_within" (defArgs s_is_within) (defBody s_is_within) (defScope s_is_within) .none kV_is_within dc_is_within pm_is_within an_is_within cd_is_within ct_is_within), sl_is_within⟩)
    (c_is_within : PySem.W.codeIn K cd_is_within "is_within" = true)
    (k_is_within : PySem.W.keepIn K (.ref f_is_within) = true)
    (a_is_word : PySem.W.nsIn K mainGlobals "is_word" = some (some (.ref f_is_word)))
    (l_is_word : K.lookup f_is_word = some ⟨oc_is_word, od_is_word, .func (PySem.W.fnOf "is_word" "is_word" (defArgs s_is_word) (defBody s_is_word) (defScope s_is_word) .none kV_is_word dc_is_word pm_is_word an_is_word cd_is_word ct_is_word), sl_is_word⟩)
    (c_is_word : PySem.W.codeIn K cd_is_word "is_word" = true)
    (k_is_word : PySem.W.keepIn K (.ref f_is_word) = true)
    (a_is_stock : PySem.W.nsIn K mainGlobals "is_stock" = some (some (.ref f_is_stock)))
    (l_is_stock : K.lookup f_is_stock = some ⟨oc_is_stock, od_is_stock, .func (PySem.W.fnOf "is_stock" "is_stock" (defArgs s_is_stock) (defBody s_is_stock) (defScope s_is_stock) .none kV_is_stock dc_is_stock pm_is_stock an_is_stock cd_is_stock ct_is_stock), sl_is_stock⟩)
    (c_is_stock : PySem.W.codeIn K cd_is_stock "is_stock" = true)
    (k_is_stock : PySem.W.keepIn K (.ref f_is_stock) = true)
    (a_of_stock : PySem.W.nsIn K mainGlobals "of_stock" = some (some (.ref f_of_stock)))
    (l_of_stock : K.lookup f_of_stock = some ⟨oc_of_stock, od_of_stock, .func (PySem.W.fnOf "of_stock" "of_stock" (defArgs s_of_stock) (defBody s_of_stock) (defScope s_of_stock) .none kV_of_stock dc_of_stock pm_of_stock an_of_stock cd_of_stock ct_of_stock), sl_of_stock⟩)
    (c_of_stock : PySem.W.codeIn K cd_of_stock "of_stock" = true)
    (k_of_stock : PySem.W.keepIn K (.ref f_of_stock) = true)
    (a_need_word : PySem.W.nsIn K mainGlobals "need_word" = some (some (.ref f_need_word)))
    (l_need_word : K.lookup f_need_word = some ⟨oc_need_word, od_need_word, .func (PySem.W.fnOf "need_word" "need_word" (defArgs s_need_word) (defBody s_need_word) (defScope s_need_word) .none kV_need_word dc_need_word pm_need_word an_need_word cd_need_word ct_need_word), sl_need_word⟩)
    (c_need_word : PySem.W.codeIn K cd_need_word "need_word" = true)
    (k_need_word : PySem.W.keepIn K (.ref f_need_word) = true)
    (a_need_stock : PySem.W.nsIn K mainGlobals "need_stock" = some (some (.ref f_need_stock)))
    (l_need_stock : K.lookup f_need_stock = some ⟨oc_need_stock, od_need_stock, .func (PySem.W.fnOf "need_stock" "need_stock" (defArgs s_need_stock) (defBody s_need_stock) (defScope s_need_stock) .none kV_need_stock dc_need_stock pm_need_stock an_need_stock cd_need_stock ct_need_stock), sl_need_stock⟩)
    (c_need_stock : PySem.W.codeIn K cd_need_stock "need_stock" = true)
    (k_need_stock : PySem.W.keepIn K (.ref f_need_stock) = true)
    (a_need_word_of : PySem.W.nsIn K mainGlobals "need_word_of" = some (some (.ref f_need_word_of)))
    (l_need_word_of : K.lookup f_need_word_of = some ⟨oc_need_word_of, od_need_word_of, .func (PySem.W.fnOf "need_word_of" "need_word_of" (defArgs s_need_word_of) (defBody s_need_word_of) (defScope s_need_word_of) .none kV_need_word_of dc_need_word_of pm_need_word_of an_need_word_of cd_need_word_of ct_need_word_of), sl_need_word_of⟩)
    (c_need_word_of : PySem.W.codeIn K cd_need_word_of "need_word_of" = true)
    (k_need_word_of : PySem.W.keepIn K (.ref f_need_word_of) = true)
    (a_number_in : PySem.W.nsIn K mainGlobals "number_in" = some (some (.ref f_number_in)))
    (l_number_in : K.lookup f_number_in = some ⟨oc_number_in, od_number_in, .func (PySem.W.fnOf "number_in" "number_in" (defArgs s_number_in) (defBody s_number_in) (defScope s_number_in) .none kV_number_in dc_number_in pm_number_in an_number_in cd_number_in ct_number_in), sl_number_in⟩)
    (c_number_in : PySem.W.codeIn K cd_number_in "number_in" = true)
    (k_number_in : PySem.W.keepIn K (.ref f_number_in) = true)
    (a_word_with : PySem.W.nsIn K mainGlobals "word_with" = some (some (.ref f_word_with)))
    (l_word_with : K.lookup f_word_with = some ⟨oc_word_with, od_word_with, .func (PySem.W.fnOf "word_with" "word_with" (defArgs s_word_with) (defBody s_word_with) (defScope s_word_with) .none kV_word_with dc_word_with pm_word_with an_word_with cd_word_with ct_word_with), sl_word_with⟩)
    (c_word_with : PySem.W.codeIn K cd_word_with "word_with" = true)
    (k_word_with : PySem.W.keepIn K (.ref f_word_with) = true)
    (a_many_with : PySem.W.nsIn K mainGlobals "many_with" = some (some (.ref f_many_with)))
    (l_many_with : K.lookup f_many_with = some ⟨oc_many_with, od_many_with, .func (PySem.W.fnOf "many_with" "many_with" (defArgs s_many_with) (defBody s_many_with) (defScope s_many_with) .none kV_many_with dc_many_with pm_many_with an_many_with cd_many_with ct_many_with), sl_many_with⟩)
    (c_many_with : PySem.W.codeIn K cd_many_with "many_with" = true)
    (k_many_with : PySem.W.keepIn K (.ref f_many_with) = true)
    (a_last_word : PySem.W.nsIn K mainGlobals "last_word" = some (some (.ref f_last_word)))
    (l_last_word : K.lookup f_last_word = some ⟨oc_last_word, od_last_word, .func (PySem.W.fnOf "last_word" "last_word" (defArgs s_last_word) (defBody s_last_word) (defScope s_last_word) .none kV_last_word dc_last_word pm_last_word an_last_word cd_last_word ct_last_word), sl_last_word⟩)
    (c_last_word : PySem.W.codeIn K cd_last_word "last_word" = true)
    (k_last_word : PySem.W.keepIn K (.ref f_last_word) = true)
    (a_words_of : PySem.W.nsIn K mainGlobals "words_of" = some (some (.ref f_words_of)))
    (l_words_of : K.lookup f_words_of = some ⟨oc_words_of, od_words_of, .func (PySem.W.fnOf "words_of" "words_of" (defArgs s_words_of) (defBody s_words_of) (defScope s_words_of) .none kV_words_of dc_words_of pm_words_of an_words_of cd_words_of ct_words_of), sl_words_of⟩)
    (c_words_of : PySem.W.codeIn K cd_words_of "words_of" = true)
    (k_words_of : PySem.W.keepIn K (.ref f_words_of) = true)
    (a_word_number : PySem.W.nsIn K mainGlobals "word_number" = some (some (.ref f_word_number)))
    (l_word_number : K.lookup f_word_number = some ⟨oc_word_number, od_word_number, .func (PySem.W.fnOf "word_number" "word_number" (defArgs s_word_number) (defBody s_word_number) (defScope s_word_number) .none kV_word_number dc_word_number pm_word_number an_word_number cd_word_number ct_word_number), sl_word_number⟩)
    (c_word_number : PySem.W.codeIn K cd_word_number "word_number" = true)
    (k_word_number : PySem.W.keepIn K (.ref f_word_number) = true)
    (a_word_at : PySem.W.nsIn K mainGlobals "word_at" = some (some (.ref f_word_at)))
    (l_word_at : K.lookup f_word_at = some ⟨oc_word_at, od_word_at, .func (PySem.W.fnOf "word_at" "word_at" (defArgs s_word_at) (defBody s_word_at) (defScope s_word_at) .none kV_word_at dc_word_at pm_word_at an_word_at cd_word_at ct_word_at), sl_word_at⟩)
    (c_word_at : PySem.W.codeIn K cd_word_at "word_at" = true)
    (k_word_at : PySem.W.keepIn K (.ref f_word_at) = true)
    (a_next_word : PySem.W.nsIn K mainGlobals "next_word" = some (some (.ref f_next_word)))
    (l_next_word : K.lookup f_next_word = some ⟨oc_next_word, od_next_word, .func (PySem.W.fnOf "next_word" "next_word" (defArgs s_next_word) (defBody s_next_word) (defScope s_next_word) .none kV_next_word dc_next_word pm_next_word an_next_word cd_next_word ct_next_word), sl_next_word⟩)
    (c_next_word : PySem.W.codeIn K cd_next_word "next_word" = true)
    (k_next_word : PySem.W.keepIn K (.ref f_next_word) = true)
    (a__law_well : PySem.W.nsIn K mainGlobals "_law_well" = some (some (.ref f__law_well)))
    (l__law_well : K.lookup f__law_well = some ⟨oc__law_well, od__law_well, .func (PySem.W.fnOf "_law_well" "_law_well" (defArgs s__law_well) (defBody s__law_well) (defScope s__law_well) .none kV__law_well dc__law_well pm__law_well an__law_well cd__law_well ct__law_well), sl__law_well⟩)
    (c__law_well : PySem.W.codeIn K cd__law_well "_law_well" = true)
    (k__law_well : PySem.W.keepIn K (.ref f__law_well) = true)
    (a__law_dip : PySem.W.nsIn K mainGlobals "_law_dip" = some (some (.ref f__law_dip)))
    (l__law_dip : K.lookup f__law_dip = some ⟨oc__law_dip, od__law_dip, .func (PySem.W.fnOf "_law_dip" "_law_dip" (defArgs s__law_dip) (defBody s__law_dip) (defScope s__law_dip) .none kV__law_dip dc__law_dip pm__law_dip an__law_dip cd__law_dip ct__law_dip), sl__law_dip⟩)
    (c__law_dip : PySem.W.codeIn K cd__law_dip "_law_dip" = true)
    (k__law_dip : PySem.W.keepIn K (.ref f__law_dip) = true)
    (a__law_pick : PySem.W.nsIn K mainGlobals "_law_pick" = some (some (.ref f__law_pick)))
    (l__law_pick : K.lookup f__law_pick = some ⟨oc__law_pick, od__law_pick, .func (PySem.W.fnOf "_law_pick" "_law_pick" (defArgs s__law_pick) (defBody s__law_pick) (defScope s__law_pick) .none kV__law_pick dc__law_pick pm__law_pick an__law_pick cd__law_pick ct__law_pick), sl__law_pick⟩)
    (c__law_pick : PySem.W.codeIn K cd__law_pick "_law_pick" = true)
    (k__law_pick : PySem.W.keepIn K (.ref f__law_pick) = true)
    (a__law_stock : PySem.W.nsIn K mainGlobals "_law_stock" = some (some (.ref f__law_stock)))
    (l__law_stock : K.lookup f__law_stock = some ⟨oc__law_stock, od__law_stock, .func (PySem.W.fnOf "_law_stock" "_law_stock" (defArgs s__law_stock) (defBody s__law_stock) (defScope s__law_stock) .none kV__law_stock dc__law_stock pm__law_stock an__law_stock cd__law_stock ct__law_stock), sl__law_stock⟩)
    (c__law_stock : PySem.W.codeIn K cd__law_stock "_law_stock" = true)
    (k__law_stock : PySem.W.keepIn K (.ref f__law_stock) = true)
    (a__law_listed : PySem.W.nsIn K mainGlobals "_law_listed" = some (some (.ref f__law_listed)))
    (l__law_listed : K.lookup f__law_listed = some ⟨oc__law_listed, od__law_listed, .func (PySem.W.fnOf "_law_listed" "_law_listed" (defArgs s__law_listed) (defBody s__law_listed) (defScope s__law_listed) .none kV__law_listed dc__law_listed pm__law_listed an__law_listed cd__law_listed ct__law_listed), sl__law_listed⟩)
    (c__law_listed : PySem.W.codeIn K cd__law_listed "_law_listed" = true)
    (k__law_listed : PySem.W.keepIn K (.ref f__law_listed) = true)
    (a__law_ahead : PySem.W.nsIn K mainGlobals "_law_ahead" = some (some (.ref f__law_ahead)))
    (l__law_ahead : K.lookup f__law_ahead = some ⟨oc__law_ahead, od__law_ahead, .func (PySem.W.fnOf "_law_ahead" "_law_ahead" (defArgs s__law_ahead) (defBody s__law_ahead) (defScope s__law_ahead) .none kV__law_ahead dc__law_ahead pm__law_ahead an__law_ahead cd__law_ahead ct__law_ahead), sl__law_ahead⟩)
    (c__law_ahead : PySem.W.codeIn K cd__law_ahead "_law_ahead" = true)
    (k__law_ahead : PySem.W.keepIn K (.ref f__law_ahead) = true)
    (a__law_behind : PySem.W.nsIn K mainGlobals "_law_behind" = some (some (.ref f__law_behind)))
    (l__law_behind : K.lookup f__law_behind = some ⟨oc__law_behind, od__law_behind, .func (PySem.W.fnOf "_law_behind" "_law_behind" (defArgs s__law_behind) (defBody s__law_behind) (defScope s__law_behind) .none kV__law_behind dc__law_behind pm__law_behind an__law_behind cd__law_behind ct__law_behind), sl__law_behind⟩)
    (c__law_behind : PySem.W.codeIn K cd__law_behind "_law_behind" = true)
    (k__law_behind : PySem.W.keepIn K (.ref f__law_behind) = true)
    (a__law_word_right : PySem.W.nsIn K mainGlobals "_law_word_right" = some (some (.ref f__law_word_right)))
    (l__law_word_right : K.lookup f__law_word_right = some ⟨oc__law_word_right, od__law_word_right, .func (PySem.W.fnOf "_law_word_right" "_law_word_right" (defArgs s__law_word_right) (defBody s__law_word_right) (defScope s__law_word_right) .none kV__law_word_right dc__law_word_right pm__law_word_right an__law_word_right cd__law_word_right ct__law_word_right), sl__law_word_right⟩)
    (c__law_word_right : PySem.W.codeIn K cd__law_word_right "_law_word_right" = true)
    (k__law_word_right : PySem.W.keepIn K (.ref f__law_word_right) = true)
    (a__law_all_right : PySem.W.nsIn K mainGlobals "_law_all_right" = some (some (.ref f__law_all_right)))
    (l__law_all_right : K.lookup f__law_all_right = some ⟨oc__law_all_right, od__law_all_right, .func (PySem.W.fnOf "_law_all_right" "_law_all_right" (defArgs s__law_all_right) (defBody s__law_all_right) (defScope s__law_all_right) .none kV__law_all_right dc__law_all_right pm__law_all_right an__law_all_right cd__law_all_right ct__law_all_right), sl__law_all_right⟩)
    (c__law_all_right : PySem.W.codeIn K cd__law_all_right "_law_all_right" = true)
    (k__law_all_right : PySem.W.keepIn K (.ref f__law_all_right) = true)
    (a__law_heard : PySem.W.nsIn K mainGlobals "_law_heard" = some (some (.ref f__law_heard)))
    (l__law_heard : K.lookup f__law_heard = some ⟨oc__law_heard, od__law_heard, .func (PySem.W.fnOf "_law_heard" "_law_heard" (defArgs s__law_heard) (defBody s__law_heard) (defScope s__law_heard) .none kV__law_heard dc__law_heard pm__law_heard an__law_heard cd__law_heard ct__law_heard), sl__law_heard⟩)
    (c__law_heard : PySem.W.codeIn K cd__law_heard "_law_heard" = true)
    (k__law_heard : PySem.W.keepIn K (.ref f__law_heard) = true)
    (a__law_refused_right : PySem.W.nsIn K mainGlobals "_law_refused_right" = some (some (.ref f__law_refused_right)))
    (l__law_refused_right : K.lookup f__law_refused_right = some ⟨oc__law_refused_right, od__law_refused_right, .func (PySem.W.fnOf "_law_refused_right" "_law_refused_right" (defArgs s__law_refused_right) (defBody s__law_refused_right) (defScope s__law_refused_right) .none kV__law_refused_right dc__law_refused_right pm__law_refused_right an__law_refused_right (.ref cc__law_refused_right) ct__law_refused_right), sl__law_refused_right⟩)
    (c__law_refused_right : PySem.W.codeIn K (.ref cc__law_refused_right) "_law_refused_right" = true)
    (k__law_refused_right : PySem.W.keepIn K (.ref f__law_refused_right) = true)
    (a__law_many_right : PySem.W.nsIn K mainGlobals "_law_many_right" = some (some (.ref f__law_many_right)))
    (l__law_many_right : K.lookup f__law_many_right = some ⟨oc__law_many_right, od__law_many_right, .func (PySem.W.fnOf "_law_many_right" "_law_many_right" (defArgs s__law_many_right) (defBody s__law_many_right) (defScope s__law_many_right) .none kV__law_many_right dc__law_many_right pm__law_many_right an__law_many_right (.ref cc__law_many_right) ct__law_many_right), sl__law_many_right⟩)
    (c__law_many_right : PySem.W.codeIn K (.ref cc__law_many_right) "_law_many_right" = true)
    (k__law_many_right : PySem.W.keepIn K (.ref f__law_many_right) = true)
    (a_law : PySem.W.nsIn K mainGlobals "law" = some (some (.ref f_law)))
    (l_law : K.lookup f_law = some ⟨oc_law, od_law, .func (PySem.W.fnOf "law" "law" (defArgs s_law) (defBody s_law) (defScope s_law) .none kV_law dc_law pm_law an_law cd_law ct_law), sl_law⟩)
    (c_law : PySem.W.codeIn K cd_law "law" = true)
    (k_law : PySem.W.keepIn K (.ref f_law) = true)
    (z_abs : PySem.W.nsIn K mainGlobals "abs" = some none)
    (z_all : PySem.W.nsIn K mainGlobals "all" = some none)
    (z_bool : PySem.W.nsIn K mainGlobals "bool" = some none)
    (z_enumerate : PySem.W.nsIn K mainGlobals "enumerate" = some none)
    (z_int : PySem.W.nsIn K mainGlobals "int" = some none)
    (z_isinstance : PySem.W.nsIn K mainGlobals "isinstance" = some none)
    (z_len : PySem.W.nsIn K mainGlobals "len" = some none)
    (z_list : PySem.W.nsIn K mainGlobals "list" = some none)
    (z_range : PySem.W.nsIn K mainGlobals "range" = some none)
    (z_sorted : PySem.W.nsIn K mainGlobals "sorted" = some none)
    (z_str : PySem.W.nsIn K mainGlobals "str" = some none)
    (z_tuple : PySem.W.nsIn K mainGlobals "tuple" = some none)
    (z_zip : PySem.W.nsIn K mainGlobals "zip" = some none)
    (kc_LETTERS : PySem.W.nsIn K mainGlobals "LETTERS" = some (some (.str "abcdefghijklmnopqrstuvwxyz" t_LETTERS)))
    (kc_MOST_SOUNDS : PySem.W.nsIn K mainGlobals "MOST_SOUNDS" = some (some (.int 12 t_MOST_SOUNDS)))
    (kc_MOST_STOCK : PySem.W.nsIn K mainGlobals "MOST_STOCK" = some (some (.int 5 t_MOST_STOCK)))
    (kc_MOST_WORDS : PySem.W.nsIn K mainGlobals "MOST_WORDS" = some (some (.int 20000 t_MOST_WORDS)))
    (aC_BadWord : PySem.W.nsIn K mainGlobals "BadWord" = some (some (.ref C_BadWord)))
    (xL_BadWord : K.lookup C_BadWord = some (excClassObj nm_BadWord q_BadWord C_BadWord N_BadWord bs_BadWord bm_BadWord true sn_BadWord sub_BadWord ab_BadWord col_BadWord dd_BadWord m0_BadWord m1_BadWord m2_BadWord m3_BadWord m5_BadWord "ValueError.__new__"))
    (bm_ok_BadWord : PySem.HandSPX.refsVE bm_BadWord = true)
    (sa_BadWord : PySem.W.findIn K (.ref C_BadWord) "__setattr__" = some (some (.builtin "object.__setattr__")))
    (ex_BadWord : PySem.W.subIn K (.ref C_BadWord) (.type "BaseException") = some true)
    (ty_BadWord : PySem.W.typeIn K (.ref C_BadWord) = some (.type "type"))
    (kC_BadWord : PySem.W.keepIn K (.ref C_BadWord) = true)
    (i_BadWord : PySem.W.findIn K (.ref C_BadWord) "__init__" = some (some (.ref fi_BadWord)))
    (ga_BadWord : PySem.W.findIn K (.ref C_BadWord) "__getattribute__" = some (some (.builtin "BaseException.__getattribute__")))
    (gg_BadWord : PySem.W.findIn K (.ref C_BadWord) "__getattr__" = some none)
    (hd_BadWord : PySem.W.hasDictIn K C_BadWord = true)
    (ic_BadWord : PySem.W.isClsIn K C_BadWord = true)
    (xn_BadWord_part : PySem.W.findIn K (.ref C_BadWord) "part" = some none)
    (aC_BadStock : PySem.W.nsIn K mainGlobals "BadStock" = some (some (.ref C_BadStock)))
    (xL_BadStock : K.lookup C_BadStock = some (excClassObj nm_BadStock q_BadStock C_BadStock N_BadStock bs_BadStock bm_BadStock true sn_BadStock sub_BadStock ab_BadStock col_BadStock dd_BadStock m0_BadStock m1_BadStock m2_BadStock m3_BadStock m5_BadStock "ValueError.__new__"))
    (bm_ok_BadStock : PySem.HandSPX.refsVE bm_BadStock = true)
    (sa_BadStock : PySem.W.findIn K (.ref C_BadStock) "__setattr__" = some (some (.builtin "object.__setattr__")))
    (ex_BadStock : PySem.W.subIn K (.ref C_BadStock) (.type "BaseException") = some true)
    (ty_BadStock : PySem.W.typeIn K (.ref C_BadStock) = some (.type "type"))
    (kC_BadStock : PySem.W.keepIn K (.ref C_BadStock) = true)
    (i_BadStock : PySem.W.findIn K (.ref C_BadStock) "__init__" = some (some (.ref fi_BadStock)))
    (ga_BadStock : PySem.W.findIn K (.ref C_BadStock) "__getattribute__" = some (some (.builtin "BaseException.__getattribute__")))
    (gg_BadStock : PySem.W.findIn K (.ref C_BadStock) "__getattr__" = some none)
    (hd_BadStock : PySem.W.hasDictIn K C_BadStock = true)
    (ic_BadStock : PySem.W.isClsIn K C_BadStock = true)
    (xn_BadStock_part : PySem.W.findIn K (.ref C_BadStock) "part" = some none)
    (aC_Misfit : PySem.W.nsIn K mainGlobals "Misfit" = some (some (.ref C_Misfit)))
    (xL_Misfit : K.lookup C_Misfit = some (excClassObj nm_Misfit q_Misfit C_Misfit N_Misfit bs_Misfit bm_Misfit true sn_Misfit sub_Misfit ab_Misfit col_Misfit dd_Misfit m0_Misfit m1_Misfit m2_Misfit m3_Misfit m5_Misfit "ValueError.__new__"))
    (bm_ok_Misfit : PySem.HandSPX.refsVE bm_Misfit = true)
    (sa_Misfit : PySem.W.findIn K (.ref C_Misfit) "__setattr__" = some (some (.builtin "object.__setattr__")))
    (ex_Misfit : PySem.W.subIn K (.ref C_Misfit) (.type "BaseException") = some true)
    (ty_Misfit : PySem.W.typeIn K (.ref C_Misfit) = some (.type "type"))
    (kC_Misfit : PySem.W.keepIn K (.ref C_Misfit) = true)
    (i_Misfit : PySem.W.findIn K (.ref C_Misfit) "__init__" = some (some (.ref fi_Misfit)))
    (ga_Misfit : PySem.W.findIn K (.ref C_Misfit) "__getattribute__" = some (some (.builtin "BaseException.__getattribute__")))
    (gg_Misfit : PySem.W.findIn K (.ref C_Misfit) "__getattr__" = some none)
    (hd_Misfit : PySem.W.hasDictIn K C_Misfit = true)
    (ic_Misfit : PySem.W.isClsIn K C_Misfit = true)
    (xn_Misfit_part : PySem.W.findIn K (.ref C_Misfit) "part" = some none)
    (aC_BadNumber : PySem.W.nsIn K mainGlobals "BadNumber" = some (some (.ref C_BadNumber)))
    (xL_BadNumber : K.lookup C_BadNumber = some (excClassObj nm_BadNumber q_BadNumber C_BadNumber N_BadNumber bs_BadNumber bm_BadNumber true sn_BadNumber sub_BadNumber ab_BadNumber col_BadNumber dd_BadNumber m0_BadNumber m1_BadNumber m2_BadNumber m3_BadNumber m5_BadNumber "ValueError.__new__"))
    (bm_ok_BadNumber : PySem.HandSPX.refsVE bm_BadNumber = true)
    (sa_BadNumber : PySem.W.findIn K (.ref C_BadNumber) "__setattr__" = some (some (.builtin "object.__setattr__")))
    (ex_BadNumber : PySem.W.subIn K (.ref C_BadNumber) (.type "BaseException") = some true)
    (ty_BadNumber : PySem.W.typeIn K (.ref C_BadNumber) = some (.type "type"))
    (kC_BadNumber : PySem.W.keepIn K (.ref C_BadNumber) = true)
    (i_BadNumber : PySem.W.findIn K (.ref C_BadNumber) "__init__" = some (some (.ref fi_BadNumber)))
    (ga_BadNumber : PySem.W.findIn K (.ref C_BadNumber) "__getattribute__" = some (some (.builtin "BaseException.__getattribute__")))
    (gg_BadNumber : PySem.W.findIn K (.ref C_BadNumber) "__getattr__" = some none)
    (hd_BadNumber : PySem.W.hasDictIn K C_BadNumber = true)
    (ic_BadNumber : PySem.W.isClsIn K C_BadNumber = true)
    (xn_BadNumber_part : PySem.W.findIn K (.ref C_BadNumber) "part" = some none)
    (aC_TooMany : PySem.W.nsIn K mainGlobals "TooMany" = some (some (.ref C_TooMany)))
    (xL_TooMany : K.lookup C_TooMany = some (excClassObj nm_TooMany q_TooMany C_TooMany N_TooMany bs_TooMany bm_TooMany true sn_TooMany sub_TooMany ab_TooMany col_TooMany dd_TooMany m0_TooMany m1_TooMany m2_TooMany m3_TooMany m5_TooMany "ValueError.__new__"))
    (bm_ok_TooMany : PySem.HandSPX.refsVE bm_TooMany = true)
    (sa_TooMany : PySem.W.findIn K (.ref C_TooMany) "__setattr__" = some (some (.builtin "object.__setattr__")))
    (ex_TooMany : PySem.W.subIn K (.ref C_TooMany) (.type "BaseException") = some true)
    (ty_TooMany : PySem.W.typeIn K (.ref C_TooMany) = some (.type "type"))
    (kC_TooMany : PySem.W.keepIn K (.ref C_TooMany) = true)
    (i_TooMany : PySem.W.findIn K (.ref C_TooMany) "__init__" = some (some (.ref fi_TooMany)))
    (ga_TooMany : PySem.W.findIn K (.ref C_TooMany) "__getattribute__" = some (some (.builtin "BaseException.__getattribute__")))
    (gg_TooMany : PySem.W.findIn K (.ref C_TooMany) "__getattr__" = some none)
    (hd_TooMany : PySem.W.hasDictIn K C_TooMany = true)
    (ic_TooMany : PySem.W.isClsIn K C_TooMany = true)
    (xn_TooMany_what : PySem.W.findIn K (.ref C_TooMany) "what" = some none)
    (xn_TooMany_most : PySem.W.findIn K (.ref C_TooMany) "most" = some none)
    (ti_BadWord : PySem.W.typeIn K (.ref fi_BadWord) = some (.type "function"))
    (li_BadWord : K.lookup fi_BadWord = some ⟨oc_i_BadWord, od_i_BadWord, .func (PySem.W.fnOf "__init__" "BadWord.__init__" (defArgs s_i_BadWord) (defBody s_i_BadWord) (defScope s_i_BadWord) .none kV_i_BadWord dc_i_BadWord pm_i_BadWord an_i_BadWord cd_i_BadWord ct_i_BadWord), sl_i_BadWord⟩)
    (ci_BadWord : PySem.W.codeIn K cd_i_BadWord "BadWord.__init__" = true)
    (ki_BadWord : PySem.W.keepIn K (.ref fi_BadWord) = true)
    (ti_BadStock : PySem.W.typeIn K (.ref fi_BadStock) = some (.type "function"))
    (li_BadStock : K.lookup fi_BadStock = some ⟨oc_i_BadStock, od_i_BadStock, .func (PySem.W.fnOf "__init__" "BadStock.__init__" (defArgs s_i_BadStock) (defBody s_i_BadStock) (defScope s_i_BadStock) .none kV_i_BadStock dc_i_BadStock pm_i_BadStock an_i_BadStock cd_i_BadStock ct_i_BadStock), sl_i_BadStock⟩)
    (ci_BadStock : PySem.W.codeIn K cd_i_BadStock "BadStock.__init__" = true)
    (ki_BadStock : PySem.W.keepIn K (.ref fi_BadStock) = true)
    (ti_Misfit : PySem.W.typeIn K (.ref fi_Misfit) = some (.type "function"))
    (li_Misfit : K.lookup fi_Misfit = some ⟨oc_i_Misfit, od_i_Misfit, .func (PySem.W.fnOf "__init__" "Misfit.__init__" (defArgs s_i_Misfit) (defBody s_i_Misfit) (defScope s_i_Misfit) .none kV_i_Misfit dc_i_Misfit pm_i_Misfit an_i_Misfit cd_i_Misfit ct_i_Misfit), sl_i_Misfit⟩)
    (ci_Misfit : PySem.W.codeIn K cd_i_Misfit "Misfit.__init__" = true)
    (ki_Misfit : PySem.W.keepIn K (.ref fi_Misfit) = true)
    (ti_BadNumber : PySem.W.typeIn K (.ref fi_BadNumber) = some (.type "function"))
    (li_BadNumber : K.lookup fi_BadNumber = some ⟨oc_i_BadNumber, od_i_BadNumber, .func (PySem.W.fnOf "__init__" "BadNumber.__init__" (defArgs s_i_BadNumber) (defBody s_i_BadNumber) (defScope s_i_BadNumber) .none kV_i_BadNumber dc_i_BadNumber pm_i_BadNumber an_i_BadNumber cd_i_BadNumber ct_i_BadNumber), sl_i_BadNumber⟩)
    (ci_BadNumber : PySem.W.codeIn K cd_i_BadNumber "BadNumber.__init__" = true)
    (ki_BadNumber : PySem.W.keepIn K (.ref fi_BadNumber) = true)
    (ti_TooMany : PySem.W.typeIn K (.ref fi_TooMany) = some (.type "function"))
    (li_TooMany : K.lookup fi_TooMany = some ⟨oc_i_TooMany, od_i_TooMany, .func (PySem.W.fnOf "__init__" "TooMany.__init__" (defArgs s_i_TooMany) (defBody s_i_TooMany) (defScope s_i_TooMany) .none kV_i_TooMany dc_i_TooMany pm_i_TooMany an_i_TooMany cd_i_TooMany ct_i_TooMany), sl_i_TooMany⟩)
    (ci_TooMany : PySem.W.codeIn K cd_i_TooMany "TooMany.__init__" = true)
    (ki_TooMany : PySem.W.keepIn K (.ref fi_TooMany) = true)
    (e_BadWord_BadWord : PySem.W.subIn K (.ref C_BadWord) (.ref C_BadWord) = some true)
    (e_BadWord_BadStock : PySem.W.subIn K (.ref C_BadWord) (.ref C_BadStock) = some false)
    (e_BadWord_Misfit : PySem.W.subIn K (.ref C_BadWord) (.ref C_Misfit) = some false)
    (e_BadWord_BadNumber : PySem.W.subIn K (.ref C_BadWord) (.ref C_BadNumber) = some false)
    (e_BadWord_TooMany : PySem.W.subIn K (.ref C_BadWord) (.ref C_TooMany) = some false)
    (e_BadStock_BadWord : PySem.W.subIn K (.ref C_BadStock) (.ref C_BadWord) = some false)
    (e_BadStock_BadStock : PySem.W.subIn K (.ref C_BadStock) (.ref C_BadStock) = some true)
    (e_BadStock_Misfit : PySem.W.subIn K (.ref C_BadStock) (.ref C_Misfit) = some false)
    (e_BadStock_BadNumber : PySem.W.subIn K (.ref C_BadStock) (.ref C_BadNumber) = some false)
    (e_BadStock_TooMany : PySem.W.subIn K (.ref C_BadStock) (.ref C_TooMany) = some false)
    (e_Misfit_BadWord : PySem.W.subIn K (.ref C_Misfit) (.ref C_BadWord) = some false)
    (e_Misfit_BadStock : PySem.W.subIn K (.ref C_Misfit) (.ref C_BadStock) = some false)
    (e_Misfit_Misfit : PySem.W.subIn K (.ref C_Misfit) (.ref C_Misfit) = some true)
    (e_Misfit_BadNumber : PySem.W.subIn K (.ref C_Misfit) (.ref C_BadNumber) = some false)
    (e_Misfit_TooMany : PySem.W.subIn K (.ref C_Misfit) (.ref C_TooMany) = some false)
    (e_BadNumber_BadWord : PySem.W.subIn K (.ref C_BadNumber) (.ref C_BadWord) = some false)
    (e_BadNumber_BadStock : PySem.W.subIn K (.ref C_BadNumber) (.ref C_BadStock) = some false)
    (e_BadNumber_Misfit : PySem.W.subIn K (.ref C_BadNumber) (.ref C_Misfit) = some false)
    (e_BadNumber_BadNumber : PySem.W.subIn K (.ref C_BadNumber) (.ref C_BadNumber) = some true)
    (e_BadNumber_TooMany : PySem.W.subIn K (.ref C_BadNumber) (.ref C_TooMany) = some false)
    (e_TooMany_BadWord : PySem.W.subIn K (.ref C_TooMany) (.ref C_BadWord) = some false)
    (e_TooMany_BadStock : PySem.W.subIn K (.ref C_TooMany) (.ref C_BadStock) = some false)
    (e_TooMany_Misfit : PySem.W.subIn K (.ref C_TooMany) (.ref C_Misfit) = some false)
    (e_TooMany_BadNumber : PySem.W.subIn K (.ref C_TooMany) (.ref C_BadNumber) = some false)
    (e_TooMany_TooMany : PySem.W.subIn K (.ref C_TooMany) (.ref C_TooMany) = some true)
    (np__law_refused_right__law_many_right : pp__law_refused_right ≠ pp__law_many_right)
    (tT__law_refused_right : h.get? pp__law_refused_right = some { cls := .none, data := .fields #[] })
    (tN__law_refused_right : K.lookup pp__law_refused_right = none)
    (tC__law_refused_right : PySem.W.codeHdIn K cc__law_refused_right pp__law_refused_right = true)
    (tT__law_many_right : h.get? pp__law_many_right = some { cls := .none, data := .fields #[] })
    (tN__law_many_right : K.lookup pp__law_many_right = none)
    (tC__law_many_right : PySem.W.codeHdIn K cc__law_many_right pp__law_many_right = true)
    : LamX.LawAtS l w K (L2.CX l.prog w) 9 63 "_law_script" mg fa h := by
  have e := (PySem.W.mg_of X G a_law).symm.trans hfa
  have e2 : f_law = fa := by cases e; rfl
  rw [← e2]
  refine FT.finish (cs := [(cc__law_refused_right, pp__law_refused_right), (cc__law_many_right, pp__law_many_right)]) (T := [(pp__law_refused_right, "_law_refused_right.<locals>.<lambda>"), (pp__law_many_right, "_law_many_right.<locals>.<lambda>")]) (Pre := Pre) (fd := (PySem.W.fnOf "law" "law" (defArgs s_law) (defBody s_law) (defScope s_law) .none kV_law dc_law pm_law an_law cd_law ct_law)) X (fun s u => .of_eq rfl) (fun base _ _ tb => ?_) ?t1 ?t2 ?t3 ?t4 pre_ok
  case t1 => exact (List.forall_mem_cons.mpr ⟨tT__law_refused_right, (List.forall_mem_cons.mpr ⟨tT__law_many_right, (fun _ h => absurd h (by simp))⟩)⟩)
  case t2 => exact (List.forall_mem_cons.mpr ⟨tN__law_refused_right, (List.forall_mem_cons.mpr ⟨tN__law_many_right, (fun _ h => absurd h (by simp))⟩)⟩)
  case t3 => exact (List.forall_mem_cons.mpr ⟨tC__law_refused_right, (List.forall_mem_cons.mpr ⟨tC__law_many_right, (fun _ h => absurd h (by simp))⟩)⟩)
  case t4 => exact (List.forall_mem_cons.mpr ⟨⟨(cc__law_refused_right, pp__law_refused_right), List.mem_cons_self, rfl⟩, (List.forall_mem_cons.mpr ⟨⟨(cc__law_many_right, pp__law_many_right), (List.mem_cons_of_mem _ List.mem_cons_self), rfl⟩, (fun _ h => absurd h (by simp))⟩)⟩)
  have tb__law_refused_right := tb (cc__law_refused_right, pp__law_refused_right) List.mem_cons_self
  have tb__law_many_right := tb (cc__law_many_right, pp__law_many_right) (List.mem_cons_of_mem _ List.mem_cons_self)
  let a : A := { d_is_integer := f_is_integer, fd_is_integer := (PySem.W.fnOf "is_integer" "is_integer" (defArgs s_is_integer) (defBody s_is_integer) (defScope s_is_integer) .none kV_is_integer dc_is_integer pm_is_integer an_is_integer cd_is_integer ct_is_integer), d_is_within := f_is_within, fd_is_within := (PySem.W.fnOf "is_within" "is_within" (defArgs s_is_within) (defBody s_is_within) (defScope s_is_within) .none kV_is_within dc_is_within pm_is_within an_is_within cd_is_within ct_is_within), d_is_word := f_is_word, fd_is_word := (PySem.W.fnOf "is_word" "is_word" (defArgs s_is_word) (defBody s_is_word) (defScope s_is_word) .none kV_is_word dc_is_word pm_is_word an_is_word cd_is_word ct_is_word), d_is_stock := f_is_stock, fd_is_stock := (PySem.W.fnOf "is_stock" "is_stock" (defArgs s_is_stock) (defBody s_is_stock) (defScope s_is_stock) .none kV_is_stock dc_is_stock pm_is_stock an_is_stock cd_is_stock ct_is_stock), d_of_stock := f_of_stock, fd_of_stock := (PySem.W.fnOf "of_stock" "of_stock" (defArgs s_of_stock) (defBody s_of_stock) (defScope s_of_stock) .none kV_of_stock dc_of_stock pm_of_stock an_of_stock cd_of_stock ct_of_stock), d_need_word := f_need_word, fd_need_word := (PySem.W.fnOf "need_word" "need_word" (defArgs s_need_word) (defBody s_need_word) (defScope s_need_word) .none kV_need_word dc_need_word pm_need_word an_need_word cd_need_word ct_need_word), d_need_stock := f_need_stock, fd_need_stock := (PySem.W.fnOf "need_stock" "need_stock" (defArgs s_need_stock) (defBody s_need_stock) (defScope s_need_stock) .none kV_need_stock dc_need_stock pm_need_stock an_need_stock cd_need_stock ct_need_stock), d_need_word_of := f_need_word_of, fd_need_word_of := (PySem.W.fnOf "need_word_of" "need_word_of" (defArgs s_need_word_of) (defBody s_need_word_of) (defScope s_need_word_of) .none kV_need_word_of dc_need_word_of pm_need_word_of an_need_word_of cd_need_word_of ct_need_word_of), d_number_in := f_number_in, fd_number_in := (PySem.W.fnOf "number_in" "number_in" (defArgs s_number_in) (defBody s_number_in) (defScope s_number_in) .none kV_number_in dc_number_in pm_number_in an_number_in cd_number_in ct_number_in), d_word_with := f_word_with, fd_word_with := (PySem.W.fnOf "word_with" "word_with" (defArgs s_word_with) (defBody s_word_with) (defScope s_word_with) .none kV_word_with dc_word_with pm_word_with an_word_with cd_word_with ct_word_with), d_many_with := f_many_with, fd_many_with := (PySem.W.fnOf "many_with" "many_with" (defArgs s_many_with) (defBody s_many_with) (defScope s_many_with) .none kV_many_with dc_many_with pm_many_with an_many_with cd_many_with ct_many_with), d_last_word := f_last_word, fd_last_word := (PySem.W.fnOf "last_word" "last_word" (defArgs s_last_word) (defBody s_last_word) (defScope s_last_word) .none kV_last_word dc_last_word pm_last_word an_last_word cd_last_word ct_last_word), d_words_of := f_words_of, fd_words_of := (PySem.W.fnOf "words_of" "words_of" (defArgs s_words_of) (defBody s_words_of) (defScope s_words_of) .none kV_words_of dc_words_of pm_words_of an_words_of cd_words_of ct_words_of), d_word_number := f_word_number, fd_word_number := (PySem.W.fnOf "word_number" "word_number" (defArgs s_word_number) (defBody s_word_number) (defScope s_word_number) .none kV_word_number dc_word_number pm_word_number an_word_number cd_word_number ct_word_number), d_word_at := f_word_at, fd_word_at := (PySem.W.fnOf "word_at" "word_at" (defArgs s_word_at) (defBody s_word_at) (defScope s_word_at) .none kV_word_at dc_word_at pm_word_at an_word_at cd_word_at ct_word_at), d_next_word := f_next_word, fd_next_word := (PySem.W.fnOf "next_word" "next_word" (defArgs s_next_word) (defBody s_next_word) (defScope s_next_word) .none kV_next_word dc_next_word pm_next_word an_next_word cd_next_word ct_next_word), d__law_well := f__law_well, fd__law_well := (PySem.W.fnOf "_law_well" "_law_well" (defArgs s__law_well) (defBody s__law_well) (defScope s__law_well) .none kV__law_well dc__law_well pm__law_well an__law_well cd__law_well ct__law_well), d__law_dip := f__law_dip, fd__law_dip := (PySem.W.fnOf "_law_dip" "_law_dip" (defArgs s__law_dip) (defBody s__law_dip) (defScope s__law_dip) .none kV__law_dip dc__law_dip pm__law_dip an__law_dip cd__law_dip ct__law_dip), d__law_pick := f__law_pick, fd__law_pick := (PySem.W.fnOf "_law_pick" "_law_pick" (defArgs s__law_pick) (defBody s__law_pick) (defScope s__law_pick) .none kV__law_pick dc__law_pick pm__law_pick an__law_pick cd__law_pick ct__law_pick), d__law_stock := f__law_stock, fd__law_stock := (PySem.W.fnOf "_law_stock" "_law_stock" (defArgs s__law_stock) (defBody s__law_stock) (defScope s__law_stock) .none kV__law_stock dc__law_stock pm__law_stock an__law_stock cd__law_stock ct__law_stock), d__law_listed := f__law_listed, fd__law_listed := (PySem.W.fnOf "_law_listed" "_law_listed" (defArgs s__law_listed) (defBody s__law_listed) (defScope s__law_listed) .none kV__law_listed dc__law_listed pm__law_listed an__law_listed cd__law_listed ct__law_listed), d__law_ahead := f__law_ahead, fd__law_ahead := (PySem.W.fnOf "_law_ahead" "_law_ahead" (defArgs s__law_ahead) (defBody s__law_ahead) (defScope s__law_ahead) .none kV__law_ahead dc__law_ahead pm__law_ahead an__law_ahead cd__law_ahead ct__law_ahead), d__law_behind := f__law_behind, fd__law_behind := (PySem.W.fnOf "_law_behind" "_law_behind" (defArgs s__law_behind) (defBody s__law_behind) (defScope s__law_behind) .none kV__law_behind dc__law_behind pm__law_behind an__law_behind cd__law_behind ct__law_behind), d__law_word_right := f__law_word_right, fd__law_word_right := (PySem.W.fnOf "_law_word_right" "_law_word_right" (defArgs s__law_word_right) (defBody s__law_word_right) (defScope s__law_word_right) .none kV__law_word_right dc__law_word_right pm__law_word_right an__law_word_right cd__law_word_right ct__law_word_right), d__law_all_right := f__law_all_right, fd__law_all_right := (PySem.W.fnOf "_law_all_right" "_law_all_right" (defArgs s__law_all_right) (defBody s__law_all_right) (defScope s__law_all_right) .none kV__law_all_right dc__law_all_right pm__law_all_right an__law_all_right cd__law_all_right ct__law_all_right), d__law_heard := f__law_heard, fd__law_heard := (PySem.W.fnOf "_law_heard" "_law_heard" (defArgs s__law_heard) (defBody s__law_heard) (defScope s__law_heard) .none kV__law_heard dc__law_heard pm__law_heard an__law_heard cd__law_heard ct__law_heard), d__law_refused_right := f__law_refused_right, fd__law_refused_right := (PySem.W.fnOf "_law_refused_right" "_law_refused_right" (defArgs s__law_refused_right) (defBody s__law_refused_right) (defScope s__law_refused_right) .none kV__law_refused_right dc__law_refused_right pm__law_refused_right an__law_refused_right (.ref cc__law_refused_right) ct__law_refused_right), d__law_many_right := f__law_many_right, fd__law_many_right := (PySem.W.fnOf "_law_many_right" "_law_many_right" (defArgs s__law_many_right) (defBody s__law_many_right) (defScope s__law_many_right) .none kV__law_many_right dc__law_many_right pm__law_many_right an__law_many_right (.ref cc__law_many_right) ct__law_many_right), d_law := f_law, fd_law := (PySem.W.fnOf "law" "law" (defArgs s_law) (defBody s_law) (defScope s_law) .none kV_law dc_law pm_law an_law cd_law ct_law), c__law_refused_right := cc__law_refused_right, p__law_refused_right := pp__law_refused_right, c__law_many_right := cc__law_many_right, p__law_many_right := pp__law_many_right, C_BadWord := C_BadWord, C_BadStock := C_BadStock, C_Misfit := C_Misfit, C_BadNumber := C_BadNumber, C_TooMany := C_TooMany, i_BadWord := fi_BadWord, fi_BadWord := (PySem.W.fnOf "__init__" "BadWord.__init__" (defArgs s_i_BadWord) (defBody s_i_BadWord) (defScope s_i_BadWord) .none kV_i_BadWord dc_i_BadWord pm_i_BadWord an_i_BadWord cd_i_BadWord ct_i_BadWord), i_BadStock := fi_BadStock, fi_BadStock := (PySem.W.fnOf "__init__" "BadStock.__init__" (defArgs s_i_BadStock) (defBody s_i_BadStock) (defScope s_i_BadStock) .none kV_i_BadStock dc_i_BadStock pm_i_BadStock an_i_BadStock cd_i_BadStock ct_i_BadStock), i_Misfit := fi_Misfit, fi_Misfit := (PySem.W.fnOf "__init__" "Misfit.__init__" (defArgs s_i_Misfit) (defBody s_i_Misfit) (defScope s_i_Misfit) .none kV_i_Misfit dc_i_Misfit pm_i_Misfit an_i_Misfit cd_i_Misfit ct_i_Misfit), i_BadNumber := fi_BadNumber, fi_BadNumber := (PySem.W.fnOf "__init__" "BadNumber.__init__" (defArgs s_i_BadNumber) (defBody s_i_BadNumber) (defScope s_i_BadNumber) .none kV_i_BadNumber dc_i_BadNumber pm_i_BadNumber an_i_BadNumber cd_i_BadNumber ct_i_BadNumber), i_TooMany := fi_TooMany, fi_TooMany := (PySem.W.fnOf "__init__" "TooMany.__init__" (defArgs s_i_TooMany) (defBody s_i_TooMany) (defScope s_i_TooMany) .none kV_i_TooMany dc_i_TooMany pm_i_TooMany an_i_TooMany cd_i_TooMany ct_i_TooMany) }
  have T : Txt K mg base a := {
    F_is_integer := fun_mk (st := s_is_integer) l_is_integer c_is_integer k_is_integer,
    g_is_integer := PySem.W.mg_of X G a_is_integer,
    F_is_within := fun_mk (st := s_is_within) l_is_within c_is_within k_is_within,
    g_is_within := PySem.W.mg_of X G a_is_within,
    F_is_word := fun_mk (st := s_is_word) l_is_word c_is_word k_is_word,
    g_is_word := PySem.W.mg_of X G a_is_word,
    F_is_stock := fun_mk (st := s_is_stock) l_is_stock c_is_stock k_is_stock,
    g_is_stock := PySem.W.mg_of X G a_is_stock,
    F_of_stock := fun_mk (st := s_of_stock) l_of_stock c_of_stock k_of_stock,
    g_of_stock := PySem.W.mg_of X G a_of_stock,
    F_need_word := fun_mk (st := s_need_word) l_need_word c_need_word k_need_word,
    g_need_word := PySem.W.mg_of X G a_need_word,
    F_need_stock := fun_mk (st := s_need_stock) l_need_stock c_need_stock k_need_stock,
    g_need_stock := PySem.W.mg_of X G a_need_stock,
    F_need_word_of := fun_mk (st := s_need_word_of) l_need_word_of c_need_word_of k_need_word_of,
    g_need_word_of := PySem.W.mg_of X G a_need_word_of,
    F_number_in := fun_mk (st := s_number_in) l_number_in c_number_in k_number_in,
    g_number_in := PySem.W.mg_of X G a_number_in,
    F_word_with := fun_mk (st := s_word_with) l_word_with c_word_with k_word_with,
    g_word_with := PySem.W.mg_of X G a_word_with,
    F_many_with := fun_mk (st := s_many_with) l_many_with c_many_with k_many_with,
    g_many_with := PySem.W.mg_of X G a_many_with,
    F_last_word := fun_mk (st := s_last_word) l_last_word c_last_word k_last_word,
    g_last_word := PySem.W.mg_of X G a_last_word,
    F_words_of := fun_mk (st := s_words_of) l_words_of c_words_of k_words_of,
    g_words_of := PySem.W.mg_of X G a_words_of,
    F_word_number := fun_mk (st := s_word_number) l_word_number c_word_number k_word_number,
    g_word_number := PySem.W.mg_of X G a_word_number,
    F_word_at := fun_mk (st := s_word_at) l_word_at c_word_at k_word_at,
    g_word_at := PySem.W.mg_of X G a_word_at,
    F_next_word := fun_mk (st := s_next_word) l_next_word c_next_word k_next_word,
    g_next_word := PySem.W.mg_of X G a_next_word,
    F__law_well := fun_mk (st := s__law_well) l__law_well c__law_well k__law_well,
    g__law_well := PySem.W.mg_of X G a__law_well,
    F__law_dip := fun_mk (st := s__law_dip) l__law_dip c__law_dip k__law_dip,
    g__law_dip := PySem.W.mg_of X G a__law_dip,
    F__law_pick := fun_mk (st := s__law_pick) l__law_pick c__law_pick k__law_pick,
    g__law_pick := PySem.W.mg_of X G a__law_pick,
    F__law_stock := fun_mk (st := s__law_stock) l__law_stock c__law_stock k__law_stock,
    g__law_stock := PySem.W.mg_of X G a__law_stock,
    F__law_listed := fun_mk (st := s__law_listed) l__law_listed c__law_listed k__law_listed,
    g__law_listed := PySem.W.mg_of X G a__law_listed,
    F__law_ahead := fun_mk (st := s__law_ahead) l__law_ahead c__law_ahead k__law_ahead,
    g__law_ahead := PySem.W.mg_of X G a__law_ahead,
    F__law_behind := fun_mk (st := s__law_behind) l__law_behind c__law_behind k__law_behind,
    g__law_behind := PySem.W.mg_of X G a__law_behind,
    F__law_word_right := fun_mk (st := s__law_word_right) l__law_word_right c__law_word_right k__law_word_right,
    g__law_word_right := PySem.W.mg_of X G a__law_word_right,
    F__law_all_right := fun_mk (st := s__law_all_right) l__law_all_right c__law_all_right k__law_all_right,
    g__law_all_right := PySem.W.mg_of X G a__law_all_right,
    F__law_heard := fun_mk (st := s__law_heard) l__law_heard c__law_heard k__law_heard,
    g__law_heard := PySem.W.mg_of X G a__law_heard,
    F__law_refused_right := fun_mk (st := s__law_refused_right) l__law_refused_right c__law_refused_right k__law_refused_right,
    g__law_refused_right := PySem.W.mg_of X G a__law_refused_right,
    F__law_many_right := fun_mk (st := s__law_many_right) l__law_many_right c__law_many_right k__law_many_right,
    g__law_many_right := PySem.W.mg_of X G a__law_many_right,
    F_law := fun_mk (st := s_law) l_law c_law k_law,
    g_law := PySem.W.mg_of X G a_law,
    FC__law_refused_right := funC_mk (st := s__law_refused_right) l__law_refused_right c__law_refused_right k__law_refused_right,
    tb__law_refused_right := tb__law_refused_right,
    FC__law_many_right := funC_mk (st := s__law_many_right) l__law_many_right c__law_many_right k__law_many_right,
    tb__law_many_right := tb__law_many_right,
    np__law_refused_right__law_many_right := np__law_refused_right__law_many_right,
    z_abs := PySem.W.mg_none_of X G z_abs,
    z_all := PySem.W.mg_none_of X G z_all,
    z_bool := PySem.W.mg_none_of X G z_bool,
    z_enumerate := PySem.W.mg_none_of X G z_enumerate,
    z_int := PySem.W.mg_none_of X G z_int,
    z_isinstance := PySem.W.mg_none_of X G z_isinstance,
    z_len := PySem.W.mg_none_of X G z_len,
    z_list := PySem.W.mg_none_of X G z_list,
    z_range := PySem.W.mg_none_of X G z_range,
    z_sorted := PySem.W.mg_none_of X G z_sorted,
    z_str := PySem.W.mg_none_of X G z_str,
    z_tuple := PySem.W.mg_none_of X G z_tuple,
    z_zip := PySem.W.mg_none_of X G z_zip,
    k_LETTERS := ⟨_, PySem.W.mg_of X G kc_LETTERS⟩,
    k_MOST_SOUNDS := ⟨_, PySem.W.mg_of X G kc_MOST_SOUNDS⟩,
    k_MOST_STOCK := ⟨_, PySem.W.mg_of X G kc_MOST_STOCK⟩,
    k_MOST_WORDS := ⟨_, PySem.W.mg_of X G kc_MOST_WORDS⟩,
    xn_BadWord_part := xn_BadWord_part,
    x_BadWord := clsF_mk X G aC_BadWord xL_BadWord bm_ok_BadWord sa_BadWord ex_BadWord ty_BadWord kC_BadWord i_BadWord ti_BadWord ⟨ga_BadWord, gg_BadWord, ex_BadWord, hd_BadWord⟩,
    xn_BadStock_part := xn_BadStock_part,
    x_BadStock := clsF_mk X G aC_BadStock xL_BadStock bm_ok_BadStock sa_BadStock ex_BadStock ty_BadStock kC_BadStock i_BadStock ti_BadStock ⟨ga_BadStock, gg_BadStock, ex_BadStock, hd_BadStock⟩,
    xn_Misfit_part := xn_Misfit_part,
    x_Misfit := clsF_mk X G aC_Misfit xL_Misfit bm_ok_Misfit sa_Misfit ex_Misfit ty_Misfit kC_Misfit i_Misfit ti_Misfit ⟨ga_Misfit, gg_Misfit, ex_Misfit, hd_Misfit⟩,
    xn_BadNumber_part := xn_BadNumber_part,
    x_BadNumber := clsF_mk X G aC_BadNumber xL_BadNumber bm_ok_BadNumber sa_BadNumber ex_BadNumber ty_BadNumber kC_BadNumber i_BadNumber ti_BadNumber ⟨ga_BadNumber, gg_BadNumber, ex_BadNumber, hd_BadNumber⟩,
    xn_TooMany_what := xn_TooMany_what,
    xn_TooMany_most := xn_TooMany_most,
    x_TooMany := clsF_mk X G aC_TooMany xL_TooMany bm_ok_TooMany sa_TooMany ex_TooMany ty_TooMany kC_TooMany i_TooMany ti_TooMany ⟨ga_TooMany, gg_TooMany, ex_TooMany, hd_TooMany⟩,
    F_i_BadWord := fun_mk (st := s_i_BadWord) li_BadWord ci_BadWord ki_BadWord,
    F_i_BadStock := fun_mk (st := s_i_BadStock) li_BadStock ci_BadStock ki_BadStock,
    F_i_Misfit := fun_mk (st := s_i_Misfit) li_Misfit ci_Misfit ki_Misfit,
    F_i_BadNumber := fun_mk (st := s_i_BadNumber) li_BadNumber ci_BadNumber ki_BadNumber,
    F_i_TooMany := fun_mk (st := s_i_TooMany) li_TooMany ci_TooMany ki_TooMany,
    hx := fun c hc => match c, hc with
    | 0, _ => fun j hj => match j, hj with | 0, _ => exm_of ex_BadWord ic_BadWord ty_BadWord e_BadWord_BadWord | 1, _ => exm_of ex_BadStock ic_BadStock ty_BadStock e_BadWord_BadStock | 2, _ => exm_of ex_Misfit ic_Misfit ty_Misfit e_BadWord_Misfit | 3, _ => exm_of ex_BadNumber ic_BadNumber ty_BadNumber e_BadWord_BadNumber | 4, _ => exm_of ex_TooMany ic_TooMany ty_TooMany e_BadWord_TooMany | j + 5, hj => absurd hj (by simp [nC])
    | 1, _ => fun j hj => match j, hj with | 0, _ => exm_of ex_BadWord ic_BadWord ty_BadWord e_BadStock_BadWord | 1, _ => exm_of ex_BadStock ic_BadStock ty_BadStock e_BadStock_BadStock | 2, _ => exm_of ex_Misfit ic_Misfit ty_Misfit e_BadStock_Misfit | 3, _ => exm_of ex_BadNumber ic_BadNumber ty_BadNumber e_BadStock_BadNumber | 4, _ => exm_of ex_TooMany ic_TooMany ty_TooMany e_BadStock_TooMany | j + 5, hj => absurd hj (by simp [nC])
    | 2, _ => fun j hj => match j, hj with | 0, _ => exm_of ex_BadWord ic_BadWord ty_BadWord e_Misfit_BadWord | 1, _ => exm_of ex_BadStock ic_BadStock ty_BadStock e_Misfit_BadStock | 2, _ => exm_of ex_Misfit ic_Misfit ty_Misfit e_Misfit_Misfit | 3, _ => exm_of ex_BadNumber ic_BadNumber ty_BadNumber e_Misfit_BadNumber | 4, _ => exm_of ex_TooMany ic_TooMany ty_TooMany e_Misfit_TooMany | j + 5, hj => absurd hj (by simp [nC])
    | 3, _ => fun j hj => match j, hj with | 0, _ => exm_of ex_BadWord ic_BadWord ty_BadWord e_BadNumber_BadWord | 1, _ => exm_of ex_BadStock ic_BadStock ty_BadStock e_BadNumber_BadStock | 2, _ => exm_of ex_Misfit ic_Misfit ty_Misfit e_BadNumber_Misfit | 3, _ => exm_of ex_BadNumber ic_BadNumber ty_BadNumber e_BadNumber_BadNumber | 4, _ => exm_of ex_TooMany ic_TooMany ty_TooMany e_BadNumber_TooMany | j + 5, hj => absurd hj (by simp [nC])
    | 4, _ => fun j hj => match j, hj with | 0, _ => exm_of ex_BadWord ic_BadWord ty_BadWord e_TooMany_BadWord | 1, _ => exm_of ex_BadStock ic_BadStock ty_BadStock e_TooMany_BadStock | 2, _ => exm_of ex_Misfit ic_Misfit ty_Misfit e_TooMany_Misfit | 3, _ => exm_of ex_BadNumber ic_BadNumber ty_BadNumber e_TooMany_BadNumber | 4, _ => exm_of ex_TooMany ic_TooMany ty_TooMany e_TooMany_TooMany | j + 5, hj => absurd hj (by simp [nC])
    | c + 5, hc => absurd hc (by simp [nC]) }
  exact ok_law T pure_law
end K04
end
section
set_option maxHeartbeats 0
set_option maxRecDepth 100000
open_top hd for PySem.Challenge.rw_foretongue_k04_words_of_stocks_numbered
end
section
set_option Elab.async false
set_option linter.all false
open PySem PySem.W PyProof.Rows
set_option maxRecDepth 100000 in
set_option maxHeartbeats 0 in
theorem PySem.Challenge.cw_foretongue_k04_words_of_stocks_numbered_holds : PySem.Challenge.rw_foretongue_k04_words_of_stocks_numbered.Holds :=
  hd (by
  k_fill
  refine LamX.walk_ofTs (n := 63) (k := 9) (x := "_law_script") (CX := fun w => L2.CX PySem.Challenge.rw_foretongue_k04_words_of_stocks_numbered.prog w) rfl (by decide) rfl ⟨rfl, by decide, by decide⟩ (fun w h Y => km_in_of Y) ?F ?X
  case X => exact fun w H s e s' z => FT.cx_no z
  case F =>
    intro w mg fa h Y KX G hmg
    refine' K04.all_mk (pp__law_refused_right := 288) (pp__law_many_right := 293) KX G hmg ?a_is_integer ?l_is_integer ?c_is_integer ?k_is_integer ?a_is_within ?l_is_within ?c_is_within ?k_is_within ?a_is_word ?l_is_word ?c_is_word ?k_is_word ?a_is_stock ?l_is_stock ?c_is_stock ?k_is_stock ?a_of_stock ?l_of_stock ?c_of_stock ?k_of_stock ?a_need_word ?l_need_word ?c_need_word ?k_need_word ?a_need_stock ?l_need_stock ?c_need_stock ?k_need_stock ?a_need_word_of ?l_need_word_of ?c_need_word_of ?k_need_word_of ?a_number_in ?l_number_in ?c_number_in ?k_number_in ?a_word_with ?l_word_with ?c_word_with ?k_word_with ?a_many_with ?l_many_with ?c_many_with ?k_many_with ?a_last_word ?l_last_word ?c_last_word ?k_last_word ?a_words_of ?l_words_of ?c_words_of ?k_words_of ?a_word_number ?l_word_number ?c_word_number ?k_word_number ?a_word_at ?l_word_at ?c_word_at ?k_word_at ?a_next_word ?l_next_word ?c_next_word ?k_next_word ?a__law_well ?l__law_well ?c__law_well ?k__law_well ?a__law_dip ?l__law_dip ?c__law_dip ?k__law_dip ?a__law_pick ?l__law_pick ?c__law_pick ?k__law_pick ?a__law_stock ?l__law_stock ?c__law_stock ?k__law_stock ?a__law_listed ?l__law_listed ?c__law_listed ?k__law_listed ?a__law_ahead ?l__law_ahead ?c__law_ahead ?k__law_ahead ?a__law_behind ?l__law_behind ?c__law_behind ?k__law_behind ?a__law_word_right ?l__law_word_right ?c__law_word_right ?k__law_word_right ?a__law_all_right ?l__law_all_right ?c__law_all_right ?k__law_all_right ?a__law_heard ?l__law_heard ?c__law_heard ?k__law_heard ?a__law_refused_right ?l__law_refused_right ?c__law_refused_right ?k__law_refused_right ?a__law_many_right ?l__law_many_right ?c__law_many_right ?k__law_many_right ?a_law ?l_law ?c_law ?k_law ?z_abs ?z_all ?z_bool ?z_enumerate ?z_int ?z_isinstance ?z_len ?z_list ?z_range ?z_sorted ?z_str ?z_tuple ?z_zip ?kc_LETTERS ?kc_MOST_SOUNDS ?kc_MOST_STOCK ?kc_MOST_WORDS ?aC_BadWord ?xL_BadWord ?bm_ok_BadWord ?sa_BadWord ?ex_BadWord ?ty_BadWord ?kC_BadWord ?i_BadWord ?ga_BadWord ?gg_BadWord ?hd_BadWord ?ic_BadWord ?xn_BadWord_part ?aC_BadStock ?xL_BadStock ?bm_ok_BadStock ?sa_BadStock ?ex_BadStock ?ty_BadStock ?kC_BadStock ?i_BadStock ?ga_BadStock ?gg_BadStock ?hd_BadStock ?ic_BadStock ?xn_BadStock_part ?aC_Misfit ?xL_Misfit ?bm_ok_Misfit ?sa_Misfit ?ex_Misfit ?ty_Misfit ?kC_Misfit ?i_Misfit ?ga_Misfit ?gg_Misfit ?hd_Misfit ?ic_Misfit ?xn_Misfit_part ?aC_BadNumber ?xL_BadNumber ?bm_ok_BadNumber ?sa_BadNumber ?ex_BadNumber ?ty_BadNumber ?kC_BadNumber ?i_BadNumber ?ga_BadNumber ?gg_BadNumber ?hd_BadNumber ?ic_BadNumber ?xn_BadNumber_part ?aC_TooMany ?xL_TooMany ?bm_ok_TooMany ?sa_TooMany ?ex_TooMany ?ty_TooMany ?kC_TooMany ?i_TooMany ?ga_TooMany ?gg_TooMany ?hd_TooMany ?ic_TooMany ?xn_TooMany_what ?xn_TooMany_most ?ti_BadWord ?li_BadWord ?ci_BadWord ?ki_BadWord ?ti_BadStock ?li_BadStock ?ci_BadStock ?ki_BadStock ?ti_Misfit ?li_Misfit ?ci_Misfit ?ki_Misfit ?ti_BadNumber ?li_BadNumber ?ci_BadNumber ?ki_BadNumber ?ti_TooMany ?li_TooMany ?ci_TooMany ?ki_TooMany ?e_BadWord_BadWord ?e_BadWord_BadStock ?e_BadWord_Misfit ?e_BadWord_BadNumber ?e_BadWord_TooMany ?e_BadStock_BadWord ?e_BadStock_BadStock ?e_BadStock_Misfit ?e_BadStock_BadNumber ?e_BadStock_TooMany ?e_Misfit_BadWord ?e_Misfit_BadStock ?e_Misfit_Misfit ?e_Misfit_BadNumber ?e_Misfit_TooMany ?e_BadNumber_BadWord ?e_BadNumber_BadStock ?e_BadNumber_Misfit ?e_BadNumber_BadNumber ?e_BadNumber_TooMany ?e_TooMany_BadWord ?e_TooMany_BadStock ?e_TooMany_Misfit ?e_TooMany_BadNumber ?e_TooMany_TooMany ?np__law_refused_right__law_many_right ?tT__law_refused_right ?tN__law_refused_right ?tC__law_refused_right ?tT__law_many_right ?tN__law_many_right ?tC__law_many_right
    (case a_is_integer => k_is)
    (case l_is_integer => k_is)
    (case c_is_integer => k_is)
    (case k_is_integer => k_is)
    (case a_is_within => k_is)
    (case l_is_within => k_is)
    (case c_is_within => k_is)
    (case k_is_within => k_is)
    (case a_is_word => k_is)
    (case l_is_word => k_is)
    (case c_is_word => k_is)
    (case k_is_word => k_is)
    (case a_is_stock => k_is)
    (case l_is_stock => k_is)
    (case c_is_stock => k_is)
    (case k_is_stock => k_is)
    (case a_of_stock => k_is)
    (case l_of_stock => k_is)
    (case c_of_stock => k_is)
    (case k_of_stock => k_is)
    (case a_need_word => k_is)
    (case l_need_word => k_is)
    (case c_need_word => k_is)
    (case k_need_word => k_is)
    (case a_need_stock => k_is)
    (case l_need_stock => k_is)
    (case c_need_stock => k_is)
    (case k_need_stock => k_is)
    (case a_need_word_of => k_is)
    (case l_need_word_of => k_is)
    (case c_need_word_of => k_is)
    (case k_need_word_of => k_is)
    (case a_number_in => k_is)
    (case l_number_in => k_is)
    (case c_number_in => k_is)
    (case k_number_in => k_is)
    (case a_word_with => k_is)
    (case l_word_with => k_is)
    (case c_word_with => k_is)
    (case k_word_with => k_is)
    (case a_many_with => k_is)
    (case l_many_with => k_is)
    (case c_many_with => k_is)
    (case k_many_with => k_is)
    (case a_last_word => k_is)
    (case l_last_word => k_is)
    (case c_last_word => k_is)
    (case k_last_word => k_is)
    (case a_words_of => k_is)
    (case l_words_of => k_is)
    (case c_words_of => k_is)
    (case k_words_of => k_is)
    (case a_word_number => k_is)
    (case l_word_number => k_is)
    (case c_word_number => k_is)
    (case k_word_number => k_is)
    (case a_word_at => k_is)
    (case l_word_at => k_is)
    (case c_word_at => k_is)
    (case k_word_at => k_is)
    (case a_next_word => k_is)
    (case l_next_word => k_is)
    (case c_next_word => k_is)
    (case k_next_word => k_is)
    (case a__law_well => k_is)
    (case l__law_well => k_is)
    (case c__law_well => k_is)
    (case k__law_well => k_is)
    (case a__law_dip => k_is)
    (case l__law_dip => k_is)
    (case c__law_dip => k_is)
    (case k__law_dip => k_is)
    (case a__law_pick => k_is)
    (case l__law_pick => k_is)
    (case c__law_pick => k_is)
    (case k__law_pick => k_is)
    (case a__law_stock => k_is)
    (case l__law_stock => k_is)
    (case c__law_stock => k_is)
    (case k__law_stock => k_is)
    (case a__law_listed => k_is)
    (case l__law_listed => k_is)
    (case c__law_listed => k_is)
    (case k__law_listed => k_is)
    (case a__law_ahead => k_is)
    (case l__law_ahead => k_is)
    (case c__law_ahead => k_is)
    (case k__law_ahead => k_is)
    (case a__law_behind => k_is)
    (case l__law_behind => k_is)
    (case c__law_behind => k_is)
    (case k__law_behind => k_is)
    (case a__law_word_right => k_is)
    (case l__law_word_right => k_is)
    (case c__law_word_right => k_is)
    (case k__law_word_right => k_is)
    (case a__law_all_right => k_is)
    (case l__law_all_right => k_is)
    (case c__law_all_right => k_is)
    (case k__law_all_right => k_is)
    (case a__law_heard => k_is)
    (case l__law_heard => k_is)
    (case c__law_heard => k_is)
    (case k__law_heard => k_is)
    (case a__law_refused_right => k_is)
    (case l__law_refused_right => k_is)
    (case c__law_refused_right => k_is)
    (case k__law_refused_right => k_is)
    (case a__law_many_right => k_is)
    (case l__law_many_right => k_is)
    (case c__law_many_right => k_is)
    (case k__law_many_right => k_is)
    (case a_law => k_is)
    (case l_law => k_is)
    (case c_law => k_is)
    (case k_law => k_is)
    (case z_abs => k_is)
    (case z_all => k_is)
    (case z_bool => k_is)
    (case z_enumerate => k_is)
    (case z_int => k_is)
    (case z_isinstance => k_is)
    (case z_len => k_is)
    (case z_list => k_is)
    (case z_range => k_is)
    (case z_sorted => k_is)
    (case z_str => k_is)
    (case z_tuple => k_is)
    (case z_zip => k_is)
    (case kc_LETTERS => k_is)
    (case kc_MOST_SOUNDS => k_is)
    (case kc_MOST_STOCK => k_is)
    (case kc_MOST_WORDS => k_is)
    (case aC_BadWord => k_is)
    (case xL_BadWord => k_is)
    (case bm_ok_BadWord => (first | rfl | decide +kernel | k_is))
    (case sa_BadWord => k_is)
    (case ex_BadWord => k_is)
    (case ty_BadWord => k_is)
    (case kC_BadWord => k_is)
    (case i_BadWord => k_is)
    (case ga_BadWord => k_is)
    (case gg_BadWord => k_is)
    (case hd_BadWord => k_is)
    (case ic_BadWord => k_is)
    (case xn_BadWord_part => k_is)
    (case aC_BadStock => k_is)
    (case xL_BadStock => k_is)
    (case bm_ok_BadStock => (first | rfl | decide +kernel | k_is))
    (case sa_BadStock => k_is)
    (case ex_BadStock => k_is)
    (case ty_BadStock => k_is)
    (case kC_BadStock => k_is)
    (case i_BadStock => k_is)
    (case ga_BadStock => k_is)
    (case gg_BadStock => k_is)
    (case hd_BadStock => k_is)
    (case ic_BadStock => k_is)
    (case xn_BadStock_part => k_is)
    (case aC_Misfit => k_is)
    (case xL_Misfit => k_is)
    (case bm_ok_Misfit => (first | rfl | decide +kernel | k_is))
    (case sa_Misfit => k_is)
    (case ex_Misfit => k_is)
    (case ty_Misfit => k_is)
    (case kC_Misfit => k_is)
    (case i_Misfit => k_is)
    (case ga_Misfit => k_is)
    (case gg_Misfit => k_is)
    (case hd_Misfit => k_is)
    (case ic_Misfit => k_is)
    (case xn_Misfit_part => k_is)
    (case aC_BadNumber => k_is)
    (case xL_BadNumber => k_is)
    (case bm_ok_BadNumber => (first | rfl | decide +kernel | k_is))
    (case sa_BadNumber => k_is)
    (case ex_BadNumber => k_is)
    (case ty_BadNumber => k_is)
    (case kC_BadNumber => k_is)
    (case i_BadNumber => k_is)
    (case ga_BadNumber => k_is)
    (case gg_BadNumber => k_is)
    (case hd_BadNumber => k_is)
    (case ic_BadNumber => k_is)
    (case xn_BadNumber_part => k_is)
    (case aC_TooMany => k_is)
    (case xL_TooMany => k_is)
    (case bm_ok_TooMany => (first | rfl | decide +kernel | k_is))
    (case sa_TooMany => k_is)
    (case ex_TooMany => k_is)
    (case ty_TooMany => k_is)
    (case kC_TooMany => k_is)
    (case i_TooMany => k_is)
    (case ga_TooMany => k_is)
    (case gg_TooMany => k_is)
    (case hd_TooMany => k_is)
    (case ic_TooMany => k_is)
    (case xn_TooMany_what => k_is)
    (case xn_TooMany_most => k_is)
    (case ti_BadWord => k_is)
    (case li_BadWord => k_is)
    (case ci_BadWord => k_is)
    (case ki_BadWord => k_is)
    (case ti_BadStock => k_is)
    (case li_BadStock => k_is)
    (case ci_BadStock => k_is)
    (case ki_BadStock => k_is)
    (case ti_Misfit => k_is)
    (case li_Misfit => k_is)
    (case ci_Misfit => k_is)
    (case ki_Misfit => k_is)
    (case ti_BadNumber => k_is)
    (case li_BadNumber => k_is)
    (case ci_BadNumber => k_is)
    (case ki_BadNumber => k_is)
    (case ti_TooMany => k_is)
    (case li_TooMany => k_is)
    (case ci_TooMany => k_is)
    (case ki_TooMany => k_is)
    (case e_BadWord_BadWord => (first | rfl | k_is))
    (case e_BadWord_BadStock => (first | rfl | k_is))
    (case e_BadWord_Misfit => (first | rfl | k_is))
    (case e_BadWord_BadNumber => (first | rfl | k_is))
    (case e_BadWord_TooMany => (first | rfl | k_is))
    (case e_BadStock_BadWord => (first | rfl | k_is))
    (case e_BadStock_BadStock => (first | rfl | k_is))
    (case e_BadStock_Misfit => (first | rfl | k_is))
    (case e_BadStock_BadNumber => (first | rfl | k_is))
    (case e_BadStock_TooMany => (first | rfl | k_is))
    (case e_Misfit_BadWord => (first | rfl | k_is))
    (case e_Misfit_BadStock => (first | rfl | k_is))
    (case e_Misfit_Misfit => (first | rfl | k_is))
    (case e_Misfit_BadNumber => (first | rfl | k_is))
    (case e_Misfit_TooMany => (first | rfl | k_is))
    (case e_BadNumber_BadWord => (first | rfl | k_is))
    (case e_BadNumber_BadStock => (first | rfl | k_is))
    (case e_BadNumber_Misfit => (first | rfl | k_is))
    (case e_BadNumber_BadNumber => (first | rfl | k_is))
    (case e_BadNumber_TooMany => (first | rfl | k_is))
    (case e_TooMany_BadWord => (first | rfl | k_is))
    (case e_TooMany_BadStock => (first | rfl | k_is))
    (case e_TooMany_Misfit => (first | rfl | k_is))
    (case e_TooMany_BadNumber => (first | rfl | k_is))
    (case e_TooMany_TooMany => (first | rfl | k_is))
    (case np__law_refused_right__law_many_right => decide)
    (case tT__law_refused_right => exact PySem.W.km_tabs_of Y _ (by decide))
    (case tN__law_refused_right => (first | k_is | rfl | decide +kernel))
    (case tC__law_refused_right => (first | k_is | rfl | decide +kernel))
    (case tT__law_many_right => exact PySem.W.km_tabs_of Y _ (by decide))
    (case tN__law_many_right => (first | k_is | rfl | decide +kernel))
    (case tC__law_many_right => (first | k_is | rfl | decide +kernel)))
end
