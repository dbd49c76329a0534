import PyProof.Rows.All
import Wide.All
import OpenK.AllK
import Wide.FinOn
import HandS.ForExc
import HandS.ForMost
import HandS.Comp
import HandS.Iter
import HandS.Text
import HandS.Lambda
import HandS.CallSlots
import HandS.IsInst
import HandS.Deep
import HandS.Style
import HandS.TupAny
import HandS.Zip
import HandS.ExcInit
import HandS.ExcField
import HandS.TryMany
import HandS.Defaults
import HandS.SortInts
import HandS.StrMore
import KE.GoesMore
import KE.GoesNew
import PyProof.ListStr
import HandS.EndTab
import KE.KNestM
import HandS.MakeKwOnly
import HandS.OwnEq
import HandS.Flow
import HandS.DictComp
import KE.KRevSl
import PyProof.SliceStr2
import PyProof.EnumMake
import PyProof.EnumFor
import PyProof.Draws
import HandS.Star
import HandS.Replace
import HandS.ReplaceList
import PySem.Challenge.RW_foretongue_k16_words_sent_back
section
set_option Elab.async false
set_option linter.all false
set_option maxRecDepth 100000
set_option maxHeartbeats 4000000
namespace FT
open PySem PySem.Spec PyProof.Rows L2
/-! ### values -/
/-- a key of a dict -/
abbrev KD := Int ⊕ List Nat
inductive D where
  | non
  | bl (b : Bool)
  | int (i : Int)
  | str (s : List Nat)
  | lst (ds : List D)
  | tup (ds : List D)
  | frz (ds : List D)
  | pen
  | obj (c : Nat) (ns : List Str) (ds : List D)
  | dct (ks : List KD) (ds : List D)
  | dcT (ks : List (List KD)) (ds : List D)
structure Cc where
  K : PySem.W.Frag
  ap : Option Addr
  cl : Nat → Addr
def SOk (s : List Nat) : Prop := s.length ≤ sizeLine ∧ ∀ c ∈ s, c < 0x110000
def toK : KD → Key
  | .inl i => .inl i
  | .inr s => .inr ⟨s.toArray⟩
def KOk : KD → Prop
  | .inl _ => True
  | .inr s => SOk s
theorem str_len (s : List Nat) : (⟨s.toArray⟩ : Str).length = s.length := by
  show s.toArray.size = s.length
  simp
theorem SOk.line {s : List Nat} (o : SOk s) : (⟨s.toArray⟩ : Str).length ≤ sizeLine := by
  rw [str_len]; exact o.1
mutual
def Rep (c : Cc) (H : Hp) : D → V → Prop
  | .non, v => v = .non
  | .bl b, v => v = .bl b
  | .int i, v => v = .int i
  | .str s, v => v = .str ⟨s.toArray⟩ ∧ SOk s
  | .lst ds, v => ∃ a vs, v = .ref a ∧ H a = some (.lst vs) ∧ RepL c H ds vs
  | .tup ds, v => ∃ a vs, v = .ref a ∧ SqT c.K H a vs ∧ RepL c H ds vs
  | .frz ds, v => ∃ a vs, v = .ref a ∧ SqL c.K H a vs ∧ RepL c H ds vs
  | .pen, v => ∃ a, c.ap = some a ∧ v = .ref a
  | .obj n ns ds, v => ∃ a dx fs, v = .ref a ∧ H a = some (.ins (c.cl n) dx fs) ∧ fs.map (·.1) = ns ∧ RepL c H ds (fs.map (·.2))
  | .dct ks ds, v => ∃ a kvs, v = .ref a ∧ H a = some (.dK kvs) ∧ (kvs.map (·.1) = ks.map toK ∧ ∀ k ∈ ks, KOk k) ∧ RepL c H ds (kvs.map (·.2))
  | .dcT ks ds, v => ∃ a kvs, v = .ref a ∧ H a = some (.dT kvs) ∧ (kvs.map (·.1) = ks.map (·.map toK) ∧ ∀ k ∈ ks, ∀ x ∈ k, KOk x) ∧ RepL c H ds (kvs.map (·.2))
def RepL (c : Cc) (H : Hp) : List D → List V → Prop
  | [], vs => vs = []
  | d :: ds, vs => ∃ v r, vs = v :: r ∧ Rep c H d v ∧ RepL c H ds r
end
theorem sqT_mono {K : PySem.W.Frag} {H H' : Hp} {a : Addr} {xs : List V} (e : Same H H') (h : SqT K H a xs) : SqT K H' a xs := by
  rcases h with (h | ⟨o, h⟩) | h
  · exact .inl (.inl (e _ _ h))
  · exact .inl (.inr ⟨o, e _ _ h⟩)
  · exact .inr h
mutual
theorem Rep.mono {c : Cc} {H H' : Hp} (e : Same H H') : ∀ {d : D} {v : V}, Rep c H d v → Rep c H' d v
  | .non, _, h => h
  | .bl _, _, h => h
  | .int _, _, h => h
  | .str _, _, h => h
  | .lst _, _, ⟨a, vs, h1, h2, h3⟩ => ⟨a, vs, h1, e _ _ h2, RepL.mono e h3⟩
  | .tup _, _, ⟨a, vs, h1, h2, h3⟩ => ⟨a, vs, h1, sqT_mono e h2, RepL.mono e h3⟩
  | .frz _, _, ⟨a, vs, h1, h2, h3⟩ => ⟨a, vs, h1, e.seq h2, RepL.mono e h3⟩
  | .pen, _, h => h
  | .obj _ _ _, _, ⟨a, dx, fs, h1, h2, h3, h4⟩ => ⟨a, dx, fs, h1, e _ _ h2, h3, RepL.mono e h4⟩
  | .dct _ _, _, ⟨a, kvs, h1, h2, h3, h4⟩ => ⟨a, kvs, h1, e _ _ h2, h3, RepL.mono e h4⟩
  | .dcT _ _, _, ⟨a, kvs, h1, h2, h3, h4⟩ => ⟨a, kvs, h1, e _ _ h2, h3, RepL.mono e h4⟩
theorem RepL.mono {c : Cc} {H H' : Hp} (e : Same H H') : ∀ {ds : List D} {vs : List V}, RepL c H ds vs → RepL c H' ds vs
  | [], _, h => h
  | _ :: _, _, ⟨v, r, h1, h2, h3⟩ => ⟨v, r, h1, Rep.mono e h2, RepL.mono e h3⟩
end
theorem RepL.length {c : Cc} {H : Hp} : ∀ {ds : List D} {vs : List V}, RepL c H ds vs → vs.length = ds.length
  | [], _, h => by rw [show _ = ([] : List V) from h]; rfl
  | _ :: _, _, ⟨v, r, h1, _, h3⟩ => by rw [h1, List.length_cons, List.length_cons, RepL.length h3]
theorem RepL.get {c : Cc} {H : Hp} : ∀ {ds : List D} {vs : List V} {i : Nat} {d : D}, RepL c H ds vs → ds[i]? = some d → ∃ v, vs[i]? = some v ∧ Rep c H d v
  | [], _, _, _, _, e => by simp at e
  | x :: _, _, 0, _, ⟨v, r, h1, h2, _⟩, e => by
    simp at e; subst e; exact ⟨v, by rw [h1]; rfl, h2⟩
  | _ :: ds, _, i + 1, d, ⟨v, r, h1, _, h3⟩, e => by
    obtain ⟨u, e1, e2⟩ := RepL.get (i := i) (d := d) h3 (by simpa using e)
    exact ⟨u, by rw [h1]; simpa using e1, e2⟩
theorem RepL.append {c : Cc} {H : Hp} : ∀ {ds es : List D} {vs us : List V}, RepL c H ds vs → RepL c H es us → RepL c H (ds ++ es) (vs ++ us)
  | [], _, _, _, h, k => by rw [show _ = ([] : List V) from h]; exact k
  | _ :: _, _, _, _, ⟨v, r, h1, h2, h3⟩, k => ⟨v, r ++ _, by rw [h1]; rfl, h2, RepL.append h3 k⟩
theorem RepL.one {c : Cc} {H : Hp} {d : D} {v : V} (h : Rep c H d v) : RepL c H [d] [v] := ⟨v, [], rfl, h, rfl⟩
theorem RepL.set {c : Cc} {H : Hp} {d : D} {v : V} (h : Rep c H d v) : ∀ {ds : List D} {vs : List V} (i : Nat), RepL c H ds vs → RepL c H (ds.set i d) (vs.set i v)
  | [], _, _, k => by rw [show _ = ([] : List V) from k]; rfl
  | _ :: _, _, 0, ⟨u, r, h1, _, h3⟩ => ⟨v, r, by rw [h1]; rfl, h, h3⟩
  | _ :: _, _, i + 1, ⟨u, r, h1, h2, h3⟩ => ⟨u, r.set i v, by rw [h1]; rfl, h2, RepL.set h i h3⟩
theorem RepL.take {c : Cc} {H : Hp} : ∀ {ds : List D} {vs : List V} (n : Nat), RepL c H ds vs → RepL c H (ds.take n) (vs.take n)
  | [], _, n, k => by rw [show _ = ([] : List V) from k]; simp [RepL]
  | _ :: _, _, 0, _ => by simp [RepL]
  | _ :: _, _, n + 1, ⟨u, r, h1, h2, h3⟩ => ⟨u, r.take n, by rw [h1]; rfl, h2, RepL.take n h3⟩
theorem RepL.drop {c : Cc} {H : Hp} : ∀ {ds : List D} {vs : List V} (n : Nat), RepL c H ds vs → RepL c H (ds.drop n) (vs.drop n)
  | [], _, n, k => by rw [show _ = ([] : List V) from k]; simp [RepL]
  | _ :: _, _, 0, h => h
  | _ :: _, _, n + 1, ⟨u, r, h1, h2, h3⟩ => by rw [h1]; exact RepL.drop n h3
theorem RepL.eraseIdx {c : Cc} {H : Hp} : ∀ {ds : List D} {vs : List V} (i : Nat), RepL c H ds vs → RepL c H (ds.eraseIdx i) (vs.eraseIdx i)
  | [], _, _, k => by rw [show _ = ([] : List V) from k]; rfl
  | _ :: _, _, 0, ⟨u, r, h1, _, h3⟩ => by rw [h1]; exact h3
  | _ :: _, _, i + 1, ⟨u, r, h1, h2, h3⟩ => ⟨u, r.eraseIdx i, by rw [h1]; rfl, h2, RepL.eraseIdx i h3⟩
/-! ### the state -/
structure Gh where
  c : Cc
  HP : Hp
  T : List (Addr × Str)
  H0 : Hp
  Hs0 : Hp
  sf : Option Addr := none
abbrev Gh.at_ (G : Gh) (H Hs : Hp) : Gh := { G with H0 := H, Hs0 := Hs }
def NoT (o : HO) : Prop := ∀ ps, o ≠ .tbl ps
structure B (G : Gh) (w : List D) (H Hs : Hp) : Prop where
  sub : Same Hs H
  sub0 : Same G.Hs0 Hs
  keep : ∀ a o, G.c.ap ≠ some a → NoT o → G.H0 a = some o → H a = some o
  new : ∀ a o, Hs a = some o → G.Hs0 a = some o ∨ ∀ o', G.H0 a = some o' → ¬ NoT o'
  pen : ∀ a, G.c.ap = some a → (∃ vs, H a = some (.lst vs) ∧ RepL G.c G.HP w vs) ∧ Hs a = none
  penH : Same G.HP G.Hs0
  nt : ∀ a o, Hs a = some o → NoT o
  tab : LamX.Tabs G.T H
/-- a read of a value, or of the local list at an own slot -/
def RepB (c : Cc) (H Hs : Hp) : D → V → Prop
  | .lst ds, v => ∃ a vs, v = .ref a ∧ H a = some (.lst vs) ∧ RepL c Hs ds vs ∧ c.ap ≠ some a
  | d, v => Rep c Hs d v
/-- a thing of the def's own, that still changes -/
inductive Pv where
  | ins (n : Nat) (ns : List Str) (ds : List D)
  | dK (ks : List KD) (ds : List D)
  | dT (ks : List (List KD)) (ds : List D)
inductive SV where
  | no
  | val (d : D)
  | own (ds : List D)
  | prv (p : Pv)
abbrev SD := List SV
/-- the objects it is made of -/
def Shape (G : Gh) (Hs : Hp) : Pv → Addr → List (Addr × HO) → Prop
  | .ins n ns ds, a, ft => G.sf = some a ∧ ∃ dx fs, ft = [(a, .ins (G.c.cl n) dx fs), (dx, .own a)] ∧ fs.map (·.1) = ns ∧ RepL G.c Hs ds (fs.map (·.2))
  | .dK ks ds, a, ft => ∃ kvs, ft = [(a, .dK kvs)] ∧ (kvs.map (·.1) = ks.map toK ∧ ∀ k ∈ ks, KOk k) ∧ RepL G.c Hs ds (kvs.map (·.2))
  | .dT ks ds, a, ft => ∃ kvs, ft = [(a, .dT kvs)] ∧ (kvs.map (·.1) = ks.map (·.map toK) ∧ ∀ k ∈ ks, ∀ x ∈ k, KOk x) ∧ RepL G.c Hs ds (kvs.map (·.2))
theorem Shape.mono {G : Gh} {Hs Hs' : Hp} (e : Same Hs Hs') : ∀ {p : Pv} {a : Addr} {ft : List (Addr × HO)}, Shape G Hs p a ft → Shape G Hs' p a ft
  | .ins _ _ _, _, _, ⟨h0, dx, fs, h1, h2, h3⟩ => ⟨h0, dx, fs, h1, h2, h3.mono e⟩
  | .dK _ _, _, _, ⟨kvs, h1, h2, h3⟩ => ⟨kvs, h1, h2, h3.mono e⟩
  | .dT _ _, _, _, ⟨kvs, h1, h2, h3⟩ => ⟨kvs, h1, h2, h3.mono e⟩
theorem Shape.head {G : Gh} {Hs : Hp} : ∀ {p : Pv} {a : Addr} {ft : List (Addr × HO)}, Shape G Hs p a ft → ∃ o tl, ft = (a, o) :: tl ∧ (∀ x, o ≠ .own x) ∧ (∀ q ∈ tl, ∃ x, q.2 = .own x)
  | .ins _ _ _, _, _, ⟨_, dx, fs, h1, _⟩ => ⟨_, _, h1, fun x e => (by cases e), fun q hq => by
      rw [List.mem_singleton] at hq; subst hq; exact ⟨_, rfl⟩⟩
  | .dK _ _, _, _, ⟨kvs, h1, _⟩ => ⟨_, _, h1, fun x e => (by cases e), fun q hq => by cases hq⟩
  | .dT _ _, _, _, ⟨kvs, h1, _⟩ => ⟨_, _, h1, fun x e => (by cases e), fun q hq => by cases hq⟩
/-- an object of one's own: nobody else knows it -/
structure Mine (G : Gh) (H Hs : Hp) (a : Addr) (o : HO) : Prop where
  at_ : H a = some o
  nt : NoT o
  nl : ∀ vs, o ≠ .lst vs
  nc : ∀ c q, o ≠ LamX.CodeO c q
  ns : Hs a = none
  fr : ∀ o', G.H0 a = some o' → ¬ NoT o'
  ap : G.c.ap ≠ some a
def Priv (G : Gh) (H Hs : Hp) (p : Pv) (v : V) : Prop := ∃ a ft, v = .ref a ∧ Shape G Hs p a ft ∧ ∀ q ∈ ft, Mine G H Hs q.1 q.2
structure SL (G : Gh) (sd : SD) (σ : L2.St) (H Hs : Hp) : Prop where
  len : σ.length = sd.length
  val : ∀ (i : Nat) (d : D), sd[i]? = some (SV.val d) → ∃ v, σ[i]? = some (some v) ∧ Rep G.c Hs d v
  own : ∀ (i : Nat) (ds : List D), sd[i]? = some (SV.own ds) → ∃ a vs, σ[i]? = some (some (.ref a)) ∧ H a = some (.lst vs) ∧ RepL G.c Hs ds vs ∧ Hs a = none ∧ (∀ o', G.H0 a = some o' → ¬ NoT o') ∧ G.c.ap ≠ some a
  sep : ∀ (i j : Nat) (ds es : List D) (a : Addr), sd[i]? = some (SV.own ds) → sd[j]? = some (SV.own es) → σ[i]? = some (some (.ref a)) → σ[j]? = some (some (.ref a)) → i = j
  prv : ∀ (i : Nat) (p : Pv), sd[i]? = some (SV.prv p) → ∃ v, σ[i]? = some (some v) ∧ Priv G H Hs p v
  sepP : ∀ (i j : Nat) (p q : Pv) (v : V), sd[i]? = some (SV.prv p) → sd[j]? = some (SV.prv q) → σ[i]? = some (some v) → σ[j]? = some (some v) → i = j
structure RS (G : Gh) (sd : SD) (w : List D) (σ : L2.St) (H Hs : Hp) : Prop where
  b : B G w H Hs
  s : SL G sd σ H Hs
theorem lst_noT {vs : List V} : NoT (.lst vs) := fun _ e => by cases e
section
variable {G : Gh} {w w' w1 w2 : List D} {H Hs H' Hs' H1 Hs1 H2 Hs2 : Hp} {sd : SD} {σ : L2.St}
theorem B.trans (a : B G w H Hs) (b : B (G.at_ H Hs) w' H' Hs') : B G w' H' Hs' where
  sub := b.sub
  sub0 := a.sub0.trans b.sub0
  keep := fun x o h1 h2 h3 => b.keep x o h1 h2 (a.keep x o h1 h2 h3)
  new := fun x o h => by
    rcases b.new x o h with h1 | h1
    · exact a.new x o h1
    · refine .inr fun o' h2 hn => ?_
      by_cases hp : G.c.ap = some x
      · rw [(b.pen x hp).2] at h; cases h
      · exact h1 o' (a.keep x o' hp hn h2) hn
  pen := b.pen
  penH := a.penH
  nt := b.nt
  tab := b.tab
theorem B.refl_at (a : B G w H Hs) : B (G.at_ H Hs) w H Hs where
  sub := a.sub
  sub0 := Same.refl _
  keep := fun _ _ _ _ h => h
  new := fun _ _ h => .inl h
  pen := a.pen
  penH := a.penH.trans a.sub0
  nt := a.nt
  tab := a.tab
theorem Mine.step {a : Addr} {o : HO} (m : Mine G H Hs a o) (b : B (G.at_ H Hs) w' H' Hs') : Mine G H' Hs' a o where
  at_ := b.keep a _ m.ap m.nt m.at_
  nt := m.nt
  nl := m.nl
  nc := m.nc
  ns := by
    cases e : Hs' a with
    | none => rfl
    | some o' =>
      rcases b.new a o' e with q | q
      · have := m.ns; rw [show Hs a = some o' from q] at this; cases this
      · exact absurd m.nt (q _ m.at_)
  fr := m.fr
  ap := m.ap
theorem Mine.writeL {a b : Addr} {o o' : HO} (m : Mine G H Hs a o) (hb : ∀ x, H b = some x → ∃ vs, x = .lst vs) : Mine G (upd H b o') Hs a o where
  at_ := by
    have z : a ≠ b := fun z => by
      obtain ⟨vs, e⟩ := hb o (by rw [← z]; exact m.at_)
      exact m.nl vs e
    rw [upd_ne z]; exact m.at_
  nt := m.nt
  nl := m.nl
  nc := m.nc
  ns := m.ns
  fr := m.fr
  ap := m.ap
theorem Mine.share {a b : Addr} {o o' : HO} (m : Mine G H Hs a o) (z : a ≠ b) : Mine G H (upd Hs b o') a o where
  at_ := m.at_
  nt := m.nt
  nl := m.nl
  nc := m.nc
  ns := by rw [upd_ne z]; exact m.ns
  fr := m.fr
  ap := m.ap
theorem Priv.step {p : Pv} {v : V} (m : Priv G H Hs p v) (b : B (G.at_ H Hs) w' H' Hs') : Priv G H' Hs' p v := by
  obtain ⟨a, ft, h1, h2, h3⟩ := m
  exact ⟨a, ft, h1, h2.mono b.sub0, fun q hq => (h3 q hq).step b⟩
theorem Priv.writeL {p : Pv} {v : V} {b : Addr} {o' : HO} (m : Priv G H Hs p v) (hb : ∀ x, H b = some x → ∃ vs, x = .lst vs) : Priv G (upd H b o') Hs p v := by
  obtain ⟨a, ft, h1, h2, h3⟩ := m
  exact ⟨a, ft, h1, h2, fun q hq => (h3 q hq).writeL hb⟩
theorem Priv.writeNot {p : Pv} {v : V} {b : Addr} {o' : HO} (m : Priv G H Hs p v) (hv : v ≠ .ref b) (hb : ∀ x, H b = some x → ∀ y, x ≠ .own y) : Priv G (upd H b o') Hs p v := by
  obtain ⟨a, ft, h1, h2, h3⟩ := m
  obtain ⟨o, tl, e, _, ht⟩ := h2.head
  refine ⟨a, ft, h1, h2, fun q hq => ?_⟩
  have m := h3 q hq
  have z : q.1 ≠ b := fun z => by
    rw [e] at hq
    rcases List.mem_cons.mp hq with r | r
    · subst r; exact hv (by rw [h1, ← z])
    · obtain ⟨x, hx⟩ := ht q r
      exact hb q.2 (by rw [← z]; exact m.at_) x hx
  exact ⟨by rw [upd_ne z]; exact m.at_, m.nt, m.nl, m.nc, m.ns, m.fr, m.ap⟩
theorem Priv.shareL {p : Pv} {v : V} {b : Addr} {vs : List V} (m : Priv G H Hs p v) (hb : H b = some (.lst vs)) (hs : Hs b = none) : Priv G H (upd Hs b (.lst vs)) p v := by
  obtain ⟨a, ft, h1, h2, h3⟩ := m
  have sm : Same Hs (upd Hs b (.lst vs)) := fun x y e => by
    have z : x ≠ b := fun z => by rw [z, hs] at e; cases e
    rw [upd_ne z]; exact e
  refine ⟨a, ft, h1, h2.mono sm, fun q hq => (h3 q hq).share fun z => ?_⟩
  have := (h3 q hq).at_
  rw [z, hb] at this
  exact (h3 q hq).nl vs (Option.some.inj this).symm
theorem SL.step (a : SL G sd σ H Hs) (b : B (G.at_ H Hs) w' H' Hs') : SL G sd σ H' Hs' where
  len := a.len
  val := fun i d h => by
    obtain ⟨v, h1, h2⟩ := a.val i d h
    exact ⟨v, h1, h2.mono b.sub0⟩
  own := fun i ds h => by
    obtain ⟨x, vs, h1, h2, h3, h4, h5, h6⟩ := a.own i ds h
    refine ⟨x, vs, h1, b.keep x _ h6 lst_noT h2, h3.mono b.sub0, ?_, h5, h6⟩
    cases e : Hs' x with
    | none => rfl
    | some o =>
      rcases b.new x o e with q | q
      · rw [show Hs x = some o from q] at h4; cases h4
      · exact absurd lst_noT (q _ h2)
  sep := a.sep
  prv := fun i p h => by
    obtain ⟨v, h1, h2⟩ := a.prv i p h
    exact ⟨v, h1, h2.step b⟩
  sepP := a.sepP
theorem RS.step (a : RS G sd w σ H Hs) (b : B (G.at_ H Hs) w' H' Hs') : RS G sd w' σ H' Hs' := ⟨a.b.trans b, a.s.step b⟩
theorem Rep.toB {c : Cc} {d : D} {v : V} (b : B G w H Hs) (h : Rep G.c Hs d v) : RepB G.c H Hs d v := by
  cases d with
  | lst ds =>
    obtain ⟨a, vs, h1, h2, h3⟩ := h
    refine ⟨a, vs, h1, b.sub _ _ h2, h3, fun e => ?_⟩
    rw [(b.pen a e).2] at h2; cases h2
  | _ => exact h
theorem RepB.step {d : D} {v : V} (h : RepB G.c H Hs d v) (b : B (G.at_ H Hs) w' H' Hs') : RepB G.c H' Hs' d v := by
  cases d with
  | lst ds =>
    obtain ⟨a, vs, h1, h2, h3, h4⟩ := h
    exact ⟨a, vs, h1, b.keep a _ h4 lst_noT h2, h3.mono b.sub0, h4⟩
  | _ => exact Rep.mono (d := _) b.sub0 h
/-- a new object, shared from now on -/
theorem B.alloc (b : B G w H Hs) {p : Addr} {o : HO} (hp : H p = none) (hn : NoT o) : B (G.at_ H Hs) w (upd H p o) (upd Hs p o) := by
  have hsp : Hs p = none := by
    cases e : Hs p with
    | none => rfl
    | some o' => rw [b.sub _ _ e] at hp; cases hp
  have hap : ∀ a, G.c.ap = some a → a ≠ p := fun a e z => by
    obtain ⟨⟨vs, h1, _⟩, _⟩ := b.pen a e
    rw [z, hp] at h1; cases h1
  refine ⟨fun a x e => ?_, fun a x e => ?_, fun a x _ _ e => ?_, fun a x e => ?_, fun a e => ?_, b.penH.trans b.sub0, fun a x e => ?_, b.tab.ext fun a x e => ?_⟩
  · by_cases z : a = p
    · subst z; rw [upd_same] at e ⊢; exact e
    · rw [upd_ne z] at e ⊢; exact b.sub _ _ e
  · have z : a ≠ p := fun z => by rw [z] at e; rw [show Hs p = some x from e] at hsp; cases hsp
    rw [upd_ne z]; exact e
  · have z : a ≠ p := fun z => by rw [z] at e; rw [show H p = some x from e] at hp; cases hp
    rw [upd_ne z]; exact e
  · by_cases z : a = p
    · subst z
      exact .inr fun o' e' => by rw [show H a = some o' from e'] at hp; cases hp
    · rw [upd_ne z] at e; exact .inl e
  · obtain ⟨⟨vs, h1, h2⟩, h3⟩ := b.pen a e
    rw [upd_ne (hap a e), upd_ne (hap a e)]
    exact ⟨⟨vs, h1, h2⟩, h3⟩
  · by_cases z : a = p
    · subst z; rw [upd_same] at e; cases e; exact hn
    · rw [upd_ne z] at e; exact b.nt _ _ e
  · have z : a ≠ p := fun z => by rw [z, hp] at e; cases e
    rw [upd_ne z]; exact e
end
/-! ### results -/
inductive R (α : Type) where
  | ok (a : α) (w : List D)
  | exc (c : Nat) (ns : List Str) (ds : List D) (w : List D)
  | bad
def R.bind {α β : Type} (r : R α) (k : α → List D → R β) : R β := match r with
  | .ok a w => k a w
  | .exc c ns ds w => .exc c ns ds w
  | .bad => .bad
abbrev ME (α : Type) := SD → List D → R α
def ExcAt (c : Cc) (H Hs : Hp) (dd : Addr) (ns : List Str) (ds : List D) : Prop := ∃ fs : List (Str × V), H dd = some (.xd fs) ∧ fs.map (·.1) = ns ∧ RepL c Hs ds (fs.map (·.2))
section
variable {α β : Type}
def Post (G : Gh) (Wx : WX) (σ : L2.St) (H Hs : Hp) (ρ : Hp → Hp → α → β → Prop) (Q : β → Hp → Prop) : R α → Prop
  | .ok d w' => ∀ v H' Hs', B (G.at_ H Hs) w' H' Hs' → ρ H' Hs' d v → Q v H'
  | .exc c ns ds w' => ∀ dd H' Hs', B (G.at_ H Hs) w' H' Hs' → ExcAt G.c H' Hs' dd ns ds → Wx (.ref (G.c.cl c)) (some dd) σ H'
  | .bad => False
def Sim (G : Gh) (Wx : WX) (ρ : Hp → Hp → α → β → Prop) (t : L2.St → Hp → (β → Hp → Prop) → Prop) (m : ME α) : Prop :=
  ∀ sd w σ H Hs Q, RS G sd w σ H Hs → Post G Wx σ H Hs ρ Q (m sd w) → t σ H Q
variable {G : Gh} {Wx : WX} {σ : L2.St} {H Hs H1 Hs1 : Hp} {ρ : Hp → Hp → α → β → Prop} {Q : β → Hp → Prop} {w w1 : List D} {sd : SD}
theorem Post.shift {r : R α} (b : B (G.at_ H Hs) w1 H1 Hs1) (h : Post G Wx σ H Hs ρ Q r) : Post G Wx σ H1 Hs1 ρ Q r := by
  cases r with
  | ok d w' => exact fun v H' Hs' b' q => h v H' Hs' (b.trans b') q
  | exc c ns ds w' => exact fun dd H' Hs' b' q => h dd H' Hs' (b.trans b') q
  | bad => exact h
theorem Sim.bind {α1 β1 : Type} {ρ1 : Hp → Hp → α1 → β1 → Prop} {t1 : L2.St → Hp → (β1 → Hp → Prop) → Prop} {m1 : ME α1} (s1 : Sim G Wx ρ1 t1 m1) {k : α1 → List D → R α} {R1 : β1 → Hp → Prop}
    (rs : RS G sd w σ H Hs) (post : Post G Wx σ H Hs ρ Q ((m1 sd w).bind k))
    (cont : ∀ d w1 v H1 Hs1, RS G sd w1 σ H1 Hs1 → B (G.at_ H Hs) w1 H1 Hs1 → ρ1 H1 Hs1 d v → Post G Wx σ H1 Hs1 ρ Q (k d w1) → R1 v H1) : t1 σ H R1 := by
  refine s1 sd w σ H Hs R1 rs ?_
  cases e : m1 sd w with
  | ok d w1 =>
    rw [e] at post
    exact fun v H' Hs' b q => cont d w1 v H' Hs' (rs.step b) b q (post.shift b)
  | exc c ns ds w' =>
    rw [e] at post
    exact post
  | bad =>
    rw [e] at post
    exact post
end
abbrev ρE (G : Gh) : Hp → Hp → D → V → Prop := fun _ Hs d v => Rep G.c Hs d v
abbrev ρB (G : Gh) : Hp → Hp → D → V → Prop := fun H Hs d v => RepB G.c H Hs d v
abbrev ρA (G : Gh) : Hp → Hp → List D → List V → Prop := fun _ Hs d v => RepL G.c Hs d v
abbrev ρT : Hp → Hp → Bool → Bool → Prop := fun _ _ a b => a = b
abbrev ρO : Hp → Hp → Option Int → Option Int → Prop := fun _ _ a b => a = b
/-! ### judgements: the rule of the hand layer with its simulation -/
structure JE (X : Cx) (G : Gh) (Wx : WX) (e : Expr) (t : TE) (m : ME D) : Prop where
  pe : PE X e t
  si : Sim G Wx (ρE G) t m
structure JB (X : Cx) (G : Gh) (Wx : WX) (e : Expr) (t : TE) (m : ME D) : Prop where
  pe : PE X e t
  si : Sim G Wx (ρB G) t m
structure JT (X : Cx) (G : Gh) (Wx : WX) (e : Expr) (t : TT) (m : ME Bool) : Prop where
  pe : PT X e t
  si : Sim G Wx ρT t m
structure JA (X : Cx) (G : Gh) (Wx : WX) (es : List Expr) (t : TA) (m : ME (List D)) : Prop where
  pe : PA X es t
  si : Sim G Wx (ρA G) t m
structure JO (X : Cx) (G : Gh) (Wx : WX) (e : Option Expr) (t : TO) (m : ME (Option Int)) : Prop where
  pe : PO X e t
  si : Sim G Wx ρO t m
theorem Sim.toB {G : Gh} {Wx : WX} {t : TE} {m : ME D} (s : Sim G Wx (ρE G) t m) : Sim G Wx (ρB G) t m := fun sd w σ H Hs Q rs post => by
  refine s sd w σ H Hs Q rs ?_
  cases e : m sd w with
  | ok d w' =>
    rw [e] at post
    exact fun v H' Hs' b q => post v H' Hs' b (Rep.toB (c := G.c) (G := G.at_ H Hs) b q)
  | exc c ns ds w' =>
    rw [e] at post
    exact post
  | bad =>
    rw [e] at post
    exact post
section
variable {X : Cx} {G : Gh} {Wx : WX}
theorem jb {e : Expr} {t : TE} {m : ME D} (h : JE X G Wx e t m) : JB X G Wx e t m := ⟨h.pe, h.si.toB⟩
/-! ### names, constants -/
def mV (i : Nat) : ME D := fun sd w => match sd[i]? with
  | some (SV.val d) => .ok d w
  | _ => .bad
def mVB (i : Nat) : ME D := fun sd w => match sd[i]? with
  | some (SV.val d) => .ok d w
  | some (SV.own ds) => .ok (.lst ds) w
  | _ => .bad
def mC (d : D) : ME D := fun _ w => .ok d w
theorem je_v (i : Nat) {x : Str} {pos : Pos} (hN : X.N[i]? = some x := by rfl) (hv : Vis X.env.scope x := by first | exact Or.inl rfl | exact Or.inr (Or.inl rfl) | exact Or.inr (Or.inr rfl)) (hd : (x == ("__debug__" : Str)) = false := by decide)
    (hcd : (x == ("__classdict__" : Str)) = false := by decide) : JE X G Wx (.Name x pos) (tVar i) (mV i) := by
  refine ⟨pe_var hN hv hd hcd, fun sd w σ H Hs Q rs post => ?_⟩
  unfold mV at post
  split at post
  · rename_i d e
    obtain ⟨v, h1, h2⟩ := rs.s.val i d e
    exact ⟨v, h1, post v H Hs rs.b.refl_at h2⟩
  · exact post.elim
theorem jb_v (i : Nat) {x : Str} {pos : Pos} (hN : X.N[i]? = some x := by rfl) (hv : Vis X.env.scope x := by first | exact Or.inl rfl | exact Or.inr (Or.inl rfl) | exact Or.inr (Or.inr rfl)) (hd : (x == ("__debug__" : Str)) = false := by decide)
    (hcd : (x == ("__classdict__" : Str)) = false := by decide) : JB X G Wx (.Name x pos) (tVar i) (mVB i) := by
  refine ⟨pe_var hN hv hd hcd, fun sd w σ H Hs Q rs post => ?_⟩
  unfold mVB at post
  split at post
  · rename_i d e
    obtain ⟨v, h1, h2⟩ := rs.s.val i d e
    exact ⟨v, h1, post v H Hs rs.b.refl_at (Rep.toB (c := G.c) rs.b h2)⟩
  · rename_i ds e
    obtain ⟨a, vs, h1, h2, h3, h4, h5, h6⟩ := rs.s.own i ds e
    exact ⟨_, h1, post _ H Hs rs.b.refl_at ⟨a, vs, rfl, h2, h3, h6⟩⟩
  · exact post.elim
theorem sim_c {d : D} {v : V} (h : ∀ H, Rep G.c H d v) : Sim G Wx (ρE G) (tC v) (mC d) := fun sd w σ H Hs Q rs post => post v H Hs rs.b.refl_at (h Hs)
theorem je_int {i j pos} : JE X G Wx (.Constant (.int i) j pos) (tC (.int i)) (mC (.int i)) := ⟨pe_int, sim_c fun _ => rfl⟩
theorem je_bl {b j pos} : JE X G Wx (.Constant (.bool b) j pos) (tC (.bl b)) (mC (.bl b)) := ⟨pe_bl, sim_c fun _ => rfl⟩
theorem je_non {j pos} : JE X G Wx (.Constant .none j pos) (tC .non) (mC .non) := ⟨pe_non, sim_c fun _ => rfl⟩
theorem je_str {x : Str} {j : Nat} {pos : Pos} (s : List Nat) (h : x = ⟨s.toArray⟩ := by rfl) (ok : (decide (s.length ≤ 1000) && s.all (fun c => decide (c < 0x110000))) = true := by decide +kernel) : JE X G Wx (.Constant (.str x) j pos) (tC (.str x)) (mC (.str s)) := by
  refine ⟨pe_str, sim_c fun _ => ⟨by rw [h], ?_, ?_⟩⟩
  · have := (Bool.and_eq_true_iff.mp ok).1
    exact Nat.le_of_lt (small1000 (of_decide_eq_true this))
  · intro c hc
    exact of_decide_eq_true (List.all_eq_true.mp (Bool.and_eq_true_iff.mp ok).2 c hc)
theorem je_glob {x : Str} {v : V} {u : Value} {pos : Pos} {d : D} (hg : Gl X x) (hm : X.mg x = some u) (r : RelV v u) (h : ∀ H, Rep G.c H d v) (hd : (x == ("__debug__" : Str)) = false := by decide) : JE X G Wx (.Name x pos) (tC v) (mC d) := ⟨pe_glob hg hm r hd, sim_c h⟩
end
end FT
end
section
set_option Elab.async false
set_option linter.all false
set_option maxRecDepth 100000
set_option maxHeartbeats 4000000
namespace FT
open PySem PySem.Spec PyProof.Rows L2
section
variable {X : Cx} {G : Gh} {Wx : WX}
/-! ### two-place operations -/
/-- what an operation of the layer makes of values that stand for data -/
def OpD (G : Gh) (r : R2) (f : D → D → Option D) : Prop := ∀ w H Hs x y a b d (Q : VK), B G w H Hs → RepB G.c H Hs a x → RepB G.c H Hs b y → f a b = some d → (∀ v H' Hs', B (G.at_ H Hs) w H' Hs' → Rep G.c Hs' d v → Q v H') → r x y H Q
def mBin (f : D → D → Option D) (ma mb : ME D) : ME D := fun sd w => (ma sd w).bind fun a w1 => (mb sd w1).bind fun b w2 => match f a b with
  | some d => .ok d w2
  | none => .bad
theorem sim_op {r : R2} {f : D → D → Option D} (hf : OpD G r f) {ta tb : TE} {ma mb : ME D} (ha : Sim G Wx (ρB G) ta ma) (hb : Sim G Wx (ρB G) tb mb) : Sim G Wx (ρE G) (tOp r ta tb) (mBin f ma mb) := by
  intro sd w σ H Hs Q rs post
  refine ha.bind rs post fun a w1 x H1 Hs1 rs1 b1 q1 post1 => ?_
  refine hb.bind rs1 post1 fun b w2 y H2 Hs2 rs2 b2 q2 post2 => ?_
  cases e : f a b with
  | none => rw [e] at post2; exact post2.elim
  | some d =>
    rw [e] at post2
    exact hf w2 H2 Hs2 x y a b d Q rs2.b (q1.step b2) q2 e post2
theorem je_bin {op : Operator} {r : R2} {f : D → D → Option D} {a b : Expr} {ta tb : TE} {ma mb : ME D} {pos : Pos} (ho : OpR X (binaryOp op) r) (hf : OpD G r f) (ha : JB X G Wx a ta ma) (hb : JB X G Wx b tb mb) :
    JE X G Wx (.BinOp a op b pos) (tOp r ta tb) (mBin f ma mb) := ⟨pe_op ho ha.pe hb.pe, sim_op hf ha.si hb.si⟩
theorem je_cmp {op : CmpOp} {r : R2} {f : D → D → Option D} {a b : Expr} {ta tb : TE} {ma mb : ME D} {pos : Pos} (ho : OpR X (compareOp op) r) (hf : OpD G r f) (ha : JB X G Wx a ta ma) (hb : JB X G Wx b tb mb) (hm : behindInMarks op b = false) :
    JE X G Wx (.Compare a [op] [b] pos) (tOp r ta tb) (mBin f ma mb) := ⟨pe_cmpR ho ha.pe hb.pe hm, sim_op hf ha.si hb.si⟩
theorem OpD.or_l {r r' : R2} {f : D → D → Option D} (h : OpD G r f) : OpD G (fun x y H Q => r x y H Q ∨ r' x y H Q) f := fun w H Hs x y a b d Q hb h1 h2 e q => .inl (h w H Hs x y a b d Q hb h1 h2 e q)
/-- by cases: the first road, else the second -/
def oOr (f g : D → D → Option D) : D → D → Option D := fun a b => match f a b with
  | some d => some d
  | none => g a b
theorem OpD.or {r r' : R2} {f g : D → D → Option D} (h : OpD G r f) (h' : OpD G r' g) : OpD G (fun x y H Q => r x y H Q ∨ r' x y H Q) (oOr f g) := by
  intro w H Hs x y a b d Q hb h1 h2 e q
  unfold oOr at e
  cases e1 : f a b with
  | some d' => rw [e1] at e; cases e; exact .inl (h w H Hs x y a b d Q hb h1 h2 e1 q)
  | none => rw [e1] at e; exact .inr (h' w H Hs x y a b d Q hb h1 h2 e q)
def oInt (C : Int → Int → Bool) (g : Int → Int → D) : D → D → Option D
  | .int i, .int j => if C i j = true then some (g i j) else none
  | _, _ => none
theorem opd_int {C : Int → Int → Prop} {Cb : Int → Int → Bool} {g : Int → Int → V} {gD : Int → Int → D} (hC : ∀ i j, Cb i j = true → C i j) (hg : ∀ H i j, Rep G.c H (gD i j) (g i j)) : OpD G (rI C g) (oInt Cb gD) := by
  intro w H Hs x y a b d Q hb h1 h2 e q
  unfold oInt at e
  split at e
  · rename_i i j
    split at e
    · rename_i hc
      cases e
      exact ⟨i, j, h1, h2, hC i j hc, q _ H Hs hb.refl_at (hg _ _ _)⟩
    · cases e
  · cases e
theorem opd_int0 {g : Int → Int → V} {gD : Int → Int → D} (hg : ∀ H i j, Rep G.c H (gD i j) (g i j)) : OpD G (rI0 g) (oInt (fun _ _ => true) gD) := by
  intro w H Hs x y a b d Q hb h1 h2 e q
  unfold oInt at e
  split at e
  · rename_i i j
    cases e
    exact ⟨i, j, h1, h2, q _ H Hs hb.refl_at (hg _ _ _)⟩
  · cases e
/-! ### + -/
def oStr : D → D → Option D
  | .str s, .str t => if s.length + t.length ≤ 16777216 then some (.str (s ++ t)) else none
  | _, _ => none
def oLst : D → D → Option D
  | .lst s, .lst t => if s.length + t.length ≤ 16777216 then some (.lst (s ++ t)) else none
  | _, _ => none
def oTup : D → D → Option D
  | .tup s, .tup t => if s.length + t.length ≤ 16777216 ∧ s.length ≠ 0 then some (.tup (s ++ t)) else none
  | _, _ => none
def rAddStr : R2 := fun x y H Q => ∃ i j, x = .str i ∧ y = .str j ∧ i.length + j.length ≤ sizeLine ∧ Q (.str (i ++ j)) H
theorem sok_append {s t : List Nat} (h1 : SOk s) (h2 : SOk t) (hz : s.length + t.length ≤ 16777216) : SOk (s ++ t) := by
  refine ⟨?_, fun c hc => ?_⟩
  · rw [List.length_append, sizeLine_eq]; exact hz
  · rcases List.mem_append.mp hc with h | h
    · exact h1.2 c h
    · exact h2.2 c h
theorem opd_addStr : OpD G rAddStr oStr := by
  intro w H Hs x y a b d Q hb h1 h2 e q
  unfold oStr at e
  split at e
  · rename_i s t
    split at e
    · rename_i hz
      cases e
      obtain ⟨rfl, o1⟩ := h1
      obtain ⟨rfl, o2⟩ := h2
      refine ⟨_, _, rfl, rfl, ?_, q _ H Hs hb.refl_at ⟨?_, sok_append o1 o2 hz⟩⟩
      · show s.toArray.size + t.toArray.size ≤ sizeLine
        rw [sizeLine_eq]
        simpa using hz
      · show V.str ⟨s.toArray ++ t.toArray⟩ = _
        simp
    · cases e
  · cases e
theorem opd_cat : OpD G rCat oLst := by
  intro w H Hs x y a b d Q hb h1 h2 e q
  unfold oLst at e
  split at e
  · rename_i s t
    split at e
    · rename_i hz
      cases e
      obtain ⟨l, vs, rfl, hl, rl, _⟩ := h1
      obtain ⟨l', vs', rfl, hl', rl', _⟩ := h2
      refine ⟨l, l', vs, vs', rfl, rfl, hl, hl', ?_, fun p hp => ?_⟩
      · rw [rl.length, rl'.length, sizeLine_eq]; exact hz
      · have ba := hb.alloc (o := .lst (vs ++ vs')) hp lst_noT
        refine q _ _ _ ba ⟨p, _, rfl, upd_same, (rl.append rl').mono ba.sub0⟩
    · cases e
  · cases e
theorem tup_noT {vs : List V} : NoT (.tup vs) := fun _ e => by cases e
theorem sqT_of {c : Cc} {H Hs : Hp} (s : Same Hs H) {a : Addr} {xs : List V} (h : SqT c.K Hs a xs) : SqT c.K H a xs := sqT_mono s h
theorem opd_catT {K : PySem.W.Frag} (hK : K = G.c.K) : OpD G (rCatT K) oTup := by
  subst hK
  intro w H Hs x y a b d Q hb h1 h2 e q
  unfold oTup at e
  split at e
  · rename_i s t
    split at e
    · rename_i hz
      cases e
      obtain ⟨l, vs, rfl, hl, rl⟩ := h1
      obtain ⟨l', vs', rfl, hl', rl'⟩ := h2
      have n1 : vs ≠ [] := fun z => by rw [z] at rl; exact hz.2 (by rw [← rl.length]; rfl)
      refine ⟨l, l', vs, vs', rfl, rfl, sqT_mono hb.sub hl, sqT_mono hb.sub hl', n1, ?_, fun z => ?_, fun z p hp => ?_⟩
      · rw [rl.length, rl'.length, sizeLine_eq]; exact hz.1
      · have t0 : t = [] := List.eq_nil_of_length_eq_zero (by rw [← rl'.length, z]; rfl)
        subst t0
        refine q _ H Hs hb.refl_at ⟨l, vs, rfl, hl, ?_⟩
        rw [List.append_nil]; exact rl
      · have ba := hb.alloc (o := .tup (vs ++ vs')) hp tup_noT
        refine q _ _ _ ba ⟨p, _, rfl, .inl (.inl upd_same), (rl.append rl').mono ba.sub0⟩
    · cases e
  · cases e
def oAdd : D → D → Option D
  | .int i, .int j => some (.int (i + j))
  | .str s, .str t => oStr (.str s) (.str t)
  | .lst s, .lst t => oLst (.lst s) (.lst t)
  | .tup s, .tup t => oTup (.tup s) (.tup t)
  | _, _ => none
def rAddA (K : PySem.W.Frag) : R2 := fun x y H Q => rI0 (fun i j => V.int (i + j)) x y H Q ∨ rAddStr x y H Q ∨ rCat x y H Q ∨ rCatT K x y H Q
theorem op_addA : OpR X (binaryOp .Add) (rAddA X.K) := OpR.or op_add (OpR.or op_add_str (OpR.or op_cat op_catT))
theorem opd_add {K : PySem.W.Frag} (hK : K = G.c.K) : OpD G (rAddA K) oAdd := by
  intro w H Hs x y a b d Q hb h1 h2 e q
  unfold oAdd at e
  split at e
  · cases e; exact .inl ⟨_, _, h1, h2, q _ H Hs hb.refl_at rfl⟩
  · exact .inr (.inl (opd_addStr w H Hs x y _ _ d Q hb h1 h2 e q))
  · exact .inr (.inr (.inl (opd_cat w H Hs x y _ _ d Q hb h1 h2 e q)))
  · exact .inr (.inr (.inr (opd_catT hK w H Hs x y _ _ d Q hb h1 h2 e q)))
  · cases e
theorem je_add {a b : Expr} {ta tb : TE} {ma mb : ME D} {pos : Pos} (ha : JB X G Wx a ta ma) (hb : JB X G Wx b tb mb) (hK : X.K = G.c.K := by rfl) : JE X G Wx (.BinOp a .Add b pos) (tOp (rAddA G.c.K) ta tb) (mBin oAdd ma mb) :=
  je_bin (by rw [← hK]; exact op_addA) (opd_add rfl) ha hb
/-! ### - * // % ** -/
def oSub : D → D → Option D := oInt (fun _ _ => true) fun i j => .int (i - j)
theorem je_sub {a b : Expr} {ta tb : TE} {ma mb : ME D} {pos : Pos} (ha : JB X G Wx a ta ma) (hb : JB X G Wx b tb mb) : JE X G Wx (.BinOp a .Sub b pos) (tOp (rI0 fun i j => V.int (i - j)) ta tb) (mBin oSub ma mb) :=
  je_bin op_sub (opd_int0 fun _ _ _ => rfl) ha hb
def cDiv (i j : Int) : Bool := decide (0 < j) && decide (j < 1073741824)
def oDiv : D → D → Option D := oInt cDiv fun i j => .int (i / j)
theorem je_div {a b : Expr} {ta tb : TE} {ma mb : ME D} {pos : Pos} (ha : JB X G Wx a ta ma) (hb : JB X G Wx b tb mb) : JE X G Wx (.BinOp a .FloorDiv b pos) (tOp (rI CDiv fun i j => V.int (i / j)) ta tb) (mBin oDiv ma mb) :=
  je_bin op_fdiv (opd_int (fun i j h => ⟨of_decide_eq_true (Bool.and_eq_true_iff.mp h).1, of_decide_eq_true (Bool.and_eq_true_iff.mp h).2⟩) fun _ _ _ => rfl) ha hb
def oMod : D → D → Option D := oInt (fun _ j => decide (0 < j)) fun i j => .int (i % j)
theorem je_mod {a b : Expr} {ta tb : TE} {ma mb : ME D} {pos : Pos} (ha : JB X G Wx a ta ma) (hb : JB X G Wx b tb mb) : JE X G Wx (.BinOp a .Mod b pos) (tOp (rI (fun _ j => 0 < j) fun i j => V.int (i % j)) ta tb) (mBin oMod ma mb) :=
  je_bin op_mod (opd_int (fun i j h => of_decide_eq_true h) fun _ _ _ => rfl) ha hb
def cPow (i j : Int) : Bool := decide (0 ≤ j) && decide (j ≤ 1000000) && decide (i.natAbs < 2 ^ 64)
def oPow : D → D → Option D := oInt cPow fun i j => .int (i ^ j.toNat)
theorem je_pow {a b : Expr} {ta tb : TE} {ma mb : ME D} {pos : Pos} (ha : JB X G Wx a ta ma) (hb : JB X G Wx b tb mb) : JE X G Wx (.BinOp a .Pow b pos) (tOp (rI CPow fun i j => V.int (i ^ j.toNat)) ta tb) (mBin oPow ma mb) :=
  je_bin op_pow (opd_int (fun i j h => by
    have h1 := Bool.and_eq_true_iff.mp h
    have h2 := Bool.and_eq_true_iff.mp h1.1
    exact ⟨of_decide_eq_true h2.1, of_decide_eq_true h2.2, of_decide_eq_true h1.2⟩) fun _ _ _ => rfl) ha hb
/-- a text times a number -/
def rMulStr : R2 := fun x y H Q => ∃ (s : Str) (n : Int), x = .str s ∧ y = .int n ∧ n < 65536 ∧ -65536 < n ∧ s.length * n.toNat ≤ 16777216 ∧ Q (.str ⟨((List.replicate n.toNat s.cps.toList).flatten).toArray⟩) H
theorem foldl_reps (s : Array Nat) : ∀ (k : Nat) (acc : Array Nat), (List.replicate k s).foldl (· ++ ·) acc = acc ++ ((List.replicate k s.toList).flatten).toArray
  | 0, acc => by simp
  | k + 1, acc => by
    rw [List.replicate_succ, List.foldl_cons, foldl_reps s k]
    apply Array.ext'
    simp [List.replicate_succ]
theorem txt_mul (s : Str) (n : Int) : Txt.mul s n = ⟨((List.replicate n.toNat s.cps.toList).flatten).toArray⟩ := by
  unfold Txt.mul
  by_cases h : n < 1
  · rw [if_pos h]
    have : n.toNat = 0 := by omega
    rw [this]; rfl
  · rw [if_neg h]
    split
    · rename_i hc
      rcases (Bool.or_eq_true_iff.mp hc) with h1 | h1
      · have e : n = 1 := by simpa using h1
        subst e
        show s = ⟨((List.replicate 1 s.cps.toList).flatten).toArray⟩
        simp
      · have e0 : s.length = 0 := by simpa using h1
        have e : s.cps.size = 0 := e0
        have e2 : s.cps = #[] := Array.eq_empty_of_size_eq_zero e
        obtain ⟨cs⟩ := s
        subst e2
        have : ∀ k : Nat, (List.replicate k ([] : List Nat)).flatten = [] := fun k => by simp
        simp
    · rw [foldl_reps]
      simp
theorem op_mulStr : OpR X (binaryOp .Mult) rMulStr := by
  intro pins s σ H x y v u Q I rx ry h
  obtain ⟨z, n, rfl, rfl, h1, h2, h3, q⟩ := h
  obtain ⟨t, rfl⟩ := rx
  obtain ⟨t', rfl⟩ := ry
  have ok : MulOk z n := by
    refine ⟨?_, fun a b => ?_, fun a b => ?_⟩
    · rw [decide_eq_false (by omega), decide_eq_false (by omega)]; rfl
    · intro hc
      have hn : 1 ≤ n := by omega
      have e1 : ((2 ^ 63 - 1) / n : Int) ≥ (2 ^ 63 - 1) / 65536 := by
        apply Int.le_ediv_of_mul_le (by omega)
        have : (2 ^ 63 - 1) / 65536 * n ≤ ((2 ^ 63 - 1) / 65536 : Int) * 65536 := Int.mul_le_mul_of_nonneg_left (by omega) (by decide)
        exact Int.le_trans this (by decide)
      have e2 : (z.length : Int) ≤ 16777216 := by
        have h4 : z.length * 1 ≤ z.length * n.toNat := Nat.mul_le_mul_left _ (by omega)
        omega
      have e3 : ((2 ^ 63 - 1) / 65536 : Int) ≥ 16777216 := by decide
      omega
    · exact decide_eq_false (by rw [sizeLine_eq]; omega)
  refine SB.mul ok fun t'' k => ⟨.str _, H, I.tok _, ⟨_, rfl⟩, ?_⟩
  rw [txt_mul]; exact q
def oMul : D → D → Option D
  | .int i, .int j => if (decide (-(2 ^ 64) < i) && decide (i < 2 ^ 64) || decide (-(2 ^ 64) < j) && decide (j < 2 ^ 64)) = true then some (.int (i * j)) else none
  | .str s, .int n => if (decide (n < 65536) && decide (-65536 < n) && decide (s.length * n.toNat ≤ 16777216)) = true then some (.str (List.replicate n.toNat s).flatten) else none
  | .lst s, .int n => if (decide (n < 65536) && decide (-65536 < n) && decide (s.length * n.toNat ≤ 16777216)) = true then some (.lst (List.replicate n.toNat s).flatten) else none
  | _, _ => none
def rMulA : R2 := fun x y H Q => rI CMul (fun i j => V.int (i * j)) x y H Q ∨ rMulStr x y H Q ∨ rRep x y H Q
theorem op_mulA : OpR X (binaryOp .Mult) rMulA := OpR.or op_mul (OpR.or op_mulStr op_rep)
theorem repL_reps {c : Cc} {H : Hp} {ds : List D} {vs : List V} (h : RepL c H ds vs) : ∀ k : Nat, RepL c H (List.replicate k ds).flatten (List.replicate k vs).flatten
  | 0 => rfl
  | k + 1 => by
    rw [List.replicate_succ, List.replicate_succ, List.flatten_cons, List.flatten_cons]
    exact h.append (repL_reps h k)
theorem len_reps {α : Type} (ds : List α) : ∀ k : Nat, (List.replicate k ds).flatten.length = ds.length * k
  | 0 => rfl
  | k + 1 => by rw [List.replicate_succ, List.flatten_cons, List.length_append, len_reps ds k, Nat.mul_succ, Nat.add_comm]
theorem opd_mul : OpD G rMulA oMul := by
  intro w H Hs x y a b d Q hb h1 h2 e q
  unfold oMul at e
  split at e
  · split at e
    · rename_i i j hc
      cases e
      refine .inl ⟨_, _, h1, h2, ?_, q _ H Hs hb.refl_at rfl⟩
      rcases Bool.or_eq_true_iff.mp hc with h | h
      · exact .inl ⟨of_decide_eq_true (Bool.and_eq_true_iff.mp h).1, of_decide_eq_true (Bool.and_eq_true_iff.mp h).2⟩
      · exact .inr ⟨of_decide_eq_true (Bool.and_eq_true_iff.mp h).1, of_decide_eq_true (Bool.and_eq_true_iff.mp h).2⟩
    · cases e
  · split at e
    · rename_i s n hc
      cases e
      have h3 := Bool.and_eq_true_iff.mp hc
      have h4 := Bool.and_eq_true_iff.mp h3.1
      have hl := of_decide_eq_true h3.2
      obtain ⟨rfl, o1⟩ := h1
      refine .inr (.inl ⟨_, n, rfl, h2, of_decide_eq_true h4.1, of_decide_eq_true h4.2, ?_, q _ H Hs hb.refl_at ⟨?_, ?_, fun c hc => ?_⟩⟩)
      · show s.toArray.size * n.toNat ≤ _
        simpa using hl
      · simp
      · rw [len_reps, sizeLine_eq]; exact hl
      · obtain ⟨l, hl1, hl2⟩ := List.mem_flatten.mp hc
        rw [(List.mem_replicate.mp hl1).2] at hl2
        exact o1.2 c hl2
    · cases e
  · split at e
    · rename_i s n hc
      cases e
      have h3 := Bool.and_eq_true_iff.mp hc
      have h4 := Bool.and_eq_true_iff.mp h3.1
      have hl := of_decide_eq_true h3.2
      have hn1 : n < 65536 := of_decide_eq_true h4.1
      have hn2 : -65536 < n := of_decide_eq_true h4.2
      obtain ⟨l, vs, rfl, hl', rl, _⟩ := h1
      refine .inr (.inr ⟨l, n, vs, rfl, h2, hl', by omega, by omega, ?_, fun p hp => ?_⟩)
      · rw [rl.length, sizeLine_eq]; exact hl
      · have ba := hb.alloc (o := .lst (List.replicate n.toNat vs).flatten) hp lst_noT
        exact q _ _ _ ba ⟨p, _, rfl, upd_same, (repL_reps rl _).mono ba.sub0⟩
    · cases e
  · cases e
theorem je_mul {a b : Expr} {ta tb : TE} {ma mb : ME D} {pos : Pos} (ha : JB X G Wx a ta ma) (hb : JB X G Wx b tb mb) : JE X G Wx (.BinOp a .Mult b pos) (tOp rMulA ta tb) (mBin oMul ma mb) :=
  je_bin op_mulA opd_mul ha hb
/-! ### one-place -/
def mUn (f : D → Option D) (m : ME D) : ME D := fun sd w => (m sd w).bind fun a w1 => match f a with
  | some d => .ok d w1
  | none => .bad
def oNeg : D → Option D
  | .int i => some (.int (-i))
  | _ => none
theorem je_neg {a : Expr} {ta : TE} {ma : ME D} {pos : Pos} (ha : JE X G Wx a ta ma) : JE X G Wx (.UnaryOp .USub a pos) (tUn (rU fun i => V.int (-i)) ta) (mUn oNeg ma) := by
  refine ⟨pe_un un_neg ha.pe, fun sd w σ H Hs Q rs post => ?_⟩
  refine ha.si.bind rs post fun a w1 x H1 Hs1 rs1 b1 q1 post1 => ?_
  cases a with
  | int i => exact ⟨i, q1, post1 _ H1 Hs1 rs1.b.refl_at rfl⟩
  | _ => exact post1.elim
end
end FT
end
section
set_option Elab.async false
set_option linter.all false
set_option maxRecDepth 100000
set_option maxHeartbeats 4000000
namespace FT
open PySem PySem.Spec PyProof.Rows L2
/-! ### data as the layer's plain data -/
mutual
def toPy : D → PyData
  | .non => .none
  | .bl b => .bool b
  | .int i => .int i
  | .str s => .str ⟨s.toArray⟩
  | .lst ds => .list (toPyL ds)
  | .tup ds => .tuple (toPyL ds)
  | .frz _ => .none
  | .pen => .none
  | .obj _ _ _ => .none
  | .dct _ _ => .none
  | .dcT _ _ => .none
def toPyL : List D → List PyData
  | [] => []
  | d :: ds => toPy d :: toPyL ds
end
def dep : Nat → D → Bool
  | 0, _ => false
  | _ + 1, .non => true
  | _ + 1, .bl _ => true
  | _ + 1, .int _ => true
  | _ + 1, .str _ => true
  | k + 1, .lst ds => ds.all (dep k)
  | k + 1, .tup ds => ds.all (dep k)
  | _ + 1, .frz _ => false
  | _ + 1, .pen => false
  | _ + 1, .obj _ _ _ => false
  | _ + 1, .dct _ _ => false
  | _ + 1, .dcT _ _ => false
mutual
def eqD : D → D → Bool
  | .non, .non => true
  | .bl a, .bl b => a == b
  | .bl a, .int j => (if a then 1 else 0) == j
  | .int i, .bl b => i == (if b then 1 else 0)
  | .int i, .int j => i == j
  | .str x, .str y => x == y
  | .lst xs, .lst ys => eqL xs ys
  | .tup xs, .tup ys => eqL xs ys
  | _, _ => false
def eqL : List D → List D → Bool
  | [], [] => true
  | x :: xs, y :: ys => eqD x y && eqL xs ys
  | _, _ => false
end
theorem str_beq (s t : List Nat) : ((⟨s.toArray⟩ : Str) == ⟨t.toArray⟩) = (s == t) := by
  by_cases h : s = t
  · subst h; simp
  · rw [beq_eq_false_iff_ne.mpr h]
    refine beq_eq_false_iff_ne.mpr fun e => h ?_
    injection e with e1
    simpa using congrArg Array.toList e1
theorem eqv_toPy : ∀ (k : Nat) (a b : D), dep k a = true → dep k b = true → PyData.eqv (toPy a) (toPy b) = eqD a b := by
  intro k
  induction k with
  | zero => intro a b h; cases h
  | succ k ih =>
    have ihL : ∀ xs ys : List D, xs.all (dep k) = true → ys.all (dep k) = true → PyData.eqvAll (toPyL xs) (toPyL ys) = eqL xs ys := by
      intro xs
      induction xs with
      | nil => intro ys _ _; cases ys <;> simp [toPyL, PyData.eqvAll, eqL]
      | cons x xs ihx =>
        intro ys h1 h2
        cases ys with
        | nil => simp [toPyL, PyData.eqvAll, eqL]
        | cons y ys =>
          rw [List.all_cons, Bool.and_eq_true_iff] at h1 h2
          simp only [toPyL, PyData.eqvAll, eqL]
          rw [ih x y h1.1 h2.1, ihx ys h1.2 h2.2]
    intro a b h1 h2
    cases a <;> cases b <;> first
      | (simp only [dep] at h1 h2; simp only [toPy, PyData.eqv, eqD]; exact ihL _ _ h1 h2)
      | (simp only [toPy, PyData.eqv, eqD]; exact str_beq _ _)
      | (simp only [toPy, PyData.eqv, eqD]; done)
      | (cases h1; done)
      | (cases h2; done)
theorem depth_toPy : ∀ (k : Nat) (a : D), dep k a = true → (toPy a).depth ≤ k := by
  intro k
  induction k with
  | zero => intro a h; cases h
  | succ k ih =>
    have ihL : ∀ xs : List D, xs.all (dep k) = true → PyData.depthAll (toPyL xs) ≤ k := by
      intro xs
      induction xs with
      | nil => intro _; simp [toPyL, PyData.depthAll]
      | cons x xs ihx =>
        intro h
        rw [List.all_cons, Bool.and_eq_true_iff] at h
        simp only [toPyL, PyData.depthAll]
        exact Nat.max_le.mpr ⟨ih x h.1, ihx h.2⟩
    intro a h
    cases a <;> first
      | (simp only [dep] at h; simp only [toPy, PyData.depth]; exact Nat.succ_le_succ (ihL _ h))
      | (simp only [toPy, PyData.depth]; exact Nat.zero_le _)
theorem rep_lay {c : Cc} {H : Hp} : ∀ (k : Nat) (d : D) (v : V), dep k d = true → Rep c H d v → (toPy d).canLay0 = true ∧ Dp c.K H v (toPy d) := by
  intro k
  induction k with
  | zero => intro d v h; cases h
  | succ k ih =>
    have ihL : ∀ (ds : List D) (vs : List V), ds.all (dep k) = true → RepL c H ds vs → PyData.canLayAll0 (toPyL ds) = true ∧ DpAll c.K H vs (toPyL ds) := by
      intro ds
      induction ds with
      | nil => intro vs _ r; rw [show vs = [] from r]; exact ⟨by simp [toPyL, PyData.canLayAll0], .nil⟩
      | cons x xs ihx =>
        intro vs h ⟨v, r, e, h1, h2⟩
        rw [List.all_cons, Bool.and_eq_true_iff] at h
        obtain ⟨a1, a2⟩ := ih x v h.1 h1
        obtain ⟨b1, b2⟩ := ihx r h.2 h2
        rw [e]
        simp only [toPyL, PyData.canLayAll0]
        exact ⟨by rw [a1, b1]; rfl, .cons a2 b2⟩
    intro d v h r
    cases d with
    | non => rw [show v = .non from r]; exact ⟨by simp [toPy, PyData.canLay0], .non⟩
    | bl b => rw [show v = .bl b from r]; exact ⟨by simp [toPy, PyData.canLay0], .bl b⟩
    | int i => rw [show v = .int i from r]; exact ⟨by simp [toPy, PyData.canLay0], .int i⟩
    | str s =>
      obtain ⟨rfl, o1, o2⟩ := r
      refine ⟨?_, .str _⟩
      simp only [toPy, PyData.canLay0, PyData.strOk]
      simpa using o2
    | lst ds =>
      obtain ⟨a, vs, rfl, h1, h2⟩ := r
      simp only [dep] at h
      obtain ⟨a1, a2⟩ := ihL ds vs h h2
      simp only [toPy, PyData.canLay0]
      exact ⟨a1, .lst (.inl (.inl h1)) a2⟩
    | tup ds =>
      obtain ⟨a, vs, rfl, h1, h2⟩ := r
      simp only [dep] at h
      obtain ⟨a1, a2⟩ := ihL ds vs h h2
      simp only [toPy, PyData.canLay0]
      exact ⟨a1, .tup h1 a2⟩
    | _ => cases h
theorem repB_lay {G : Gh} {w : List D} {H Hs : Hp} (b : B G w H Hs) {k : Nat} {d : D} {v : V} (h : dep k d = true) (r : RepB G.c H Hs d v) : (toPy d).canLay0 = true ∧ Dp G.c.K H v (toPy d) := by
  cases d with
  | lst ds =>
    obtain ⟨a, vs, rfl, h1, h2, _⟩ := r
    cases k with
    | zero => cases h
    | succ k =>
      simp only [dep] at h
      have hL : ∀ (ds : List D) (vs : List V), ds.all (dep k) = true → RepL G.c H ds vs → PyData.canLayAll0 (toPyL ds) = true ∧ DpAll G.c.K H vs (toPyL ds) := by
        intro ds
        induction ds with
        | nil => intro vs _ r; rw [show vs = [] from r]; exact ⟨by simp [toPyL, PyData.canLayAll0], .nil⟩
        | cons x xs ihx =>
          intro vs h ⟨v, r, e, h1, h2⟩
          rw [List.all_cons, Bool.and_eq_true_iff] at h
          obtain ⟨a1, a2⟩ := rep_lay k x v h.1 h1
          obtain ⟨b1, b2⟩ := ihx r h.2 h2
          rw [e]
          simp only [toPyL, PyData.canLayAll0]
          exact ⟨by rw [a1, b1]; rfl, .cons a2 b2⟩
      obtain ⟨a1, a2⟩ := hL ds vs h (h2.mono b.sub)
      simp only [toPy, PyData.canLay0]
      exact ⟨a1, .lst (.inl (.inl h1)) a2⟩
  | _ => exact rep_lay k _ v h (Rep.mono b.sub r)
theorem shaped_of {k : Nat} {d : D} (h : dep k d = true) (hk : k ≤ 64) (l : (toPy d).canLay0 = true) : SeqAt.shaped (toPy d) = true := by
  show ((toPy d).canLay0 && decide ((toPy d).depth ≤ 64)) = true
  rw [l, decide_eq_true (Nat.le_trans (depth_toPy k d h) hk)]; rfl
section
variable {X : Cx} {G : Gh} {Wx : WX}
def oEq (neg : Bool) : D → D → Option D := fun a b => if (dep 8 a && dep 8 b) = true then some (.bl (if neg then !eqD a b else eqD a b)) else none
theorem opd_eq {K : PySem.W.Frag} (hK : K = G.c.K) : OpD G (rEqD K) (oEq false) := by
  subst hK
  intro w H Hs x y a b d Q hb h1 h2 e q
  unfold oEq at e
  split at e
  · rename_i hc
    cases e
    obtain ⟨d1, d2⟩ := Bool.and_eq_true_iff.mp hc
    obtain ⟨l1, p1⟩ := repB_lay hb d1 h1
    obtain ⟨l2, p2⟩ := repB_lay hb d2 h2
    refine ⟨_, _, p1, p2, shaped_of d1 (by decide) l1, shaped_of d2 (by decide) l2, ?_⟩
    rw [eqv_toPy 8 a b d1 d2]
    exact q _ H Hs hb.refl_at rfl
  · cases e
theorem opd_ne {K : PySem.W.Frag} (hK : K = G.c.K) : OpD G (rNeD K) (oEq true) := by
  subst hK
  intro w H Hs x y a b d Q hb h1 h2 e q
  unfold oEq at e
  split at e
  · rename_i hc
    cases e
    obtain ⟨d1, d2⟩ := Bool.and_eq_true_iff.mp hc
    obtain ⟨l1, p1⟩ := repB_lay hb d1 h1
    obtain ⟨l2, p2⟩ := repB_lay hb d2 h2
    refine ⟨_, _, p1, p2, shaped_of d1 (by decide) l1, shaped_of d2 (by decide) l2, ?_⟩
    rw [eqv_toPy 8 a b d1 d2]
    exact q _ H Hs hb.refl_at rfl
  · cases e
variable {a b : Expr} {ta tb : TE} {ma mb : ME D} {pos : Pos}
theorem je_eq {k : Nat} (hr : Room k X.A) (ha : JB X G Wx a ta ma) (hb : JB X G Wx b tb mb) (hK : X.K = G.c.K := by rfl) : JE X G Wx (.Compare a [.Eq] [b] pos) (tOp (rEqD G.c.K) ta tb) (mBin (oEq false) ma mb) :=
  je_cmp (by rw [← hK]; exact op_eqD hr.units) (opd_eq rfl) ha hb (nomark _)
theorem je_ne {k : Nat} (hr : Room k X.A) (ha : JB X G Wx a ta ma) (hb : JB X G Wx b tb mb) (hK : X.K = G.c.K := by rfl) : JE X G Wx (.Compare a [.NotEq] [b] pos) (tOp (rNeD G.c.K) ta tb) (mBin (oEq true) ma mb) :=
  je_cmp (by rw [← hK]; exact op_neD hr.units) (opd_ne rfl) ha hb (nomark _)
/-! ### < <= > >= -/
def oCmp (f : Int → Int → Bool) (g : List Nat → List Nat → Bool) : D → D → Option D
  | .int i, .int j => some (.bl (f i j))
  | .str s, .str t => some (.bl (g s t))
  | _, _ => none
def rCmp (f : Int → Int → Bool) (g : List Nat → List Nat → Bool) : R2 := fun x y H Q => rI0 (fun i j => V.bl (f i j)) x y H Q ∨ ∃ i j : Str, x = .str i ∧ y = .str j ∧ Q (.bl (g i.cps.toList j.cps.toList)) H
theorem opd_cmp {f : Int → Int → Bool} {g : List Nat → List Nat → Bool} : OpD G (rCmp f g) (oCmp f g) := by
  intro w H Hs x y a b d Q hb h1 h2 e q
  unfold oCmp at e
  split at e
  · cases e; exact .inl ⟨_, _, h1, h2, q _ H Hs hb.refl_at rfl⟩
  · cases e
    obtain ⟨rfl, _⟩ := h1
    obtain ⟨rfl, _⟩ := h2
    exact .inr ⟨_, _, rfl, rfl, q _ H Hs hb.refl_at (by simp [Rep])⟩
  · cases e
abbrev fLt : Int → Int → Bool := fun i j => decide (i < j)
abbrev fLe : Int → Int → Bool := fun i j => decide (i ≤ j)
abbrev fGt : Int → Int → Bool := fun i j => decide (j < i)
abbrev fGe : Int → Int → Bool := fun i j => decide (j ≤ i)
abbrev sLt : List Nat → List Nat → Bool := fun s t => decide (s < t)
abbrev sGt : List Nat → List Nat → Bool := fun s t => decide (t < s)
abbrev sLe : List Nat → List Nat → Bool := fun s t => !decide (t < s)
abbrev sGe : List Nat → List Nat → Bool := fun s t => !decide (s < t)
theorem op_ltA : OpR X (compareOp .Lt) (rCmp fLt sLt) := OpR.or op_lt op_lt_str
theorem op_gtA : OpR X (compareOp .Gt) (rCmp fGt sGt) := OpR.or op_gt op_gt_str
theorem op_leA : OpR X (compareOp .LtE) (rCmp fLe sLe) := OpR.or op_le op_le_str
theorem op_geA : OpR X (compareOp .GtE) (rCmp fGe sGe) := OpR.or op_ge op_ge_str
theorem je_lt (ha : JB X G Wx a ta ma) (hb : JB X G Wx b tb mb) : JE X G Wx (.Compare a [.Lt] [b] pos) (tOp (rCmp fLt sLt) ta tb) (mBin (oCmp fLt sLt) ma mb) := je_cmp op_ltA opd_cmp ha hb (nomark _)
theorem je_gt (ha : JB X G Wx a ta ma) (hb : JB X G Wx b tb mb) : JE X G Wx (.Compare a [.Gt] [b] pos) (tOp (rCmp fGt sGt) ta tb) (mBin (oCmp fGt sGt) ma mb) := je_cmp op_gtA opd_cmp ha hb (nomark _)
theorem je_le (ha : JB X G Wx a ta ma) (hb : JB X G Wx b tb mb) : JE X G Wx (.Compare a [.LtE] [b] pos) (tOp (rCmp fLe sLe) ta tb) (mBin (oCmp fLe sLe) ma mb) := je_cmp op_leA opd_cmp ha hb (nomark _)
theorem je_ge (ha : JB X G Wx a ta ma) (hb : JB X G Wx b tb mb) : JE X G Wx (.Compare a [.GtE] [b] pos) (tOp (rCmp fGe sGe) ta tb) (mBin (oCmp fGe sGe) ma mb) := je_cmp op_geA opd_cmp ha hb (nomark _)
/-! ### in, not in -/
def oIn (neg : Bool) : D → D → Option D
  | .str s, .str t => match s with
    | [c] => some (.bl (if neg then !decide (c ∈ t) else decide (c ∈ t)))
    | _ => none
  | a, .lst ds => if (dep 8 a && dep 8 (.lst ds)) = true then some (.bl (if neg then !ds.any fun z => eqD z a else ds.any fun z => eqD z a)) else none
  | _, _ => none
def rInA (K : PySem.W.Frag) (neg : Bool) : R2 := fun x y H Q => (∃ (c : Nat) (z : Str), x = .str ⟨#[c]⟩ ∧ y = .str z ∧ Q (.bl (if neg then !decide (c ∈ z.cps.toList) else decide (c ∈ z.cps.toList))) H) ∨ (if neg then rNotInD K x y H Q else rInD K x y H Q)
theorem op_inA {k : Nat} (hr : Room k X.A) : OpR X (compareOp .In) (rInA X.K false) := OpR.or op_in_sign (op_inD (by have := hr.un; omega))
theorem op_notInA {k : Nat} (hr : Room k X.A) : OpR X (compareOp .NotIn) (rInA X.K true) := OpR.or op_notIn_sign (op_notInD (by have := hr.un; omega))
theorem any_toPy {k : Nat} {a : D} (ha : dep k a = true) : ∀ {ds : List D}, ds.all (dep k) = true → ((toPyL ds).any fun z => PyData.eqv z (toPy a)) = ds.any fun z => eqD z a
  | [], _ => rfl
  | d :: ds, h => by
    rw [List.all_cons, Bool.and_eq_true_iff] at h
    simp only [toPyL, List.any_cons]
    rw [eqv_toPy k d a h.1 ha, any_toPy ha h.2]
theorem dep_mono : ∀ {k : Nat} {d : D}, dep k d = true → dep (k + 1) d = true := by
  intro k
  induction k with
  | zero => intro d h; cases h
  | succ k ih =>
    have ihL : ∀ xs : List D, xs.all (dep k) = true → xs.all (dep (k + 1)) = true := fun xs h => List.all_eq_true.mpr fun x hx => ih (List.all_eq_true.mp h x hx)
    intro d h
    cases d <;> first
      | (simp only [dep] at h ⊢; exact ihL _ h)
      | exact h
theorem opd_in {K : PySem.W.Frag} (hK : K = G.c.K) (neg : Bool) : OpD G (rInA K neg) (oIn neg) := by
  subst hK
  intro w H Hs x y a b d Q hb h1 h2 e q
  unfold oIn at e
  split at e
  · split at e
    · cases e
      obtain ⟨rfl, _⟩ := h1
      obtain ⟨rfl, _⟩ := h2
      exact .inl ⟨_, _, rfl, rfl, q _ H Hs hb.refl_at (by simp [Rep])⟩
    · cases e
  · split at e
    · rename_i _ ds hc
      cases e
      obtain ⟨d1, d2⟩ := Bool.and_eq_true_iff.mp hc
      obtain ⟨l1, p1⟩ := repB_lay hb d1 h1
      obtain ⟨l2, p2⟩ := repB_lay hb d2 h2
      have s1 := shaped_of d1 (by decide) l1
      have s2 := shaped_of d2 (by decide) l2
      have e2 : ((toPyL ds).any fun z => PyData.eqv z (toPy a)) = ds.any fun z => eqD z a := any_toPy (k := 8) d1 (by
        simp only [dep] at d2
        exact List.all_eq_true.mpr fun z hz => dep_mono (List.all_eq_true.mp d2 z hz))
      refine .inr ?_
      cases neg
      · show rInD _ _ _ _ _
        refine ⟨toPy a, toPyL ds, p1, by simpa only [toPy] using p2, s1, by simpa only [toPy] using s2, ?_⟩
        rw [e2]; exact q _ H Hs hb.refl_at rfl
      · show rNotInD _ _ _ _ _
        refine ⟨toPy a, toPyL ds, p1, by simpa only [toPy] using p2, s1, by simpa only [toPy] using s2, ?_⟩
        rw [e2]; exact q _ H Hs hb.refl_at rfl
    · cases e
  · cases e
theorem je_in {k : Nat} (hr : Room k X.A) (ha : JB X G Wx a ta ma) (hb : JB X G Wx b tb mb) (hm : behindInMarks .In b = false := by with_unfolding_all rfl) (hK : X.K = G.c.K := by rfl) : JE X G Wx (.Compare a [.In] [b] pos) (tOp (rInA G.c.K false) ta tb) (mBin (oIn false) ma mb) :=
  je_cmp (by rw [← hK]; exact op_inA hr) (opd_in rfl false) ha hb hm
theorem je_notin {k : Nat} (hr : Room k X.A) (ha : JB X G Wx a ta ma) (hb : JB X G Wx b tb mb) (hm : behindInMarks .NotIn b = false := by with_unfolding_all rfl) (hK : X.K = G.c.K := by rfl) : JE X G Wx (.Compare a [.NotIn] [b] pos) (tOp (rInA G.c.K true) ta tb) (mBin (oIn true) ma mb) :=
  je_cmp (by rw [← hK]; exact op_notInA hr) (opd_in rfl true) ha hb hm
/-! ### is None, is True -/
def isNon : D → Bool
  | .non => true
  | _ => false
def oIs (neg : Bool) : D → D → Option D
  | a, .non => some (.bl (if neg then !isNon a else isNon a))
  | .bl a, .bl b => some (.bl (if neg then !decide (a = b) else decide (a = b)))
  | _, _ => none
def rIsA (neg : Bool) : R2 := fun x y H Q => (y = .non ∧ Q (.bl (if neg then !decide (x = .non) else decide (x = .non))) H) ∨ ∃ a b : Bool, x = .bl a ∧ y = .bl b ∧ Q (.bl (if neg then !decide (a = b) else decide (a = b))) H
theorem op_isA : OpR X (compareOp .Is) (rIsA false) := OpR.or op_isN op_isBl
theorem op_isNotA : OpR X (compareOp .IsNot) (rIsA true) := OpR.or op_notN op_notBl
theorem isNon_of {c : Cc} {H Hs : Hp} {a : D} {x : V} (h : RepB c H Hs a x) : decide (x = .non) = isNon a := by
  cases a with
  | non => rw [show x = .non from h]; rfl
  | lst ds => obtain ⟨a, vs, rfl, _⟩ := h; rfl
  | bl b => rw [show x = .bl b from h]; rfl
  | int b => rw [show x = .int b from h]; rfl
  | str s => obtain ⟨rfl, _⟩ := h; rfl
  | tup ds => obtain ⟨a, vs, rfl, _⟩ := h; rfl
  | frz ds => obtain ⟨a, vs, rfl, _⟩ := h; rfl
  | pen => obtain ⟨a, _, rfl⟩ := h; rfl
  | obj _ _ _ => obtain ⟨a, _, _, rfl, _⟩ := h; rfl
  | dct _ _ => obtain ⟨a, _, rfl, _⟩ := h; rfl
  | dcT _ _ => obtain ⟨a, _, rfl, _⟩ := h; rfl
theorem opd_is (neg : Bool) : OpD G (rIsA neg) (oIs neg) := by
  intro w H Hs x y a b d Q hb h1 h2 e q
  unfold oIs at e
  split at e
  · cases e
    refine .inl ⟨h2, ?_⟩
    rw [isNon_of h1]
    exact q _ H Hs hb.refl_at rfl
  · cases e
    exact .inr ⟨_, _, h1, h2, q _ H Hs hb.refl_at rfl⟩
  · cases e
theorem je_is (ha : JB X G Wx a ta ma) (hb : JB X G Wx b tb mb) : JE X G Wx (.Compare a [.Is] [b] pos) (tOp (rIsA false) ta tb) (mBin (oIs false) ma mb) := je_cmp op_isA (opd_is false) ha hb (nomark _)
theorem je_isnot (ha : JB X G Wx a ta ma) (hb : JB X G Wx b tb mb) : JE X G Wx (.Compare a [.IsNot] [b] pos) (tOp (rIsA true) ta tb) (mBin (oIs true) ma mb) := je_cmp op_isNotA (opd_is true) ha hb (nomark _)
end
end FT
end
section
set_option Elab.async false
set_option linter.all false
set_option maxRecDepth 100000
set_option maxHeartbeats 4000000
namespace FT
open PySem PySem.Spec PyProof.Rows L2
section
variable {X : Cx} {G : Gh} {Wx : WX}
/-! ### truth, tests -/
def truthD : D → Option Bool
  | .non => some false
  | .bl b => some b
  | .int i => some (i != 0)
  | .str s => some (s.length != 0)
  | .lst ds => some (!ds.isEmpty)
  | .tup ds => some (!ds.isEmpty)
  | .frz ds => some (!ds.isEmpty)
  | _ => none
def mTru (m : ME D) : ME Bool := fun sd w => (m sd w).bind fun d w1 => match truthD d with
  | some b => .ok b w1
  | none => .bad
theorem isEmpty_len {ds : List D} {vs : List V} (h : vs.length = ds.length) : (!vs.isEmpty) = !ds.isEmpty := by
  cases ds <;> cases vs <;> first | rfl | cases h
theorem truV_of {w : List D} {H Hs : Hp} (b : B G w H Hs) {d : D} {v : V} {k : Bool} (r : RepB G.c H Hs d v) (e : truthD d = some k) : TruV G.c.K v H k := by
  cases d with
  | non => rw [show v = .non from r]; cases e; rfl
  | bl c => rw [show v = .bl c from r]; cases e; rfl
  | int i => rw [show v = .int i from r]; cases e; rfl
  | str s =>
    obtain ⟨rfl, o⟩ := r
    cases e
    refine ⟨o.1, ?_⟩
    show (s.length != 0) = ((s.toArray.size : Int) != 0)
    rw [List.size_toArray]
    cases s <;> rfl
  | lst ds =>
    obtain ⟨a, vs, rfl, h1, h2, _⟩ := r
    cases e
    exact .inl ⟨vs, .inl (.inl h1), (isEmpty_len h2.length).symm⟩
  | tup ds =>
    obtain ⟨a, vs, rfl, h1, h2⟩ := r
    cases e
    exact .inr (.inl ⟨vs, sqT_mono b.sub h1, (isEmpty_len h2.length).symm⟩)
  | frz ds =>
    obtain ⟨a, vs, rfl, h1, h2⟩ := r
    cases e
    exact .inl ⟨vs, b.sub.seq h1, (isEmpty_len h2.length).symm⟩
  | _ => cases e
theorem jt_tru {a : Expr} {ta : TE} {ma : ME D} (ha : JB X G Wx a ta ma) (he : ∀ whole, isTrue a X.env whole = (do let v ← whole; standAt a.pos; holding [v] (truthy v)) := by intro _; rfl) (hK : X.K = G.c.K := by rfl) :
    JT X G Wx a (fun σ H Q => ta σ H fun x H' => ∃ k, TruV G.c.K x H' k ∧ Q k H') (mTru ma) := by
  refine ⟨by rw [← hK]; exact pt_truth ha.pe he, fun sd w σ H Hs Q rs post => ?_⟩
  refine ha.si.bind rs post fun d w1 v H1 Hs1 rs1 b1 q1 post1 => ?_
  cases e : truthD d with
  | none => rw [e] at post1; exact post1.elim
  | some k =>
    rw [e] at post1
    exact ⟨k, truV_of rs1.b q1 e, post1 k H1 Hs1 rs1.b.refl_at rfl⟩
def mNotT (m : ME Bool) : ME Bool := fun sd w => (m sd w).bind fun b w1 => .ok (!b) w1
theorem jt_not {a : Expr} {ta : TT} {ma : ME Bool} {pos : Pos} (ha : JT X G Wx a ta ma) : JT X G Wx (.UnaryOp .Not a pos) (tNot ta) (mNotT ma) := by
  refine ⟨pt_not ha.pe, fun sd w σ H Hs Q rs post => ?_⟩
  refine ha.si.bind rs post fun d w1 v H1 Hs1 rs1 b1 q1 post1 => ?_
  obtain rfl : d = v := q1
  exact post1 _ H1 Hs1 rs1.b.refl_at rfl
structure JW (X : Cx) (G : Gh) (Wx : WX) (e : Expr) (t : TT) (m : ME Bool) : Prop where
  pe : PW X e t
  si : Sim G Wx ρT t m
def mAnd (m1 m2 : ME Bool) : ME Bool := fun sd w => (m1 sd w).bind fun b w1 => if b = true then m2 sd w1 else .ok false w1
def mOr (m1 m2 : ME Bool) : ME Bool := fun sd w => (m1 sd w).bind fun b w1 => if b = true then .ok true w1 else m2 sd w1
variable {a b : Expr} {rest : List Expr} {pos : Pos} {t1 t2 : TT} {m1 m2 : ME Bool}
theorem jw_and1 (ha : JT X G Wx a t1 m1) : JW X G Wx (.BoolOp .And [a] pos) t1 m1 := ⟨pw_and1 ha.pe, ha.si⟩
theorem jw_or1 (ha : JT X G Wx a t1 m1) : JW X G Wx (.BoolOp .Or [a] pos) t1 m1 := ⟨pw_or1 ha.pe, ha.si⟩
theorem jw_and (ha : JT X G Wx a t1 m1) (hb : JW X G Wx (.BoolOp .And (b :: rest) pos) t2 m2) : JW X G Wx (.BoolOp .And (a :: b :: rest) pos) (tAnd t1 t2) (mAnd m1 m2) := by
  refine ⟨pw_and ha.pe hb.pe, fun sd w σ H Hs Q rs post => ?_⟩
  refine ha.si.bind rs post fun d w1 v H1 Hs1 rs1 b1 q1 post1 => ?_
  obtain rfl : d = v := q1
  cases d with
  | true => exact hb.si sd w1 σ H1 Hs1 Q rs1 post1
  | false => exact post1 _ H1 Hs1 rs1.b.refl_at rfl
theorem jw_or (ha : JT X G Wx a t1 m1) (hb : JW X G Wx (.BoolOp .Or (b :: rest) pos) t2 m2) : JW X G Wx (.BoolOp .Or (a :: b :: rest) pos) (tOr t1 t2) (mOr m1 m2) := by
  refine ⟨pw_or ha.pe hb.pe, fun sd w σ H Hs Q rs post => ?_⟩
  refine ha.si.bind rs post fun d w1 v H1 Hs1 rs1 b1 q1 post1 => ?_
  obtain rfl : d = v := q1
  cases d with
  | false => exact hb.si sd w1 σ H1 Hs1 Q rs1 post1
  | true => exact post1 _ H1 Hs1 rs1.b.refl_at rfl
theorem jt_w {e : Expr} (h : JW X G Wx e t1 m1) : JT X G Wx e t1 m1 := ⟨h.pe.pt, h.si⟩
/-! ### and, or, not as values (bools, but the last) -/
def mAndV (m1 m2 : ME D) : ME D := fun sd w => (m1 sd w).bind fun d w1 => match d with
  | .bl true => m2 sd w1
  | .bl false => .ok (.bl false) w1
  | _ => .bad
def mOrV (m1 m2 : ME D) : ME D := fun sd w => (m1 sd w).bind fun d w1 => match d with
  | .bl true => .ok (.bl true) w1
  | .bl false => m2 sd w1
  | _ => .bad
def mNotV (m1 : ME D) : ME D := fun sd w => (m1 sd w).bind fun d w1 => match d with
  | .bl c => .ok (.bl !c) w1
  | _ => .bad
variable {ta tb : TE} {ma mb : ME D}
theorem je_one {op : BoolOp} (ha : JE X G Wx a ta ma) : JE X G Wx (.BoolOp op [a] pos) ta ma := ⟨pe_one ha.pe, ha.si⟩
theorem je_and (ha : JE X G Wx a ta ma) (hb : JE X G Wx (.BoolOp .And (b :: rest) pos) tb mb) : JE X G Wx (.BoolOp .And (a :: b :: rest) pos) (tAndV ta tb) (mAndV ma mb) := by
  refine ⟨pe_and ha.pe hb.pe, fun sd w σ H Hs Q rs post => ?_⟩
  refine ha.si.bind rs post fun d w1 v H1 Hs1 rs1 b1 q1 post1 => ?_
  cases d with
  | bl c =>
    cases c with
    | true => exact ⟨true, q1, hb.si sd w1 σ H1 Hs1 Q rs1 post1⟩
    | false => exact ⟨false, q1, post1 _ H1 Hs1 rs1.b.refl_at rfl⟩
  | _ => exact post1.elim
theorem je_or (ha : JE X G Wx a ta ma) (hb : JE X G Wx (.BoolOp .Or (b :: rest) pos) tb mb) : JE X G Wx (.BoolOp .Or (a :: b :: rest) pos) (tOrV ta tb) (mOrV ma mb) := by
  refine ⟨pe_or ha.pe hb.pe, fun sd w σ H Hs Q rs post => ?_⟩
  refine ha.si.bind rs post fun d w1 v H1 Hs1 rs1 b1 q1 post1 => ?_
  cases d with
  | bl c =>
    cases c with
    | false => exact ⟨false, q1, hb.si sd w1 σ H1 Hs1 Q rs1 post1⟩
    | true => exact ⟨true, q1, post1 _ H1 Hs1 rs1.b.refl_at rfl⟩
  | _ => exact post1.elim
theorem je_not (ha : JE X G Wx a ta ma) : JE X G Wx (.UnaryOp .Not a pos) (tNotV ta) (mNotV ma) := by
  refine ⟨pe_not ha.pe, fun sd w σ H Hs Q rs post => ?_⟩
  refine ha.si.bind rs post fun d w1 v H1 Hs1 rs1 b1 q1 post1 => ?_
  cases d with
  | bl c => exact ⟨c, q1, post1 _ H1 Hs1 rs1.b.refl_at rfl⟩
  | _ => exact post1.elim
def mIfE (mt : ME Bool) (m1 m2 : ME D) : ME D := fun sd w => (mt sd w).bind fun b w1 => if b = true then m1 sd w1 else m2 sd w1
theorem je_if {c : Expr} {tc : TT} {mc : ME Bool} (hc : JT X G Wx c tc mc) (ha : JE X G Wx a ta ma) (hb : JE X G Wx b tb mb) : JE X G Wx (.IfExp c a b pos) (tIf tc ta tb) (mIfE mc ma mb) := by
  refine ⟨pe_ifExp hc.pe ha.pe hb.pe, fun sd w σ H Hs Q rs post => ?_⟩
  refine hc.si.bind rs post fun d w1 v H1 Hs1 rs1 b1 q1 post1 => ?_
  obtain rfl : d = v := q1
  cases d with
  | true => exact ha.si sd w1 σ H1 Hs1 Q rs1 post1
  | false => exact hb.si sd w1 σ H1 Hs1 Q rs1 post1
/-! ### a < b < c -/
def mChain (f g : D → D → Option D) (ma mb mc : ME D) : ME D := fun sd w => (ma sd w).bind fun a w1 => (mb sd w1).bind fun b w2 => match f a b with
  | some (.bl true) => (mc sd w2).bind fun c w3 => match g b c with
    | some d => .ok d w3
    | none => .bad
  | some (.bl false) => .ok (.bl false) w2
  | _ => .bad
theorem je_chain {op op' : CmpOp} {r r' : R2} {f g : D → D → Option D} {c : Expr} {tc : TE} {mc : ME D} (ho : OpR X (compareOp op) r) (ho' : OpR X (compareOp op') r') (hf : OpD G r f) (hg : OpD G r' g) (ha : JB X G Wx a ta ma) (hb : JB X G Wx b tb mb) (hc : JB X G Wx c tc mc)
    (hm : lastMarks [op, op'] [b, c] = false := by with_unfolding_all rfl) : JE X G Wx (.Compare a [op, op'] [b, c] pos) (tChain r r' ta tb tc) (mChain f g ma mb mc) := by
  refine ⟨pe_chain ho ho' ha.pe hb.pe hc.pe hm, fun sd w σ H Hs Q rs post => ?_⟩
  refine ha.si.bind rs post fun a w1 x H1 Hs1 rs1 b1 q1 post1 => ?_
  refine hb.si.bind rs1 post1 fun b w2 y H2 Hs2 rs2 b2 q2 post2 => ?_
  cases e : f a b with
  | none => rw [e] at post2; exact post2.elim
  | some d =>
    rw [e] at post2
    refine hf w2 H2 Hs2 x y a b d _ rs2.b (q1.step b2) q2 e fun v H3 Hs3 b3 q3 => ?_
    cases d with
    | bl k =>
      refine ⟨k, q3, ?_⟩
      cases k with
      | false => exact post2 _ H3 Hs3 b3 rfl
      | true =>
        have rs3 := rs2.step b3
        refine hc.si.bind rs3 (Post.shift b3 post2) fun c w4 z H4 Hs4 rs4 b4 q4 post4 => ?_
        cases e4 : g b c with
        | none => rw [e4] at post4; exact post4.elim
        | some d =>
          rw [e4] at post4
          exact hg w4 H4 Hs4 y z b c d Q rs4.b ((q2.step b3).step b4) q4 e4 post4
    | _ => exact post2.elim
abbrev oLt := oCmp fLt sLt
abbrev oLe := oCmp fLe sLe
abbrev oGt := oCmp fGt sGt
abbrev oGe := oCmp fGe sGe
/-! ### subscripts -/
def oIx : List D → D → D → Option D
  | _, .lst ds, .int i => atI ds i
  | _, .tup ds, .int i => atI ds i
  | _, .frz ds, .int i => atI ds i
  | w, .pen, .int i => atI w i
  | _, .str s, .int i => (atI s i).map fun c => .str [c]
  | _, _, _ => none
def mIx (ma mb : ME D) : ME D := fun sd w => (ma sd w).bind fun a w1 => (mb sd w1).bind fun b w2 => match oIx w2 a b with
  | some d => .ok d w2
  | none => .bad
theorem atI_rep {c : Cc} {H : Hp} {ds : List D} {vs : List V} {i : Int} {d : D} (h : RepL c H ds vs) (e : atI ds i = some d) : ∃ v, atI vs i = some v ∧ Rep c H d v := by
  unfold atI at e ⊢
  rw [h.length]
  cases e1 : ixN ds.length i with
  | none => rw [e1] at e; cases e
  | some j =>
    rw [e1] at e
    exact h.get e
theorem atI_map {i : Int} {s : List Nat} {c : Nat} (e : atI s i = some c) : c ∈ s := by
  unfold atI at e
  cases e1 : ixN s.length i with
  | none => rw [e1] at e; cases e
  | some j =>
    rw [e1] at e
    exact List.mem_of_getElem? e
theorem opIx {w : List D} {H Hs : Hp} {a b d : D} {x y : V} {Q : VK} (hb : B G w H Hs) (h1 : RepB G.c H Hs a x) (h2 : RepB G.c H Hs b y) (e : oIx w a b = some d) (q : ∀ v H' Hs', B (G.at_ H Hs) w H' Hs' → Rep G.c Hs' d v → Q v H') : rIx G.c.K x y H Q := by
  unfold oIx at e
  split at e
  · obtain ⟨p, vs, rfl, hp, rl, _⟩ := h1
    obtain ⟨v, e1, r1⟩ := atI_rep rl e
    exact .inl ⟨p, vs, _, v, rfl, h2, .inl (.inl hp), e1, q v H Hs hb.refl_at r1⟩
  · obtain ⟨p, vs, rfl, hp, rl⟩ := h1
    obtain ⟨v, e1, r1⟩ := atI_rep rl e
    exact .inr (.inl ⟨p, vs, _, v, rfl, h2, sqT_mono hb.sub hp, e1, q v H Hs hb.refl_at r1⟩)
  · obtain ⟨p, vs, rfl, hp, rl⟩ := h1
    obtain ⟨v, e1, r1⟩ := atI_rep rl e
    exact .inl ⟨p, vs, _, v, rfl, h2, hb.sub.seq hp, e1, q v H Hs hb.refl_at r1⟩
  · obtain ⟨p, hp, rfl⟩ := h1
    obtain ⟨⟨vs, hv, rl⟩, _⟩ := hb.pen p hp
    obtain ⟨v, e1, r1⟩ := atI_rep rl e
    exact .inl ⟨p, vs, _, v, rfl, h2, .inl (.inl hv), e1, q v H Hs hb.refl_at (r1.mono (hb.penH.trans hb.sub0))⟩
  · rename_i s i
    obtain ⟨rfl, o⟩ := h1
    cases e1 : atI s i with
    | none => rw [e1] at e; cases e
    | some c =>
      rw [e1] at e
      cases e
      refine .inr (.inr ⟨_, i, c, rfl, h2, ?_, by simpa using e1, q _ H Hs hb.refl_at ⟨rfl, ?_, fun c' hc => ?_⟩⟩)
      · exact o.line
      · rw [sizeLine_eq]; show (1 : Nat) ≤ _; decide
      · rw [List.mem_singleton.mp hc]; exact o.2 c (atI_map e1)
  · cases e
theorem je_ix (ha : JB X G Wx a ta ma) (hb : JB X G Wx b tb mb) (hs : PlainIx b := by exact fun _ _ => rfl) (hK : X.K = G.c.K := by rfl) : JE X G Wx (.Subscript a b pos) (tOp (rIx G.c.K) ta tb) (mIx ma mb) := by
  refine ⟨pe_ix (by rw [← hK]; exact ix_seq) ha.pe hb.pe hs, fun sd w σ H Hs Q rs post => ?_⟩
  refine ha.si.bind rs post fun a w1 x H1 Hs1 rs1 b1 q1 post1 => ?_
  refine hb.si.bind rs1 post1 fun b w2 y H2 Hs2 rs2 b2 q2 post2 => ?_
  cases e : oIx w2 a b with
  | none => rw [e] at post2; exact post2.elim
  | some d =>
    rw [e] at post2
    exact opIx rs2.b (q1.step b2) q2 e post2
/-! ### slices -/
def cutD {α : Type} (xs : List α) (lo hi : Option Int) : List α := (xs.drop (HT.sIx xs.length 0 lo)).take (HT.sIx xs.length xs.length hi - HT.sIx xs.length 0 lo)
def mNoP : ME (Option Int) := fun _ w => .ok none w
def mPart (m : ME D) : ME (Option Int) := fun sd w => (m sd w).bind fun d w1 => match d with
  | .int i => .ok (some i) w1
  | _ => .bad
theorem jo_none : JO X G Wx none tNoPart mNoP := ⟨po_none, fun sd w σ H Hs Q rs post => post none H Hs rs.b.refl_at rfl⟩
theorem jo_some (ha : JE X G Wx a ta ma) : JO X G Wx (some a) (tPart ta) (mPart ma) := by
  refine ⟨po_some ha.pe, fun sd w σ H Hs Q rs post => ?_⟩
  refine ha.si.bind rs post fun d w1 v H1 Hs1 rs1 b1 q1 post1 => ?_
  cases d with
  | int i => exact ⟨i, q1, post1 _ H1 Hs1 rs1.b.refl_at rfl⟩
  | _ => exact post1.elim
def oSl : D → Option Int → Option Int → Option D
  | .lst ds, l, u => some (.lst (cutD ds l u))
  | .frz ds, l, u => some (.lst (cutD ds l u))
  | .tup ds, l, u => some (.tup (cutD ds l u))
  | .str s, l, u => some (.str (cutD s l u))
  | _, _, _ => none
def mSl (ma : ME D) (ml mu : ME (Option Int)) : ME D := fun sd w => (ma sd w).bind fun a w1 => (ml sd w1).bind fun l w2 => (mu sd w2).bind fun u w3 => match oSl a l u with
  | some d => .ok d w3
  | none => .bad
theorem cut_rep {c : Cc} {H : Hp} {ds : List D} {vs : List V} {l u : Option Int} (h : RepL c H ds vs) : RepL c H (cutD ds l u) (cutV vs l u) := by
  unfold cutD cutV
  rw [h.length]
  exact (h.drop _).take _
theorem cut_len {α : Type} (xs : List α) (l u : Option Int) : (cutD xs l u).length ≤ xs.length := by
  unfold cutD
  rw [List.length_take, List.length_drop]; omega
theorem cut_mem {α : Type} {xs : List α} {l u : Option Int} {x : α} (h : x ∈ cutD xs l u) : x ∈ xs := List.mem_of_mem_drop (List.mem_of_mem_take h)
def rSlAll (K : PySem.W.Frag) : V → Option Int → Option Int → Hp → VK → Prop := fun x lo hi H Q => rSlL K x lo hi H Q ∨ rSlA K x lo hi H Q ∨ rSlS x lo hi H Q
theorem sl_all : SlR X (rSlAll X.K) := SlR.or sl_list (SlR.or sl_tupA sl_str)
theorem cutS_eq {s : List Nat} {l u : Option Int} : cutS ⟨s.toArray⟩ l u = ⟨(cutD s l u).toArray⟩ := by
  show (⟨((s.toArray.toList.drop (HT.sIx s.toArray.size 0 l)).take (HT.sIx s.toArray.size s.toArray.size u - HT.sIx s.toArray.size 0 l)).toArray⟩ : Str) = _
  rw [List.size_toArray]; rfl
theorem whole_cut {α : Type} (xs : List α) {l u : Option Int} (h1 : HT.sIx xs.length 0 l = 0) (h2 : HT.sIx xs.length xs.length u = xs.length) : cutD xs l u = xs := by
  unfold cutD
  rw [h1, h2, List.drop_zero, Nat.sub_zero, List.take_length]
theorem je_sl {e : Expr} {lo hi : Option Expr} {tl tu : TO} {ml mu : ME (Option Int)} {p2 : Pos} (ha : JB X G Wx e ta ma) (hl : JO X G Wx lo tl ml) (hu : JO X G Wx hi tu mu) (hK : X.K = G.c.K := by rfl) :
    JE X G Wx (.Subscript e (.Slice lo hi none p2) pos) (tSl (rSlAll G.c.K) ta tl tu) (mSl ma ml mu) := by
  refine ⟨pe_slice (by rw [← hK]; exact sl_all) ha.pe hl.pe hu.pe, fun sd w σ H Hs Q rs post => ?_⟩
  refine ha.si.bind rs post fun a w1 x H1 Hs1 rs1 b1 q1 post1 => ?_
  refine hl.si.bind rs1 post1 fun l w2 l' H2 Hs2 rs2 b2 q2 post2 => ?_
  refine hu.si.bind rs2 post2 fun u w3 u' H3 Hs3 rs3 b3 q3 post3 => ?_
  obtain rfl : l = l' := q2
  obtain rfl : u = u' := q3
  have q := (q1.step b2).step b3
  cases a with
  | lst ds =>
    obtain ⟨p, vs, rfl, hp, rl, _⟩ := q
    refine .inl ⟨p, vs, rfl, .inl (.inl hp), fun r hr => ?_⟩
    have ba := rs3.b.alloc (o := .lst (cutV vs l u)) hr lst_noT
    exact post3 _ _ _ ba ⟨r, _, rfl, upd_same, (cut_rep rl).mono ba.sub0⟩
  | frz ds =>
    obtain ⟨p, vs, rfl, hp, rl⟩ := q
    refine .inl ⟨p, vs, rfl, rs3.b.sub.seq hp, fun r hr => ?_⟩
    have ba := rs3.b.alloc (o := .lst (cutV vs l u)) hr lst_noT
    exact post3 _ _ _ ba ⟨r, _, rfl, upd_same, (cut_rep rl).mono ba.sub0⟩
  | tup ds =>
    obtain ⟨p, vs, rfl, hp, rl⟩ := q
    refine .inr (.inl ⟨p, vs, rfl, sqT_mono rs3.b.sub hp, fun hw => ?_, fun _ r hr => ?_⟩)
    · refine post3 _ _ _ rs3.b.refl_at ⟨p, vs, rfl, hp, ?_⟩
      have hl := rl.length
      rw [whole_cut ds (by rw [← hl]; exact hw.1) (by rw [← hl]; exact hw.2)]
      exact rl
    · have ba := rs3.b.alloc (o := .tup (cutV vs l u)) hr tup_noT
      exact post3 _ _ _ ba ⟨r, _, rfl, .inl (.inl upd_same), (cut_rep rl).mono ba.sub0⟩
  | str s =>
    obtain ⟨rfl, o⟩ := q
    refine .inr (.inr ⟨_, rfl, o.line, ?_⟩)
    rw [cutS_eq]
    exact post3 _ _ _ rs3.b.refl_at ⟨rfl, Nat.le_trans (cut_len s l u) o.1, fun c hc => o.2 c (cut_mem hc)⟩
  | _ => exact post3.elim
/-! ### argument lists, displays -/
def mNil : ME (List D) := fun _ w => .ok [] w
def mCons (m : ME D) (r : ME (List D)) : ME (List D) := fun sd w => (m sd w).bind fun d w1 => (r sd w1).bind fun ds w2 => .ok (d :: ds) w2
theorem ja_nil : JA X G Wx [] tNil mNil := ⟨pa_nil, fun sd w σ H Hs Q rs post => post _ H Hs rs.b.refl_at rfl⟩
theorem ja_cons {es : List Expr} {t : TA} {m : ME (List D)} (ha : JE X G Wx a ta ma) (hr : JA X G Wx es t m) (hs : starEach (a :: es) X.env = (false, eval a X.env) :: starEach es X.env := by rfl) : JA X G Wx (a :: es) (tCons ta t) (mCons ma m) := by
  refine ⟨pa_cons ha.pe hr.pe hs, fun sd w σ H Hs Q rs post => ?_⟩
  refine ha.si.bind rs post fun d w1 v H1 Hs1 rs1 b1 q1 post1 => ?_
  refine hr.si.bind rs1 post1 fun ds w2 vs H2 Hs2 rs2 b2 q2 post2 => ?_
  exact post2 _ H2 Hs2 rs2.b.refl_at ⟨v, vs, rfl, q1.mono b2.sub0, q2⟩
def mTup (m : ME (List D)) : ME D := fun sd w => (m sd w).bind fun ds w1 => if ds.length ≤ 1000 then .ok (.tup ds) w1 else .bad
def mLst (m : ME (List D)) : ME D := fun sd w => (m sd w).bind fun ds w1 => if ds.length ≤ 1000 then .ok (.lst ds) w1 else .bad
variable {es : List Expr} {t : TA} {m : ME (List D)}
theorem je_tup {x1} (h : JA X G Wx es t m) : JE X G Wx (.Tuple es x1 pos) (tTup t) (mTup m) := by
  refine ⟨pe_tup h.pe, fun sd w σ H Hs Q rs post => ?_⟩
  refine h.si.bind rs post fun ds w1 vs H1 Hs1 rs1 b1 q1 post1 => ?_
  split at post1
  · rename_i hl
    refine ⟨Nat.le_of_lt (small1000 (by rw [q1.length]; exact hl)), fun p hp => ?_⟩
    have ba := rs1.b.alloc (o := .tup vs) hp tup_noT
    exact post1 _ _ _ ba ⟨p, vs, rfl, .inl (.inl upd_same), q1.mono ba.sub0⟩
  · exact post1.elim
theorem je_lst (h : JA X G Wx es t m) : JE X G Wx (.List es pos) (tLst t) (mLst m) := by
  refine ⟨pe_lst h.pe, fun sd w σ H Hs Q rs post => ?_⟩
  refine h.si.bind rs post fun ds w1 vs H1 Hs1 rs1 b1 q1 post1 => ?_
  split at post1
  · rename_i hl
    refine ⟨Nat.le_of_lt (small1000 (by rw [q1.length]; exact hl)), fun p hp => ?_⟩
    have ba := rs1.b.alloc (o := .lst vs) hp lst_noT
    exact post1 _ _ _ ba ⟨p, vs, rfl, upd_same, q1.mono ba.sub0⟩
  · exact post1.elim
/-! ### built-in calls -/
def RepBL (c : Cc) (H Hs : Hp) : List D → List V → Prop
  | [], vs => vs = []
  | d :: ds, vs => ∃ v r, vs = v :: r ∧ RepB c H Hs d v ∧ RepBL c H Hs ds r
abbrev ρBL (G : Gh) : Hp → Hp → List D → List V → Prop := fun H Hs d v => RepBL G.c H Hs d v
theorem RepBL.step {w' : List D} {H Hs H' Hs' : Hp} (b : B (G.at_ H Hs) w' H' Hs') : ∀ {ds : List D} {vs : List V}, RepBL G.c H Hs ds vs → RepBL G.c H' Hs' ds vs
  | [], _, h => h
  | _ :: _, _, ⟨v, r, h1, h2, h3⟩ => ⟨v, r, h1, h2.step b, RepBL.step b h3⟩
structure JAB (X : Cx) (G : Gh) (Wx : WX) (es : List Expr) (t : TA) (m : ME (List D)) : Prop where
  pe : PA X es t
  si : Sim G Wx (ρBL G) t m
theorem jab_nil : JAB X G Wx [] tNil mNil := ⟨pa_nil, fun sd w σ H Hs Q rs post => post _ H Hs rs.b.refl_at rfl⟩
theorem jab_cons {es : List Expr} {t : TA} {m : ME (List D)} (ha : JB X G Wx a ta ma) (hr : JAB X G Wx es t m) (hs : starEach (a :: es) X.env = (false, eval a X.env) :: starEach es X.env := by rfl) : JAB X G Wx (a :: es) (tCons ta t) (mCons ma m) := by
  refine ⟨pa_cons ha.pe hr.pe hs, fun sd w σ H Hs Q rs post => ?_⟩
  refine ha.si.bind rs post fun d w1 v H1 Hs1 rs1 b1 q1 post1 => ?_
  refine hr.si.bind rs1 post1 fun ds w2 vs H2 Hs2 rs2 b2 q2 post2 => ?_
  exact post2 _ H2 Hs2 rs2.b.refl_at ⟨v, vs, rfl, q1.step b2, q2⟩
/-- what a call by values makes of data -/
def CallD (G : Gh) (r : List V → Hp → VK → Prop) (f : List D → List D → Option D) : Prop := ∀ w H Hs xs ds d (Q : VK), B G w H Hs → RepBL G.c H Hs ds xs → f w ds = some d → (∀ v H' Hs', B (G.at_ H Hs) w H' Hs' → Rep G.c Hs' d v → Q v H') → r xs H Q
def mCB (f : List D → List D → Option D) (m : ME (List D)) : ME D := fun sd w => (m sd w).bind fun ds w1 => match f w1 ds with
  | some d => .ok d w1
  | none => .bad
theorem sim_cb {r : List V → Hp → VK → Prop} {f : List D → List D → Option D} (hf : CallD G r f) (h : Sim G Wx (ρBL G) t m) : Sim G Wx (ρE G) (tCB r t) (mCB f m) := by
  intro sd w σ H Hs Q rs post
  refine h.bind rs post fun ds w1 vs H1 Hs1 rs1 b1 q1 post1 => ?_
  cases e : f w1 ds with
  | none => rw [e] at post1; exact post1.elim
  | some d =>
    rw [e] at post1
    exact hf w1 H1 Hs1 vs ds d Q rs1.b q1 e post1
theorem je_callB {id : String} {x : Str} {p : Pos} {e : Expr} {r : List V → Hp → VK → Prop} {f : List D → List D → Option D} (hc : CallR X (.builtin id) r) (hf : CallD G r f) (hg : Gl X x) (hm : X.mg x = none) (hv : bootBuiltins x = some (.builtin id)) (ha : JAB X G Wx (e :: es) t m)
    (hn : x ≠ "__name__" := by decide) (hdb : (x == ("__debug__" : Str)) = false := by decide)
    (he : starEach (e :: es) X.env = (false, eval e X.env) :: starEach es X.env := by rfl) (hpl : (backTo pos (starEach es X.env)).any (·.1) = false := by rfl) : JE X G Wx (.Call (.Name x p) (e :: es) [] pos) (tCB r t) (mCB f m) :=
  ⟨pe_callB hc hg hm hv ha.pe hn hdb he hpl, sim_cb hf ha.si⟩
theorem je_callTy {T : String} {x : Str} {p : Pos} {e : Expr} {r : List V → Hp → VK → Prop} {f : List D → List D → Option D} (hc : CallR X (.type T) r) (hf : CallD G r f) (hg : Gl X x) (hm : X.mg x = none) (hv : bootBuiltins x = some (.type T)) (ha : JAB X G Wx (e :: es) t m)
    (hn : x ≠ "__name__" := by decide) (hdb : (x == ("__debug__" : Str)) = false := by decide)
    (he : starEach (e :: es) X.env = (false, eval e X.env) :: starEach es X.env := by rfl) (hpl : (backTo pos (starEach es X.env)).any (·.1) = false := by rfl) : JE X G Wx (.Call (.Name x p) (e :: es) [] pos) (tCB r t) (mCB f m) :=
  ⟨pe_callTy hc hg hm hv ha.pe hn hdb he hpl, sim_cb hf ha.si⟩
theorem repBL1 {c : Cc} {H Hs : Hp} {d : D} {xs : List V} (h : RepBL c H Hs [d] xs) : ∃ v, xs = [v] ∧ RepB c H Hs d v := by
  obtain ⟨v, r, rfl, h1, h2⟩ := h
  exact ⟨v, by rw [show r = [] from h2], h1⟩
theorem repBL2 {c : Cc} {H Hs : Hp} {d e : D} {xs : List V} (h : RepBL c H Hs [d, e] xs) : ∃ v u, xs = [v, u] ∧ RepB c H Hs d v ∧ RepB c H Hs e u := by
  obtain ⟨v, r, rfl, h1, h2⟩ := h
  obtain ⟨u, rfl, h3⟩ := repBL1 h2
  exact ⟨v, u, rfl, h1, h3⟩
def fLen : List D → List D → Option D
  | _, [.str s] => some (.int s.length)
  | _, [.lst ds] => some (.int ds.length)
  | _, [.tup ds] => some (.int ds.length)
  | _, [.frz ds] => some (.int ds.length)
  | w, [.pen] => some (.int w.length)
  | _, _ => none
theorem cd_len {K : PySem.W.Frag} (hK : K = G.c.K) : CallD G (fun xs H Q => ∃ x n, xs = [x] ∧ LenV K x H n ∧ Q (.int n) H) fLen := by
  subst hK
  intro w H Hs xs ds d Q hb h e q
  unfold fLen at e
  split at e
  · cases e
    obtain ⟨v, rfl, rfl, o⟩ := repBL1 h
    exact ⟨_, _, rfl, ⟨o.line, rfl⟩, q _ H Hs hb.refl_at (by simp [Rep, str_len])⟩
  · cases e
    obtain ⟨v, rfl, p, vs, rfl, hp, rl, _⟩ := repBL1 h
    exact ⟨_, _, rfl, .inl ⟨vs, .inl (.inl hp), rfl⟩, q _ H Hs hb.refl_at (by rw [rl.length]; rfl)⟩
  · cases e
    obtain ⟨v, rfl, p, vs, rfl, hp, rl⟩ := repBL1 h
    exact ⟨_, _, rfl, .inr ⟨vs, sqT_mono hb.sub hp, rfl⟩, q _ H Hs hb.refl_at (by rw [rl.length]; rfl)⟩
  · cases e
    obtain ⟨v, rfl, p, vs, rfl, hp, rl⟩ := repBL1 h
    exact ⟨_, _, rfl, .inl ⟨vs, hb.sub.seq hp, rfl⟩, q _ H Hs hb.refl_at (by rw [rl.length]; rfl)⟩
  · cases e
    obtain ⟨v, rfl, p, hp, rfl⟩ := repBL1 h
    obtain ⟨⟨vs, hv, rl⟩, _⟩ := hb.pen p hp
    exact ⟨_, _, rfl, .inl ⟨vs, .inl (.inl hv), rfl⟩, q _ H Hs hb.refl_at (by rw [rl.length]; rfl)⟩
  · cases e
variable {p : Pos} {e : Expr}
theorem je_len (hm : X.mg "len" = none) (ha : JAB X G Wx [e] t m) (hg : Gl X "len" := by rfl) (hK : X.K = G.c.K := by rfl) (he : starEach [e] X.env = [(false, eval e X.env)] := by rfl) : JE X G Wx (.Call (.Name "len" p) [e] [] pos) (tCB (fun xs H Q => ∃ x n, xs = [x] ∧ LenV G.c.K x H n ∧ Q (.int n) H) t) (mCB fLen m) :=
  je_callB (by rw [← hK]; exact call_len) (cd_len rfl) hg hm PySem.boot_len ha (by decide) (by decide) he rfl
def fInt : List D → List D → Option D
  | _, [.int i] => some (.int i)
  | _, [.bl b] => some (.int (if b then 1 else 0))
  | _, _ => none
theorem cd_int : CallD G (fun xs H Q => (∃ i, xs = [V.int i] ∧ Q (.int i) H) ∨ ∃ k, xs = [.bl k] ∧ Q (.int (if k then 1 else 0)) H) fInt := by
  intro w H Hs xs ds d Q hb h e q
  unfold fInt at e
  split at e
  · cases e
    obtain ⟨v, rfl, rfl⟩ := repBL1 h
    exact .inl ⟨_, rfl, q _ H Hs hb.refl_at rfl⟩
  · cases e
    obtain ⟨v, rfl, rfl⟩ := repBL1 h
    exact .inr ⟨_, rfl, q _ H Hs hb.refl_at rfl⟩
  · cases e
theorem je_int1 (hm : X.mg "int" = none) (ha : JAB X G Wx [e] t m) (hg : Gl X "int" := by rfl) (he : starEach [e] X.env = [(false, eval e X.env)] := by rfl) : JE X G Wx (.Call (.Name "int" p) [e] [] pos) (tCB (fun xs H Q => (∃ i, xs = [V.int i] ∧ Q (.int i) H) ∨ ∃ k, xs = [.bl k] ∧ Q (.int (if k then 1 else 0)) H) t) (mCB fInt m) :=
  je_callTy call_int1 cd_int hg hm (by decide +kernel) ha (by decide) (by decide) he rfl
def fAbs : List D → List D → Option D
  | _, [.int i] => some (.int (if i < 0 then -i else i))
  | _, _ => none
theorem je_abs (hm : X.mg "abs" = none) (ha : JAB X G Wx [e] t m) (hg : Gl X "abs" := by rfl) (he : starEach [e] X.env = [(false, eval e X.env)] := by rfl) : JE X G Wx (.Call (.Name "abs" p) [e] [] pos) (tCB (fun xs H Q => ∃ i, xs = [V.int i] ∧ Q (.int (if i < 0 then -i else i)) H) t) (mCB fAbs m) :=
  je_callB call_abs (by
    intro w H Hs xs ds d Q hb h e q
    unfold fAbs at e
    split at e
    · cases e
      obtain ⟨v, rfl, rfl⟩ := repBL1 h
      exact ⟨_, rfl, q _ H Hs hb.refl_at rfl⟩
    · cases e) hg hm (by decide +kernel) ha (by decide) (by decide) he rfl
/-- all its items bools -/
def bools : List D → Option (List Bool)
  | [] => some []
  | .bl b :: ds => (bools ds).map (b :: ·)
  | _ => none
theorem bools_rep {c : Cc} {H : Hp} : ∀ {ds : List D} {bs : List Bool} {vs : List V}, bools ds = some bs → RepL c H ds vs → vs = bs.map V.bl
  | [], bs, vs, e, h => by cases e; exact h
  | .bl b :: ds, bs, vs, e, ⟨v, r, h1, h2, h3⟩ => by
    simp only [bools] at e
    cases e1 : bools ds with
    | none => rw [e1] at e; cases e
    | some bs' =>
      rw [e1] at e
      cases e
      rw [h1, show v = .bl b from h2, bools_rep e1 h3]; rfl
  | .non :: ds, _, _, e, _ => by cases e
  | .int _ :: ds, _, _, e, _ => by cases e
  | .str _ :: ds, _, _, e, _ => by cases e
  | .lst _ :: ds, _, _, e, _ => by cases e
  | .tup _ :: ds, _, _, e, _ => by cases e
  | .frz _ :: ds, _, _, e, _ => by cases e
  | .pen :: ds, _, _, e, _ => by cases e
  | .obj _ _ _ :: ds, _, _, e, _ => by cases e
  | .dct _ _ :: ds, _, _, e, _ => by cases e
  | .dcT _ _ :: ds, _, _, e, _ => by cases e
def fAll : List D → List D → Option D
  | _, [.lst ds] => (bools ds).map fun bs => .bl (bs.all id)
  | _, _ => none
def fAny : List D → List D → Option D
  | _, [.lst ds] => (bools ds).map fun bs => .bl (bs.any id)
  | _, _ => none
theorem cd_all {K : PySem.W.Frag} (hK : K = G.c.K) : CallD G (rAll K) fAll := by
  subst hK
  intro w H Hs xs ds d Q hb h e q
  unfold fAll at e
  split at e
  · rename_i ds
    obtain ⟨v, rfl, p, vs, rfl, hp, rl, _⟩ := repBL1 h
    cases e1 : bools ds with
    | none => rw [e1] at e; cases e
    | some bs =>
      rw [e1] at e
      cases e
      rw [bools_rep e1 rl] at hp
      exact ⟨p, bs, rfl, .inl (.inl hp), q _ H Hs hb.refl_at rfl⟩
  · cases e
theorem cd_any {K : PySem.W.Frag} (hK : K = G.c.K) : CallD G (rAny K) fAny := by
  subst hK
  intro w H Hs xs ds d Q hb h e q
  unfold fAny at e
  split at e
  · rename_i ds
    obtain ⟨v, rfl, p, vs, rfl, hp, rl, _⟩ := repBL1 h
    cases e1 : bools ds with
    | none => rw [e1] at e; cases e
    | some bs =>
      rw [e1] at e
      cases e
      rw [bools_rep e1 rl] at hp
      exact ⟨p, bs, rfl, .inl (.inl hp), q _ H Hs hb.refl_at rfl⟩
  · cases e
theorem je_all (hm : X.mg "all" = none) (ha : JAB X G Wx [e] t m) (hc : X.calm = true := by rfl) (hg : Gl X "all" := by rfl) (hK : X.K = G.c.K := by rfl) (he : starEach [e] X.env = [(false, eval e X.env)] := by rfl) : JE X G Wx (.Call (.Name "all" p) [e] [] pos) (tCB (rAll G.c.K) t) (mCB fAll m) :=
  je_callB (by rw [← hK]; exact cr_all hc) (cd_all rfl) hg hm (by decide +kernel) ha (by decide) (by decide) he rfl
theorem je_any (hm : X.mg "any" = none) (ha : JAB X G Wx [e] t m) (hc : X.calm = true := by rfl) (hg : Gl X "any" := by rfl) (hK : X.K = G.c.K := by rfl) (he : starEach [e] X.env = [(false, eval e X.env)] := by rfl) : JE X G Wx (.Call (.Name "any" p) [e] [] pos) (tCB (rAny G.c.K) t) (mCB fAny m) :=
  je_callB (by rw [← hK]; exact cr_any hc) (cd_any rfl) hg hm (by decide +kernel) ha (by decide) (by decide) he rfl
def fTuple : List D → List D → Option D
  | _, [.lst ds] => some (.tup ds)
  | _, [.tup ds] => some (.tup ds)
  | _, _ => none
def rTupleOf (K : PySem.W.Frag) : List V → Hp → VK → Prop := fun xs H Q => ∃ p ys, xs = [.ref p] ∧ ((SqL K H p ys ∧ ∀ l, H l = none → Q (.ref l) (upd H l (.tup ys))) ∨ (SqT K H p ys ∧ Q (.ref p) H))
theorem cd_tuple {K : PySem.W.Frag} (hK : K = G.c.K) : CallD G (rTupleOf K) fTuple := by
  subst hK
  intro w H Hs xs ds d Q hb h e q
  unfold fTuple at e
  split at e
  · cases e
    obtain ⟨v, rfl, p, vs, rfl, hp, rl, _⟩ := repBL1 h
    refine ⟨p, vs, rfl, .inl ⟨.inl (.inl hp), fun l hl => ?_⟩⟩
    have ba := hb.alloc (o := .tup vs) hl tup_noT
    exact q _ _ _ ba ⟨l, vs, rfl, .inl (.inl upd_same), rl.mono ba.sub0⟩
  · cases e
    obtain ⟨v, rfl, p, vs, rfl, hp, rl⟩ := repBL1 h
    exact ⟨p, vs, rfl, .inr ⟨sqT_mono hb.sub hp, q _ H Hs hb.refl_at ⟨p, vs, rfl, hp, rl⟩⟩⟩
  · cases e
theorem je_tuple (hm : X.mg "tuple" = none) (ha : JAB X G Wx [e] t m) (hg : Gl X "tuple" := by rfl) (hK : X.K = G.c.K := by rfl) (he : starEach [e] X.env = [(false, eval e X.env)] := by rfl) : JE X G Wx (.Call (.Name "tuple" p) [e] [] pos) (tCB (rTupleOf G.c.K) t) (mCB fTuple m) :=
  je_callTy (by rw [← hK]; exact call_tuple_of) (cd_tuple rfl) hg hm (by decide +kernel) ha (by decide) (by decide) he rfl
def fList : List D → List D → Option D
  | _, [.lst ds] => some (.lst ds)
  | _, [.tup ds] => some (.lst ds)
  | _, [.frz ds] => some (.lst ds)
  | _, _ => none
def rListOf (K : PySem.W.Frag) : List V → Hp → VK → Prop := fun xs H Q => ∃ p ys, xs = [.ref p] ∧ (SqL K H p ys ∨ SqT K H p ys) ∧ ∀ l, H l = none → Q (.ref l) (upd H l (.lst ys))
theorem cd_list {K : PySem.W.Frag} (hK : K = G.c.K) : CallD G (rListOf K) fList := by
  subst hK
  intro w H Hs xs ds d Q hb h e q
  unfold fList at e
  split at e
  · cases e
    obtain ⟨v, rfl, p, vs, rfl, hp, rl, _⟩ := repBL1 h
    refine ⟨p, vs, rfl, .inl (.inl (.inl hp)), fun l hl => ?_⟩
    have ba := hb.alloc (o := .lst vs) hl lst_noT
    exact q _ _ _ ba ⟨l, vs, rfl, upd_same, rl.mono ba.sub0⟩
  · cases e
    obtain ⟨v, rfl, p, vs, rfl, hp, rl⟩ := repBL1 h
    refine ⟨p, vs, rfl, .inr (sqT_mono hb.sub hp), fun l hl => ?_⟩
    have ba := hb.alloc (o := .lst vs) hl lst_noT
    exact q _ _ _ ba ⟨l, vs, rfl, upd_same, rl.mono ba.sub0⟩
  · cases e
    obtain ⟨v, rfl, p, vs, rfl, hp, rl⟩ := repBL1 h
    refine ⟨p, vs, rfl, .inl (hb.sub.seq hp), fun l hl => ?_⟩
    have ba := hb.alloc (o := .lst vs) hl lst_noT
    exact q _ _ _ ba ⟨l, vs, rfl, upd_same, rl.mono ba.sub0⟩
  · cases e
theorem je_list (hm : X.mg "list" = none) (ha : JAB X G Wx [e] t m) (hg : Gl X "list" := by rfl) (hK : X.K = G.c.K := by rfl) (he : starEach [e] X.env = [(false, eval e X.env)] := by rfl) : JE X G Wx (.Call (.Name "list" p) [e] [] pos) (tCB (rListOf G.c.K) t) (mCB fList m) :=
  je_callTy (by rw [← hK]; exact call_list_of) (cd_list rfl) hg hm (by decide +kernel) ha (by decide) (by decide) he rfl
end
end FT
end
section
set_option Elab.async false
set_option linter.all false
set_option maxRecDepth 100000
set_option maxHeartbeats 4000000
namespace FT
open PySem PySem.Spec PyProof.Rows L2
section
variable {X : Cx} {G : Gh} {Wx : WX} {w w' w1 w2 : List D} {H Hs H' Hs' H1 Hs1 H2 Hs2 : Hp} {sd : SD} {σ : L2.St}
/-! ### isinstance -/
def tyN : D → Option String
  | .non => some "NoneType"
  | .bl _ => some "bool"
  | .int _ => some "int"
  | .str _ => some "str"
  | .lst _ => some "list"
  | .frz _ => some "list"
  | .tup _ => some "tuple"
  | _ => none
def isiB (a b : String) : Bool := a == b || (a == "bool" && b == "int")
def tyNs : List String := ["NoneType", "bool", "int", "str", "list", "tuple"]
theorem kit_tab : (tyNs.all fun a => tyNs.all fun b => decide (kitB a b = some (isiB a b))) = true := by decide +kernel
theorem kit_at {a b : String} (ha : a ∈ tyNs) (hb : b ∈ tyNs) : kitB a b = some (isiB a b) :=
  of_decide_eq_true (List.all_eq_true.mp (List.all_eq_true.mp kit_tab a ha) b hb)
theorem tyN_mem {d : D} {t : String} (e : tyN d = some t) : t ∈ tyNs := by
  cases d <;> simp only [tyN, Option.some.injEq] at e <;> first | (subst e; decide) | cases e
theorem tyX_sqT {K : PySem.W.Frag} {a : Addr} {xs : List V} (h : SqT K H a xs) : TyX K H (.ref a) (.type "tuple") := by
  rcases h with (h | ⟨o, h⟩) | ⟨o, its, n, h1, h2, _⟩
  · exact .base (.tup h)
  · exact .fTuple h
  · exact .kTuple h1 h2
theorem tyX_sqL {K : PySem.W.Frag} {a : Addr} {xs : List V} (h : SqL K H a xs) : TyX K H (.ref a) (.type "list") := by
  rcases h with (h | ⟨o, h⟩) | ⟨o, its, n, h1, h2, _⟩
  · exact .base (.lst h)
  · exact .base (.frz h)
  · exact .kList h1 h2
theorem tyX_of {d : D} {v : V} {t : String} (b : B G w H Hs) (r : RepB G.c H Hs d v) (e : tyN d = some t) : TyX G.c.K H v (.type t) := by
  cases d with
  | non => rw [show v = .non from r]; cases e; exact .base .non
  | bl c => rw [show v = .bl c from r]; cases e; exact .base (.bl c)
  | int i => rw [show v = .int i from r]; cases e; exact .base (.int i)
  | str s => obtain ⟨rfl, _⟩ := r; cases e; exact .base (.str _)
  | lst ds => obtain ⟨a, vs, rfl, h, _⟩ := r; cases e; exact .base (.lst h)
  | tup ds => obtain ⟨a, vs, rfl, h, _⟩ := r; cases e; exact tyX_sqT (sqT_mono b.sub h)
  | frz ds => obtain ⟨a, vs, rfl, h, _⟩ := r; cases e; exact tyX_sqL (b.sub.seq h)
  | _ => cases e
def mIsi (Ts : List String) (m : ME D) : ME D := fun sd w => (m sd w).bind fun d w1 => match tyN d with
  | some t => .ok (.bl (Ts.any fun T => isiB t T)) w1
  | none => .bad
variable {e : Expr} {te : TE} {m : ME D} {p p2 pos : Pos}
theorem je_isi (T : Str) (Ts : String) (hT : Ts ∈ tyNs) (hm : X.mg "isinstance" = none) (hmT : X.mg T = none) (hv : bootBuiltins T = some (.type Ts)) (ha : JB X G Wx e te m) (hg : Gl X "isinstance" := by rfl) (hgT : Gl X T := by rfl) (hnT : T ≠ "__name__" := by decide) (hdT : (T == ("__debug__" : Str)) = false := by decide) (hK : X.K = G.c.K := by rfl)
    (hs : starEach (e :: [.Name T p2]) X.env = (false, eval e X.env) :: starEach [.Name T p2] X.env := by rfl) :
    JE X G Wx (.Call (.Name "isinstance" p) [e, .Name T p2] [] pos) (tCB (rIsi G.c.K) (tCons te (tCons (tC (.ty Ts)) tNil))) (mIsi [Ts] m) := by
  refine ⟨by rw [← hK]; exact pe_callB call_isi hg hm (by decide +kernel) (pa_cons ha.pe (pa_cons (pe_bltn hgT hmT hv rfl hnT hdT) pa_nil) hs) (he := hs), fun sd w σ H Hs Q rs post => ?_⟩
  refine ha.si.bind rs post fun d w1 v H1 Hs1 rs1 b1 q1 post1 => ?_
  cases e1 : tyN d with
  | none => rw [e1] at post1; exact post1.elim
  | some t =>
    rw [e1] at post1
    refine ⟨v, .ty Ts, .type t, .type Ts, isiB t Ts, rfl, .ty Ts, tyX_of rs1.b q1 e1, kit_ty (kit_at (tyN_mem e1) hT), ?_⟩
    exact post1 _ H1 Hs1 rs1.b.refl_at (by simp [Rep])
theorem je_isi2 (T U : Str) (Ts Us : String) (hT : Ts ∈ tyNs) (hU : Us ∈ tyNs) (hm : X.mg "isinstance" = none) (hmT : X.mg T = none) (hmU : X.mg U = none) (hv : bootBuiltins T = some (.type Ts)) (hvU : bootBuiltins U = some (.type Us)) {k : Nat} {p3 p4 : Pos} (ha : JB X G Wx e te m) (hg : Gl X "isinstance" := by rfl)
    (hgT : Gl X T := by rfl) (hnT : T ≠ "__name__" := by decide) (hdT : (T == ("__debug__" : Str)) = false := by decide) (hgU : Gl X U := by rfl) (hnU : U ≠ "__name__" := by decide) (hdU : (U == ("__debug__" : Str)) = false := by decide) (hK : X.K = G.c.K := by rfl)
    (hs : starEach (e :: [.Tuple [.Name T p2, .Name U p3] k p4]) X.env = (false, eval e X.env) :: starEach [.Tuple [.Name T p2, .Name U p3] k p4] X.env := by rfl) :
    JE X G Wx (.Call (.Name "isinstance" p) [e, .Tuple [.Name T p2, .Name U p3] k p4] [] pos) (tCB (rIsiT G.c.K) (tCons te (tCons (tTup (tCons (tC (.ty Ts)) (tCons (tC (.ty Us)) tNil))) tNil))) (mIsi [Ts, Us] m) := by
  refine ⟨by rw [← hK]; exact pe_callB call_isiT hg hm (by decide +kernel) (pa_cons ha.pe (pa_cons (pe_tup (pa_cons (pe_bltn hgT hmT hv rfl hnT hdT) (pa_cons (pe_bltn hgU hmU hvU rfl hnU hdU) pa_nil))) pa_nil) hs) (he := hs), fun sd w σ H Hs Q rs post => ?_⟩
  refine ha.si.bind rs post fun d w1 v H1 Hs1 rs1 b1 q1 post1 => ?_
  cases e1 : tyN d with
  | none => rw [e1] at post1; exact post1.elim
  | some t =>
    rw [e1] at post1
    refine ⟨Nat.le_of_lt (small1000 (by show 2 ≤ 1000; decide)), fun tp htp => ?_⟩
    have ba := rs1.b.alloc (o := .tup [V.ty Ts, V.ty Us]) htp tup_noT
    have b2 := rs1.b.trans ba
    refine ⟨v, tp, [.ty Ts, .ty Us], .type t, [.type Ts, .type Us], [Ts, Us].any fun T => isiB t T, rfl, upd_same, .cons (.ty Ts) (.cons (.ty Us) .nil), tyX_of b2 (q1.step ba) e1, ?_, ?_⟩
    · refine kitAny_cons (kit_ty (kit_at (tyN_mem e1) hT)) (fun h1 => ?_) (fun h1 => by simp [h1])
      refine kitAny_cons (kit_ty (kit_at (tyN_mem e1) hU)) (fun h2 => ?_) (fun h2 => by simp [h2])
      rw [kitAny_nil]; simp [h1, h2]
    · exact post1 _ _ _ ba (by simp [Rep])
/-! ### the promise of a def with a mirror; its call -/
abbrev gh (K : PySem.W.Frag) (cl : Nat → Addr) (T : List (Addr × Str)) (ap : Option Addr) (HP H Hs : Hp) : Gh := { c := ⟨K, ap, cl⟩, HP := HP, T := T, H0 := H, Hs0 := Hs }
def spF (K : PySem.W.Frag) (cl : Nat → Addr) (T : List (Addr × Str)) (n : Nat) (fm : List D → List D → R D) : Sp := fun vs H Q E => ∃ (ap : Option Addr) (HP Hs : Hp) (ds w : List D),
  B (gh K cl T ap HP H Hs) w H Hs ∧ RepL ⟨K, ap, cl⟩ Hs ds vs ∧ ds.length = n ∧ Post (gh K cl T ap HP H Hs) (fun c d _ H => E c d H) [] H Hs (ρE (gh K cl T ap HP H Hs)) Q (fm ds w)
def mCall (f : List D → List D → R D) (m : ME (List D)) : ME D := fun sd w => (m sd w).bind fun ds w1 => f ds w1
/-- the arguments that are written, then the defaults -/
def mDfl (dv : List D) (m : ME (List D)) : ME (List D) := fun sd w => (m sd w).bind fun ds w1 => .ok (ds ++ dv) w1
def nArg (n : Nat) (f : List D → List D → R D) : List D → List D → R D := fun ds w => if ds.length = n then f ds w else .bad
theorem B.noSf (b : B (G.at_ H1 Hs1) w H Hs) : B (gh G.c.K G.c.cl G.T G.c.ap G.HP H1 Hs1) w H Hs := ⟨b.sub, b.sub0, b.keep, b.new, b.pen, b.penH, b.nt, b.tab⟩
theorem B.toSf (b : B (gh G.c.K G.c.cl G.T G.c.ap G.HP H1 Hs1) w H Hs) : B (G.at_ H1 Hs1) w H Hs := ⟨b.sub, b.sub0, b.keep, b.new, b.pen, b.penH, b.nt, b.tab⟩
theorem Post.noSf {α β : Type} {ρ : Hp → Hp → α → β → Prop} {Q : β → Hp → Prop} {r : R α} (h : Post G Wx σ H Hs ρ Q r) : Post (gh G.c.K G.c.cl G.T G.c.ap G.HP H Hs) Wx σ H Hs ρ Q r := by
  cases r with
  | ok d w' => exact fun v H' Hs' b q => h v H' Hs' b.toSf q
  | exc c ns ds w' => exact fun dd H' Hs' b q => h dd H' Hs' b.toSf q
  | bad => exact h
theorem call_post {n : Nat} {fm : List D → List D → R D} {ds : List D} {vs : List V} {Q : VK} (b : B G w H Hs) (q : RepL G.c Hs ds vs) (post : Post G Wx σ H Hs (ρE G) Q (nArg n fm ds w)) : spF G.c.K G.c.cl G.T n fm vs H Q (fun c d H => Wx c d σ H) := by
  unfold nArg at post
  split at post
  · rename_i hn
    exact ⟨G.c.ap, G.HP, Hs, ds, w, b.refl_at.noSf, q, hn, post.noSf⟩
  · exact post.elim
variable {es : List Expr} {t : TA} {ma : ME (List D)} {x : Str} {k n : Nat} {f : Addr} {fd : FuncData} {ps : List Str} {fm : List D → List D → R D}
theorem je_call (F : FnOk X.prog X.w X.K X.mg X.base (L2.CX X.prog X.w) k f fd ps (spF G.c.K G.c.cl G.T n fm)) (hr : Room k X.A) (hm : X.mg x = some (.ref f)) (hk : PySem.W.keepIn X.K (.ref f) = true) (hb : L2.Binds X.K fd ps []) (tk : Takes X Wx)
    (ha : JA X G Wx (e :: es) t ma) (hg : Gl X x := by rfl) (hdb : (x == ("__debug__" : Str)) = false := by decide) (he : starEach (e :: es) X.env = (false, eval e X.env) :: starEach es X.env := by rfl) (hpl : (backTo pos (starEach es X.env)).any (·.1) = false := by rfl) :
    JE X G Wx (.Call (.Name x p) (e :: es) [] pos) (tCallS (spF G.c.K G.c.cl G.T n fm) (WE Wx) t) (mCall (nArg n fm) ma) := by
  refine ⟨pe_callS F hr hg hm hk hb (fun σ => passAt tk σ) ha.pe hdb he hpl, fun sd w σ H Hs Q rs post => ?_⟩
  refine ha.si.bind rs post fun ds w1 vs H1 Hs1 rs1 b1 q1 post1 => ?_
  exact call_post rs1.b q1 post1
/-! ### statements -/
inductive Out where
  | nx (sd : SD) (w : List D)
  | ret (d : D) (w : List D)
  | brk (sd : SD) (w : List D)
  | cnt (sd : SD) (w : List D)
  | exc (sd : SD) (c : Nat) (ns : List Str) (ds : List D) (w : List D)
  | bad
abbrev MS := SD → List D → Out
def PostS (G : Gh) (Wx : WX) (Hs : Hp) (De : Ends) : Out → Prop
  | .nx sd' w' => ∀ σ' H' Hs', RS G sd' w' σ' H' Hs' → Same Hs Hs' → De.nx σ' H'
  | .ret d w' => ∀ v H' Hs', B G w' H' Hs' → Rep G.c Hs' d v → De.rt v H'
  | .brk sd' w' => ∀ σ' H' Hs', RS G sd' w' σ' H' Hs' → Same Hs Hs' → De.bk σ' H'
  | .cnt sd' w' => ∀ σ' H' Hs', RS G sd' w' σ' H' Hs' → Same Hs Hs' → De.ct σ' H'
  | .exc sd' c ns ds w' => ∀ dd σ' H' Hs', RS G sd' w' σ' H' Hs' → ExcAt G.c H' Hs' dd ns ds → Wx (.ref (G.c.cl c)) (some dd) σ' H'
  | .bad => False
def SimS (G : Gh) (Wx : WX) (t : TS) (m : MS) : Prop := ∀ sd w σ H Hs De, RS G sd w σ H Hs → PostS G Wx Hs De (m sd w) → t De σ H
structure JS (X : Cx) (G : Gh) (Wx : WX) (s : Stmt) (t : TS) (m : MS) : Prop where
  pe : PS X s t
  si : SimS G Wx t m
structure JSs (X : Cx) (G : Gh) (Wx : WX) (s : List Stmt) (t : TS) (m : MS) : Prop where
  pe : PSs X s t
  si : SimS G Wx t m
theorem PostS.shift {De : Ends} {r : Out} (s : Same Hs Hs1) (h : PostS G Wx Hs De r) : PostS G Wx Hs1 De r := by
  cases r with
  | nx sd' w' => exact fun σ' H' Hs' q q2 => h σ' H' Hs' q (s.trans q2)
  | ret d w' => exact h
  | brk sd' w' => exact fun σ' H' Hs' q q2 => h σ' H' Hs' q (s.trans q2)
  | cnt sd' w' => exact fun σ' H' Hs' q q2 => h σ' H' Hs' q (s.trans q2)
  | exc sd' c ns ds w' => exact h
  | bad => exact h
/-- an expression, then the rest of a statement -/
def eb {α : Type} (r : R α) (sd : SD) (k : α → List D → Out) : Out := match r with
  | .ok d w => k d w
  | .exc c ns ds w => .exc sd c ns ds w
  | .bad => .bad
theorem Sim.bindS {α β : Type} {ρ : Hp → Hp → α → β → Prop} {t : L2.St → Hp → (β → Hp → Prop) → Prop} {m : ME α} (s1 : Sim G Wx ρ t m) {k : α → List D → Out} {De : Ends} {R1 : β → Hp → Prop}
    (rs : RS G sd w σ H Hs) (post : PostS G Wx Hs De (eb (m sd w) sd k))
    (cont : ∀ d w1 v H1 Hs1, RS G sd w1 σ H1 Hs1 → B (G.at_ H Hs) w1 H1 Hs1 → ρ H1 Hs1 d v → PostS G Wx Hs1 De (k d w1) → R1 v H1) : t σ H R1 := by
  refine s1 sd w σ H Hs R1 rs ?_
  cases e : m sd w with
  | ok d w1 =>
    rw [e] at post
    exact fun v H' Hs' b q => cont d w1 v H' Hs' (rs.step b) b q (PostS.shift b.sub0 post)
  | exc c ns ds w' =>
    rw [e] at post
    exact fun dd H' Hs' b q => post dd σ H' Hs' (rs.step b) q
  | bad =>
    rw [e] at post
    exact post
def mSkip : MS := fun sd w => .nx sd w
def mSeq (m1 m2 : MS) : MS := fun sd w => match m1 sd w with
  | .nx sd' w' => m2 sd' w'
  | r => r
theorem jss_nil : JSs X G Wx [] tNext mSkip := ⟨pss_nil, fun sd w σ H Hs De rs post => post σ H Hs rs (Same.refl _)⟩
theorem sim_seq {t1 t2 : TS} {m1 m2 : MS} (h1 : SimS G Wx t1 m1) (h2 : SimS G Wx t2 m2) : SimS G Wx (tSeq t1 t2) (mSeq m1 m2) := by
  intro sd w σ H Hs De rs post
  refine h1 sd w σ H Hs _ rs ?_
  unfold mSeq at post
  cases e : m1 sd w with
  | nx sd' w' =>
    rw [e] at post
    exact fun σ' H' Hs' rs' sm => h2 sd' w' σ' H' Hs' De rs' (post.shift sm)
  | ret d w' => rw [e] at post; exact post
  | brk sd' w' => rw [e] at post; exact post
  | cnt sd' w' => rw [e] at post; exact post
  | exc sd' c ns ds w' => rw [e] at post; exact post
  | bad => rw [e] at post; exact post
variable {st : Stmt} {sts : List Stmt} {t1 t2 : TS} {m1 m2 : MS}
theorem jss_cons (h1 : JS X G Wx st t1 m1) (h2 : JSs X G Wx sts t2 m2) : JSs X G Wx (st :: sts) (tSeq t1 t2) (mSeq m1 m2) := ⟨pss_cons h1.pe h2.pe, sim_seq h1.si h2.si⟩
theorem jss_one (h1 : JS X G Wx st t1 m1) : JSs X G Wx [st] t1 m1 := ⟨pss_one h1.pe, h1.si⟩
theorem js_pass : JS X G Wx (.Pass pos) tNext mSkip := ⟨ps_pass, fun sd w σ H Hs De rs post => post σ H Hs rs (Same.refl _)⟩
def mBrk : MS := fun sd w => .brk sd w
def mCnt : MS := fun sd w => .cnt sd w
theorem js_break : JS X G Wx (.Break pos) tBreak mBrk := ⟨ps_break, fun sd w σ H Hs De rs post => post σ H Hs rs (Same.refl _)⟩
theorem js_continue : JS X G Wx (.Continue pos) tCont mCnt := ⟨ps_continue, fun sd w σ H Hs De rs post => post σ H Hs rs (Same.refl _)⟩
def mRet (m : ME D) : MS := fun sd w => eb (m sd w) sd fun d w1 => .ret d w1
theorem js_ret (h : JE X G Wx e te m) : JS X G Wx (.Return (some e) pos) (tRet te) (mRet m) := by
  refine ⟨ps_ret h.pe, fun sd w σ H Hs De rs post => ?_⟩
  exact h.si.bindS rs post fun d w1 v H1 Hs1 rs1 b1 q1 post1 => post1 v H1 Hs1 rs1.b q1
def mRetN : MS := fun sd w => .ret .non w
theorem js_retN : JS X G Wx (.Return none pos) tRetN mRetN := ⟨ps_retN, fun sd w σ H Hs De rs post => post _ H Hs rs.b rfl⟩
def mIf (mt : ME Bool) (m1 m2 : MS) : MS := fun sd w => eb (mt sd w) sd fun b w1 => if b = true then m1 sd w1 else m2 sd w1
theorem js_if {c : Expr} {a b : List Stmt} {tc : TT} {mc : ME Bool} (hc : JT X G Wx c tc mc) (ha : JSs X G Wx a t1 m1) (hb : JSs X G Wx b t2 m2) : JS X G Wx (.If c a b pos) (tIfS tc t1 t2) (mIf mc m1 m2) := by
  refine ⟨ps_if hc.pe ha.pe hb.pe, fun sd w σ H Hs De rs post => ?_⟩
  refine hc.si.bindS rs post fun d w1 v H1 Hs1 rs1 b1 q1 post1 => ?_
  obtain rfl : d = v := q1
  cases d with
  | true => exact ha.si sd w1 σ H1 Hs1 De rs1 post1
  | false => exact hb.si sd w1 σ H1 Hs1 De rs1 post1
/-! ### slots -/
theorem get_set {α : Type} {l : List α} {i j : Nat} {x y : α} (h : (l.set i x)[j]? = some y) : (i = j ∧ y = x ∧ i < l.length) ∨ (i ≠ j ∧ l[j]? = some y) := by
  by_cases e : i = j
  · subst e
    have hl : i < l.length := by
      have := (List.getElem?_eq_some_iff.mp h).1
      simpa using this
    rw [List.getElem?_set_self hl] at h
    cases h
    exact .inl ⟨rfl, rfl, hl⟩
  · rw [List.getElem?_set_ne e] at h
    exact .inr ⟨e, h⟩
theorem SL.setVal {i : Nat} {d : D} {v : V} (s : SL G sd σ H Hs) (r : Rep G.c Hs d v) : SL G (sd.set i (.val d)) (σ.set i (some v)) H Hs where
  len := by rw [List.length_set, List.length_set, s.len]
  val := fun j e h => by
    rcases get_set h with ⟨rfl, h2, h3⟩ | ⟨hn, h2⟩
    · cases h2
      exact ⟨v, List.getElem?_set_self (by rw [s.len]; exact h3), r⟩
    · rw [List.getElem?_set_ne hn]; exact s.val j e h2
  own := fun j es h => by
    rcases get_set h with ⟨rfl, h2, h3⟩ | ⟨hn, h2⟩
    · cases h2
    · rw [List.getElem?_set_ne hn]; exact s.own j es h2
  sep := fun j l es fs a h1 h2 h3 h4 => by
    rcases get_set h1 with ⟨rfl, h5, _⟩ | ⟨n1, h5⟩
    · cases h5
    · rcases get_set h2 with ⟨rfl, h6, _⟩ | ⟨n2, h6⟩
      · cases h6
      · rw [List.getElem?_set_ne n1] at h3
        rw [List.getElem?_set_ne n2] at h4
        exact s.sep j l es fs a h5 h6 h3 h4
  prv := fun j p h => by
    rcases get_set h with ⟨rfl, h2, h3⟩ | ⟨hn, h2⟩
    · cases h2
    · rw [List.getElem?_set_ne hn]; exact s.prv j p h2
  sepP := fun j l es fs a h1 h2 h3 h4 => by
    rcases get_set h1 with ⟨rfl, h5, _⟩ | ⟨n1, h5⟩
    · cases h5
    · rcases get_set h2 with ⟨rfl, h6, _⟩ | ⟨n2, h6⟩
      · cases h6
      · rw [List.getElem?_set_ne n1] at h3
        rw [List.getElem?_set_ne n2] at h4
        exact s.sepP j l es fs a h5 h6 h3 h4
theorem RS.setVal {i : Nat} {d : D} {v : V} (s : RS G sd w σ H Hs) (r : Rep G.c Hs d v) : RS G (sd.set i (.val d)) w (σ.set i (some v)) H Hs := ⟨s.b, s.s.setVal r⟩
def NotOwn (d : Addr) (sd : SD) (σ : L2.St) : Prop := (∀ (i : Nat) (ds : List D), sd[i]? = some (SV.own ds) → σ[i]? ≠ some (some (.ref d))) ∧ ∀ (i : Nat) (p : Pv), sd[i]? = some (SV.prv p) → σ[i]? ≠ some (some (.ref d))
/-- js: the slots that are touched; no slot becomes an own one -/
structure Tch (js : List Nat) (sd : SD) (σ : L2.St) (sd' : SD) (σ' : L2.St) : Prop where
  wp : ∀ vs : List Nat, (∀ j ∈ js, j ∈ vs) → wipe σ' vs = wipe σ vs
  no : ∀ d, NotOwn d sd σ → NotOwn d sd' σ'
/-- targets: js, the slots that are touched -/
def SimG (G : Gh) (t : TG) (g : D → SD → Option SD) (js : List Nat) : Prop := ∀ d v sd w σ H Hs Q, RS G sd w σ H Hs → Rep G.c Hs d v → (∀ sd', g d sd = some sd' → ∀ σ', RS G sd' w σ' H Hs → Tch js sd σ sd' σ' → Q σ' H) → (g d sd).isSome = true → t v σ H Q
structure JG (X : Cx) (G : Gh) (tg : Expr) (t : TG) (g : D → SD → Option SD) (js : List Nat) : Prop where
  pe : PG X tg t
  si : SimG G t g js
theorem wipe_set {σ : L2.St} {i : Nat} {x : Option V} : ∀ {vs : List Nat}, i ∈ vs → wipe (σ.set i x) vs = wipe σ vs := by
  intro vs
  induction vs with
  | nil => intro h; cases h
  | cons a vs ih =>
    intro h
    show (wipe (σ.set i x) vs).set a none = (wipe σ vs).set a none
    by_cases hi : i ∈ vs
    · rw [ih hi]
    · have e : a = i := by
        rcases List.mem_cons.mp h with h | h
        · exact h.symm
        · exact absurd h hi
      subst e
      have key : ∀ (vs : List Nat), a ∉ vs → ∀ σ : L2.St, wipe (σ.set a x) vs = (wipe σ vs).set a x := by
        intro vs
        induction vs with
        | nil => intro _ σ; rfl
        | cons b vs ihb =>
          intro hb σ
          show (wipe (σ.set a x) vs).set b none = ((wipe σ vs).set b none).set a x
          rw [ihb (fun z => hb (List.mem_cons_of_mem _ z)) σ]
          rw [List.set_comm _ _ (fun z => hb (by rw [z]; exact List.mem_cons_self))]
      rw [key vs hi σ, List.set_set]
def gN (i : Nat) : D → SD → Option SD := fun d sd => some (sd.set i (.val d))
theorem jg_name {i : Nat} {x : Str} (hN : X.N.Nodup) (hi : X.N[i]? = some x := by rfl) (hx : Loc X.env.scope x := by first | exact Or.inl rfl | exact Or.inr rfl) (hf : X.fn x = true ∨ X.env.scope.names.lookup x = some .local := by first | exact .inl rfl | exact .inr rfl | assumption) : JG X G (.Name x pos) (gName i) (gN i) [i] := by
  refine ⟨pg_name hN hi hx hf, fun d v sd w σ H Hs Q rs r h _ => ?_⟩
  refine h _ rfl _ (rs.setVal r) ⟨fun vs hv => wipe_set (hv i (List.mem_singleton.mpr rfl)), fun a na => ⟨fun j ds hj => ?_, fun j ds hj => ?_⟩⟩
  · rcases get_set hj with ⟨rfl, h2, _⟩ | ⟨hn, h2⟩
    · cases h2
    · rw [List.getElem?_set_ne hn]; exact na.1 j ds h2
  · rcases get_set hj with ⟨rfl, h2, _⟩ | ⟨hn, h2⟩
    · cases h2
    · rw [List.getElem?_set_ne hn]; exact na.2 j ds h2
def SimGs (G : Gh) (t : TGs) (g : List D → SD → Option SD) (js : List Nat) : Prop := ∀ ds vs sd w σ H Hs Q, RS G sd w σ H Hs → RepL G.c Hs ds vs → (∀ sd', g ds sd = some sd' → ∀ σ', RS G sd' w σ' H Hs → Tch js sd σ sd' σ' → Q σ' H) → (g ds sd).isSome = true → t vs σ H Q
structure JGs (X : Cx) (G : Gh) (tg : List Expr) (t : TGs) (g : List D → SD → Option SD) (js : List Nat) : Prop where
  pe : PGs X tg t
  si : SimGs G t g js
def gsNil : List D → SD → Option SD := fun ds sd => match ds with
  | [] => some sd
  | _ => none
def gsCons (g : D → SD → Option SD) (r : List D → SD → Option SD) : List D → SD → Option SD := fun ds sd => match ds with
  | d :: ds => (g d sd).bind fun sd' => r ds sd'
  | [] => none
theorem jgs_nil : JGs X G [] gNil gsNil [] := by
  refine ⟨pgs_nil, fun ds vs sd w σ H Hs Q rs r h hs => ?_⟩
  cases ds with
  | nil => exact ⟨r, h _ rfl σ rs ⟨fun _ _ => rfl, fun _ n => n⟩⟩
  | cons d ds => cases hs
theorem jgs_cons {e : Expr} {es : List Expr} {t : TG} {u : TGs} {g : D → SD → Option SD} {r : List D → SD → Option SD} {js ks : List Nat} (h1 : JG X G e t g js) (h2 : JGs X G es u r ks)
    (hs : (assignEach (e :: es) X.env).map (·.2) = assign e X.env :: (assignEach es X.env).map (·.2) := by rfl) : JGs X G (e :: es) (gCons t u) (gsCons g r) (js ++ ks) := by
  refine ⟨pgs_cons h1.pe h2.pe hs, fun ds vs sd w σ H Hs Q rs rep h ok => ?_⟩
  cases ds with
  | nil => cases ok
  | cons d ds =>
    obtain ⟨v, us, rfl, r1, r2⟩ := rep
    refine ⟨v, us, rfl, ?_⟩
    have ok' : ((g d sd).bind fun sd' => r ds sd').isSome = true := ok
    cases e1 : g d sd with
    | none => rw [e1] at ok'; cases ok'
    | some sd1 =>
      rw [e1] at ok'
      refine h1.si d v sd w σ H Hs _ rs r1 (fun sd' e2 σ' rs' wp => ?_) (by rw [e1]; rfl)
      rw [e1] at e2
      cases e2
      refine h2.si ds us sd1 w σ' H Hs Q rs' r2 (fun sd2 e3 σ2 rs2 wp2 => ?_) ok'
      refine h sd2 (by show ((g d sd).bind fun sd' => r ds sd') = _; rw [e1]; exact e3) σ2 rs2 ⟨fun us hu => ?_, fun a na => wp2.no a (wp.no a na)⟩
      rw [wp2.wp us fun j hj => hu j (List.mem_append_right _ hj), wp.wp us fun j hj => hu j (List.mem_append_left _ hj)]
def gTu (n : Nat) (g : List D → SD → Option SD) : D → SD → Option SD := fun d sd => match d with
  | .tup ds => if ds.length = n then g ds sd else none
  | _ => none
theorem jg_tup {es : List Expr} {k : Nat} {t : TGs} {g : List D → SD → Option SD} {js : List Nat} {n : Nat} (h : JGs X G es t g js) (hc : X.calm = true := by rfl)
    (hn : (assignEach es X.env).length = n := by rfl) (hst : (assignEach es X.env).findIdx? (·.1) = none := by rfl) (hK : X.K = G.c.K := by rfl) : JG X G (.Tuple es k pos) (gTup G.c.K n t) (gTu n g) js := by
  refine ⟨by rw [← hK]; exact pg_tup hc h.pe hn hst, fun d v sd w σ H Hs Q rs r hq ok => ?_⟩
  cases d with
  | tup ds =>
    obtain ⟨a, vs, rfl, h1, h2⟩ := r
    have ok' : (if ds.length = n then g ds sd else none).isSome = true := ok
    split at ok'
    · rename_i hl
      refine ⟨a, vs, rfl, sqT_mono rs.b.sub h1, by rw [h2.length]; exact hl, ?_⟩
      exact h.si ds vs sd w σ H Hs Q rs h2 (fun sd' e => hq sd' (by show (if ds.length = n then g ds sd else none) = _; rw [if_pos hl]; exact e)) ok'
    · cases ok'
  | _ => cases ok
/-- target = value -/
def mAsg (g : D → SD → Option SD) (m : ME D) : MS := fun sd w => eb (m sd w) sd fun d w1 => match g d sd with
  | some sd' => .nx sd' w1
  | none => .bad
theorem sim_asg {tg : TG} {g : D → SD → Option SD} {js : List Nat} (he : Sim G Wx (ρE G) te m) (hg : SimG G tg g js) : SimS G Wx (tAsg te tg) (mAsg g m) := by
  intro sd w σ H Hs De rs post
  refine he.bindS rs post fun d w1 v H1 Hs1 rs1 b1 q1 post1 => ?_
  cases e1 : g d sd with
  | none => rw [e1] at post1; exact post1.elim
  | some sd' =>
    rw [e1] at post1
    refine hg d v sd w1 σ H1 Hs1 _ rs1 q1 (fun sd2 e2 σ' rs2 _ => ?_) (by rw [e1]; rfl)
    rw [e1] at e2
    cases e2
    exact post1 σ' H1 Hs1 rs2 (Same.refl _)
theorem js_set {i : Nat} {x : Str} {pos' : Pos} (hN : X.N.Nodup) (he : JE X G Wx e te m) (hi : X.N[i]? = some x := by rfl) (hx : Loc X.env.scope x := by first | exact Or.inl rfl | exact Or.inr rfl) (hs : swapsWith e (some (.Name x pos')) pos.line X.env = pure false := by rfl) (hf : X.fn x = true ∨ X.env.scope.names.lookup x = some .local := by first | exact .inl rfl | exact .inr rfl | assumption) :
    JS X G Wx (.Assign [.Name x pos'] e pos) (tAsg te (gName i)) (mAsg (gN i) m) := ⟨ps_set hN hi hx he.pe hs hf, sim_asg he.si (jg_name (X := X) (pos := pos') hN hi hx hf).si⟩
theorem js_asg {tg : Expr} {t : TG} {g : D → SD → Option SD} {js : List Nat} (he : JE X G Wx e te m) (hg : JG X G tg t g js) (hs : swapsWithSole [tg] e pos.line X.env = pure false := by rfl) (hw : swappedStores [tg] e X.env = pure none := by rfl)
    (h1 : (assignEach [tg] X.env).map (·.2) = [assign tg X.env] := by rfl) : JS X G Wx (.Assign [tg] e pos) (tAsg te t) (mAsg g m) := ⟨ps_asg he.pe hg.pe hs hw h1, sim_asg he.si hg.si⟩
/-- a, b = x, y -/
def mPar (i j : Nat) (m : ME (List D)) : MS := fun sd w => eb (m sd w) sd fun ds w1 => match ds with
  | [d, e] => .nx ((sd.set i (.val d)).set j (.val e)) w1
  | _ => .bad
theorem js_par {i j : Nat} {x y : Str} {a b : Expr} {px py pt : Pos} {kt k2 pt2} (hN : X.N.Nodup) (ha : JA X G Wx [a, b] t ma) (hi : X.N[i]? = some x := by rfl) (hj : X.N[j]? = some y := by rfl) (hij : i ≠ j := by decide)
    (hx : X.env.scope.names.lookup x = some .local := by rfl) (hy : X.env.scope.names.lookup y = some .local := by rfl)
    (hw : swappedStores [.Tuple [.Name x px, .Name y py] kt pt] (.Tuple [a, b] k2 pt2) X.env = pure (some [x, y]) := by rfl) (hc : X.calm = true := by rfl)
    (hs : swapsWithSole [.Tuple [.Name x px, .Name y py] kt pt] (.Tuple [a, b] k2 pt2) pos.line X.env = pure false := by rfl) :
    JS X G Wx (.Assign [.Tuple [.Name x px, .Name y py] kt pt] (.Tuple [a, b] k2 pt2) pos) (tPar i j t) (mPar i j ma) := by
  refine ⟨ps_par hc hN hi hj hij hx hy ha.pe hw hs, fun sd w σ H Hs De rs post => ?_⟩
  refine ha.si.bindS rs post fun ds w1 vs H1 Hs1 rs1 b1 q1 post1 => ?_
  match ds, q1, post1 with
  | [d, e], ⟨v, r, h1, h2, u, r', h3, h4, h5⟩, post1 =>
    refine ⟨v, u, by rw [h1, h3, show r' = [] from h5], ?_⟩
    exact post1 _ H1 Hs1 ((rs1.setVal h2).setVal h4) (Same.refl _)
  | [], _, post1 => exact post1.elim
  | [_], _, post1 => exact post1.elim
  | _ :: _ :: _ :: _, _, post1 => exact post1.elim
def mPar3 (i j l : Nat) (m : ME (List D)) : MS := fun sd w => eb (m sd w) sd fun ds w1 => match ds with
  | [d, e, f] => .nx (((sd.set i (.val d)).set j (.val e)).set l (.val f)) w1
  | _ => .bad
theorem js_par3 {i j l : Nat} {x y z : Str} {a b c : Expr} {px py pz pt : Pos} {kt k2 pt2} (hN : X.N.Nodup) (ha : JA X G Wx [a, b, c] t ma) (hi : X.N[i]? = some x := by rfl) (hj : X.N[j]? = some y := by rfl) (hl : X.N[l]? = some z := by rfl) (hij : i ≠ j := by decide) (hil : i ≠ l := by decide) (hjl : j ≠ l := by decide)
    (hx : X.env.scope.names.lookup x = some .local := by rfl) (hy : X.env.scope.names.lookup y = some .local := by rfl) (hz : X.env.scope.names.lookup z = some .local := by rfl)
    (hw : swappedStores [.Tuple [.Name x px, .Name y py, .Name z pz] kt pt] (.Tuple [a, b, c] k2 pt2) X.env = pure (some [x, y, z]) := by rfl) (hc : X.calm = true := by rfl)
    (hs : swapsWithSole [.Tuple [.Name x px, .Name y py, .Name z pz] kt pt] (.Tuple [a, b, c] k2 pt2) pos.line X.env = pure false := by rfl) :
    JS X G Wx (.Assign [.Tuple [.Name x px, .Name y py, .Name z pz] kt pt] (.Tuple [a, b, c] k2 pt2) pos) (tPar3 i j l t) (mPar3 i j l ma) := by
  refine ⟨ps_par3 hc hN hi hj hl hij hil hjl hx hy hz ha.pe hw hs, fun sd w σ H Hs De rs post => ?_⟩
  refine ha.si.bindS rs post fun ds w1 vs H1 Hs1 rs1 b1 q1 post1 => ?_
  match ds, q1, post1 with
  | [d, e, f], ⟨v, r, h1, h2, u, r', h3, h4, z', r'', h5, h6, h7⟩, post1 =>
    refine ⟨v, u, z', by rw [h1, h3, h5, show r'' = [] from h7], ?_⟩
    exact post1 _ H1 Hs1 (((rs1.setVal h2).setVal h4).setVal h6) (Same.refl _)
  | [], _, post1 => exact post1.elim
  | [_], _, post1 => exact post1.elim
  | [_, _], _, post1 => exact post1.elim
  | _ :: _ :: _ :: _ :: _, _, post1 => exact post1.elim
/-- an expression whose value is dropped -/
def mDrop (m : ME D) : MS := fun sd w => eb (m sd w) sd fun _ w1 => .nx sd w1
theorem js_drop (he : JE X G Wx e te m) (hs : swapsWith e none pos.line X.env = pure false := by rfl) : JS X G Wx (.Expr e pos) (tDrop te) (mDrop m) := by
  refine ⟨ps_expr he.pe hs, fun sd w σ H Hs De rs post => ?_⟩
  exact he.si.bindS rs post fun d w1 v H1 Hs1 rs1 b1 q1 post1 => post1 σ H1 Hs1 rs1 (Same.refl _)
end
end FT
end
section
set_option Elab.async false
set_option linter.all false
set_option maxRecDepth 100000
set_option maxHeartbeats 4000000
namespace FT
open PySem PySem.Spec PyProof.Rows L2
section
variable {X : Cx} {G : Gh} {Wx : WX} {w w' w1 w2 : List D} {H Hs H' Hs' H1 Hs1 H2 Hs2 : Hp} {sd : SD} {σ : L2.St}
/-! ### new lists that are ours alone -/
theorem B.none_live (b : B G w H Hs) {p : Addr} (hp : H p = none) : G.c.ap ≠ some p ∧ Hs p = none := by
  refine ⟨fun e => ?_, ?_⟩
  · obtain ⟨⟨vs, h1, _⟩, _⟩ := b.pen p e
    rw [hp] at h1; cases h1
  · cases e : Hs p with
    | none => rfl
    | some o' => rw [b.sub _ _ e] at hp; cases hp
theorem B.fresh0 (b : B G w H Hs) {p : Addr} (hp : H p = none) : ∀ o', G.H0 p = some o' → ¬ NoT o' := fun o' h hn => by
  have := b.keep p o' (b.none_live hp).1 hn h
  rw [hp] at this; cases this
theorem B.allocOwn (b : B G w H Hs) {p : Addr} {o : HO} (hp : H p = none) : B (G.at_ H Hs) w (upd H p o) Hs := by
  have ⟨hap, hsp⟩ := b.none_live hp
  have ne : ∀ {a x}, H a = some x → a ≠ p := fun {a x} e z => by rw [z, hp] at e; cases e
  refine ⟨fun a x e => ?_, Same.refl _, fun a x _ _ e => ?_, fun a x e => .inl e, fun a e => ?_, b.penH.trans b.sub0, b.nt, b.tab.ext fun a x e => ?_⟩
  · rw [upd_ne (ne (b.sub _ _ e))]; exact b.sub _ _ e
  · rw [upd_ne (ne e)]; exact e
  · obtain ⟨⟨vs, h1, h2⟩, h3⟩ := b.pen a e
    rw [upd_ne (ne h1)]
    exact ⟨⟨vs, h1, h2⟩, h3⟩
  · rw [upd_ne (ne e)]; exact e
theorem B.share (b : B G w H Hs) {a : Addr} {o : HO} (ha : H a = some o) (hn : NoT o) (hs : Hs a = none) (hf : ∀ o', G.H0 a = some o' → ¬ NoT o') (hp : G.c.ap ≠ some a) : B G w H (upd Hs a o) := by
  refine ⟨fun x y e => ?_, fun x y e => ?_, b.keep, fun x y e => ?_, fun x e => ?_, b.penH, fun x y e => ?_, b.tab⟩
  · by_cases z : x = a
    · subst z; rw [upd_same] at e; cases e; exact ha
    · rw [upd_ne z] at e; exact b.sub _ _ e
  · have h1 := b.sub0 x y e
    have z : x ≠ a := fun z => by rw [z, hs] at h1; cases h1
    rw [upd_ne z]; exact h1
  · by_cases z : x = a
    · subst z; exact .inr hf
    · rw [upd_ne z] at e; exact b.new _ _ e
  · have z : x ≠ a := fun z => hp (by rw [← z]; exact e)
    rw [upd_ne z]; exact b.pen x e
  · by_cases z : x = a
    · subst z; rw [upd_same] at e; cases e; exact hn
    · rw [upd_ne z] at e; exact b.nt _ _ e
theorem same_share {a : Addr} {o : HO} (hs : Hs a = none) : Same Hs (upd Hs a o) := fun x y e => by
  have z : x ≠ a := fun z => by rw [z, hs] at e; cases e
  rw [upd_ne z]; exact e
theorem codeO_ne {c : Addr} {q : Str} {vs : List V} : LamX.CodeO c q ≠ .lst vs := by
  unfold LamX.CodeO; intro h; cases h
theorem tabs_write {T : List (Addr × Str)} {a : Addr} {vs vs' : List V} (t : LamX.Tabs T H) (ha : H a = some (.lst vs)) : LamX.Tabs T (upd H a (.lst vs')) := by
  intro p hp
  obtain ⟨ps, h1, h2, h3⟩ := t p hp
  refine ⟨ps, ?_, h2, fun pos cv e => ?_⟩
  · rw [upd_ne (fun z => by rw [z, ha] at h1; cases h1)]; exact h1
  · obtain ⟨c, e1, e2⟩ := h3 pos cv e
    refine ⟨c, e1, ?_⟩
    rw [upd_ne (fun z => by rw [z, ha] at e2; exact codeO_ne (Option.some.inj e2).symm)]; exact e2
theorem B.writeOwn (b : B G w H Hs) {a : Addr} {vs vs' : List V} (ha : H a = some (.lst vs)) (hs : Hs a = none) (hf : ∀ o', G.H0 a = some o' → ¬ NoT o') (hp : G.c.ap ≠ some a) : B G w (upd H a (.lst vs')) Hs := by
  refine ⟨fun x y e => ?_, b.sub0, fun x y h1 h2 e => ?_, b.new, fun x e => ?_, b.penH, b.nt, tabs_write b.tab ha⟩
  · rw [upd_ne (fun z => by rw [z, hs] at e; cases e)]; exact b.sub _ _ e
  · rw [upd_ne (fun z => by rw [z] at e; exact hf _ e h2)]; exact b.keep _ _ h1 h2 e
  · rw [upd_ne (fun z => hp (by rw [← z]; exact e))]; exact b.pen x e
theorem B.writePen (b : B G w H Hs) {a : Addr} {vs vs' : List V} (ap : G.c.ap = some a) (ha : H a = some (.lst vs)) (r : RepL G.c G.HP w' vs') : B G w' (upd H a (.lst vs')) Hs := by
  have hs := (b.pen a ap).2
  refine ⟨fun x y e => ?_, b.sub0, fun x y h1 h2 e => ?_, b.new, fun x e => ?_, b.penH, b.nt, tabs_write b.tab ha⟩
  · rw [upd_ne (fun z => by rw [z, hs] at e; cases e)]; exact b.sub _ _ e
  · rw [upd_ne (fun z => h1 (by rw [ap, z]))]; exact b.keep _ _ h1 h2 e
  · have z : x = a := Option.some.inj (e.symm.trans ap)
    subst z
    exact ⟨⟨vs', upd_same, r⟩, hs⟩
theorem SL.writeOwn {i : Nat} {ds ds' : List D} {vs' : List V} {a : Addr} (s : SL G sd σ H Hs) (hi : sd[i]? = some (SV.own ds)) (hσ : σ[i]? = some (some (.ref a))) (r : RepL G.c Hs ds' vs') : SL G (sd.set i (.own ds')) σ (upd H a (.lst vs')) Hs where
  len := by rw [List.length_set, s.len]
  val := fun j e h => by
    rcases get_set h with ⟨rfl, h2, h3⟩ | ⟨hn, h2⟩
    · cases h2
    · exact s.val j e h2
  own := fun j es h => by
    rcases get_set h with ⟨rfl, h2, h3⟩ | ⟨hn, h2⟩
    · cases h2
      obtain ⟨b, vs, h4, h5, h6, h7, h8, h9⟩ := s.own i ds hi
      rw [hσ] at h4
      cases h4
      exact ⟨a, vs', hσ, upd_same, r, h7, h8, h9⟩
    · obtain ⟨b, vs, h4, h5, h6, h7, h8, h9⟩ := s.own j es h2
      have z : b ≠ a := fun z => hn (s.sep i j ds es a hi h2 hσ (by rw [h4, z]))
      exact ⟨b, vs, h4, by rw [upd_ne z]; exact h5, h6, h7, h8, h9⟩
  sep := fun j l es fs b h1 h2 h3 h4 => by
    rcases get_set h1 with ⟨rfl, h5, _⟩ | ⟨n1, h5⟩
    · rcases get_set h2 with ⟨rfl, h6, _⟩ | ⟨n2, h6⟩
      · rfl
      · exact s.sep _ l ds fs b hi h6 h3 h4
    · rcases get_set h2 with ⟨rfl, h6, _⟩ | ⟨n2, h6⟩
      · exact s.sep j _ es ds b h5 hi h3 h4
      · exact s.sep j l es fs b h5 h6 h3 h4
  prv := fun j p h => by
    rcases get_set h with ⟨rfl, h2, h3⟩ | ⟨hn, h2⟩
    · cases h2
    · obtain ⟨v, e1, e2⟩ := s.prv j p h2
      obtain ⟨b, vs, h4, h5, _⟩ := s.own i ds hi
      rw [hσ] at h4
      cases h4
      exact ⟨v, e1, e2.writeL fun x e => ⟨vs, by rw [h5] at e; exact (Option.some.inj e).symm⟩⟩
  sepP := fun j l es fs b h1 h2 h3 h4 => by
    rcases get_set h1 with ⟨rfl, h5, _⟩ | ⟨n1, h5⟩
    · cases h5
    · rcases get_set h2 with ⟨rfl, h6, _⟩ | ⟨n2, h6⟩
      · cases h6
      · exact s.sepP j l es fs b h5 h6 h3 h4
theorem SL.writePen {a : Addr} {vs vs' : List V} (s : SL G sd σ H Hs) (ap : G.c.ap = some a) (ha : H a = some (.lst vs)) : SL G sd σ (upd H a (.lst vs')) Hs where
  len := s.len
  val := s.val
  own := fun j es h => by
    obtain ⟨b, vs, h4, h5, h6, h7, h8, h9⟩ := s.own j es h
    have z : b ≠ a := fun z => h9 (by rw [ap, z])
    exact ⟨b, vs, h4, by rw [upd_ne z]; exact h5, h6, h7, h8, h9⟩
  sep := s.sep
  prv := fun j p h => by
    obtain ⟨v, e1, e2⟩ := s.prv j p h
    exact ⟨v, e1, e2.writeL fun x e => ⟨vs, by rw [ha] at e; exact (Option.some.inj e).symm⟩⟩
  sepP := s.sepP
/-- a slot's own list is shared from now on -/
theorem RS.freeze {i : Nat} {ds : List D} (rs : RS G sd w σ H Hs) (hi : sd[i]? = some (SV.own ds)) : ∃ Hs', RS G (sd.set i (.val (.lst ds))) w σ H Hs' ∧ Same Hs Hs' := by
  obtain ⟨a, vs, h1, h2, h3, h4, h5, h6⟩ := rs.s.own i ds hi
  have sm : Same Hs (upd Hs a (.lst vs)) := same_share h4
  refine ⟨upd Hs a (.lst vs), ⟨rs.b.share h2 lst_noT h4 h5 h6, ?_⟩, sm⟩
  refine ⟨by rw [List.length_set, rs.s.len], fun j e h => ?_, fun j es h => ?_, fun j l es fs b q1 q2 q3 q4 => ?_, fun j p h => ?_, fun j l es fs b q1 q2 q3 q4 => ?_⟩
  · rcases get_set h with ⟨rfl, h7, h8⟩ | ⟨hn, h7⟩
    · cases h7
      exact ⟨_, h1, a, vs, rfl, upd_same, h3.mono sm⟩
    · obtain ⟨v, e1, e2⟩ := rs.s.val j e h7
      exact ⟨v, e1, e2.mono sm⟩
  · rcases get_set h with ⟨rfl, h7, h8⟩ | ⟨hn, h7⟩
    · cases h7
    · obtain ⟨b, us, e1, e2, e3, e4, e5, e6⟩ := rs.s.own j es h7
      have z : b ≠ a := fun z => hn (rs.s.sep i j ds es a hi h7 h1 (by rw [e1, z]))
      exact ⟨b, us, e1, e2, e3.mono sm, by rw [upd_ne z]; exact e4, e5, e6⟩
  · rcases get_set q1 with ⟨rfl, h7, _⟩ | ⟨n1, h7⟩
    · cases h7
    · rcases get_set q2 with ⟨rfl, h8, _⟩ | ⟨n2, h8⟩
      · cases h8
      · exact rs.s.sep j l es fs b h7 h8 q3 q4
  · rcases get_set h with ⟨rfl, h7, h8⟩ | ⟨hn, h7⟩
    · cases h7
    · obtain ⟨v, e1, e2⟩ := rs.s.prv j p h7
      exact ⟨v, e1, e2.shareL h2 h4⟩
  · rcases get_set q1 with ⟨rfl, h7, _⟩ | ⟨n1, h7⟩
    · cases h7
    · rcases get_set q2 with ⟨rfl, h8, _⟩ | ⟨n2, h8⟩
      · cases h8
      · exact rs.s.sepP j l es fs b h7 h8 q3 q4
def mFr (i : Nat) (m : MS) : MS := fun sd w => match sd[i]? with
  | some (.own ds) => m (sd.set i (.val (.lst ds))) w
  | _ => .bad
theorem sim_fr {i : Nat} {t : TS} {m : MS} (h : SimS G Wx t m) : SimS G Wx t (mFr i m) := by
  intro sd w σ H Hs De rs post
  unfold mFr at post
  split at post
  · rename_i ds hi
    obtain ⟨Hs', rs', sm⟩ := rs.freeze hi
    exact h _ w σ H Hs' De rs' (post.shift sm)
  · exact post.elim
theorem js_fr (i : Nat) {st : Stmt} {t : TS} {m : MS} (h : JS X G Wx st t m) : JS X G Wx st t (mFr i m) := ⟨h.pe, sim_fr h.si⟩
/-! ### expressions that make a new list -/
def PostF (G : Gh) (Wx : WX) (σ : L2.St) (H Hs : Hp) (Q : VK) : R (List D) → Prop
  | .ok ds w' => ∀ a vs H' Hs', B (G.at_ H Hs) w' H' Hs' → H' a = some (.lst vs) → RepL G.c Hs' ds vs → Hs' a = none → (∀ o', H a = some o' → ¬ NoT o') → G.c.ap ≠ some a → Q (.ref a) H'
  | .exc c ns ds w' => ∀ dd H' Hs', B (G.at_ H Hs) w' H' Hs' → ExcAt G.c H' Hs' dd ns ds → Wx (.ref (G.c.cl c)) (some dd) σ H'
  | .bad => False
def SimF (G : Gh) (Wx : WX) (t : TE) (m : ME (List D)) : Prop := ∀ sd w σ H Hs Q, RS G sd w σ H Hs → PostF G Wx σ H Hs Q (m sd w) → t σ H Q
structure JF (X : Cx) (G : Gh) (Wx : WX) (e : Expr) (t : TE) (m : ME (List D)) : Prop where
  pe : PE X e t
  si : SimF G Wx t m
def mF (m : ME (List D)) : ME D := fun sd w => (m sd w).bind fun ds w1 => .ok (.lst ds) w1
variable {e : Expr} {te : TE} {m : ME (List D)} {p p2 pos : Pos}
theorem je_f (h : JF X G Wx e te m) : JE X G Wx e te (mF m) := by
  refine ⟨h.pe, fun sd w σ H Hs Q rs post => h.si sd w σ H Hs Q rs ?_⟩
  unfold mF at post
  cases e : m sd w with
  | ok ds w' =>
    rw [e] at post
    intro a vs H' Hs' b h1 h2 h3 h4 h5
    exact post _ H' _ (b.share h1 lst_noT h3 h4 h5) ⟨a, vs, rfl, upd_same, h2.mono (same_share h3)⟩
  | exc c ns ds w' => rw [e] at post; exact post
  | bad => rw [e] at post; exact post
theorem PostF.shift {Q : VK} {r : R (List D)} (b : B (G.at_ H Hs) w1 H1 Hs1) (h : PostF G Wx σ H Hs Q r) : PostF G Wx σ H1 Hs1 Q r := by
  cases r with
  | ok d w' =>
    intro a vs H' Hs' b' h1 h2 h3 h4 h5
    refine h a vs H' Hs' (b.trans b') h1 h2 h3 (fun o' e hn => ?_) h5
    exact h4 o' (b.keep a o' h5 hn e) hn
  | exc c ns ds w' => exact fun dd H' Hs' b' q => h dd H' Hs' (b.trans b') q
  | bad => exact h
theorem Sim.bindF {α1 β1 : Type} {ρ1 : Hp → Hp → α1 → β1 → Prop} {t1 : L2.St → Hp → (β1 → Hp → Prop) → Prop} {m1 : ME α1} (s1 : Sim G Wx ρ1 t1 m1) {k : α1 → List D → R (List D)} {R1 : β1 → Hp → Prop} {Q : VK}
    (rs : RS G sd w σ H Hs) (post : PostF G Wx σ H Hs Q ((m1 sd w).bind k))
    (cont : ∀ d w1 v H1 Hs1, RS G sd w1 σ H1 Hs1 → B (G.at_ H Hs) w1 H1 Hs1 → ρ1 H1 Hs1 d v → PostF G Wx σ H1 Hs1 Q (k d w1) → R1 v H1) : t1 σ H R1 := by
  refine s1 sd w σ H Hs R1 rs ?_
  cases e : m1 sd w with
  | ok d w1 =>
    rw [e] at post
    exact fun v H' Hs' b q => cont d w1 v H' Hs' (rs.step b) b q (PostF.shift b post)
  | exc c ns ds w' => rw [e] at post; exact post
  | bad => rw [e] at post; exact post
def mLstF (m : ME (List D)) : ME (List D) := fun sd w => (m sd w).bind fun ds w1 => if ds.length ≤ 1000 then .ok ds w1 else .bad
theorem newF (b : B G w H Hs) {p : Addr} {vs : List V} {ds : List D} {Q : VK} (hp : H p = none) (r : RepL G.c Hs ds vs) (post : PostF G Wx σ H Hs Q (.ok ds w)) : Q (.ref p) (upd H p (.lst vs)) := by
  have ⟨hap, hsp⟩ := b.none_live hp
  exact post p vs _ Hs (b.allocOwn hp) upd_same r hsp (fun o' e => by rw [hp] at e; cases e) hap
theorem jf_lst {es : List Expr} {t : TA} (h : JA X G Wx es t m) : JF X G Wx (.List es pos) (tLst t) (mLstF m) := by
  refine ⟨pe_lst h.pe, fun sd w σ H Hs Q rs post => ?_⟩
  refine h.si.bindF rs post fun ds w1 vs H1 Hs1 rs1 b1 q1 post1 => ?_
  split at post1
  · rename_i hl
    refine ⟨Nat.le_of_lt (small1000 (by rw [q1.length]; exact hl)), fun p hp => ?_⟩
    exact newF rs1.b hp q1 post1
  · exact post1.elim
/-- list(x) -/
def mListF (m : ME D) : ME (List D) := fun sd w => (m sd w).bind fun d w1 => match d with
  | .lst ds => .ok ds w1
  | .tup ds => .ok ds w1
  | .frz ds => .ok ds w1
  | _ => .bad
theorem jf_list {m : ME D} (hm : X.mg "list" = none) (ha : JB X G Wx e te m) (hg : Gl X "list" := by rfl) (hK : X.K = G.c.K := by rfl) (he : starEach [e] X.env = (false, eval e X.env) :: starEach [] X.env := by rfl) : JF X G Wx (.Call (.Name "list" p) [e] [] pos) (tCB (rListOf G.c.K) (tCons te tNil)) (mListF m) := by
  refine ⟨pe_callTy (by rw [← hK]; exact call_list_of) hg hm (by decide +kernel) (pa_cons ha.pe pa_nil he) (by decide) (by decide) he rfl, fun sd w σ H Hs Q rs post => ?_⟩
  refine ha.si.bindF rs post fun d w1 v H1 Hs1 rs1 b1 q1 post1 => ?_
  cases d with
  | lst ds =>
    obtain ⟨a, vs, rfl, hp, rl, _⟩ := q1
    exact ⟨a, vs, rfl, .inl (.inl (.inl hp)), fun l hl => newF rs1.b hl rl post1⟩
  | tup ds =>
    obtain ⟨a, vs, rfl, hp, rl⟩ := q1
    exact ⟨a, vs, rfl, .inr (sqT_mono rs1.b.sub hp), fun l hl => newF rs1.b hl rl post1⟩
  | frz ds =>
    obtain ⟨a, vs, rfl, hp, rl⟩ := q1
    exact ⟨a, vs, rfl, .inl (rs1.b.sub.seq hp), fun l hl => newF rs1.b hl rl post1⟩
  | _ => exact post1.elim
/-! ### own slots -/
theorem PostF.toS {De : Ends} {i : Nat} {r : R (List D)} (rs : RS G sd w σ H Hs) (post : PostS G Wx Hs De (eb r sd fun ds w1 => .nx (sd.set i (.own ds)) w1)) :
    PostF G Wx σ H Hs (fun v H1 => gName i v σ H1 De.nx) r := by
  cases r with
  | ok ds w' =>
    intro a vs H' Hs' b h1 h2 h3 h4 h5
    have s' := rs.s.step b
    refine post (σ.set i (some (.ref a))) H' Hs' ⟨rs.b.trans b, ?_⟩ b.sub0
    have hne : ∀ (j : Nat) (es : List D), sd[j]? = some (SV.own es) → σ[j]? ≠ some (some (.ref a)) := fun j es hj hσ => by
      obtain ⟨c, us, e1, e2, _⟩ := rs.s.own j es hj
      rw [hσ] at e1
      cases e1
      exact h4 _ e2 lst_noT
    refine ⟨by rw [List.length_set, List.length_set, s'.len], fun j e h => ?_, fun j es h => ?_, fun j l es fs c q1 q2 q3 q4 => ?_, fun j p h => ?_, fun j l es fs c q1 q2 q3 q4 => ?_⟩
    · rcases get_set h with ⟨rfl, h7, h8⟩ | ⟨hn, h7⟩
      · cases h7
      · rw [List.getElem?_set_ne hn]; exact s'.val j e h7
    · rcases get_set h with ⟨rfl, h7, h8⟩ | ⟨hn, h7⟩
      · cases h7
        exact ⟨a, vs, List.getElem?_set_self (by rw [s'.len]; exact h8), h1, h2, h3, fun o' e hn => h4 o' (rs.b.keep a o' h5 hn e) hn, h5⟩
      · rw [List.getElem?_set_ne hn]; exact s'.own j es h7
    · rcases get_set q1 with ⟨rfl, h7, g1⟩ | ⟨n1, h7⟩
      · rcases get_set q2 with ⟨rfl, h8, _⟩ | ⟨n2, h8⟩
        · rfl
        · rw [List.getElem?_set_self (by rw [s'.len]; exact g1)] at q3
          rw [List.getElem?_set_ne n2] at q4
          cases q3
          exact absurd q4 (hne l fs h8)
      · rcases get_set q2 with ⟨rfl, h8, g2⟩ | ⟨n2, h8⟩
        · rw [List.getElem?_set_self (by rw [s'.len]; exact g2)] at q4
          rw [List.getElem?_set_ne n1] at q3
          cases q4
          exact absurd q3 (hne j es h7)
        · rw [List.getElem?_set_ne n1] at q3
          rw [List.getElem?_set_ne n2] at q4
          exact s'.sep j l es fs c h7 h8 q3 q4
    · rcases get_set h with ⟨rfl, h7, h8⟩ | ⟨hn, h7⟩
      · cases h7
      · rw [List.getElem?_set_ne hn]; exact s'.prv j p h7
    · rcases get_set q1 with ⟨rfl, h7, _⟩ | ⟨n1, h7⟩
      · cases h7
      · rcases get_set q2 with ⟨rfl, h8, _⟩ | ⟨n2, h8⟩
        · cases h8
        · rw [List.getElem?_set_ne n1] at q3
          rw [List.getElem?_set_ne n2] at q4
          exact s'.sepP j l es fs c h7 h8 q3 q4
  | exc c ns ds w' => exact fun dd H' Hs' b q => post dd σ H' Hs' (rs.step b) q
  | bad => exact post
def mSetO (i : Nat) (m : ME (List D)) : MS := fun sd w => eb (m sd w) sd fun ds w1 => .nx (sd.set i (.own ds)) w1
theorem js_setO {i : Nat} {x : Str} {pos' : Pos} (hN : X.N.Nodup) (he : JF X G Wx e te m) (hi : X.N[i]? = some x := by rfl) (hx : Loc X.env.scope x := by first | exact Or.inl rfl | exact Or.inr rfl) (hs : swapsWith e (some (.Name x pos')) pos.line X.env = pure false := by rfl) (hf : X.fn x = true ∨ X.env.scope.names.lookup x = some .local := by first | exact .inl rfl | exact .inr rfl | assumption) :
    JS X G Wx (.Assign [.Name x pos'] e pos) (tAsg te (gName i)) (mSetO i m) :=
  ⟨ps_set hN hi hx he.pe hs hf, fun sd w σ H Hs De rs post => he.si sd w σ H Hs _ rs (PostF.toS rs post)⟩
/-- found.append(e) -/
def mApp (i : Nat) (m : ME D) : MS := fun sd w => match sd[i]? with
  | some (.own ds) => eb (m sd w) sd fun d w1 => if ds.length < 16777216 then .nx (sd.set i (.own (ds ++ [d]))) w1 else .bad
  | _ => .bad
variable {m : ME D} {ap2 cp : Pos}
theorem js_app (i : Nat) {x : Str} {px : Pos} (he : JE X G Wx e te m) (hN : X.N[i]? = some x := by rfl) (hv : Vis X.env.scope x := by first | exact Or.inl rfl | exact Or.inr (Or.inl rfl) | exact Or.inr (Or.inr rfl)) (hd : (x == ("__debug__" : Str)) = false := by decide)
    (hcd : (x == ("__classdict__" : Str)) = false := by decide) (hs : swapsWith (.Call (.Attribute (.Name x px) "append" ap2) [e] [] cp) none pos.line X.env = pure false := by rfl)
    (hbase : attributeBase (.Name x px) "append" X.env (eval (.Name x px) X.env) = eval (.Name x px) X.env := by rfl)
    (hfew : ((backTo cp (starEach [e] X.env)).all (fun x => !x.1) && (backToKw cp (keywordEach [] X.env)).all (fun x => x.1.isSome)
      && decide ([e].length + ([] : List Keyword).length + (if ([] : List Keyword).isEmpty then 0 else 1) < 30)) = true := by rfl)
    (hline : (ap2.endLine == cp.line) = true := by rfl) (he1 : starEach [e] X.env = (false, eval e X.env) :: starEach [] X.env := by rfl) (hK : X.K = G.c.K := by rfl) :
    JS X G Wx (.Expr (.Call (.Attribute (.Name x px) "append" ap2) [e] [] cp) pos) (tDrop (tBM G.c.K "list" rAppend (tVar i) (tCons te tNil))) (mApp i m) := by
  refine ⟨ps_expr (by rw [← hK]; exact pe_bm PySem.F.plainAttrs_list PySem.F.slot_list_append PySem.F.type_list_append mt_append (pe_var hN hv hd hcd) (pa_cons he.pe pa_nil he1) hbase hfew hline he1 rfl) hs, fun sd w σ H Hs De rs post => ?_⟩
  unfold mApp at post
  split at post
  · rename_i ds0 hi
    obtain ⟨a, vs, h1, h2, h3, h4, h5, h6⟩ := rs.s.own i ds0 hi
    refine ⟨.ref a, h1, .inl ⟨rfl, vs, .inl (.inl h2)⟩, ?_⟩
    refine he.si.bindS rs post fun d w1 v H1 Hs1 rs1 b1 q1 post1 => ?_
    split at post1
    · rename_i hl
      obtain ⟨a', vs', g1, g2, g3, g4, g5, g6⟩ := rs1.s.own i ds0 hi
      rw [h1] at g1
      cases g1
      refine ⟨a, vs', v, rfl, rfl, g2, ?_, ?_⟩
      · rw [g3.length, sizeLine_eq]; exact hl
      · exact post1 σ _ Hs1 ⟨rs1.b.writeOwn g2 g4 g5 g6, rs1.s.writeOwn hi h1 (g3.append (RepL.one q1))⟩ (Same.refl _)
    · exact post1.elim
  · exact post.elim
/-- found.extend(e) -/
def mExt (i : Nat) (m : ME D) : MS := fun sd w => match sd[i]? with
  | some (.own ds) => eb (m sd w) sd fun d w1 => (match d with
    | .lst es => if ds.length + es.length ≤ 16777216 then .nx (sd.set i (.own (ds ++ es))) w1 else .bad
    | _ => .bad)
  | _ => .bad
theorem js_ext (i : Nat) {x : Str} {px : Pos} (he : JB X G Wx e te m) (hN : X.N[i]? = some x := by rfl) (hv : Vis X.env.scope x := by first | exact Or.inl rfl | exact Or.inr (Or.inl rfl) | exact Or.inr (Or.inr rfl)) (hd : (x == ("__debug__" : Str)) = false := by decide)
    (hcd : (x == ("__classdict__" : Str)) = false := by decide) (hs : swapsWith (.Call (.Attribute (.Name x px) "extend" ap2) [e] [] cp) none pos.line X.env = pure false := by rfl)
    (hbase : attributeBase (.Name x px) "extend" X.env (eval (.Name x px) X.env) = eval (.Name x px) X.env := by rfl)
    (hfew : ((backTo cp (starEach [e] X.env)).all (fun x => !x.1) && (backToKw cp (keywordEach [] X.env)).all (fun x => x.1.isSome)
      && decide ([e].length + ([] : List Keyword).length + (if ([] : List Keyword).isEmpty then 0 else 1) < 30)) = true := by rfl)
    (hline : (ap2.endLine == cp.line) = true := by rfl) (he1 : starEach [e] X.env = (false, eval e X.env) :: starEach [] X.env := by rfl) (hK : X.K = G.c.K := by rfl) :
    JS X G Wx (.Expr (.Call (.Attribute (.Name x px) "extend" ap2) [e] [] cp) pos) (tDrop (tBM G.c.K "list" rExtend (tVar i) (tCons te tNil))) (mExt i m) := by
  refine ⟨ps_expr (by rw [← hK]; exact pe_bm PySem.F.plainAttrs_list PySem.F.slot_list_extend PySem.F.type_list_extend mt_extend (pe_var hN hv hd hcd) (pa_cons he.pe pa_nil he1) hbase hfew hline he1 rfl) hs, fun sd w σ H Hs De rs post => ?_⟩
  unfold mExt at post
  split at post
  · rename_i ds0 hi
    obtain ⟨a, vs, h1, h2, h3, h4, h5, h6⟩ := rs.s.own i ds0 hi
    refine ⟨.ref a, h1, .inl ⟨rfl, vs, .inl (.inl h2)⟩, ?_⟩
    refine he.si.bindS rs post fun d w1 v H1 Hs1 rs1 b1 q1 post1 => ?_
    cases d with
    | lst es =>
      simp only at post1
      split at post1
      · rename_i hl
        obtain ⟨a', vs', g1, g2, g3, g4, g5, g6⟩ := rs1.s.own i ds0 hi
        rw [h1] at g1
        cases g1
        obtain ⟨b, us, rfl, u1, u2, _⟩ := q1
        refine ⟨a, b, vs', us, rfl, rfl, g2, u1, ?_, ?_⟩
        · rw [g3.length, u2.length, sizeLine_eq]; exact hl
        · exact post1 σ _ Hs1 ⟨rs1.b.writeOwn g2 g4 g5 g6, rs1.s.writeOwn hi h1 (g3.append u2)⟩ (Same.refl _)
      · exact post1.elim
    | _ => exact post1.elim
  · exact post.elim
/-- xs[k] = e: xs the pen, e a plain value; or xs an own list -/
def flat : D → Bool
  | .non => true
  | .bl _ => true
  | .int _ => true
  | .str _ => true
  | _ => false
theorem flat_rep {c : Cc} {d : D} {v : V} (f : flat d = true) (r : Rep c H d v) : Rep c H' d v := by
  cases d <;> first | exact r | cases f
def mSetI (i : Nat) (mi m : ME D) : MS := fun sd w => match sd[i]? with
  | some (.val .pen) => eb (m sd w) sd fun d w1 => eb (mi sd w1) sd fun k w2 => (match k with
    | .int k => (match ixN w2.length k with
      | some j => if flat d = true then .nx sd (w2.set j d) else .bad
      | none => .bad)
    | _ => .bad)
  | some (.own ds) => eb (m sd w) sd fun d w1 => eb (mi sd w1) sd fun k w2 => (match k with
    | .int k => (match ixN ds.length k with
      | some j => .nx (sd.set i (.own (ds.set j d))) w2
      | none => .bad)
    | _ => .bad)
  | _ => .bad
theorem js_setI (i : Nat) {x : Str} {px spos : Pos} {ei : Expr} {ti : TE} {mi : ME D} (he : JE X G Wx e te m) (hei : JE X G Wx ei ti mi) (hN : X.N[i]? = some x := by rfl) (hv : Vis X.env.scope x := by first | exact Or.inl rfl | exact Or.inr (Or.inl rfl) | exact Or.inr (Or.inr rfl)) (hd : (x == ("__debug__" : Str)) = false := by decide)
    (hcd : (x == ("__classdict__" : Str)) = false := by decide)
    (ha : ∀ v, assign (.Subscript (.Name x px) ei spos) X.env v = (do
      let ov ← holding [v] (eval (.Name x px) X.env)
      let iv ← holding [v, ov] (eval ei X.env)
      standAt spos
      holding [v, ov, iv] (setItem ov iv v)
      release [v, ov, iv] []) := by intro _; rfl)
    (hs : swapsWithSole [.Subscript (.Name x px) ei spos] e pos.line X.env = pure false := by rfl) (hw : swappedStores [.Subscript (.Name x px) ei spos] e X.env = pure none := by rfl)
    (h1 : (assignEach [.Subscript (.Name x px) ei spos] X.env).map (·.2) = [assign (.Subscript (.Name x px) ei spos) X.env] := by rfl) :
    JS X G Wx (.Assign [.Subscript (.Name x px) ei spos] e pos) (tAsg te (gSub (tVar i) ti rSetL)) (mSetI i mi m) := by
  refine ⟨ps_asg he.pe (pg_sub (pe_var hN hv hd hcd) hei.pe set_list ha) hs hw h1, fun sd w σ H Hs De rs post => ?_⟩
  unfold mSetI at post
  split at post
  · rename_i c1
    refine he.si.bindS rs post fun d w1 v H1 Hs1 rs1 b1 q1 post1 => ?_
    obtain ⟨o, ho, a, hap, rfl⟩ := rs1.s.val i _ c1
    refine ⟨_, ho, hei.si.bindS rs1 post1 fun k w2 y H2 Hs2 rs2 b2 q2 post2 => ?_⟩
    cases k with
    | int k =>
      simp only at post2
      cases ek : ixN w2.length k with
      | none => rw [ek] at post2; exact post2.elim
      | some j =>
        rw [ek] at post2
        simp only at post2
        split at post2
        · rename_i hf
          obtain ⟨⟨vs, hv2, rl⟩, _⟩ := rs2.b.pen a hap
          refine ⟨a, vs, k, j, rfl, q2, hv2, by rw [rl.length]; exact ek, ?_⟩
          exact post2 σ _ Hs2 ⟨rs2.b.writePen hap hv2 (rl.set (flat_rep hf q1) j), rs2.s.writePen hap hv2⟩ (Same.refl _)
        · exact post2.elim
    | _ => exact post2.elim
  · rename_i ds c2
    refine he.si.bindS rs post fun d w1 v H1 Hs1 rs1 b1 q1 post1 => ?_
    obtain ⟨a, vs0, ho, _⟩ := rs1.s.own i ds c2
    refine ⟨_, ho, hei.si.bindS rs1 post1 fun k w2 y H2 Hs2 rs2 b2 q2 post2 => ?_⟩
    cases k with
    | int k =>
      simp only at post2
      cases ek : ixN ds.length k with
      | none => rw [ek] at post2; exact post2.elim
      | some j =>
        rw [ek] at post2
        obtain ⟨a', vs, g1, g2, g3, g4, g5, g6⟩ := rs2.s.own i ds c2
        rw [ho] at g1
        cases g1
        refine ⟨a, vs, k, j, rfl, q2, g2, by rw [g3.length]; exact ek, ?_⟩
        exact post2 σ _ Hs2 ⟨rs2.b.writeOwn g2 g4 g5 g6, rs2.s.writeOwn c2 ho (g3.set (q1.mono b2.sub0) j)⟩ (Same.refl _)
    | _ => exact post2.elim
  · exact post.elim
end
end FT
end
section
set_option Elab.async false
set_option linter.all false
set_option maxRecDepth 100000
set_option maxHeartbeats 4000000
namespace FT
open PySem PySem.Spec PyProof.Rows L2
/-! ### what is walked -/
structure Walk (c : Cc) (J : It) (ds : List D) (P : Hp → Hp → Prop) : Prop where
  go : ∀ i d H Hs, ds[i]? = some d → P H Hs → Same Hs H → J.go i H ∧ ∀ x H', J.yld i H x H' → (H' = H ∧ Rep c Hs d x) ∨ (∃ T vs es, H T = none ∧ H' = upd H T (.tup vs) ∧ x = .ref T ∧ d = .tup es ∧ RepL c Hs es vs)
  stop : ∀ H Hs, P H Hs → Same Hs H → J.stop ds.length H
theorem Walk.imp {c : Cc} {J : It} {ds : List D} {P P' : Hp → Hp → Prop} (h : Walk c J ds P) (i : ∀ H Hs, P' H Hs → P H Hs) : Walk c J ds P' := ⟨fun j d H Hs e p s => h.go j d H Hs e (i H Hs p) s, fun H Hs p s => h.stop H Hs (i H Hs p) s⟩
abbrev PB (G : Gh) : Hp → Hp → Hp → Hp → Prop := fun H' Hs' H2 Hs2 => ∃ w2, B (G.at_ H' Hs') w2 H2 Hs2
abbrev PM : Hp → Hp → Hp → Hp → Prop := fun _ Hs' _ Hs2 => Same Hs' Hs2
def PostI (G : Gh) (Wx : WX) (σ : L2.St) (H Hs : Hp) (Pf : Hp → Hp → Hp → Hp → Prop) (Q : It → Hp → Prop) : R (List D) → Prop
  | .ok ds w' => ∀ J H' Hs', B (G.at_ H Hs) w' H' Hs' → Walk G.c J ds (Pf H' Hs') → Q J H'
  | .exc c ns ds w' => ∀ dd H' Hs', B (G.at_ H Hs) w' H' Hs' → ExcAt G.c H' Hs' dd ns ds → Wx (.ref (G.c.cl c)) (some dd) σ H'
  | .bad => False
def SimI (G : Gh) (Wx : WX) (Pf : Hp → Hp → Hp → Hp → Prop) (t : TI) (m : ME (List D)) : Prop := ∀ sd w σ H Hs Q, RS G sd w σ H Hs → PostI G Wx σ H Hs Pf Q (m sd w) → t σ H Q
/-- shared things (for loops) -/
structure JI (X : Cx) (G : Gh) (Wx : WX) (tg e : Expr) (t : TI) (m : ME (List D)) : Prop where
  pe : PI X tg e t
  si : SimI G Wx PM t m
/-- also own lists (comprehensions) -/
structure JIB (X : Cx) (G : Gh) (Wx : WX) (tg e : Expr) (t : TI) (m : ME (List D)) : Prop where
  pe : PI X tg e t
  si : SimI G Wx (PB G) t m
section
variable {X : Cx} {G : Gh} {Wx : WX} {w w' w1 w2 : List D} {H Hs H' Hs' H1 Hs1 H2 Hs2 : Hp} {sd : SD} {σ : L2.St}
variable {tg e : Expr} {te : TE} {p p2 pos : Pos}
theorem jib {t : TI} {m : ME (List D)} (h : JI X G Wx tg e t m) : JIB X G Wx tg e t m := by
  refine ⟨h.pe, fun sd w σ H Hs Q rs post => h.si sd w σ H Hs Q rs ?_⟩
  cases e : m sd w with
  | ok ds w' =>
    rw [e] at post
    exact fun J H' Hs' b wk => post J H' Hs' b (wk.imp fun H2 Hs2 ⟨w2, b2⟩ => b2.sub0)
  | exc c ns ds w' => rw [e] at post; exact post
  | bad => rw [e] at post; exact post
/-- a list, a tuple or a text -/
def iSeq (K : PySem.W.Frag) (te : TE) : TI := fun σ H R => te σ H fun x H1 => (∃ a, x = .ref a ∧ (∃ xs, SqL K H1 a xs) ∧ R (Itl K a) H1) ∨ (∃ a, x = .ref a ∧ (∃ xs, SqT K H1 a xs) ∧ R (Itt K a) H1) ∨ ∃ z, x = .str z ∧ R (Its z) H1
theorem pi_seq (he : PE X e te) : PI X tg e (iSeq X.K te) := by
  refine ⟨fun pins s σ H R I h => ?_⟩
  refine thn (he.run pins s σ H _ I h) fun v s1 ⟨x, H1, I1, r1, q1⟩ => ?_
  rcases q1 with ⟨a, rfl, ⟨xs, hq⟩, q⟩ | ⟨a, rfl, ⟨xs, hq⟩, q⟩ | ⟨z, rfl, q⟩
  · cases r1
    obtain ⟨its, rv, p, hz⟩ := I1.list hq
    refine wpAny_pyIter_list p.isList ?_
    refine ⟨s1.heap.objs.size, [s1.heap.objs.size], _, _, H1, rfl, I1.kept (t' := s1.toks) fun b o e => Heap.get?_push_of_some _ e, turn_list a _, ⟨_, Heap.get?_push_size _ rfl, rfl, rfl⟩, fun b hb => ?_, q⟩
    have e : b = s1.heap.objs.size := by simpa using hb
    subst e
    exact I1.fpOk (Nat.le_refl _) (I1.hok.fresh (Nat.le_refl _))
  · cases r1
    obtain ⟨its, rv, p, hz⟩ := I1.tuple hq
    refine wpAny_pyIter_tuple (show s1.heap.IsTuple a its.toArray from p) ?_
    refine ⟨s1.heap.objs.size, [s1.heap.objs.size], _, _, H1, rfl, I1.kept (t' := s1.toks) fun b o e => Heap.get?_push_of_some _ e, turn_tuple a _, ⟨_, Heap.get?_push_size _ rfl, rfl, rfl⟩, fun b hb => ?_, q⟩
    have e : b = s1.heap.objs.size := by simpa using hb
    subst e
    exact I1.fpOk (Nat.le_refl _) (I1.hok.fresh (Nat.le_refl _))
  · obtain ⟨t, rfl⟩ := r1
    cases ha : z.cps.all (· < 128)
    · exact wpAny_pyIter_wide ha (pi_one (tk := s1.toks) I1 _ (turn_str _ z t "str_iterator" (.inr rfl)) ⟨_, Heap.get?_push_size _ rfl, rfl, rfl⟩ q)
    · exact wpAny_pyIter_ascii ha (pi_one (tk := s1.toks) I1 _ (turn_str _ z t "str_ascii_iterator" (.inl rfl)) ⟨_, Heap.get?_push_size _ rfl, rfl, rfl⟩ q)
/-- what a thing yields -/
def items : D → Option (List D)
  | .lst ds => some ds
  | .tup ds => some ds
  | .frz ds => some ds
  | .str s => some (s.map fun c => .str [c])
  | _ => none
def mSeqI (m : ME D) : ME (List D) := fun sd w => (m sd w).bind fun d w1 => match items d with
  | some ds => .ok ds w1
  | none => .bad
theorem walk_list {c : Cc} {K : PySem.W.Frag} {a : Addr} {ds : List D} {P : Hp → Hp → Prop} (h : ∀ H Hs, P H Hs → Same Hs H → ∃ vs, SqL K H a vs ∧ RepL c Hs ds vs) : Walk c (Itl K a) ds P := by
  refine ⟨fun i d H Hs e p s => ?_, fun H Hs p s => ?_⟩
  · obtain ⟨vs, h1, h2⟩ := h H Hs p s
    obtain ⟨v, e1, r1⟩ := h2.get e
    refine ⟨⟨vs, v, h1, e1⟩, fun x H' ⟨y1, y2⟩ => .inl ⟨y1, ?_⟩⟩
    have := (y2 vs h1).symm.trans e1
    cases this
    exact r1
  · obtain ⟨vs, h1, h2⟩ := h H Hs p s
    exact ⟨vs, h1, by rw [h2.length]; exact Nat.le_refl _⟩
theorem walk_tup {c : Cc} {K : PySem.W.Frag} {a : Addr} {ds : List D} {P : Hp → Hp → Prop} (h : ∀ H Hs, P H Hs → Same Hs H → ∃ vs, SqT K H a vs ∧ RepL c Hs ds vs) : Walk c (Itt K a) ds P := by
  refine ⟨fun i d H Hs e p s => ?_, fun H Hs p s => ?_⟩
  · obtain ⟨vs, h1, h2⟩ := h H Hs p s
    obtain ⟨v, e1, r1⟩ := h2.get e
    refine ⟨⟨vs, v, h1, e1⟩, fun x H' ⟨y1, y2⟩ => .inl ⟨y1, ?_⟩⟩
    have := (y2 vs h1).symm.trans e1
    cases this
    exact r1
  · obtain ⟨vs, h1, h2⟩ := h H Hs p s
    exact ⟨vs, h1, by rw [h2.length]; exact Nat.le_refl _⟩
theorem sok_one {s : List Nat} (o : SOk s) {i : Nat} {c : Nat} (e : s[i]? = some c) : SOk [c] := by
  refine ⟨by rw [sizeLine_eq]; show (1 : Nat) ≤ _; decide, fun c' hc => ?_⟩
  rw [List.mem_singleton.mp hc]
  exact o.2 c (List.mem_of_getElem? e)
theorem walk_str {c : Cc} {s : List Nat} (o : SOk s) {P : Hp → Hp → Prop} : Walk c (Its ⟨s.toArray⟩) (s.map fun c => D.str [c]) P := by
  refine ⟨fun i d H Hs e p sm => ?_, fun H Hs p sm => ?_⟩
  · rw [List.getElem?_map] at e
    cases e1 : s[i]? with
    | none => rw [e1] at e; cases e
    | some k =>
      rw [e1] at e
      cases e
      have hl := (List.getElem?_eq_some_iff.mp e1).1
      refine ⟨by show i < s.toArray.size; simpa using hl, fun x H' ⟨y1, k', y2, y3⟩ => .inl ⟨y1, ?_⟩⟩
      have e3 : s[i]? = some k' := by simpa using y2
      rw [e1] at e3
      cases e3
      exact ⟨y3, sok_one o e1⟩
  · show s.toArray.size ≤ _
    rw [List.length_map, List.size_toArray]; exact Nat.le_refl _
theorem ji_seq {m : ME D} (he : JE X G Wx e te m) (hK : X.K = G.c.K := by rfl) : JI X G Wx tg e (iSeq G.c.K te) (mSeqI m) := by
  refine ⟨by rw [← hK]; exact pi_seq he.pe, fun sd w σ H Hs Q rs post => ?_⟩
  refine he.si sd w σ H Hs _ rs ?_
  unfold mSeqI at post
  cases e : m sd w with
  | ok d w' =>
    rw [e] at post
    intro v H' Hs' b q
    have rs' := rs.step b
    cases d with
    | lst ds =>
      obtain ⟨a, vs, rfl, h1, h2⟩ := q
      exact .inl ⟨a, rfl, ⟨vs, .inl (.inl (rs'.b.sub _ _ h1))⟩, post _ H' Hs' b (walk_list fun H2 Hs2 p s => ⟨vs, .inl (.inl (s _ _ (p _ _ h1))), h2.mono p⟩)⟩
    | tup ds =>
      obtain ⟨a, vs, rfl, h1, h2⟩ := q
      exact .inr (.inl ⟨a, rfl, ⟨vs, sqT_mono rs'.b.sub h1⟩, post _ H' Hs' b (walk_tup fun H2 Hs2 p s => ⟨vs, sqT_mono (p.trans s) h1, h2.mono p⟩)⟩)
    | frz ds =>
      obtain ⟨a, vs, rfl, h1, h2⟩ := q
      exact .inl ⟨a, rfl, ⟨vs, rs'.b.sub.seq h1⟩, post _ H' Hs' b (walk_list fun H2 Hs2 p s => ⟨vs, (p.trans s).seq h1, h2.mono p⟩)⟩
    | str s =>
      obtain ⟨rfl, o⟩ := q
      exact .inr (.inr ⟨_, rfl, post _ H' Hs' b (walk_str o)⟩)
    | _ => exact post.elim
  | exc c ns ds w' => rw [e] at post; exact post
  | bad => rw [e] at post; exact post
theorem jib_seq {m : ME D} (he : JB X G Wx e te m) (hK : X.K = G.c.K := by rfl) : JIB X G Wx tg e (iSeq G.c.K te) (mSeqI m) := by
  refine ⟨by rw [← hK]; exact pi_seq he.pe, fun sd w σ H Hs Q rs post => ?_⟩
  refine he.si sd w σ H Hs _ rs ?_
  unfold mSeqI at post
  cases e : m sd w with
  | ok d w' =>
    rw [e] at post
    intro v H' Hs' b q
    have rs' := rs.step b
    cases d with
    | lst ds =>
      obtain ⟨a, vs, rfl, h1, h2, h3⟩ := q
      exact .inl ⟨a, rfl, ⟨vs, .inl (.inl h1)⟩, post _ H' Hs' b (walk_list fun H2 Hs2 ⟨w2, p⟩ s => ⟨vs, .inl (.inl (p.keep _ _ h3 lst_noT h1)), h2.mono p.sub0⟩)⟩
    | tup ds =>
      obtain ⟨a, vs, rfl, h1, h2⟩ := q
      exact .inr (.inl ⟨a, rfl, ⟨vs, sqT_mono rs'.b.sub h1⟩, post _ H' Hs' b (walk_tup fun H2 Hs2 ⟨w2, p⟩ s => ⟨vs, sqT_mono (p.sub0.trans s) h1, h2.mono p.sub0⟩)⟩)
    | frz ds =>
      obtain ⟨a, vs, rfl, h1, h2⟩ := q
      exact .inl ⟨a, rfl, ⟨vs, rs'.b.sub.seq h1⟩, post _ H' Hs' b (walk_list fun H2 Hs2 ⟨w2, p⟩ s => ⟨vs, (p.sub0.trans s).seq h1, h2.mono p.sub0⟩)⟩
    | str s =>
      obtain ⟨rfl, o⟩ := q
      exact .inr (.inr ⟨_, rfl, post _ H' Hs' b (walk_str o)⟩)
    | _ => exact post.elim
  | exc c ns ds w' => rw [e] at post; exact post
  | bad => rw [e] at post; exact post
/-! ### range -/
def rngD (lo hi : Int) : List D := (List.range (hi - lo).toNat).map fun i => D.int (lo + (i : Nat))
theorem walk_rng {c : Cc} {lo : Int} {n : Nat} {P : Hp → Hp → Prop} : Walk c (Itr lo n) ((List.range n).map fun i => D.int (lo + (i : Nat))) P := by
  refine ⟨fun i d H Hs e p sm => ?_, fun H Hs p sm => ?_⟩
  · rw [List.getElem?_map] at e
    cases e1 : (List.range n)[i]? with
    | none => rw [e1] at e; cases e
    | some k =>
      rw [e1] at e
      cases e
      obtain ⟨hl, e2⟩ := List.getElem?_eq_some_iff.mp e1
      rw [List.getElem_range] at e2
      subst e2
      exact ⟨(by simpa using hl : i < n), fun x H' ⟨y1, y2⟩ => .inl ⟨y1, y2⟩⟩
  · show n ≤ _
    rw [List.length_map, List.length_range]; exact Nat.le_refl _
def mRng1 (m : ME D) : ME (List D) := fun sd w => (m sd w).bind fun d w1 => match d with
  | .int j => if -4611686018427387904 ≤ j ∧ j < 4611686018427387904 then .ok (rngD 0 j) w1 else .bad
  | _ => .bad
def fRng2 (d d2 : D) : Option (List D) := match d, d2 with
  | .int i, .int j => if (-4611686018427387904 ≤ i ∧ i < 4611686018427387904) ∧ -4611686018427387904 ≤ j ∧ j < 4611686018427387904 then some (rngD i j) else none
  | _, _ => none
def mRng2 (m m2 : ME D) : ME (List D) := fun sd w => (m sd w).bind fun d w1 => (m2 sd w1).bind fun d2 w2 => match fRng2 d d2 with
  | some ds => .ok ds w2
  | none => .bad
theorem ji_rng1 {m : ME D} (hm : X.mg "range" = none) (he : JE X G Wx e te m) (hg : Gl X "range" := by rfl) (hs : starEach [e] X.env = (false, eval e X.env) :: starEach [] X.env := by rfl) (hs2 : starEach [e] X.env = [(false, eval e X.env)] := by rfl) : JI X G Wx tg (.Call (.Name "range" p) [e] [] pos) (iRng1 (tCons te tNil)) (mRng1 m) := by
  refine ⟨pi_range1 hg hm (pa_cons he.pe pa_nil hs) hs2, fun sd w σ H Hs Q rs post => ?_⟩
  refine he.si sd w σ H Hs _ rs ?_
  unfold mRng1 at post
  cases e : m sd w with
  | ok d w' =>
    rw [e] at post
    intro v H' Hs' b q
    cases d with
    | int j =>
      have post' : PostI G Wx σ H Hs PM Q (if -4611686018427387904 ≤ j ∧ j < 4611686018427387904 then .ok (rngD 0 j) w' else .bad) := post
      split at post'
      · rename_i hj
        refine ⟨j, by rw [show v = .int j from q], hj.1, hj.2, post' _ H' Hs' b ?_⟩
        have := walk_rng (c := G.c) (lo := 0) (n := j.toNat) (P := PM H' Hs')
        unfold rngD
        rw [Int.sub_zero]
        exact this
      · exact post'.elim
    | _ => exact post.elim
  | exc c ns ds w' => rw [e] at post; exact post
  | bad => rw [e] at post; exact post
theorem ji_rng2 {m m2 : ME D} {e2 : Expr} {te2 : TE} (hm : X.mg "range" = none) (he : JE X G Wx e te m) (he2 : JE X G Wx e2 te2 m2) (hg : Gl X "range" := by rfl) (hs : starEach [e, e2] X.env = (false, eval e X.env) :: starEach [e2] X.env := by rfl) (hs2 : starEach [e2] X.env = (false, eval e2 X.env) :: starEach [] X.env := by rfl)
    (hs3 : starEach [e, e2] X.env = [(false, eval e X.env), (false, eval e2 X.env)] := by rfl) (hs4 : starEach [e2] X.env = [(false, eval e2 X.env)] := by rfl) : JI X G Wx tg (.Call (.Name "range" p) [e, e2] [] pos) (iRng2 (tCons te (tCons te2 tNil))) (mRng2 m m2) := by
  refine ⟨pi_range2 hg hm (pa_cons he.pe (pa_cons he2.pe pa_nil hs2) hs) hs3 hs4, fun sd w σ H Hs Q rs post => ?_⟩
  refine he.si sd w σ H Hs _ rs ?_
  unfold mRng2 at post
  cases e : m sd w with
  | ok d w' =>
    rw [e] at post
    intro v H' Hs' b q
    have rs' := rs.step b
    refine he2.si sd w' σ H' Hs' _ rs' ?_
    have post1 : PostI G Wx σ H Hs PM Q ((m2 sd w').bind fun d2 w2 => match fRng2 d d2 with
      | some ds => .ok ds w2
      | none => .bad) := post
    cases e2 : m2 sd w' with
    | ok d2 w2 =>
      rw [e2] at post1
      have post2 : PostI G Wx σ H Hs PM Q (match fRng2 d d2 with
        | some ds => .ok ds w2
        | none => .bad) := post1
      intro v2 H2 Hs2 b2 q2
      cases ef : fRng2 d d2 with
      | none => rw [ef] at post2; exact post2.elim
      | some ds =>
        rw [ef] at post2
        unfold fRng2 at ef
        split at ef
        · rename_i i j
          split at ef
          · rename_i hj
            cases ef
            exact ⟨i, j, by rw [show v = .int i from q, show v2 = .int j from q2], ⟨hj.1.1, hj.1.2, hj.2.1, hj.2.2⟩, post2 _ H2 Hs2 (b.trans b2) walk_rng⟩
          · cases ef
        · cases ef
    | exc c ns ds w' =>
      rw [e2] at post1
      exact fun dd H2 Hs2 b2 q2 => post1 dd H2 Hs2 (b.trans b2) q2
    | bad => rw [e2] at post1; exact post1
  | exc c ns ds w' => rw [e] at post; exact post
  | bad => rw [e] at post; exact post
/-! ### enumerate, zip of lists -/
def enumD (i : Nat) : List D → List D
  | [] => []
  | d :: ds => .tup [.int (i : Nat), d] :: enumD (i + 1) ds
theorem enumD_get : ∀ (ds : List D) (k i : Nat), (enumD k ds)[i]? = (ds[i]?).map fun d => .tup [.int ((k + i : Nat) : Int), d]
  | [], k, i => rfl
  | d :: ds, k, 0 => rfl
  | d :: ds, k, i + 1 => by
    show (enumD (k + 1) ds)[i]? = (ds[i]?).map _
    rw [enumD_get ds (k + 1) i, Nat.add_right_comm, Nat.add_assoc]
theorem enumD_len : ∀ (ds : List D) (k : Nat), (enumD k ds).length = ds.length
  | [], _ => rfl
  | _ :: ds, k => congrArg (· + 1) (enumD_len ds (k + 1))
theorem walk_enum {c : Cc} {K : PySem.W.Frag} {a : Addr} {ds : List D} {P : Hp → Hp → Prop} (h : ∀ H Hs, P H Hs → Same Hs H → ∃ vs, SqL K H a vs ∧ RepL c Hs ds vs) : Walk c (Ite K a) (enumD 0 ds) P := by
  refine ⟨fun i d H Hs e p s => ?_, fun H Hs p s => ?_⟩
  · obtain ⟨vs, h1, h2⟩ := h H Hs p s
    rw [enumD_get] at e
    cases e0 : ds[i]? with
    | none => rw [e0] at e; cases e
    | some d0 =>
      rw [e0] at e
      cases e
      obtain ⟨v, e1, r1⟩ := h2.get e0
      refine ⟨⟨vs, v, h1, e1⟩, fun x H' ⟨T, x0, y1, y2, y3, y4⟩ => .inr ⟨T, _, _, y2, y3, y1, rfl, ?_⟩⟩
      have := (y4 vs h1).symm.trans e1
      cases this
      exact ⟨_, _, rfl, by simp [Rep], _, _, rfl, r1, rfl⟩
  · obtain ⟨vs, h1, h2⟩ := h H Hs p s
    exact ⟨vs, h1, by rw [h2.length, enumD_len]; exact Nat.le_refl _⟩
def zipD : List D → List D → List D
  | a :: as, b :: bs => .tup [a, b] :: zipD as bs
  | _, _ => []
theorem zipD_get : ∀ (as bs : List D) (i : Nat) (d : D), (zipD as bs)[i]? = some d → ∃ a b, as[i]? = some a ∧ bs[i]? = some b ∧ d = .tup [a, b]
  | [], _, _, _, h => by simp [zipD] at h
  | _ :: _, [], _, _, h => by simp [zipD] at h
  | a :: as, b :: bs, 0, d, h => by
    simp only [zipD, List.getElem?_cons_zero, Option.some.injEq] at h
    exact ⟨a, b, rfl, rfl, h.symm⟩
  | a :: as, b :: bs, i + 1, d, h => zipD_get as bs i d (by simpa [zipD] using h)
theorem zipD_len : ∀ (as bs : List D), (zipD as bs).length = min as.length bs.length
  | [], _ => by simp [zipD]
  | _ :: _, [] => by simp [zipD]
  | a :: as, b :: bs => by simp only [zipD, List.length_cons, zipD_len as bs]; omega
theorem walk_zip {c : Cc} {K : PySem.W.Frag} {a b : Addr} {ds es : List D} {P : Hp → Hp → Prop} (h : ∀ H Hs, P H Hs → Same Hs H → ∃ vs, SqL K H a vs ∧ RepL c Hs ds vs) (h' : ∀ H Hs, P H Hs → Same Hs H → ∃ vs, SqL K H b vs ∧ RepL c Hs es vs) : Walk c (Itz K a b) (zipD ds es) P := by
  refine ⟨fun i d H Hs e p s => ?_, fun H Hs p s => ?_⟩
  · obtain ⟨vs, h1, h2⟩ := h H Hs p s
    obtain ⟨us, g1, g2⟩ := h' H Hs p s
    obtain ⟨d1, d2, e1, e2, rfl⟩ := zipD_get _ _ _ _ e
    obtain ⟨v, e3, r1⟩ := h2.get e1
    obtain ⟨u, e4, r2⟩ := g2.get e2
    refine ⟨⟨vs, us, v, u, h1, g1, e3, e4⟩, fun x H' ⟨T, x0, y0, y1, y2, y3, y4, y5⟩ => .inr ⟨T, _, _, y2, y3, y1, rfl, ?_⟩⟩
    have z1 := (y4 vs h1).symm.trans e3
    have z2 := (y5 us g1).symm.trans e4
    cases z1
    cases z2
    exact ⟨_, _, rfl, r1, _, _, rfl, r2, rfl⟩
  · obtain ⟨vs, h1, h2⟩ := h H Hs p s
    obtain ⟨us, g1, g2⟩ := h' H Hs p s
    refine ⟨vs, us, h1, g1, ?_⟩
    rw [h2.length, g2.length, zipD_len]
    omega
def mEnum (m : ME D) : ME (List D) := fun sd w => (m sd w).bind fun d w1 => match d with
  | .lst ds => .ok (enumD 0 ds) w1
  | _ => .bad
variable {elts : List Expr} {kk : Nat} {tpos : Pos}
theorem ji_enum {m : ME D} (hm : X.mg "enumerate" = none) (he : JE X G Wx e te m) (hg : Gl X "enumerate" := by rfl) (hs : starEach [e] X.env = (false, eval e X.env) :: starEach [] X.env := by rfl) (hs2 : starEach [e] X.env = [(false, eval e X.env)] := by rfl) (hK : X.K = G.c.K := by rfl) :
    JI X G Wx (.Tuple elts kk tpos) (.Call (.Name "enumerate" p) [e] [] pos) (iEnum G.c.K (tCons te tNil)) (mEnum m) := by
  refine ⟨by rw [← hK]; exact pi_enum hg hm (pa_cons he.pe pa_nil hs) hs2, fun sd w σ H Hs Q rs post => ?_⟩
  refine he.si sd w σ H Hs _ rs ?_
  unfold mEnum at post
  cases e : m sd w with
  | ok d w' =>
    rw [e] at post
    intro v H' Hs' b q
    have rs' := rs.step b
    cases d with
    | lst ds =>
      obtain ⟨a, vs, rfl, h1, h2⟩ := q
      exact ⟨a, vs, rfl, .inl (.inl (rs'.b.sub _ _ h1)), post _ H' Hs' b (walk_enum fun H2 Hs2 p s => ⟨vs, .inl (.inl (s _ _ (p _ _ h1))), h2.mono p⟩)⟩
    | _ => exact post.elim
  | exc c ns ds w' => rw [e] at post; exact post
  | bad => rw [e] at post; exact post
theorem jib_enum {m : ME D} (hm : X.mg "enumerate" = none) (he : JB X G Wx e te m) (hg : Gl X "enumerate" := by rfl) (hs : starEach [e] X.env = (false, eval e X.env) :: starEach [] X.env := by rfl) (hs2 : starEach [e] X.env = [(false, eval e X.env)] := by rfl) (hK : X.K = G.c.K := by rfl) :
    JIB X G Wx (.Tuple elts kk tpos) (.Call (.Name "enumerate" p) [e] [] pos) (iEnum G.c.K (tCons te tNil)) (mEnum m) := by
  refine ⟨by rw [← hK]; exact pi_enum hg hm (pa_cons he.pe pa_nil hs) hs2, fun sd w σ H Hs Q rs post => ?_⟩
  refine he.si sd w σ H Hs _ rs ?_
  unfold mEnum at post
  cases e : m sd w with
  | ok d w' =>
    rw [e] at post
    intro v H' Hs' b q
    cases d with
    | lst ds =>
      obtain ⟨a, vs, rfl, h1, h2, h3⟩ := q
      exact ⟨a, vs, rfl, .inl (.inl h1), post _ H' Hs' b (walk_enum fun H2 Hs2 ⟨w2, p⟩ s => ⟨vs, .inl (.inl (p.keep _ _ h3 lst_noT h1)), h2.mono p.sub0⟩)⟩
    | _ => exact post.elim
  | exc c ns ds w' => rw [e] at post; exact post
  | bad => rw [e] at post; exact post
def fZip (ds : List D) : Option (List D) := match ds with
  | [.lst a, .lst b] => some (zipD a b)
  | _ => none
def mZip (m : ME (List D)) : ME (List D) := fun sd w => (m sd w).bind fun ds w1 => match fZip ds with
  | some xs => .ok xs w1
  | none => .bad
theorem jib_zip {e2 : Expr} {t : TA} {m : ME (List D)} (hm : X.mg "zip" = none) (ha : JAB X G Wx [e, e2] t m) (hg : Gl X "zip" := by rfl)
    (hs : starEach [e, e2] X.env = (false, eval e X.env) :: starEach [e2] X.env := by rfl) (hpl : (backTo pos (starEach [e2] X.env)).any (·.1) = false := by rfl) (hK : X.K = G.c.K := by rfl) :
    JIB X G Wx (.Tuple elts kk tpos) (.Call (.Name "zip" p) [e, e2] [] pos) (iZip G.c.K t) (mZip m) := by
  refine ⟨by rw [← hK]; exact pi_zip hg hm ha.pe hs hpl, fun sd w σ H Hs Q rs post => ?_⟩
  refine ha.si sd w σ H Hs _ rs ?_
  unfold mZip at post
  cases e : m sd w with
  | ok ds w' =>
    rw [e] at post
    intro v H' Hs' b q
    have post' : PostI G Wx σ H Hs (PB G) Q (match fZip ds with
      | some xs => .ok xs w'
      | none => .bad) := post
    cases ef : fZip ds with
    | none => rw [ef] at post'; exact post'.elim
    | some xs =>
    rw [ef] at post'
    unfold fZip at ef
    split at ef
    · cases ef
      obtain ⟨v1, v2, rfl, ⟨a1, vs, rfl, h1, h2, h3⟩, ⟨a2, us, rfl, g1, g2, g3⟩⟩ := repBL2 q
      exact ⟨a1, a2, vs, us, rfl, .inl (.inl h1), .inl (.inl g1), post' _ H' Hs' b (walk_zip (fun H2 Hs2 ⟨w2, p⟩ s => ⟨vs, .inl (.inl (p.keep _ _ h3 lst_noT h1)), h2.mono p.sub0⟩) (fun H2 Hs2 ⟨w2, p⟩ s => ⟨us, .inl (.inl (p.keep _ _ g3 lst_noT g1)), g2.mono p.sub0⟩))⟩
    · cases ef
  | exc c ns ds w' => rw [e] at post; exact post
  | bad => rw [e] at post; exact post
theorem ji_zip {e2 : Expr} {t : TA} {m : ME (List D)} (hm : X.mg "zip" = none) (ha : JA X G Wx [e, e2] t m) (hg : Gl X "zip" := by rfl)
    (hs : starEach [e, e2] X.env = (false, eval e X.env) :: starEach [e2] X.env := by rfl) (hpl : (backTo pos (starEach [e2] X.env)).any (·.1) = false := by rfl) (hK : X.K = G.c.K := by rfl) :
    JI X G Wx (.Tuple elts kk tpos) (.Call (.Name "zip" p) [e, e2] [] pos) (iZip G.c.K t) (mZip m) := by
  refine ⟨by rw [← hK]; exact pi_zip hg hm ha.pe hs hpl, fun sd w σ H Hs Q rs post => ?_⟩
  refine ha.si sd w σ H Hs _ rs ?_
  unfold mZip at post
  cases e : m sd w with
  | ok ds w' =>
    rw [e] at post
    intro v H' Hs' b q
    have rs' := rs.step b
    have post' : PostI G Wx σ H Hs PM Q (match fZip ds with
      | some xs => .ok xs w'
      | none => .bad) := post
    cases ef : fZip ds with
    | none => rw [ef] at post'; exact post'.elim
    | some xs =>
    rw [ef] at post'
    unfold fZip at ef
    split at ef
    · cases ef
      obtain ⟨v1, r1, rfl, ⟨a1, vs, rfl, h1, h2⟩, v2, r2, rfl, ⟨a2, us, rfl, g1, g2⟩, g4⟩ := q
      rw [show r2 = [] from g4]
      exact ⟨a1, a2, vs, us, rfl, .inl (.inl (rs'.b.sub _ _ h1)), .inl (.inl (rs'.b.sub _ _ g1)), post' _ H' Hs' b (walk_zip (fun H2 Hs2 p s => ⟨vs, .inl (.inl (s _ _ (p _ _ h1))), h2.mono p⟩) (fun H2 Hs2 p s => ⟨us, .inl (.inl (s _ _ (p _ _ g1))), g2.mono p⟩))⟩
    · cases ef
  | exc c ns ds w' => rw [e] at post; exact post
  | bad => rw [e] at post; exact post
/-! ### for, while -/
def forL (g : D → SD → Option SD) (body : MS) : List D → SD → List D → Out
  | [], sd, w => .nx sd w
  | d :: ds, sd, w => match g d sd with
    | none => .bad
    | some sd1 => match body sd1 w with
      | .nx sd2 w2 => forL g body ds sd2 w2
      | .cnt sd2 w2 => forL g body ds sd2 w2
      | .brk sd2 w2 => .nx sd2 w2
      | r => r
def mFor (g : D → SD → Option SD) (mi : ME (List D)) (body : MS) : MS := fun sd w => eb (mi sd w) sd fun ds w1 => forL g body ds sd w1
theorem js_for {it : Expr} {bs : List Stmt} {ti : TI} {mi : ME (List D)} {tgt : TG} {g : D → SD → Option SD} {js : List Nat} {tb : TS} {mb : MS} (hp : PassesOwn (model X.prog X.w) X.A X.env X.xe) (hi : JI X G Wx tg it ti mi) (hg : JG X G tg tgt g js) (hb : JSs X G Wx bs tb mb) (hc : X.calm = true := by rfl)
    (hs : ∀ x, foldedSetIterable it X.env x = pure x := by intro _; rfl) : JS X G Wx (.For tg it bs [] pos) (tFor ti tgt tb) (mFor g mi mb) := by
  refine ⟨ps_for hp hc hi.pe hg.pe hb.pe hs, fun sd w σ H Hs De rs post => ?_⟩
  refine hi.si sd w σ H Hs _ rs ?_
  unfold mFor at post
  cases e : mi sd w with
  | exc c ns ds w' =>
    rw [e] at post
    exact fun dd H' Hs' b q => post dd σ H' Hs' (rs.step b) q
  | bad => rw [e] at post; exact post
  | ok ds w1 =>
    rw [e] at post
    intro J H1 Hs1 b1 wk
    have rs1 := rs.step b1
    have post1 : PostS G Wx Hs1 De (forL g mb ds sd w1) := PostS.shift b1.sub0 post
    refine ⟨fun i m σ H => ∃ sd w Hs, RS G sd w σ H Hs ∧ Same Hs1 Hs ∧ i + m = ds.length ∧ PostS G Wx Hs1 De (forL g mb (ds.drop i) sd w), ⟨ds.length, sd, w1, Hs1, rs1, Same.refl _, Nat.zero_add _, post1⟩, fun i m σ2 H2 h => ?_⟩
    obtain ⟨sd2, w2, Hs2, rs2, sm, em, p2⟩ := h
    cases ei : ds[i]? with
    | none =>
      have hi : ds.length ≤ i := List.getElem?_eq_none_iff.mp ei
      have e0 : i = ds.length := by omega
      subst e0
      rw [List.drop_length] at p2
      exact .inl ⟨wk.stop H2 Hs2 sm rs2.b.sub, p2 σ2 H2 Hs2 rs2 sm⟩
    | some d =>
      have hil : i < ds.length := (List.getElem?_eq_some_iff.mp ei).1
      have e1 : ds.drop i = d :: ds.drop (i + 1) := by
        rw [List.drop_eq_getElem_cons hil]
        rw [List.getElem?_eq_getElem hil] at ei
        rw [Option.some.inj ei]
      rw [e1] at p2
      unfold forL at p2
      obtain ⟨g1, g2⟩ := wk.go i d H2 Hs2 ei sm rs2.b.sub
      refine .inr ⟨g1, fun σ' H' => ∃ sd w Hs, RS G sd w σ' H' Hs ∧ Same Hs1 Hs ∧ PostS G Wx Hs1 De (forL g mb (ds.drop (i + 1)) sd w), fun σ' H' hN => ?_, fun x H' hy => ?_⟩
      · obtain ⟨sd3, w3, Hs3, r3, s3, p3⟩ := hN
        exact ⟨m - 1, by omega, sd3, w3, Hs3, r3, s3, by omega, p3⟩
      · -- the turn's heap
        have key : ∀ Hs3, RS G sd2 w2 σ2 H' Hs3 → Same Hs1 Hs3 → Rep G.c Hs3 d x → tgt x σ2 H' fun σ3 H3 => tb { De with nx := fun σ' H' => ∃ sd w Hs, RS G sd w σ' H' Hs ∧ Same Hs1 Hs ∧ PostS G Wx Hs1 De (forL g mb (ds.drop (i + 1)) sd w), ct := fun σ' H' => ∃ sd w Hs, RS G sd w σ' H' Hs ∧ Same Hs1 Hs ∧ PostS G Wx Hs1 De (forL g mb (ds.drop (i + 1)) sd w), bk := De.nx } σ3 H3 := by
          intro Hs3 rs3 sm3 rep
          cases eg : g d sd2 with
          | none => rw [eg] at p2; exact p2.elim
          | some sd3 =>
            rw [eg] at p2
            refine hg.si d x sd2 w2 σ2 H' Hs3 _ rs3 rep (fun sd' e' σ3 rs4 _ => ?_) (by rw [eg]; rfl)
            rw [eg] at e'
            cases e'
            refine hb.si sd3 w2 σ3 H' Hs3 _ rs4 ?_
            simp only at p2
            cases eo : mb sd3 w2 with
            | nx sd5 w5 =>
              rw [eo] at p2
              exact fun σ' H'' Hs'' r q => ⟨sd5, w5, Hs'', r, sm3.trans q, p2⟩
            | cnt sd5 w5 =>
              rw [eo] at p2
              exact fun σ' H'' Hs'' r q => ⟨sd5, w5, Hs'', r, sm3.trans q, p2⟩
            | brk sd5 w5 =>
              rw [eo] at p2
              exact fun σ' H'' Hs'' r q => p2 σ' H'' Hs'' r (sm3.trans q)
            | ret d w' => rw [eo] at p2; exact p2
            | exc sd' c ns ds w' => rw [eo] at p2; exact p2
            | bad => rw [eo] at p2; exact p2
        rcases g2 x H' hy with ⟨rfl, rep⟩ | ⟨T, vs, es, t1, rfl, rfl, rfl, rep⟩
        · exact key Hs2 rs2 sm rep
        · have ba := rs2.b.alloc (o := .tup vs) t1 tup_noT
          exact key _ (rs2.step ba) (sm.trans ba.sub0) ⟨T, vs, rfl, .inl (.inl upd_same), rep.mono ba.sub0⟩
def whileL (mt : ME Bool) (body : MS) : Nat → SD → List D → Out
  | 0, _, _ => .bad
  | n + 1, sd, w => eb (mt sd w) sd fun b w1 => if b = true then (match body sd w1 with
      | .nx sd2 w2 => whileL mt body n sd2 w2
      | .cnt sd2 w2 => whileL mt body n sd2 w2
      | .brk sd2 w2 => .nx sd2 w2
      | r => r) else .nx sd w1
theorem js_while (n : Nat) {c : Expr} {bs : List Stmt} {tc : TT} {mc : ME Bool} {tb : TS} {mb : MS} (hp : PassesOwn (model X.prog X.w) X.A X.env X.xe) (hc : JT X G Wx c tc mc) (hb : JSs X G Wx bs tb mb) : JS X G Wx (.While c bs [] pos) (tWhile tc tb) (whileL mc mb n) := by
  refine ⟨ps_while hp hc.pe hb.pe, fun sd w σ H Hs De rs post => ?_⟩
  refine ⟨fun m σ' H' => ∃ sd w Hs', RS G sd w σ' H' Hs' ∧ PostS G Wx Hs' De (whileL mc mb m sd w), ⟨n, sd, w, Hs, rs, post⟩, fun m σ1 H1 h => ?_⟩
  obtain ⟨sd1, w1, Hs1, rs1, p1⟩ := h
  cases m with
  | zero => exact p1.elim
  | succ m =>
    unfold whileL at p1
    refine hc.si.bindS rs1 p1 fun b w2 b' H2 Hs2 rs2 b2 q2 p2 => ?_
    obtain rfl : b = b' := q2
    cases b with
    | false => exact p2 σ1 H2 Hs2 rs2 (Same.refl _)
    | true =>
      refine ⟨fun σ' H' => ∃ sd w Hs', RS G sd w σ' H' Hs' ∧ PostS G Wx Hs' De (whileL mc mb m sd w), fun σ' H' h => ⟨m, Nat.lt_succ_self m, h⟩, ?_⟩
      refine hb.si sd1 w2 σ1 H2 Hs2 _ rs2 ?_
      simp only [if_true] at p2
      cases eo : mb sd1 w2 with
      | nx sd5 w5 =>
        rw [eo] at p2
        exact fun σ' H'' Hs'' r q => ⟨sd5, w5, Hs'', r, p2.shift q⟩
      | cnt sd5 w5 =>
        rw [eo] at p2
        exact fun σ' H'' Hs'' r q => ⟨sd5, w5, Hs'', r, p2.shift q⟩
      | brk sd5 w5 =>
        rw [eo] at p2
        exact fun σ' H'' Hs'' r q => p2 σ' H'' Hs'' r q
      | ret d w' => rw [eo] at p2; exact p2
      | exc sd' c ns ds w' => rw [eo] at p2; exact p2
      | bad => rw [eo] at p2; exact p2
end
end FT
end
section
set_option Elab.async false
set_option linter.all false
set_option maxRecDepth 100000
set_option maxHeartbeats 4000000
namespace FT
open PySem PySem.Spec PyProof.Rows L2
/-! ### comprehensions -/
def wipeD (sd : SD) : List Nat → SD
  | [] => sd
  | v :: vs => (wipeD sd vs).set v .no
def compL (g : D → SD → Option SD) (mt : ME Bool) (me : ME D) (sd0 : SD) : List D → List D → Option (List D × List D)
  | [], w => some ([], w)
  | d :: ds, w => match g d sd0 with
    | none => none
    | some sd1 => match mt sd1 w with
      | .ok true w1 => (match me sd1 w1 with
        | .ok y w2 => (match compL g mt me sd0 ds w2 with
          | some (ys, w3) => some (y :: ys, w3)
          | none => none)
        | _ => none)
      | .ok false w1 => compL g mt me sd0 ds w1
      | _ => none
def mComp (mi : ME (List D)) (g : D → SD → Option SD) (mt : ME Bool) (me : ME D) (vs : List Nat) : ME (List D) := fun sd w => (mi sd w).bind fun ds w1 => if ds.length ≤ 16777216 then (match compL g mt me (wipeD sd vs) ds w1 with
  | some (ys, w2) => .ok ys w2
  | none => .bad) else .bad
structure JTs (X : Cx) (G : Gh) (Wx : WX) (es : List Expr) (t : TT) (m : ME Bool) : Prop where
  pe : PTs X es t
  si : Sim G Wx ρT t m
def mYes : ME Bool := fun _ w => .ok true w
abbrev F0 : WX := fun _ _ _ _ => False
section
variable {X : Cx} {G : Gh} {Wx : WX} {w w' w1 w2 : List D} {H Hs H' Hs' H1 Hs1 H2 Hs2 : Hp} {sd : SD} {σ : L2.St}
theorem jts_nil : JTs X G Wx [] tYes mYes := ⟨pts_nil, fun sd w σ H Hs Q rs post => post true H Hs rs.b.refl_at rfl⟩
theorem jts_one {c : Expr} {t : TT} {m : ME Bool} (h : JT X G Wx c t m) : JTs X G Wx [c] t m := ⟨pts_one h.pe, h.si⟩
theorem SL.unset {i : Nat} (s : SL G sd σ H Hs) : SL G (sd.set i .no) (σ.set i none) H Hs where
  len := by rw [List.length_set, List.length_set, s.len]
  val := fun j e h => by
    rcases get_set h with ⟨rfl, h2, _⟩ | ⟨hn, h2⟩
    · cases h2
    · rw [List.getElem?_set_ne hn]; exact s.val j e h2
  own := fun j es h => by
    rcases get_set h with ⟨rfl, h2, _⟩ | ⟨hn, h2⟩
    · cases h2
    · rw [List.getElem?_set_ne hn]; exact s.own j es h2
  sep := fun j l es fs a h1 h2 h3 h4 => by
    rcases get_set h1 with ⟨rfl, h5, _⟩ | ⟨n1, h5⟩
    · cases h5
    · rcases get_set h2 with ⟨rfl, h6, _⟩ | ⟨n2, h6⟩
      · cases h6
      · rw [List.getElem?_set_ne n1] at h3
        rw [List.getElem?_set_ne n2] at h4
        exact s.sep j l es fs a h5 h6 h3 h4
  prv := fun j p h => by
    rcases get_set h with ⟨rfl, h2, h3⟩ | ⟨hn, h2⟩
    · cases h2
    · rw [List.getElem?_set_ne hn]; exact s.prv j p h2
  sepP := fun j l es fs a h1 h2 h3 h4 => by
    rcases get_set h1 with ⟨rfl, h5, _⟩ | ⟨n1, h5⟩
    · cases h5
    · rcases get_set h2 with ⟨rfl, h6, _⟩ | ⟨n2, h6⟩
      · cases h6
      · rw [List.getElem?_set_ne n1] at h3
        rw [List.getElem?_set_ne n2] at h4
        exact s.sepP j l es fs a h5 h6 h3 h4
theorem SL.wipe (s : SL G sd σ H Hs) : ∀ vs : List Nat, SL G (wipeD sd vs) (L2.wipe σ vs) H Hs
  | [] => s
  | _ :: vs => (SL.wipe s vs).unset
theorem wipe_wipe {σ : L2.St} {us : List Nat} : ∀ {vs : List Nat}, (∀ v ∈ vs, v ∈ us) → L2.wipe (L2.wipe σ vs) us = L2.wipe σ us
  | [], _ => rfl
  | v :: vs, h => by
    show L2.wipe ((L2.wipe σ vs).set v none) us = _
    rw [wipe_set (h v List.mem_cons_self)]
    exact wipe_wipe fun x hx => h x (List.mem_cons_of_mem _ hx)
theorem SL.writeOther {d : Addr} {o : HO} (s : SL G sd σ H Hs) (n : NotOwn d sd σ) (hd : ∀ x, H d = some x → ∀ y, x ≠ .own y) : SL G sd σ (upd H d o) Hs where
  len := s.len
  val := s.val
  own := fun j es h => by
    obtain ⟨b, vs, h4, h5, h6, h7, h8, h9⟩ := s.own j es h
    exact ⟨b, vs, h4, by rw [upd_ne (fun z => n.1 j es h (by rw [h4, z]))]; exact h5, h6, h7, h8, h9⟩
  sep := s.sep
  prv := fun j p h => by
    obtain ⟨v, e1, e2⟩ := s.prv j p h
    exact ⟨v, e1, e2.writeNot (fun z => n.2 j p h (by rw [e1, z])) hd⟩
  sepP := s.sepP
theorem none_stay (b : B (G.at_ H Hs) w' H' Hs') {a : Addr} {o : HO} (h1 : H a = some o) (hn : NoT o) (h2 : Hs a = none) : Hs' a = none := by
  cases e : Hs' a with
  | none => rfl
  | some o' =>
    rcases b.new a o' e with q | q
    · rw [show Hs a = some o' from q] at h2; cases h2
    · exact absurd hn (q o h1)
/-- the loop of a clause that fills the list at d -/
theorem loop_in {J : It} {ds : List D} {P : Hp → Hp → Prop} {g : D → SD → Option SD} {js vs : List Nat} {tgt : TG} {tt : TT} {mt : ME Bool} {te : TE} {me : ME D} {Hb Hsb : Hp} {wb : List D} {d : Addr} {acc : List V} {accD ys wF : List D} {Qd : Hp → Prop} {Z : Hp → Hp → Prop}
    (hZ1 : ∀ w H Hs H' Hs', Z H Hs → B (G.at_ H Hs) w H' Hs' → Z H' Hs') (hZ2 : ∀ H Hs o, (∀ x, H d = some x → ∀ y, x ≠ .own y) → Z H Hs → Z (upd H d o) Hs) (z0 : Z H Hs) (wk : Walk G.c J ds P) (hst : ∀ w Hc Hs Hc' Hs', P Hc Hs → B (G.at_ Hb Hsb) w Hc' Hs' → Same Hs Hs' → P Hc' Hs') (hg : SimG G tgt g js) (hjs : ∀ j ∈ js, j ∈ vs) (ht : Sim G F0 ρT tt mt) (he : Sim G F0 (ρE G) te me)
    (bG : B G wb Hb Hsb) (hd : Hb d = none) (no : NotOwn d sd σ) (b0 : B (G.at_ Hb Hsb) w H Hs) (s0 : SL G sd σ H Hs) (h0 : H d = some (.lst acc)) (r0 : RepL G.c Hs accD acc) (n0 : Hs d = none) (p0 : P H Hs) (hlen : accD.length + ds.length ≤ 16777216)
    (ec : compL g mt me (wipeD sd vs) ds w = some (ys, wF)) (fin : ∀ Hc' Hs' acc', B (G.at_ Hb Hsb) wF Hc' Hs' → Same Hs Hs' → Z Hc' Hs' → SL G sd σ Hc' Hs' → Hc' d = some (.lst acc') → RepL G.c Hs' (accD ++ ys) acc' → Hs' d = none → Qd Hc') :
    ∃ W : Nat → Nat → Hp → Prop, (∃ m, W 0 m H) ∧ ∀ i m H, W i m H →
      (J.stop i H ∧ Qd H) ∨ (J.go i H ∧ ∃ Nx : Hp → Prop, (∀ H', Nx H' → ∃ m', m' < m ∧ W (i + 1) m' H') ∧ ∀ x H', J.yld i H x H' → tgt x (L2.wipe σ vs) H' fun σ2 H2 => L2.wipe σ2 vs = L2.wipe σ vs ∧ tt σ2 H2 fun b H3 =>
        if b = true then te σ2 H3 fun y H4 => ∃ acc, H4 d = some (.lst acc) ∧ acc.length < sizeLine ∧ Nx (upd H4 d (.lst (acc ++ [y]))) else Nx H3) := by
  refine ⟨fun i m Hc => ∃ w Hsc acc1 accD1 rest, B (G.at_ Hb Hsb) w Hc Hsc ∧ Same Hs Hsc ∧ Z Hc Hsc ∧ SL G sd σ Hc Hsc ∧ Hc d = some (.lst acc1) ∧ RepL G.c Hsc accD1 acc1 ∧ Hsc d = none ∧ P Hc Hsc ∧ i + m = ds.length ∧ accD1.length ≤ accD.length + i ∧
      compL g mt me (wipeD sd vs) (ds.drop i) w = some (rest, wF) ∧ accD1 ++ rest = accD ++ ys, ⟨ds.length, w, Hs, acc, accD, ys, b0, Same.refl _, z0, s0, h0, r0, n0, p0, Nat.zero_add _, Nat.le_refl _, ec, rfl⟩, fun i m Hc h => ?_⟩
  obtain ⟨wc, Hsc, acc1, accD1, rest, b, sm, zz, s, hD, rD, nD, p, em, el, ecc, eys⟩ := h
  have hap : G.c.ap ≠ some d := (bG.none_live hd).1
  cases ei : ds[i]? with
  | none =>
    have hi : ds.length ≤ i := List.getElem?_eq_none_iff.mp ei
    have e0 : i = ds.length := by omega
    subst e0
    rw [List.drop_length] at ecc
    simp only [compL, Option.some.injEq, Prod.mk.injEq] at ecc
    obtain ⟨rfl, rfl⟩ := ecc
    rw [List.append_nil] at eys
    subst eys
    exact .inl ⟨wk.stop Hc Hsc p b.sub, fin Hc Hsc acc1 b sm zz s hD rD nD⟩
  | some x0 =>
    have hil : i < ds.length := (List.getElem?_eq_some_iff.mp ei).1
    have e1 : ds.drop i = x0 :: ds.drop (i + 1) := by
      rw [List.drop_eq_getElem_cons hil]
      rw [List.getElem?_eq_getElem hil] at ei
      rw [Option.some.inj ei]
    rw [e1] at ecc
    simp only [compL] at ecc
    obtain ⟨g1, g2⟩ := wk.go i x0 Hc Hsc ei p b.sub
    refine .inr ⟨g1, fun H' => ∃ w Hsc acc1 accD1 rest, B (G.at_ Hb Hsb) w H' Hsc ∧ Same Hs Hsc ∧ Z H' Hsc ∧ SL G sd σ H' Hsc ∧ H' d = some (.lst acc1) ∧ RepL G.c Hsc accD1 acc1 ∧ Hsc d = none ∧ P H' Hsc ∧ accD1.length ≤ accD.length + (i + 1) ∧
      compL g mt me (wipeD sd vs) (ds.drop (i + 1)) w = some (rest, wF) ∧ accD1 ++ rest = accD ++ ys, fun H' hN => ?_, fun x H' hy => ?_⟩
    · obtain ⟨w3, Hs3, a3, aD3, rest3, q1, q1b, q1c, q2, q3, q4, q5, q6, q7, q8, q9⟩ := hN
      exact ⟨m - 1, by omega, w3, Hs3, a3, aD3, rest3, q1, q1b, q1c, q2, q3, q4, q5, q6, by omega, q7, q8, q9⟩
    · have key : ∀ Hs3, B (G.at_ Hb Hsb) wc H' Hs3 → Same Hsc Hs3 → Z H' Hs3 → SL G sd σ H' Hs3 → H' d = some (.lst acc1) → Hs3 d = none → Rep G.c Hs3 x0 x → tgt x (L2.wipe σ vs) H' fun σ2 H2 => L2.wipe σ2 vs = L2.wipe σ vs ∧ tt σ2 H2 fun b H3 =>
          if b = true then te σ2 H3 fun y H4 => ∃ acc, H4 d = some (.lst acc) ∧ acc.length < sizeLine ∧ (∃ w Hsc acc1 accD1 rest, B (G.at_ Hb Hsb) w (upd H4 d (.lst (acc ++ [y]))) Hsc ∧ Same Hs Hsc ∧ Z (upd H4 d (.lst (acc ++ [y]))) Hsc ∧ SL G sd σ (upd H4 d (.lst (acc ++ [y]))) Hsc ∧ (upd H4 d (.lst (acc ++ [y]))) d = some (.lst acc1) ∧ RepL G.c Hsc accD1 acc1 ∧ Hsc d = none ∧ P (upd H4 d (.lst (acc ++ [y]))) Hsc ∧ accD1.length ≤ accD.length + (i + 1) ∧
            compL g mt me (wipeD sd vs) (ds.drop (i + 1)) w = some (rest, wF) ∧ accD1 ++ rest = accD ++ ys) else (∃ w Hsc acc1 accD1 rest, B (G.at_ Hb Hsb) w H3 Hsc ∧ Same Hs Hsc ∧ Z H3 Hsc ∧ SL G sd σ H3 Hsc ∧ H3 d = some (.lst acc1) ∧ RepL G.c Hsc accD1 acc1 ∧ Hsc d = none ∧ P H3 Hsc ∧ accD1.length ≤ accD.length + (i + 1) ∧
            compL g mt me (wipeD sd vs) (ds.drop (i + 1)) w = some (rest, wF) ∧ accD1 ++ rest = accD ++ ys) := by
        intro Hs3 b3 sm3 z3 s3 hD3 nD3 rep
        cases eg : g x0 (wipeD sd vs) with
        | none => rw [eg] at ecc; cases ecc
        | some sd1 =>
          rw [eg] at ecc
          simp only at ecc
          have rs3 : RS G (wipeD sd vs) wc (L2.wipe σ vs) H' Hs3 := ⟨bG.trans b3, s3.wipe vs⟩
          refine hg x0 x _ wc _ H' Hs3 _ rs3 rep (fun sd' e' σ4 rs4 wp => ?_) (by rw [eg]; rfl)
          rw [eg] at e'
          cases e'
          refine ⟨by rw [wp.wp vs hjs, wipe_wipe fun v hv => hv], ?_⟩
          refine ht sd1 wc σ4 H' Hs3 _ rs4 ?_
          cases et : mt sd1 wc with
          | exc c ns ds w' => rw [et] at ecc; cases ecc
          | bad => rw [et] at ecc; cases ecc
          | ok k w5 =>
            rw [et] at ecc
            intro k' H5 Hs5 b5 ek
            obtain rfl : k = k' := ek
            have rs5 := rs4.step b5
            have b5' := b3.trans b5
            have s5 := s3.step b5
            have hD5 := b5.keep d _ hap lst_noT hD3
            have nD5 := none_stay b5 hD3 lst_noT nD3
            cases k with
            | false =>
              exact ⟨w5, Hs5, acc1, accD1, rest, b5', (sm.trans sm3).trans b5.sub0, hZ1 _ _ _ _ _ z3 b5, s5, hD5, rD.mono (sm3.trans b5.sub0), nD5, hst _ _ _ _ _ p b5' (sm3.trans b5.sub0), by omega, ecc, eys⟩
            | true =>
              simp only at ecc
              refine he sd1 w5 σ4 H5 Hs5 _ rs5 ?_
              cases ee : me sd1 w5 with
              | exc c ns ds w' => rw [ee] at ecc; cases ecc
              | bad => rw [ee] at ecc; cases ecc
              | ok y w6 =>
                rw [ee] at ecc
                simp only at ecc
                intro v H6 Hs6 b6 rv
                have b6' := b5'.trans b6
                have s6 := s5.step b6
                have hD6 := b6.keep d _ hap lst_noT hD5
                have nD6 := none_stay b6 hD5 lst_noT nD5
                have sm6 : Same Hsc Hs6 := sm3.trans (b5.sub0.trans b6.sub0)
                cases er : compL g mt me (wipeD sd vs) (ds.drop (i + 1)) w6 with
                | none => rw [er] at ecc; cases ecc
                | some pr =>
                  obtain ⟨ys', wF'⟩ := pr
                  rw [er] at ecc
                  simp only [Option.some.injEq, Prod.mk.injEq] at ecc
                  obtain ⟨rfl, rfl⟩ := ecc
                  have bw : B (G.at_ Hb Hsb) w6 (upd H6 d (.lst (acc1 ++ [v]))) Hs6 := b6'.writeOwn hD6 nD6 (fun o' e => by rw [show Hb d = some o' from e] at hd; cases hd) hap
                  refine ⟨acc1, hD6, ?_, w6, Hs6, acc1 ++ [v], accD1 ++ [y], ys', bw, sm.trans sm6, hZ2 _ _ _ (fun x e y => by rw [hD6] at e; cases e; exact fun h => by cases h) (hZ1 _ _ _ _ _ (hZ1 _ _ _ _ _ z3 b5) b6), s6.writeOther no (fun x e y => by rw [hD6] at e; cases e; exact fun h => by cases h), upd_same, (rD.mono sm6).append (RepL.one rv), nD6, hst _ _ _ _ _ p bw sm6, ?_, er, ?_⟩
                  · rw [rD.length, sizeLine_eq]; omega
                  · rw [List.length_append]; show accD1.length + 1 ≤ _; omega
                  · rw [List.append_assoc]; exact eys
      rcases g2 x H' hy with ⟨rfl, rep⟩ | ⟨T, us, es, t1, rfl, rfl, rfl, rep⟩
      · exact key Hsc b (Same.refl _) zz s hD nD rep
      · have ba := (bG.trans b).alloc (o := .tup us) t1 tup_noT
        have hT : d ≠ T := fun z => by rw [← z, hD] at t1; cases t1
        exact key _ (b.trans ba) ba.sub0 (hZ1 _ _ _ _ _ zz ba) (s.step ba) (by rw [upd_ne hT]; exact hD) (by rw [upd_ne hT]; exact nD) ⟨T, us, rfl, .inl (.inl upd_same), rep.mono ba.sub0⟩
theorem notOwn_wipe {d : Addr} (n : NotOwn d sd σ) : ∀ vs : List Nat, NotOwn d (wipeD sd vs) (L2.wipe σ vs)
  | [] => n
  | v :: vs => by
    refine ⟨fun i ds h => ?_, fun i ds h => ?_⟩
    · rcases get_set h with ⟨rfl, h2, _⟩ | ⟨hn, h2⟩
      · cases h2
      · show ((L2.wipe σ vs).set v none)[i]? ≠ _
        rw [List.getElem?_set_ne hn]; exact (notOwn_wipe n vs).1 i ds h2
    · rcases get_set h with ⟨rfl, h2, _⟩ | ⟨hn, h2⟩
      · cases h2
      · show ((L2.wipe σ vs).set v none)[i]? ≠ _
        rw [List.getElem?_set_ne hn]; exact (notOwn_wipe n vs).2 i ds h2
variable {elt tg it : Expr} {ifs : List Expr} {scope : Scope} {own : List (Str × Nat)} {pos : Pos} {ti : TI} {mi : ME (List D)} {tgt : TG} {g : D → SD → Option SD} {js : List Nat} {tt : TT} {mt : ME Bool} {te : TE} {me : ME D}
theorem notOwn_new {d : Addr} (s : SL G sd σ H Hs) (hd : H d = none) : NotOwn d sd σ := by
  refine ⟨fun i ds h e => ?_, fun i p h e => ?_⟩
  · obtain ⟨b, vs, h4, h5, _⟩ := s.own i ds h
    rw [e] at h4
    cases h4
    rw [hd] at h5; cases h5
  · obtain ⟨v, h4, a, ft, rfl, h5, h6⟩ := s.prv i p h
    obtain ⟨o, tl, rfl, _⟩ := h5.head
    rw [e] at h4
    cases h4
    have := (h6 _ List.mem_cons_self).at_
    rw [show H d = some o from this] at hd; cases hd
theorem jf_comp (hN : X.N.Nodup) (hi : JIB X G Wx tg it ti mi) (ok : BlkOk X.N X.env.scope scope own)
    (hg : ∀ (s : Shared) (H : Hp) (C : Addr) (cl : List (Str × Addr)) (fp : List Addr), JG (X.blk s H scope (compEnvC scope cl C X.env) fp) G tg tgt g js)
    (ht : ∀ (s : Shared) (H : Hp) (C : Addr) (cl : List (Str × Addr)) (fp : List Addr), JTs (X.blk s H scope (compEnvC scope cl C X.env) fp) G F0 ifs tt mt)
    (he : ∀ (s : Shared) (H : Hp) (C : Addr) (cl : List (Str × Addr)) (fp : List Addr), JE (X.blk s H scope (compEnvC scope cl C X.env) fp) G F0 elt te me)
    (hjs : (∀ j ∈ js, j ∈ own.map (·.2)) := by decide) (hc : X.calm = true := by rfl) (hs : ∀ x, foldedSetIterable it X.env x = pure x := by intro _; rfl) :
    JF X G Wx (.ListComp elt [⟨tg, it, ifs, 0⟩] scope pos) (tLc ti tgt tt te (own.map (·.2))) (mComp mi g mt me (own.map (·.2))) := by
  refine ⟨pe_lc hc hN hi.pe ok (fun s H C cl fp => (hg s H C cl fp).pe) (fun s H C cl fp => (ht s H C cl fp).pe) (fun s H C cl fp => (he s H C cl fp).pe) hs, fun sd w σ H Hs Q rs post => ?_⟩
  refine hi.si sd w σ H Hs _ rs ?_
  unfold mComp at post
  cases e : mi sd w with
  | exc c ns ds w' => rw [e] at post; exact post
  | bad => rw [e] at post; exact post
  | ok ds w1 =>
    rw [e] at post
    have post1 : PostF G Wx σ H Hs Q (if ds.length ≤ 16777216 then (match compL g mt me (wipeD sd (own.map (·.2))) ds w1 with
      | some (ys, w2) => .ok ys w2
      | none => .bad) else .bad) := post
    intro J H1 Hs1 b1 wk d hd
    have rs1 := rs.step b1
    split at post1
    · rename_i hl
      cases ec : compL g mt me (wipeD sd (own.map (·.2))) ds w1 with
      | none => rw [ec] at post1; exact post1.elim
      | some pr =>
        obtain ⟨ys, wF⟩ := pr
        rw [ec] at post1
        have ba := rs1.b.allocOwn (o := .lst []) hd
        have no := notOwn_new rs1.s hd
        have ⟨hap, hsp⟩ := rs1.b.none_live hd
        refine loop_in (accD := []) (P := PB G H1 Hs1) (Z := fun _ _ => True) (fun _ _ _ _ _ _ _ => trivial) (fun _ _ _ _ _ => trivial) trivial wk (fun w Hc Hs Hc' Hs' _ b _ => ⟨w, b⟩) (hg X.s_0 X.H_0 0 [] []).si hjs (ht X.s_0 X.H_0 0 [] []).si (he X.s_0 X.H_0 0 [] []).si rs1.b hd no ba (rs1.s.step ba) upd_same rfl hsp ⟨w1, ba⟩ (by show 0 + ds.length ≤ _; omega) ec fun Hc' Hs' acc' b' _ _ _ h1 h2 h3 => ?_
        exact post1 d acc' Hc' Hs' (b1.trans b') h1 h2 h3 (fun o' e hn => by
          have := b1.keep d o' hap hn e
          rw [hd] at this; cases this) hap
    · exact post1.elim
/-! ### two clauses -/
def comp2L (g : D → SD → Option SD) (mt : ME Bool) (mi1 : ME (List D)) (g1 : D → SD → Option SD) (mt1 : ME Bool) (me : ME D) (vs1 : List Nat) (sd0 : SD) : List D → List D → Option (List D × List D)
  | [], w => some ([], w)
  | d :: ds, w => match g d sd0 with
    | none => none
    | some sd1 => match mt sd1 w with
      | .ok true w1 => (match mi1 sd1 w1 with
        | .ok es w2 => if es.length ≤ 1000000 then (match compL g1 mt1 me (wipeD sd1 vs1) es w2 with
          | some (ys, w3) => (match comp2L g mt mi1 g1 mt1 me vs1 sd0 ds w3 with
            | some (zs, w4) => some (ys ++ zs, w4)
            | none => none)
          | none => none) else none
        | _ => none)
      | .ok false w1 => comp2L g mt mi1 g1 mt1 me vs1 sd0 ds w1
      | _ => none
def mComp2 (mi : ME (List D)) (g : D → SD → Option SD) (mt : ME Bool) (mi1 : ME (List D)) (g1 : D → SD → Option SD) (mt1 : ME Bool) (me : ME D) (vs vs1 : List Nat) : ME (List D) := fun sd w => (mi sd w).bind fun ds w1 => (match comp2L g mt mi1 g1 mt1 me vs1 (wipeD sd vs) ds w1 with
  | some (ys, w2) => if ys.length ≤ 1000000 then .ok ys w2 else .bad
  | none => .bad)
variable {tg1 it1 : Expr} {ifs1 : List Expr} {ti1 : TI} {mi1 : ME (List D)} {tgt1 : TG} {g1 : D → SD → Option SD} {js1 vs1 : List Nat} {tt1 : TT} {mt1 : ME Bool}
theorem jf_comp2 (hN : X.N.Nodup) (hi : JIB X G Wx tg it ti mi) (ok : BlkOk X.N X.env.scope scope own) (hv : (∀ i ∈ vs1, i ∈ own.map (·.2)))
    (hg : ∀ (s : Shared) (H : Hp) (C : Addr) (cl : List (Str × Addr)) (fp : List Addr), JG (X.blk s H scope (compEnvC scope cl C X.env) fp) G tg tgt g js)
    (ht : ∀ (s : Shared) (H : Hp) (C : Addr) (cl : List (Str × Addr)) (fp : List Addr), JTs (X.blk s H scope (compEnvC scope cl C X.env) fp) G F0 ifs tt mt)
    (hi1 : ∀ (s : Shared) (H : Hp) (C : Addr) (cl : List (Str × Addr)) (fp : List Addr), JI (X.blk s H scope (compEnvC scope cl C X.env) fp) G F0 tg1 it1 ti1 mi1)
    (hg1 : ∀ (s : Shared) (H : Hp) (C : Addr) (cl : List (Str × Addr)) (fp : List Addr), JG (X.blk s H scope (compEnvC scope cl C X.env) fp) G tg1 tgt1 g1 js1)
    (ht1 : ∀ (s : Shared) (H : Hp) (C : Addr) (cl : List (Str × Addr)) (fp : List Addr), JTs (X.blk s H scope (compEnvC scope cl C X.env) fp) G F0 ifs1 tt1 mt1)
    (he : ∀ (s : Shared) (H : Hp) (C : Addr) (cl : List (Str × Addr)) (fp : List Addr), JE (X.blk s H scope (compEnvC scope cl C X.env) fp) G F0 elt te me)
    (hjs : (∀ j ∈ js, j ∈ own.map (·.2)) := by decide) (hjs1 : (∀ j ∈ js1, j ∈ vs1) := by decide) (hc : X.calm = true := by rfl) (hs : ∀ x, foldedSetIterable it X.env x = pure x := by intro _; rfl) (hs1 : ∀ env x, foldedSetIterable it1 env x = pure x := by intro _ _; rfl) :
    JF X G Wx (.ListComp elt [⟨tg, it, ifs, 0⟩, ⟨tg1, it1, ifs1, 0⟩] scope pos) (tLc2 ti tgt tt ti1 tgt1 tt1 te (own.map (·.2)) vs1) (mComp2 mi g mt mi1 g1 mt1 me (own.map (·.2)) vs1) := by
  refine ⟨pe_lc2 hc hN hi.pe ok hv (fun s H C cl fp => (hg s H C cl fp).pe) (fun s H C cl fp => (ht s H C cl fp).pe) (fun s H C cl fp => (hi1 s H C cl fp).pe) (fun s H C cl fp => (hg1 s H C cl fp).pe) (fun s H C cl fp => (ht1 s H C cl fp).pe) (fun s H C cl fp => (he s H C cl fp).pe) hs hs1, fun sd w σ H Hs Q rs post => ?_⟩
  have hgS := (hg X.s_0 X.H_0 0 [] []).si
  have htS := (ht X.s_0 X.H_0 0 [] []).si
  have hiS := (hi1 X.s_0 X.H_0 0 [] []).si
  have hg1S := (hg1 X.s_0 X.H_0 0 [] []).si
  have ht1S := (ht1 X.s_0 X.H_0 0 [] []).si
  have heS := (he X.s_0 X.H_0 0 [] []).si
  generalize own.map (·.2) = vs at *
  refine hi.si sd w σ H Hs _ rs ?_
  unfold mComp2 at post
  cases e : mi sd w with
  | exc c ns ds w' => rw [e] at post; exact post
  | bad => rw [e] at post; exact post
  | ok ds w1 =>
    rw [e] at post
    have post1 : PostF G Wx σ H Hs Q (match comp2L g mt mi1 g1 mt1 me vs1 (wipeD sd vs) ds w1 with
      | some (ys, w2) => if ys.length ≤ 1000000 then .ok ys w2 else .bad
      | none => .bad) := post
    intro J H1 Hs1 b1 wk d hd
    have rs1 := rs.step b1
    cases ec : comp2L g mt mi1 g1 mt1 me vs1 (wipeD sd vs) ds w1 with
    | none => rw [ec] at post1; exact post1.elim
    | some pr =>
      obtain ⟨ys, wF⟩ := pr
      rw [ec] at post1
      simp only at post1
      split at post1
      · rename_i hl
        have ba := rs1.b.allocOwn (o := .lst []) hd
        have no := notOwn_new rs1.s hd
        have ⟨hap, hsp⟩ := rs1.b.none_live hd
        have bG := rs1.b
        refine ⟨fun i m Hc => ∃ w Hsc acc1 accD1 rest, B (G.at_ H1 Hs1) w Hc Hsc ∧ SL G sd σ Hc Hsc ∧ Hc d = some (.lst acc1) ∧ RepL G.c Hsc accD1 acc1 ∧ Hsc d = none ∧ i + m = ds.length ∧
            comp2L g mt mi1 g1 mt1 me vs1 (wipeD sd vs) (ds.drop i) w = some (rest, wF) ∧ accD1 ++ rest = ys, ⟨ds.length, w1, Hs1, [], [], ys, ba, rs1.s.step ba, upd_same, rfl, hsp, Nat.zero_add _, ec, rfl⟩, fun i m Hc h => ?_⟩
        obtain ⟨wc, Hsc, acc1, accD1, rest, b, s, hD, rD, nD, em, ecc, eys⟩ := h
        cases ei : ds[i]? with
        | none =>
          have hi : ds.length ≤ i := List.getElem?_eq_none_iff.mp ei
          have e0 : i = ds.length := by omega
          subst e0
          rw [List.drop_length] at ecc
          simp only [comp2L, Option.some.injEq, Prod.mk.injEq] at ecc
          obtain ⟨rfl, rfl⟩ := ecc
          rw [List.append_nil] at eys
          subst eys
          refine .inl ⟨wk.stop Hc Hsc ⟨_, b⟩ b.sub, ?_⟩
          exact post1 d acc1 Hc Hsc (b1.trans b) hD rD nD (fun o' e hn => by
            have := b1.keep d o' hap hn e
            rw [hd] at this; cases this) hap
        | some x0 =>
          have hil : i < ds.length := (List.getElem?_eq_some_iff.mp ei).1
          have e1 : ds.drop i = x0 :: ds.drop (i + 1) := by
            rw [List.drop_eq_getElem_cons hil]
            rw [List.getElem?_eq_getElem hil] at ei
            rw [Option.some.inj ei]
          rw [e1] at ecc
          simp only [comp2L] at ecc
          obtain ⟨q1, q2⟩ := wk.go i x0 Hc Hsc ei ⟨_, b⟩ b.sub
          refine .inr ⟨q1, fun H' => ∃ w Hsc acc1 accD1 rest, B (G.at_ H1 Hs1) w H' Hsc ∧ SL G sd σ H' Hsc ∧ H' d = some (.lst acc1) ∧ RepL G.c Hsc accD1 acc1 ∧ Hsc d = none ∧
            comp2L g mt mi1 g1 mt1 me vs1 (wipeD sd vs) (ds.drop (i + 1)) w = some (rest, wF) ∧ accD1 ++ rest = ys, fun H' hN => ?_, fun x H' hy => ?_⟩
          · obtain ⟨w3, Hs3, a3, aD3, rest3, q1, q2, q3, q4, q5, q6, q7⟩ := hN
            exact ⟨m - 1, by omega, w3, Hs3, a3, aD3, rest3, q1, q2, q3, q4, q5, by omega, q6, q7⟩
          · have st : ∃ Hs3, B (G.at_ H1 Hs1) wc H' Hs3 ∧ Same Hsc Hs3 ∧ SL G sd σ H' Hs3 ∧ H' d = some (.lst acc1) ∧ Hs3 d = none ∧ Rep G.c Hs3 x0 x := by
              rcases q2 x H' hy with ⟨rfl, rep⟩ | ⟨T, us, es, t1, rfl, rfl, rfl, rep⟩
              · exact ⟨Hsc, b, Same.refl _, s, hD, nD, rep⟩
              · have ba := (bG.trans b).alloc (o := .tup us) t1 tup_noT
                have hT : d ≠ T := fun z => by rw [← z, hD] at t1; cases t1
                exact ⟨_, b.trans ba, ba.sub0, s.step ba, by rw [upd_ne hT]; exact hD, by rw [upd_ne hT]; exact nD, T, us, rfl, .inl (.inl upd_same), rep.mono ba.sub0⟩
            obtain ⟨Hs3, b3, sm3, s3, hD3, nD3, rep⟩ := st
            · skip
              cases eg : g x0 (wipeD sd vs) with
              | none => rw [eg] at ecc; cases ecc
              | some sd1 =>
                rw [eg] at ecc
                simp only at ecc
                have rs3 : RS G (wipeD sd vs) wc (L2.wipe σ vs) H' Hs3 := ⟨bG.trans b3, s3.wipe vs⟩
                refine hgS x0 x _ wc _ H' Hs3 _ rs3 rep (fun sd' e' σ4 rs4 wp => ?_) (by rw [eg]; rfl)
                rw [eg] at e'
                cases e'
                refine ⟨by rw [wp.wp vs hjs, wipe_wipe fun v hv => hv], ?_⟩
                refine htS sd1 wc σ4 H' Hs3 _ rs4 ?_
                cases et : mt sd1 wc with
                | exc c ns ds w' => rw [et] at ecc; cases ecc
                | bad => rw [et] at ecc; cases ecc
                | ok k w5 =>
                  rw [et] at ecc
                  intro k' H5 Hs5 b5 ek
                  obtain rfl : k = k' := ek
                  have rs5 := rs4.step b5
                  have b5' := b3.trans b5
                  have s5 := s3.step b5
                  have hD5 := b5.keep d _ hap lst_noT hD3
                  have nD5 := none_stay b5 hD3 lst_noT nD3
                  have rD5 := rD.mono (sm3.trans b5.sub0)
                  cases k with
                  | false => exact ⟨w5, Hs5, acc1, accD1, rest, b5', s5, hD5, rD5, nD5, ecc, eys⟩
                  | true =>
                    simp only at ecc
                    refine hiS sd1 w5 σ4 H5 Hs5 _ rs5 ?_
                    cases ee : mi1 sd1 w5 with
                    | exc c ns ds w' => rw [ee] at ecc; cases ecc
                    | bad => rw [ee] at ecc; cases ecc
                    | ok es w6 =>
                      rw [ee] at ecc
                      simp only at ecc
                      split at ecc
                      · rename_i hes
                        intro J1 H6 Hs6 b6 wk6
                        have b6' := b5'.trans b6
                        have s6 := s5.step b6
                        have rs6 := rs5.step b6
                        have hD6 := b6.keep d _ hap lst_noT hD5
                        have nD6 := none_stay b6 hD5 lst_noT nD5
                        have no6 : NotOwn d sd1 σ4 := wp.no d (notOwn_wipe no vs)
                        cases er : compL g1 mt1 me (wipeD sd1 vs1) es w6 with
                        | none => rw [er] at ecc; cases ecc
                        | some pr =>
                          obtain ⟨y1, w7⟩ := pr
                          rw [er] at ecc
                          simp only at ecc
                          cases er2 : comp2L g mt mi1 g1 mt1 me vs1 (wipeD sd vs) (ds.drop (i + 1)) w7 with
                          | none => rw [er2] at ecc; cases ecc
                          | some pr2 =>
                            obtain ⟨z1, w8⟩ := pr2
                            rw [er2] at ecc
                            simp only [Option.some.injEq, Prod.mk.injEq] at ecc
                            obtain ⟨rfl, rfl⟩ := ecc
                            have hlen : accD1.length + es.length ≤ 16777216 := by
                              have : accD1.length ≤ ys.length := by rw [← eys, List.length_append]; omega
                              omega
                            refine loop_in (P := PM H6 Hs6) (Z := SL G sd σ) (fun w H Hs H' Hs' z b => SL.step z b) (fun H Hs o hd z => SL.writeOther z no hd) s6 wk6 (fun w Hc Hs Hc' Hs' p _ q => Same.trans p q) hg1S hjs1 ht1S heS bG hd no6 b6' rs6.s hD6 (rD5.mono b6.sub0) nD6 (Same.refl _) hlen er fun Hc' Hs' acc' c1 c2 c3 c4 c5 c6 c7 => ?_
                            exact ⟨w7, Hs', acc', accD1 ++ y1, z1, c1, c3, c5, c6, c7, er2, by rw [List.append_assoc]; exact eys⟩
                      · cases ecc
      · exact post1.elim
end
end FT
end
section
set_option Elab.async false
set_option linter.all false
set_option maxRecDepth 100000
set_option maxHeartbeats 4000000
namespace FT
open PySem PySem.Spec PyProof.Rows L2
/-! ### a def by its body -/
def sd0 (n : Nat) (ds : List D) : SD := ds.map SV.val ++ List.replicate (n - ds.length) SV.no
def outR : Out → R D
  | .nx _ w => .ok .non w
  | .ret d w => .ok d w
  | .exc _ c ns ds w => .exc c ns ds w
  | _ => .bad
def runB (n : Nat) (m : MS) (ds w : List D) : R D := outR (m (sd0 n ds) w)
theorem sl_start {G : Gh} {N : List Str} {ds : List D} {vs : List V} {H Hs : Hp} (r : RepL G.c Hs ds vs) (hl : ds.length ≤ N.length) : SL G (sd0 N.length ds) (L2.start N vs) H Hs := by
  have hv := r.length
  have own0 : ∀ (i : Nat) (es : List D), (sd0 N.length ds)[i]? ≠ some (SV.own es) := fun i es h => by
    unfold sd0 at h
    rcases List.mem_append.mp (List.mem_of_getElem? h) with h | h
    · obtain ⟨d, _, e⟩ := List.mem_map.mp h
      cases e
    · have := (List.mem_replicate.mp h).2
      cases this
  have prv0 : ∀ (i : Nat) (p : Pv), (sd0 N.length ds)[i]? ≠ some (SV.prv p) := fun i es h => by
    unfold sd0 at h
    rcases List.mem_append.mp (List.mem_of_getElem? h) with h | h
    · obtain ⟨d, _, e⟩ := List.mem_map.mp h
      cases e
    · have := (List.mem_replicate.mp h).2
      cases this
  refine ⟨?_, fun i d h => ?_, fun i es h => absurd h (own0 i es), fun i j es fs a h => absurd h (own0 i es), fun i es h => absurd h (prv0 i es), fun i j es fs a h => absurd h (prv0 i es)⟩
  · unfold sd0 L2.start
    simp only [List.length_append, List.length_map, List.length_replicate, hv]
  · unfold sd0 at h
    by_cases hi : i < ds.length
    · rw [List.getElem?_append_left (by simpa using hi), List.getElem?_map] at h
      cases e : ds[i]? with
      | none => rw [e] at h; cases h
      | some d' =>
        rw [e] at h
        cases h
        obtain ⟨v, e1, e2⟩ := r.get e
        refine ⟨v, ?_, e2⟩
        unfold L2.start
        rw [List.getElem?_append_left (by simpa [hv] using hi), List.getElem?_map, e1]; rfl
    · rw [List.getElem?_append_right (by simpa using hi)] at h
      have := (List.mem_replicate.mp (List.mem_of_getElem? h)).2
      cases this
section
variable {P : Program} {w0 : World} {K : PySem.W.Frag} {mg : Str → Option Value} {base : Heap}
theorem ok_fn {x qual : Str} {st : Stmt} {f : Addr} {fd : FuncData} {N ps : List Str} {k : Nat} {cl : Nat → Addr} {T : List (Addr × Str)} {m : MS} (F : Fun K x qual st f fd) (S : FnScope N ps (defScope st)) (hps : ps.length ≤ N.length)
    (hb : ∀ (cdv : Value) (A : Around) (outer : List Env) (s : Shared) (H : Hp) (E : XK) (ap : Option Addr) (HP Hs : Hp), Room k (A.deeper (envOfC qual (defScope st) s.heap.objs.size f cdv)) →
      ∃ t, JSs (cxOf (L2.CX P w0) P w0 K mg base N qual (defScope st) f cdv A outer s H E) (gh K cl T ap HP H Hs) (fun c d _ H => E c d H) (defBody st) t m) :
    FnOk P w0 K mg base (L2.CX P w0) (k + 1) f fd ps (spF K cl T ps.length (runB N.length m)) := by
  refine F.okX S (fun vs H Q E h => ?_) (fun cdv A outer s H vs Q E hr h => ?_)
  · obtain ⟨ap, HP, Hs, ds, w, _, r, hn, _⟩ := h
    rw [r.length, hn]
  · obtain ⟨ap, HP, Hs, ds, w, b, r, hn, post⟩ := h
    obtain ⟨t, J⟩ := hb cdv A outer s H E ap HP Hs hr
    refine ⟨t, J.pe, J.si (sd0 N.length ds) w (L2.start N vs) H Hs _ ⟨b, sl_start (G := gh K cl T ap HP H Hs) r (by rw [hn]; exact hps)⟩ ?_⟩
    unfold runB at post
    cases e : m (sd0 N.length ds) w with
    | nx sd' w' =>
      rw [e] at post
      exact fun σ' H' Hs' rs _ => post _ H' Hs' rs.b rfl
    | ret d w' =>
      rw [e] at post
      exact fun v H' Hs' b' q => post v H' Hs' b' q
    | brk sd' w' => rw [e] at post; exact post.elim
    | cnt sd' w' => rw [e] at post; exact post.elim
    | exc sd' c ns ds w' =>
      rw [e] at post
      exact fun dd σ' H' Hs' rs q => post dd H' Hs' rs.b q
    | bad => rw [e] at post; exact post.elim
end
/-! ### exceptions with an __init__ of their own -/
section
variable {P : Program} {w0 : World} {K : PySem.W.Frag} {mg : Str → Option Value} {base : Heap}
/-- self.f = f -/
def spI1 (K : PySem.W.Frag) (f : Str) : Sp := fun vs H Q _ => ∃ (a C : Addr) (y : V), vs = [.ref a, y] ∧ OexC K C ∧ PySem.W.findIn K (.ref C) f = some none ∧ H a = some (exo a C none) ∧ ∀ dx, H dx = none → dx ≠ a → Q .non (upd (upd H dx (exd dx [(f, y)])) a (exo a C (some dx)))
/-- self.f = f; self.g = g -/
def spI2 (K : PySem.W.Frag) (f g : Str) : Sp := fun vs H Q _ => ∃ (a C : Addr) (y z : V), vs = [.ref a, y, z] ∧ OexC K C ∧ PySem.W.findIn K (.ref C) f = some none ∧ PySem.W.findIn K (.ref C) g = some none ∧ H a = some (exo a C none) ∧
  ∀ dx, H dx = none → dx ≠ a → Q .non (upd (upd (upd H dx (exd dx [(f, y)])) a (exo a C (some dx))) dx (exd dx [(g, z), (f, y)]))
theorem ok_init1 {x qual f : Str} {st : Stmt} {fa : Addr} {fd : FuncData} {ps : List Str} {t1 t2 t3 t4 : Pos} {k : Nat} (F : Fun K x qual st fa fd) (S : FnScope ["self", f] ["self", f] (defScope st)) (hb : defBody st = [.Assign [.Attribute (.Name "self" t1) f t2] (.Name f t3) t4]) (hf : (f == ("__debug__" : Str)) = false) (hf2 : (f == ("__classdict__" : Str)) = false)
    (v1 : Vis (defScope st) "self") (v2 : Vis (defScope st) f) (hsw : ∀ (env : Env), swapsWith (.Name f t3) (some (.Attribute (.Name "self" t1) f t2)) t4.line env = pure false) : FnOk P w0 K mg base (L2.CX P w0) (k + 1) fa fd ["self", f] (spI1 K f) := by
  refine F.okX S (fun vs H Q E h => ?_) (fun cdv A outer s H vs Q E hr h => ?_)
  · obtain ⟨a, C, y, rfl, _⟩ := h; rfl
  · obtain ⟨a, C, y, rfl, T, hn, ha, q⟩ := h
    rw [hb]
    refine ⟨_, pss_one (ps_ost (pe_var (i := 0) rfl v1) (pe_var (i := 1) rfl v2 hf hf2) (hsw _)), ?_⟩
    exact ⟨y, rfl, _, rfl, a, C, rfl, T, hn, .inl ⟨ha, fun dx h1 h2 => q dx h1 h2⟩⟩
theorem ok_init2 {x qual f g : Str} {st : Stmt} {fa : Addr} {fd : FuncData} {ps : List Str} {t1 t2 t3 t4 u1 u2 u3 u4 : Pos} {k : Nat} (F : Fun K x qual st fa fd) (S : FnScope ["self", f, g] ["self", f, g] (defScope st)) (hb : defBody st = [.Assign [.Attribute (.Name "self" t1) f t2] (.Name f t3) t4, .Assign [.Attribute (.Name "self" u1) g u2] (.Name g u3) u4])
    (hf : (f == ("__debug__" : Str)) = false) (hf2 : (f == ("__classdict__" : Str)) = false) (hg : (g == ("__debug__" : Str)) = false) (hg2 : (g == ("__classdict__" : Str)) = false)
    (v1 : Vis (defScope st) "self") (v2 : Vis (defScope st) f) (v3 : Vis (defScope st) g) (hsw : ∀ (env : Env), swapsWith (.Name f t3) (some (.Attribute (.Name "self" t1) f t2)) t4.line env = pure false) (hsw2 : ∀ (env : Env), swapsWith (.Name g u3) (some (.Attribute (.Name "self" u1) g u2)) u4.line env = pure false) : FnOk P w0 K mg base (L2.CX P w0) (k + 1) fa fd ["self", f, g] (spI2 K f g) := by
  refine F.okX S (fun vs H Q E h => ?_) (fun cdv A outer s H vs Q E hr h => ?_)
  · obtain ⟨a, C, y, z, rfl, _⟩ := h; rfl
  · obtain ⟨a, C, y, z, rfl, T, hn, hn2, ha, q⟩ := h
    rw [hb]
    refine ⟨_, pss_cons (ps_ost (pe_var (i := 0) rfl v1) (pe_var (i := 1) rfl v2 hf hf2) (hsw _)) (pss_one (ps_ost (pe_var (i := 0) rfl v1) (pe_var (i := 2) rfl v3 hg hg2) (hsw2 _))), ?_⟩
    refine ⟨y, rfl, _, rfl, a, C, rfl, T, hn, .inl ⟨ha, fun dx h1 h2 => ?_⟩⟩
    refine ⟨z, rfl, _, rfl, a, C, rfl, T, hn2, .inr ⟨dx, [(f, y)], upd_same, ?_, by show 1 ≤ 900; decide, q dx h1 h2⟩⟩
    rw [upd_ne h2, upd_same]
end
/-- what is known of an own error class, by its number -/
structure XC (X : Cx) (G : Gh) (n : Nat) (x : Str) (fI : Addr) : Prop where
  oex : OexC X.K (G.c.cl n)
  iC : PySem.W.findIn X.K (.ref (G.c.cl n)) "__init__" = some (some (.ref fI))
  tI : PySem.W.typeIn X.K (.ref fI) = some (.type "function")
  mg : X.mg x = some (.ref (G.c.cl n))
section
variable {X : Cx} {G : Gh} {Wx : WX} {w w' w1 w2 : List D} {H Hs H' Hs' H1 Hs1 H2 Hs2 : Hp} {sd : SD} {σ : L2.St}
variable {e e2 : Expr} {t : TA} {ma : ME (List D)} {p pos pos2 : Pos} {x f g : Str} {n k : Nat} {fI : Addr} {fd : FuncData}
theorem xd_noT {fs : List (Str × V)} : NoT (.xd fs) := fun _ e => by cases e
theorem exo_heap1 {a dx C : Addr} {fs gs : List (Str × V)} (ha : H1 a = none) (hd : dx ≠ a) : upd (del (upd (upd (upd H1 a (exo a C none)) dx (exd dx gs)) a (exo a C (some dx))) a) dx (.xd fs) = upd H1 dx (.xd fs) := by
  funext b
  by_cases h1 : b = dx
  · subst h1; rw [upd_same, upd_same]
  · rw [upd_ne h1, upd_ne h1]
    by_cases h2 : b = a
    · subst h2; rw [del_same, ha]
    · rw [del_ne h2, upd_ne h2, upd_ne h1, upd_ne h2]
theorem exo_heap2 {a dx C : Addr} {fs gs hs : List (Str × V)} (ha : H1 a = none) (hd : dx ≠ a) : upd (del (upd (upd (upd (upd H1 a (exo a C none)) dx (exd dx gs)) a (exo a C (some dx))) dx (exd dx hs)) a) dx (.xd fs) = upd H1 dx (.xd fs) := by
  funext b
  by_cases h1 : b = dx
  · subst h1; rw [upd_same, upd_same]
  · rw [upd_ne h1, upd_ne h1]
    by_cases h2 : b = a
    · subst h2; rw [del_same, ha]
    · rw [del_ne h2, upd_ne h1, upd_ne h2, upd_ne h1, upd_ne h2]
def mRaise1 (n : Nat) (f : Str) (m : ME (List D)) : MS := fun sd w => eb (m sd w) sd fun ds w1 => match ds with
  | [d] => .exc sd n [f] [d] w1
  | _ => .bad
def mRaise2 (n : Nat) (f g : Str) (m : ME (List D)) : MS := fun sd w => eb (m sd w) sd fun ds w1 => match ds with
  | [d, e] => .exc sd n [g, f] [e, d] w1
  | _ => .bad
theorem js_raise1 (T : XC X G n x fI) (F1 : FnOk X.prog X.w X.K X.mg X.base (L2.CX X.prog X.w) k fI fd ["self", f] (spI1 X.K f)) (hr : Room (k + 1) X.A) (hb : L2.Binds X.K fd ["self", f] []) (hn : PySem.W.findIn X.K (.ref (G.c.cl n)) f = some none) (tk : Takes X Wx) (ha : JA X G Wx [e] t ma)
    (hc : X.calm = true := by rfl) (hg : Gl X x := by rfl) (hdb : (x == ("__debug__" : Str)) = false := by decide) (he : starEach [e] X.env = (false, eval e X.env) :: starEach [] X.env := by rfl) :
    JS X G Wx (.Raise (some (.Call (.Name x p) [e] [] pos)) none pos2) (fun _ σ H => tMkO (G.c.cl n) (spI1 X.K f) [] t σ H fun cls d H' => Wx cls d σ H') (mRaise1 n f ma) := by
  refine ⟨ps_raise hc tk (pmk_oex T.oex T.iC T.tI F1 hr hb .nil passL hg T.mg ha.pe hdb he rfl), fun sd w σ H Hs De rs post => ?_⟩
  refine ha.si.bindS rs post fun ds w1 vs H1 Hs1 rs1 b1 q1 post1 => ?_
  match ds, q1, post1 with
  | [d], ⟨v, r, h1, h2, h3⟩, post1 =>
    rw [h1, show r = [] from h3]
    refine ⟨by show 1 ≤ 1000; decide, fun a ha => ⟨a, G.c.cl n, v, rfl, T.oex, hn, upd_same, fun dx hd1 hd2 => ⟨rfl, dx, [(f, v)], upd_same, ?_, ?_, ?_⟩⟩⟩
    · rw [upd_ne hd2, upd_same]
    · rw [upd_ne hd2] at hd1; exact hd1
    · rw [upd_ne hd2] at hd1
      rw [exo_heap1 ha hd2]
      have ba := rs1.b.allocOwn (o := .xd [(f, v)]) hd1
      exact post1 dx σ _ Hs1 (rs1.step ba) ⟨[(f, v)], upd_same, rfl, RepL.one h2⟩
  | [], _, post1 => exact post1.elim
  | _ :: _ :: _, _, post1 => exact post1.elim
theorem js_raise2 (T : XC X G n x fI) (F1 : FnOk X.prog X.w X.K X.mg X.base (L2.CX X.prog X.w) k fI fd ["self", f, g] (spI2 X.K f g)) (hr : Room (k + 1) X.A) (hb : L2.Binds X.K fd ["self", f, g] []) (hn : PySem.W.findIn X.K (.ref (G.c.cl n)) f = some none) (hn2 : PySem.W.findIn X.K (.ref (G.c.cl n)) g = some none) (tk : Takes X Wx) (ha : JA X G Wx [e, e2] t ma)
    (hc : X.calm = true := by rfl) (hg : Gl X x := by rfl) (hdb : (x == ("__debug__" : Str)) = false := by decide) (he : starEach [e, e2] X.env = (false, eval e X.env) :: starEach [e2] X.env := by rfl) (hpl : (backTo pos (starEach [e2] X.env)).any (·.1) = false := by rfl) :
    JS X G Wx (.Raise (some (.Call (.Name x p) [e, e2] [] pos)) none pos2) (fun _ σ H => tMkO (G.c.cl n) (spI2 X.K f g) [] t σ H fun cls d H' => Wx cls d σ H') (mRaise2 n f g ma) := by
  refine ⟨ps_raise hc tk (pmk_oex T.oex T.iC T.tI F1 hr hb .nil passL hg T.mg ha.pe hdb he hpl), fun sd w σ H Hs De rs post => ?_⟩
  refine ha.si.bindS rs post fun ds w1 vs H1 Hs1 rs1 b1 q1 post1 => ?_
  match ds, q1, post1 with
  | [d, d2], ⟨v, r, h1, h2, u, r2, h3, h4, h5⟩, post1 =>
    rw [h1, h3, show r2 = [] from h5]
    refine ⟨by show 2 ≤ 1000; decide, fun a ha => ⟨a, G.c.cl n, v, u, rfl, T.oex, hn, hn2, upd_same, fun dx hd1 hd2 => ⟨rfl, dx, [(g, u), (f, v)], ?_, upd_same, ?_, ?_⟩⟩⟩
    · rw [upd_ne (Ne.symm hd2), upd_same]
    · rw [upd_ne hd2] at hd1; exact hd1
    · rw [upd_ne hd2] at hd1
      rw [exo_heap2 ha hd2]
      have ba := rs1.b.allocOwn (o := .xd [(g, u), (f, v)]) hd1
      exact post1 dx σ _ Hs1 (rs1.step ba) ⟨[(g, u), (f, v)], upd_same, rfl, u, [v], rfl, h4, v, [], rfl, h2, rfl⟩
  | [], _, post1 => exact post1.elim
  | [_], _, post1 => exact post1.elim
  | _ :: _ :: _ :: _, _, post1 => exact post1.elim
end
end FT
end
section
set_option Elab.async false
set_option linter.all false
set_option maxRecDepth 100000
set_option maxHeartbeats 4000000
namespace FT
open PySem PySem.Spec PyProof.Rows L2 LamX
/-! ### several except clauses with names -/
abbrev Cls3 := Value × Nat × (Addr → Value → Option Addr → TS)
def wManyA (K : PySem.W.Frag) (Wout : WX) (D : Ends) : List Cls3 → WX
  | [] => Wout
  | (c, i, ts) :: r => fun cls d σ H => ∃ b, PySem.W.exmOne K cls c = some b ∧
      (b = true → ∀ a, H a = none → ts a cls d { nx := fun σ' H' => D.nx (σ'.set i none) H', rt := D.rt, bk := fun σ' H' => D.bk (σ'.set i none) H', ct := fun σ' H' => D.ct (σ'.set i none) H' } (σ.set i (some (.ref a))) H) ∧ (b = false → wManyA K Wout D r cls d σ H)
inductive HdsA (X : Cx) : List ExceptHandler → List Cls3 → Prop
  | nil : HdsA X [] []
  | cons {x n : Str} {c : Value} {i : Nat} {ts : Addr → Value → Option Addr → TS} {b₀ : Stmt} {suite : List Stmt} {np pos' : Pos} {hds : List ExceptHandler} {l : List Cls3} (hc : Names X x c) (hi : X.N[i]? = some n) (hln : X.env.kindOf n = some .local)
      (hsu : ∀ (a : Addr) (oe : Obj) (cls : Value) (d : Option Addr) (pn : List (Addr × Obj)), Zc cls d oe → (∃ vs, oe.data = .fields vs) → PSs (X.suite a ((a, oe) :: pn)) (b₀ :: suite) (ts a cls d)) (r : HdsA X hds l) :
      HdsA X (.ExceptHandler (some (.Name x np)) (some n) (b₀ :: suite) pos' :: hds) ((c, i, ts) :: l)
section
variable {X : Cx} {body : List Stmt} {h₀ : ExceptHandler} {hds : List ExceptHandler} {l : List Cls3} {pos : Pos} {tb : WX → TS} {Wout : WX}
theorem ps_try_manyA (hs : X.stack = X.env :: X.outer) (hf : X.env.frame = some X.env.locals) (hN : X.N.Nodup) (tk : Takes X Wout)
    (hb : ∀ (W : WX) (pn : List (Addr × Obj)) (xe : Value → Shared → Prop), Takes (X.tr pn xe) W → PassesOwn (model X.prog X.w) X.A X.env xe → PSs (X.tr pn xe) body (tb W))
    (hh : HdsA X (h₀ :: hds) l) : PS X (.Try body (h₀ :: hds) [] [] pos) (fun D σ H => tb (wManyA X.K Wout D l) D σ H) := by
  refine ⟨fun pins s σ H D I h => ?_⟩
  have ok := I.ok
  have hfr : X.A.frames = some (X.env :: X.outer) := by rw [ok.frames, hs]
  refine wpAny_Try_except ?_
  refine wpAny_mono ((hb (wManyA X.K Wout D l) (X.pn ++ pins) (fun e s₁ => wpAny (model X.prog X.w) X.A (noteFrame e X.env) (fun _ s₂ => wpAny (model X.prog X.w) X.A (setFlight e none) (fun _ s₃ =>
    wpAny (model X.prog X.w) X.A (handleBy e X.env (h₀ :: hds)) (SP X pins D) X.xe s₃) X.xe s₂) X.xe s₁) (fun u s' xx => ?_) PassesOwn.looking).run [] s σ H D (I.toTry _) h) (fun f s1 hsp => ?_) (fun e s1 he => he)
  · obtain ⟨a, B, sI, pins', σ', H', cls, d, rfl, J', nb, up, sky, na, os, ag, w⟩ := xx
    have J : Inv X pins σ' H' sI := J'.ofTry ok
    have sky' : Sky B (X.env :: X.outer) a (Zc cls d) X.env.locals s'.heap := by rw [← hs]; exact sky
    show wpAny (model X.prog X.w) X.A (noteFrame (.ref a) X.env) _ _ _
    refine Sky.land Zc.steady hfr hf sky' fun h3 fl3 up3 => ?_
    have J3 : Inv X pins σ' H' { s' with heap := h3 } := J.landed nb fl3.1 (up.trans up3) os ag
    obtain ⟨oe3, vs3, he3, hz3, hd3⟩ := fl3.there
    have notFr : ∀ {h : Heap} {o : Obj} {vs : Array Value}, h.FunFrames B (X.env :: X.outer) → h.get? a = some o → o.data = .fields vs → a ∉ frs (X.env :: X.outer) := fun {h o vs} ff e dd hm => by
      obtain ⟨_, o', e', hnf⟩ := ff.mem hm
      rw [e] at e'; cases e'
      exact hnf _ dd
    have nfr := notFr fl3.2.2.1 he3 hd3
    have nL : a ≠ X.env.locals := fun z => nfr (List.mem_filterMap.mpr ⟨X.env, List.mem_cons_self, by rw [hf, z]⟩)
    have nF : a ∉ X.fs := fun hm => by
      obtain ⟨e, he, q⟩ := List.mem_filterMap.mp hm
      exact nfr (List.mem_filterMap.mpr ⟨e, List.mem_cons_of_mem _ he, q⟩)
    have S3 := J3.suite he3 hd3 na nL nF
    have go : ∀ {hds' : List ExceptHandler} {l' : List Cls3}, HdsA X hds' l' → wManyA X.K Wout D l' cls d σ' H' →
        wpAny (model X.prog X.w) X.A (handleBy (.ref a) X.env hds') (SP X pins D) X.xe { s' with heap := h3 } := by
      intro hds' l' hk
      induction hk with
      | nil =>
        intro w
        refine wpAny_handleBy_nil ?_
        obtain ⟨k1, k2, k3, oe, vs, T, oT, ts', he, hz, hd, h1, hr⟩ := id fl3
        unfold PySem.passOn
        refine wpAny_bind (wpAny_field he hd h1 ?_)
        rw [if_neg (show ¬ ((Value.ref T == Value.none) = true) from by simp)]
        have fin : wpAny (model X.prog X.w) X.A (setFlight (.ref a) X.env.frame) (fun _ s4 => wpAny (model X.prog X.w) X.A (throw (.ref a) : Sem Flow) (SP X pins D) X.xe s4) X.xe { s' with heap := h3 } := by
          rw [hf]
          refine HandSPX.setFlight_upZ fl3 fun h4 hh4 up4 => wpAny_throw (tk _ _ ?_)
          exact ⟨a, B, sI, pins, σ', H', cls, d, rfl, J, nb, (up.trans up3).trans up4, .inr (.inr (by rw [hs]; exact hh4)), na, os, ag, w⟩
        first
          | exact wpAny_bind (wpAny_pure (wpAny_bind fin))
          | exact wpAny_bind fin
      | @cons x n c i ts b₀ suite np pos' hds2 l2 hc hi hln hsu r ih =>
        intro w
        have hloc : Loc X.env.scope n := .inl hln
        obtain ⟨b, hb1, hyes, hno⟩ := w
        refine wpAny_handleBy_cons (codeAny_handlers_test ?_) (by intro q; cases q)
        have LT : PySem.W.Looks (model X.prog X.w) h3 (typeOf (.ref a)) cls := fun A Q E s k q => wpAny_typeOf_ref (k _ _ he3) (by rw [hz3.1]; exact q)
        have LM := PySem.W.exm_one (M := model X.prog X.w) (J3.kIn) LT hb1
        have test : ∀ {Q : Value → Shared → Prop} {E : Value → Shared → Prop}, Q c { s' with heap := h3 } → wpAny (model X.prog X.w) (X.A.mark (some (.ref a))) (eval (.Name x np) X.env) Q E { s' with heap := h3 } := fun {Q E} q => by
          obtain ⟨hg, hdbg, hm | ⟨hm, hv, hnn⟩⟩ := hc
          · exact ld_glob (X := X.suite a ((a, oe3) :: (X.pn ++ pins))) S3 hg hm q hdbg
          · exact ld_blt (X := X.suite a ((a, oe3) :: (X.pn ++ pins))) S3 hg hm hv q hnn hdbg
        refine test (LM.here ?_)
        cases b with
        | true =>
          refine codeAny_handlers_suite_as ?_
          refine HandSPX.lands_againZ fl3 fun h4 fl4 up4 => ?_
          have J4 : Inv X pins σ' H' { s' with heap := h4 } := J.landed nb fl4.1 ((up.trans up3).trans up4) os ag
          obtain ⟨oe4, vs4, he4, hz4, hd4⟩ := fl4.there
          have S4 := J4.suite he4 hd4 na nL nF
          refine store_ok (X := X.suite a ((a, oe4) :: (X.pn ++ pins))) (v := .ref a) S4 hN hi hloc rfl (fun s5 S5 => ?_) (.inr hln)
          refine wpAny_mono ((hsu a oe4 cls d (X.pn ++ pins) hz4 ⟨_, hd4⟩).run [] s5 _ H' _ S5 (hyes rfl a na)) (fun f s6 hsp => ?_) (fun _ _ z => False.elim z)
          have end_ : ∀ {σ6 : L2.St} {H6 : Hp} {Q : Shared → Prop}, Inv (X.suite a ((a, oe4) :: (X.pn ++ pins))) [] σ6 H6 s6 → (∀ s7, Inv X pins (σ6.set i none) H6 s7 → Q s7) →
              wpAny (model X.prog X.w) X.A (do bindName X.env n .none; unbindBehindTheSuite X.env n pos') (fun _ s7 => Q s7) X.xe s6 := fun {σ6 H6 Q} S6 hq => gone_ok (S6.unsuite ok) hN hi hln hq
          cases f with
          | next =>
            obtain ⟨σ6, H6, S6, q6⟩ := hsp
            exact end_ S6 fun s7 J7 => ⟨_, _, J7, q6⟩
          | brk =>
            obtain ⟨σ6, H6, S6, q6⟩ := hsp
            exact end_ S6 fun s7 J7 => ⟨_, _, J7, q6⟩
          | cont =>
            obtain ⟨σ6, H6, S6, q6⟩ := hsp
            exact end_ S6 fun s7 J7 => ⟨_, _, J7, q6⟩
          | ret u =>
            obtain ⟨v6, σ6, H6, S6, r6, q6⟩ := hsp
            exact end_ S6 fun s7 J7 => ⟨_, _, _, J7, r6, q6⟩
        | false =>
          show wpAny _ X.A (handleBy (.ref a) X.env hds2) _ _ _
          exact ih (hno rfl)
    exact go hh w
  · cases f with
    | next =>
      obtain ⟨σ', H', J', q⟩ := hsp
      exact wpAny_execs_nil ⟨σ', H', J'.ofTry ok, q⟩
    | brk =>
      obtain ⟨σ', H', J', q⟩ := hsp
      exact ⟨σ', H', J'.ofTry ok, q⟩
    | cont =>
      obtain ⟨σ', H', J', q⟩ := hsp
      exact ⟨σ', H', J'.ofTry ok, q⟩
    | ret u =>
      obtain ⟨v, σ', H', J', r, q⟩ := hsp
      exact ⟨v, σ', H', J'.ofTry ok, r, q⟩
end
/-! ### the items of a caught error that a suite reads -/
inductive XI where
  | s (z : List Nat)
  | f (name : Str)
/-- their values: of an error of the class at C, its dict at d -/
def xread (C : Addr) (cls : Value) (d : Option Addr) (H : Hp) : List XI → List V → Prop
  | [], vs => vs = []
  | .s z :: r, vs => ∃ us, vs = .str ⟨z.toArray⟩ :: us ∧ xread C cls d H r us
  | .f n :: r, vs => ∃ v us, vs = v :: us ∧ (cls = .ref C ∧ ∃ (dd : Addr) (fs : List (Str × V)), d = some dd ∧ H dd = some (.xd fs) ∧ fs.lookup n = some v) ∧ xread C cls d H r us
/-- the reading of the items, by slot i -/
def tXs (i : Nat) (C : Addr) : List XI → Addr → Value → Option Addr → TA
  | [], _, _, _ => tNil
  | .s z :: r, a, cls, d => tCons (tC (.str ⟨z.toArray⟩)) (tXs i C r a cls d)
  | .f n :: r, a, cls, d => tCons (tXf a cls d C n (tVar i)) (tXs i C r a cls d)
theorem tXs_ok {i : Nat} {C a : Addr} {cls : Value} {d : Option Addr} {σ : L2.St} {H : Hp} (hσ : σ[i]? = some (some (.ref a))) : ∀ {its : List XI} {vs : List V} {Q : List V → Hp → Prop}, xread C cls d H its vs → Q vs H → tXs i C its a cls d σ H Q
  | [], vs, Q, h, q => by rw [show vs = [] from h] at q; exact q
  | .s z :: r, vs, Q, ⟨us, e, h⟩, q => by
    subst e
    exact tXs_ok (its := r) hσ h q
  | .f n :: r, vs, Q, ⟨v, us, e, ⟨e1, dd, fs, e2, e3, e4⟩, h⟩, q => by
    subst e
    exact ⟨_, hσ, rfl, e1, dd, fs, v, e2, e3, e4, tXs_ok (its := r) hσ h q⟩
section
variable {X : Cx}
/-- the items as expressions -/
inductive XEs (X : Cx) (i : Nat) (C : Addr) : List Expr → List XI → Prop
  | nil : XEs X i C [] []
  | s {x : Str} {j : Nat} {pos : Pos} {es : List Expr} {its : List XI} (z : List Nat) (h : x = ⟨z.toArray⟩) (hs : starEach (.Constant (.str x) j pos :: es) X.env = (false, eval (.Constant (.str x) j pos) X.env) :: starEach es X.env) (r : XEs X i C es its) : XEs X i C (.Constant (.str x) j pos :: es) (.s z :: its)
  | f {y n : Str} {p1 p2 : Pos} {es : List Expr} {its : List XI} (hN : X.N[i]? = some y) (hv : Vis X.env.scope y) (hd : (y == ("__debug__" : Str)) = false) (hcd : (y == ("__classdict__" : Str)) = false) (T : XfC X.K C) (hno : PySem.W.findIn X.K (.ref C) n = some none)
      (hb : attributeBase (.Name y p1) n X.env (eval (.Name y p1) X.env) = eval (.Name y p1) X.env) (hs : starEach (.Attribute (.Name y p1) n p2 :: es) X.env = (false, eval (.Attribute (.Name y p1) n p2) X.env) :: starEach es X.env) (r : XEs X i C es its) : XEs X i C (.Attribute (.Name y p1) n p2 :: es) (.f n :: its)
theorem XEs.pa {i : Nat} {C a : Addr} {cls : Value} {d : Option Addr} {oe : Obj} {pn : List (Addr × Obj)} (hz : Zc cls d oe) (hf : ∃ vs, oe.data = .fields vs) : ∀ {es : List Expr} {its : List XI}, XEs X i C es its → PA (X.suite a ((a, oe) :: pn)) es (tXs i C its a cls d) := by
  intro es its h
  induction h with
  | nil => exact pa_nil
  | s z h hs r ih =>
    subst h
    exact pa_cons (X := X.suite a ((a, oe) :: pn)) pe_str ih hs
  | f hN hv hd hcd T hno hb hs r ih => exact pa_cons (X := X.suite a ((a, oe) :: pn)) (pe_xf T hno hz hf (pe_var (X := X.suite a ((a, oe) :: pn)) hN hv hd hcd) hb) ih hs
end
/-- their data -/
def xdata (ns : List Str) (ds : List D) : List XI → Option (List D)
  | [] => some []
  | .s z :: r => if (decide (z.length ≤ 1000) && z.all (fun c => decide (c < 0x110000))) = true then (xdata ns ds r).map (D.str z :: ·) else none
  | .f n :: r => match (ns.zip ds).lookup n, xdata ns ds r with
    | some d, some es => some (d :: es)
    | _, _ => none
theorem lookup_rep {c : Cc} {H : Hp} {n : Str} {d : D} : ∀ {fs : List (Str × V)} {ds : List D}, RepL c H ds (fs.map (·.2)) → ((fs.map (·.1)).zip ds).lookup n = some d → ∃ v, fs.lookup n = some v ∧ Rep c H d v
  | [], ds, h, e => by cases e
  | (m, v) :: fs, [], h, e => by cases e
  | (m, v) :: fs, d0 :: ds, ⟨u, r, e1, h1, h2⟩, e => by
    simp only [List.map_cons, List.cons.injEq] at e1
    obtain ⟨rfl, rfl⟩ := e1
    simp only [List.map_cons, List.zip_cons_cons, List.lookup_cons] at e ⊢
    cases hm : n == m with
    | true => rw [hm] at e; simp only [Option.some.injEq] at e; subst e; exact ⟨v, rfl, h1⟩
    | false => rw [hm] at e; exact lookup_rep h2 e
theorem xread_of {c : Cc} {H Hs : Hp} {k : Nat} {dd : Addr} {ns : List Str} {ds : List D} (x : ExcAt c H Hs dd ns ds) : ∀ {its : List XI} {es : List D}, xdata ns ds its = some es → ∃ vs, xread (c.cl k) (.ref (c.cl k)) (some dd) H its vs ∧ RepL c Hs es vs
  | [], es, e => by cases e; exact ⟨[], rfl, rfl⟩
  | .s z :: r, es, e => by
    simp only [xdata] at e
    split at e
    · rename_i hz
      cases e1 : xdata ns ds r with
      | none => rw [e1] at e; cases e
      | some es' =>
        rw [e1] at e
        cases e
        obtain ⟨vs, h1, h2⟩ := xread_of (k := k) x e1
        refine ⟨_, ⟨vs, rfl, h1⟩, _, _, rfl, ⟨rfl, ?_, ?_⟩, h2⟩
        · exact Nat.le_of_lt (small1000 (of_decide_eq_true (Bool.and_eq_true_iff.mp hz).1))
        · intro c hc
          exact of_decide_eq_true (List.all_eq_true.mp (Bool.and_eq_true_iff.mp hz).2 c hc)
    · cases e
  | .f n :: r, es, e => by
    simp only [xdata] at e
    split at e
    · rename_i d es' e1 e2
      cases e
      obtain ⟨vs, h1, h2⟩ := xread_of (k := k) x e2
      obtain ⟨fs, g1, g2, g3⟩ := x
      subst g2
      obtain ⟨v, g4, g5⟩ := lookup_rep g3 e1
      exact ⟨_, ⟨v, vs, rfl, ⟨rfl, dd, fs, rfl, g1, g4⟩, h1⟩, v, vs, rfl, g5, h2⟩
    · cases e
/-! ### try: ask() / except .. as error: return (..) ; return None -/
/-- what a suite hands back: a tuple of items, or a field -/
inductive XR where
  | tup (its : List XI)
  | one (n : Str)
/-- the clauses: class number, what is handed back -/
abbrev Hds := List (Nat × XR)
def XRA (C : Addr) (cls : Value) (d : Option Addr) (H : Hp) (Q : VK) : XR → Prop
  | .tup its => ∃ vs, xread C cls d H its vs ∧ vs.length ≤ sizeLine ∧ ∀ p, H p = none → Q (.ref p) (upd H p (.tup vs))
  | .one n => ∃ v, xread C cls d H [.f n] [v] ∧ Q v H
def xrD (ns : List Str) (ds : List D) : XR → Option D
  | .tup its => (match xdata ns ds its with
      | some es => if es.length ≤ 1000 then some (.tup es) else none
      | none => none)
  | .one n => (ns.zip ds).lookup n
def chainA (K : PySem.W.Frag) (cl : Nat → Addr) (Q : VK) : Hds → XK
  | [] => fun _ _ _ => False
  | (j, its) :: r => fun cls d H => ∃ b, PySem.W.exmOne K cls (.ref (cl j)) = some b ∧
      (b = true → XRA (cl j) cls d H Q its) ∧ (b = false → chainA K cl Q r cls d H)
def TTA (K : PySem.W.Frag) (cl : Nat → Addr) (hs : Hds) : (XK → Hp → VK → Prop) → Hp → VK → Prop := fun tl H Q => tl (chainA K cl Q hs) H fun _ H' => Q .non H'
/-- the data that comes: xm, the table of classes -/
def hdsD (xm : Nat → Nat → Bool) (c : Nat) (ns : List Str) (ds : List D) : Hds → Option D
  | [] => none
  | (j, its) :: r => if xm c j = true then (if c = j then xrD ns ds its else none) else hdsD xm c ns ds r
def mHeard (nC : Nat) (xm : Nat → Nat → Bool) (hs : Hds) (m : ME D) : ME D := fun sd w => match m sd w with
  | .ok _ w' => .ok .non w'
  | .exc c ns ds w' => if c < nC then (match hdsD xm c ns ds hs with
    | some d => .ok d w'
    | none => .bad) else .bad
  | .bad => .bad
theorem chain_of {G : Gh} {nC : Nat} {xm : Nat → Nat → Bool} {w w' : List D} {H Hs H' Hs' : Hp} {Q : VK} {c : Nat} {ns : List Str} {ds : List D} {dd : Addr} {d : D} (hx : ∀ c < nC, ∀ j < nC, PySem.W.exmOne G.c.K (.ref (G.c.cl c)) (.ref (G.c.cl j)) = some (xm c j)) (hc : c < nC) (b : B (G.at_ H Hs) w' H' Hs') (x : ExcAt G.c H' Hs' dd ns ds)
    (post : ∀ v H2 Hs2, B (G.at_ H Hs) w' H2 Hs2 → Rep G.c Hs2 d v → Q v H2) : ∀ {hs : Hds}, (∀ p ∈ hs, p.1 < nC) → hdsD xm c ns ds hs = some d → chainA G.c.K G.c.cl Q hs (.ref (G.c.cl c)) (some dd) H'
  | [], _, e => by cases e
  | (j, its) :: r, hj, e => by
    simp only [hdsD] at e
    refine ⟨xm c j, hx c hc j (hj _ List.mem_cons_self), fun hb => ?_, fun hb => ?_⟩
    · rw [if_pos hb] at e
      split at e
      · rename_i hcj
        subst hcj
        cases its with
        | tup its =>
          simp only [xrD] at e
          split at e
          · rename_i es e1
            split at e
            · rename_i hl
              cases e
              obtain ⟨vs, h1, h2⟩ := xread_of (k := c) x e1
              refine ⟨vs, h1, Nat.le_of_lt (small1000 (by rw [h2.length]; exact hl)), fun p hp => ?_⟩
              have ba := b.alloc (o := .tup vs) hp tup_noT
              exact post _ _ _ (b.trans ba) ⟨p, vs, rfl, .inl (.inl upd_same), h2.mono ba.sub0⟩
            · cases e
          · cases e
        | one n =>
          simp only [xrD] at e
          obtain ⟨fs, g1, g2, g3⟩ := x
          subst g2
          obtain ⟨v, g4, g5⟩ := lookup_rep g3 e
          exact ⟨v, ⟨v, [], rfl, ⟨rfl, dd, fs, rfl, g1, g4⟩, rfl⟩, post v H' Hs' b g5⟩
      · cases e
    · rw [if_neg (by rw [hb]; simp)] at e
      exact chain_of (w := w) hx hc b x post (fun p hp => hj p (List.mem_cons_of_mem _ hp)) e
/-- the clauses as the text has them -/
inductive HdA (X : Cx) (cl : Nat → Addr) (i : Nat) : List ExceptHandler → Hds → Prop
  | nil : HdA X cl i [] []
  | cons {x n : Str} {j : Nat} {es : List Expr} {its : List XI} {np pos' p1 p2 : Pos} {k : Nat} {hds : List ExceptHandler} {l : Hds} (hg : Gl X x) (hd : (x == ("__debug__" : Str)) = false) (hm : X.mg x = some (.ref (cl j))) (hi : X.N[i]? = some n) (hln : X.env.kindOf n = some .local)
      (he : XEs X i (cl j) es its) (r : HdA X cl i hds l) : HdA X cl i (.ExceptHandler (some (.Name x np)) (some n) [.Return (some (.Tuple es k p1)) p2] pos' :: hds) ((j, .tup its) :: l)
  | one {x n y fl : Str} {j : Nat} {np pos' p1 p2 p3 : Pos} {hds : List ExceptHandler} {l : Hds} (hg : Gl X x) (hd : (x == ("__debug__" : Str)) = false) (hm : X.mg x = some (.ref (cl j))) (hi : X.N[i]? = some n) (hln : X.env.kindOf n = some .local)
      (hN : X.N[i]? = some y) (hv : Vis X.env.scope y) (hyd : (y == ("__debug__" : Str)) = false) (hcd : (y == ("__classdict__" : Str)) = false) (T : XfC X.K (cl j)) (hno : PySem.W.findIn X.K (.ref (cl j)) fl = some none)
      (hb : attributeBase (.Name y p1) fl X.env (eval (.Name y p1) X.env) = eval (.Name y p1) X.env) (r : HdA X cl i hds l) : HdA X cl i (.ExceptHandler (some (.Name x np)) (some n) [.Return (some (.Attribute (.Name y p1) fl p2)) p3] pos' :: hds) ((j, .one fl) :: l)
def tsA (i : Nat) (C : Addr) : XR → Addr → Value → Option Addr → TS
  | .tup its => fun a cls d => tRet (tTup (tXs i C its a cls d))
  | .one n => fun a cls d => tRet (tXf a cls d C n (tVar i))
theorem HdA.hds {X : Cx} {cl : Nat → Addr} {i : Nat} : ∀ {hs : List ExceptHandler} {l : Hds}, HdA X cl i hs l → HdsA X hs (l.map fun p => (Value.ref (cl p.1), i, tsA i (cl p.1) p.2)) := by
  intro hs l h
  induction h with
  | nil => exact .nil
  | cons hg hd hm hi hln he r ih => exact .cons ⟨hg, hd, .inl hm⟩ hi hln (fun a oe cls d pn hz hf => pss_one (X := Cx.suite _ a ((a, oe) :: pn)) (ps_ret (X := Cx.suite _ a ((a, oe) :: pn)) (pe_tup (X := Cx.suite _ a ((a, oe) :: pn)) (he.pa hz hf)))) ih
  | one hg hd hm hi hln hN hv hyd hcd T hno hb r ih => exact .cons ⟨hg, hd, .inl hm⟩ hi hln (fun a oe cls d pn hz hf => pss_one (X := Cx.suite _ a ((a, oe) :: pn)) (ps_ret (X := Cx.suite _ a ((a, oe) :: pn)) (pe_xf T hno hz hf (pe_var (X := Cx.suite _ a ((a, oe) :: pn)) hN hv hyd hcd) hb))) ih
theorem many_of {K : PySem.W.Frag} {cl : Nat → Addr} {i : Nat} {Q : VK} {D0 : Ends} (hQ : D0.rt = Q) {cls : Value} {d : Option Addr} {σ : L2.St} {H : Hp} (hi : i < σ.length) : ∀ {l : Hds}, chainA K cl Q l cls d H → wManyA K F0 D0 (l.map fun p => (Value.ref (cl p.1), i, tsA i (cl p.1) p.2)) cls d σ H
  | [], h => h
  | (j, its) :: r, ⟨b, e1, h1, h2⟩ => by
    refine ⟨b, e1, fun hb a ha => ?_, fun hb => many_of hQ hi (h2 hb)⟩
    cases its with
    | tup its =>
      obtain ⟨vs, x1, x2, x3⟩ := h1 hb
      refine tXs_ok (List.getElem?_set_self hi) x1 ⟨x2, fun p hp => ?_⟩
      show D0.rt _ _
      rw [hQ]
      exact x3 p hp
    | one n =>
      obtain ⟨v, ⟨v', us, e, ⟨e1, dd, fs, e2, e3, e4⟩, _⟩, x3⟩ := h1 hb
      cases e
      refine ⟨_, List.getElem?_set_self hi, rfl, e1, dd, fs, v, e2, e3, e4, ?_⟩
      show D0.rt _ _
      rw [hQ]
      exact x3
theorem takes_len {X : Cx} {W : WX} (tk : Takes X W) : Takes X (fun cls d σ H => σ.length = X.N.length → W cls d σ H) := fun u s' x => by
  obtain ⟨a, B, sI, pins, σ, H, cls, d, h1, I, h2, h3, h4, h5, h6, h7, w⟩ := x
  exact tk u s' ⟨a, B, sI, pins, σ, H, cls, d, h1, I, h2, h3, h4, h5, h6, h7, w I.len⟩
section
variable {X : Cx}
/-- the whole body of such a def -/
theorem givesA {Ng : List Str} {x a q : Str} {sg : Scope} {g : Addr} {cdg : Value} {cl : Nat → Addr} {i : Nat} {hds : List ExceptHandler} {l : Hds} {h₀ : ExceptHandler} {j : Nat} {p1 p2 p3 p4 p5 p6 : Pos} (hN : Ng.Nodup) (hi : 0 < i ∧ i < Ng.length)
    (hh : ∀ (s : Shared) (H : Hp), HdA (cxOf C8.CX0 X.prog X.w X.K X.mg X.base Ng x sg g cdg X.A X.stack s H C8.E0).nox cl i (h₀ :: hds) l)
    (h0 : ∀ f : Addr, (L2.start Ng [V.ref f])[0]? = some (some (V.ref f)))
    (hsw : ∀ env : Env, swapsWith (.Call (.Name a p1) [] [] p2) none p3.line env = pure false) :
    GivesTo X Ng x sg g cdg [.Try [.Expr (.Call (.Name a p1) [] [] p2) p3] (h₀ :: hds) [] [] p4, .Return (some (.Constant .none j p5)) p6] a q (TTA X.K cl l) := by
  intro f c' s H Q tl act hc h
  have hlen : (L2.start Ng [V.ref f]).length = Ng.length := by
    unfold L2.start
    simp only [List.length_append, List.length_map, List.length_replicate, List.length_cons, List.length_nil]
    omega
  refine ⟨_, pss_cons (ps_try_manyA (X := (cxOf C8.CX0 X.prog X.w X.K X.mg X.base Ng x sg g cdg X.A X.stack s H C8.E0).nox)
      (tb := fun W D σ H => ∃ Ech : XK, (∀ cls d (σ' : L2.St) H', Ech cls d H' → σ'.length = Ng.length → W cls d σ' H') ∧ σ[0]? = some (some (.ref f)) ∧ H c' = some (CodeO c' q) ∧ tl Ech H fun _ H' => D.nx σ H')
      rfl rfl hN L2.takes0 (fun W pn xe tk _ => ?_) (HdA.hds (hh s H))) (pss_one (ps_ret pe_non)), ?_⟩
  · refine ⟨fun pins s' σ H' D I h' => ?_⟩
    obtain ⟨Ech, hW, h1, h2, h3⟩ := h'
    have tk' : Takes ((cxOf C8.CX0 X.prog X.w X.K X.mg X.base Ng x sg g cdg X.A X.stack s H C8.E0).tr pn xe) (fun cls d σ' H' => σ'.length = Ng.length → W cls d σ' H') := takes_len tk
    have hp := act (fun cls d σ' H' => σ'.length = Ng.length → W cls d σ' H') pn xe Ech p1 p2 tk' (fun cls d σ' H' e hl => hW cls d σ' H' e hl)
    have hq := pss_one (ps_expr (pos := p3) hp (hsw _))
    exact hq.run pins s' σ H' D I ⟨h1, h2, h3⟩
  · exact ⟨chainA X.K cl Q l, fun cls d σ' H' e hl => many_of rfl (by rw [hl]; exact hi.2) e, h0 f, hc, h⟩
end
section
variable {X : Cx} {G : Gh} {Wx : WX} {w w' w1 w2 : List D} {H Hs H' Hs' H1 Hs1 H2 Hs2 : Hp} {sd : SD} {σ : L2.St}
/-- what the lambdas of a def ask -/
structure LamT (X : Cx) (G : Gh) (c P : Addr) : Prop where
  tb : TabB X.base X.mg c P
  code : X.env.code = .ref c
  mem : (P, X.env.qual ++ "<lambda>") ∈ G.T
  uniq : ∀ p ∈ G.T, p.1 = P → p.2 = X.env.qual ++ "<lambda>"
theorem ext_b (b : B G w H Hs) (e : ExtN H H1) (t : Tabs G.T H1) : B (G.at_ H Hs) w H1 Hs := by
  refine ⟨fun a o h => e a o (b.sub a o h) (b.nt a o h), Same.refl _, fun a o _ hn h => e a o h hn, fun a o h => .inl h, fun a ha => ?_, b.penH.trans b.sub0, b.nt, t⟩
  obtain ⟨⟨vs, h1, h2⟩, h3⟩ := b.pen a ha
  exact ⟨⟨vs, e a _ h1 lst_noT, h2⟩, h3⟩
/-- heard(lambda: body) -/
theorem je_heard {x a : Str} {g c P : Addr} {k i nC : Nat} {stg : Stmt} {fdg : FuncData} {Ng : List Str} {params : Arguments} {body : Expr} {scope : Scope} {t : XK → TE} {mb : ME D} {p lpos pos : Pos} {xm : Nat → Nat → Bool} {l : Hds} {hds : List ExceptHandler} {h₀ : ExceptHandler} {j : Nat} {p1 p2 p3 p4 p5 p6 : Pos}
    (F : Fun X.K x x stg g fdg) (hm : X.mg x = some (.ref g)) (hb : L2.Binds X.K fdg [a] []) (Sg : FnScope Ng [a] (defScope stg)) (hbd : defBody stg = [.Try [.Expr (.Call (.Name a p1) [] [] p2) p3] (h₀ :: hds) [] [] p4, .Return (some (.Constant .none j p5)) p6])
    (hNg : Ng[0]? = some a) (hva : Vis (defScope stg) a) (hN : Ng.Nodup) (hi : 0 < i ∧ i < Ng.length)
    (hh : ∀ (cdg : Value) (s : Shared) (H : Hp), HdA (cxOf C8.CX0 X.prog X.w X.K X.mg X.base Ng x (defScope stg) g cdg X.A X.stack s H C8.E0).nox G.c.cl i (h₀ :: hds) l)
    (hx : ∀ c < nC, ∀ j < nC, PySem.W.exmOne G.c.K (.ref (G.c.cl c)) (.ref (G.c.cl j)) = some (xm c j)) (hl : ∀ p ∈ l, p.1 < nC)
    (L : LamT X G c P) (hr : Room (k + 2) X.A) (Ls : LamS X.env.scope scope) (hdef : defaultsOf params X.env = ([], []))
    (hbind : ∀ (q : Str) (cl : List (Str × Addr)) (pm cv ctv : Value), bindArgs (PySem.W.kla_fn "<lambda>" q params body scope cl pm cv ctv) ⟨[], []⟩ = pure [])
    (hbody : ∀ (A : Around) (outer : List Env) (s : Shared) (H : Hp) (E : XK) (f c' : Addr), Room k (A.deeper (lamEnv X scope s.heap.objs.size f c')) → JE (lamCx X A outer s H E scope f c') G (fun c d _ H => E c d H) body (t E) mb)
    (hg : Gl X x := by rfl) (h0 : (∀ f : Addr, (L2.start Ng [V.ref f])[0]? = some (some (V.ref f))) := by intro _; rfl)
    (hsw : (∀ env : Env, swapsWith (.Call (.Name a p1) [] [] p2) none p3.line env = pure false) := by intro _; rfl)
    (hdb : (x == ("__debug__" : Str)) = false := by decide) (hd : (a == ("__debug__" : Str)) = false := by decide) (hcd : (a == ("__classdict__" : Str)) = false := by decide) (hK : X.K = G.c.K := by rfl) :
    JE X G Wx (.Call (.Name x p) [.Lambda params body scope lpos] [] pos) (tLam G.T (TTA G.c.K G.c.cl l) t) (mHeard nC xm l mb) := by
  obtain ⟨oc, od, kV, doc, pm, an, cdv, ct, osl, rfl, lk, hcg⟩ := F.ex
  have hbody' : ∀ (A : Around) (outer : List Env) (s : Shared) (H : Hp) (E : XK), Room k (A.deeper (lamEnv X scope s.heap.objs.size 0 0)) → Sim G (fun c d _ H => E c d H) (ρE G) (t E) mb := fun A outer s H E hr => (hbody A outer s H E 0 0 hr).si
  refine ⟨?_, fun sd w σ H Hs Q rs post => ?_⟩
  · rw [← hK]
    exact pe_lamcall hg hm F.kp lk hcg hb Sg hNg hva (by rw [hbd]; exact givesA hN hi (hh cdv) h0 hsw) L.tb L.code L.mem L.uniq hr Ls hdef hbind (fun A outer s H E f c' hr => (hbody A outer s H E f c' hr).pe) hdb hd hcd
  · refine ⟨rs.b.tab, fun H1 e1 t1 => ?_⟩
    have b1 := ext_b rs.b e1 t1
    have rs1 := rs.step b1
    have si : Sim G (fun c d _ H => chainA G.c.K G.c.cl Q l c d H) (ρE G) (t (chainA G.c.K G.c.cl Q l)) mb := (hbody X.A X.outer X.s_0 X.H_0 (chainA G.c.K G.c.cl Q l) 0 0 ?hroom).si
    case hroom => exact (hr.mono (Nat.le_succ _)).deeper _
    refine si sd w σ H1 Hs _ rs1 ?_
    unfold mHeard at post
    cases e : mb sd w with
    | ok d w' =>
      rw [e] at post
      exact fun v H' Hs' b q => post _ H' Hs' (b1.trans b) rfl
    | bad => rw [e] at post; exact post
    | exc c ns ds w' =>
      rw [e] at post
      have post' : Post G Wx σ H Hs (ρE G) Q (if c < nC then (match hdsD xm c ns ds l with
        | some d => .ok d w'
        | none => .bad) else .bad) := post
      split at post'
      · rename_i hc
        cases eh : hdsD xm c ns ds l with
        | none => rw [eh] at post'; exact post'.elim
        | some d =>
          rw [eh] at post'
          exact fun dd H' Hs' b x => chain_of (w := w) hx hc (b1.trans b) x post' hl eh
      · exact post'.elim
end
end FT
end
section
set_option Elab.async false
set_option linter.all false
set_option maxRecDepth 100000
set_option maxHeartbeats 4000000
/-! texts sorted, any number of them -/
namespace SrtO
open PySem PySem.W PyProof.Rows
section
variable {prog : Program} {w : World} {A : Around} {E : Value → Shared → Prop} {s : Shared}
def sv : Value → List Nat
  | .str x _ => x.cps.toList
  | _ => []
def ltSv (v u : Value) : Bool := decide (sv v < sv u)
theorem swo_sv : Swo ltSv := by
  refine ⟨fun x y h => ?_, fun x y z h1 h2 => ?_⟩
  · have a := of_decide_eq_true (p := sv x < sv y) h
    exact decide_eq_false (p := sv y < sv x) fun b => List.lt_asymm a b
  · have a := List.not_lt.mp (of_decide_eq_false (p := sv y < sv x) h1)
    have b := List.not_lt.mp (of_decide_eq_false (p := sv z < sv y) h2)
    exact decide_eq_false (p := sv z < sv x) (List.not_lt.mpr (List.le_trans a b))
theorem strs_mem : ∀ {vs : List Value} {xs : List PySem.Str}, StrsAre vs xs → ∀ v ∈ vs, ∃ x t, v = Value.str x t
  | _, _, .nil, v, h => absurd h (by simp)
  | _, _, .cons n t r, v, h => by
    rcases List.mem_cons.mp h with e | h
    · exact ⟨n, t, e⟩
    · exact strs_mem r v h
def svS (v : Value) : PySem.Str := ⟨(sv v).toArray⟩
theorem strs_sv : ∀ {vs : List Value}, (∀ v ∈ vs, ∃ x t, v = Value.str x t) → StrsAre vs (vs.map svS)
  | [], _ => .nil
  | v :: vs, h => by
    obtain ⟨x, t, e⟩ := h v List.mem_cons_self
    subst e
    have q : svS (Value.str x t) = x := by cases x; rfl
    rw [List.map_cons, q]
    exact .cons x t (strs_sv fun u hu => h u (List.mem_cons_of_mem _ hu))
theorem sv_strs : ∀ {vs : List Value} {xs : List PySem.Str}, StrsAre vs xs → vs.map svS = xs
  | _, _, .nil => rfl
  | _, _, .cons x t r => by
    have q : svS (Value.str x t) = x := by cases x; rfl
    rw [List.map_cons, q, sv_strs r]
theorem str_cmp {vs : List Value} {xs : List PySem.Str} (hI : StrsAre vs xs) : Cmp prog w A s oneType' (fun p => p.1 ∈ vs) (lt2 ltSv) := by
  intro p q hm hm'
  obtain ⟨a, t, e⟩ := strs_mem hI _ hm
  obtain ⟨b, u, e'⟩ := strs_mem hI _ hm'
  show wpAny (model prog w) A (keyLt' oneType' p.1 q.1) (fun r s' => s' = s ∧ r = ltSv p.1 q.1) (fun _ _ => False) s
  rw [e, e', keyLt'_oneType]
  exact oneLt_str ⟨rfl, rfl⟩
theorem strs_sortable {a : Addr} {vs : List Value} {xs : List PySem.Str} (hI : StrsAre vs xs) (h2 : 2 ≤ vs.length) : SortableO prog w A s a vs ltSv := by
  intro h' _
  refine ⟨oneType', fun Q E hq => ?_, str_cmp hI⟩
  match vs, hI, h2 with
  | v1 :: v2 :: rest, hI, _ =>
    rw [keyKind_strs hI]
    exact wpAny_pure hq
  | [], _, h => exact absurd h (by decide)
  | [v], _, h => exact absurd h (by simp)
theorem strs_out {vs out : List Value} {xs : List PySem.Str} (hI : StrsAre vs xs) (hs : Srtd ltSv out) (hb : Stb ltSv out vs) : StrsAre out (out.map svS) ∧ (out.map svS).Perm xs ∧ (out.map svS).Pairwise (fun a b => a.cps.toList ≤ b.cps.toList) := by
  refine ⟨strs_sv fun v hv => strs_mem hI v (hb.perm.mem_iff.mp hv), ?_, ?_⟩
  · have q := hb.perm.map svS
    rw [sv_strs hI] at q
    exact q
  · exact List.pairwise_map.mpr (hs.imp fun {x y} h => by
      have := List.not_lt.mp (of_decide_eq_false (p := sv y < sv x) h)
      simpa [svS] using this)
end
end SrtO
namespace FT
open PySem PySem.Spec PyProof.Rows L2
/-- sorted(xs), texts, any number of them -/
def rSortedT (K : PySem.W.Frag) : List V → Hp → VK → Prop := fun vs H Q => ∃ (a : Addr) (xs : List Str), vs = [V.ref a] ∧ SqL K H a (xs.map V.str) ∧
  ∀ (ys : List Str) (p : Addr), ys.Perm xs → ys.Pairwise (fun a b => a.cps.toList ≤ b.cps.toList) → H p = none → Q (.ref p) (upd H p (.lst (ys.map V.str)))
section
variable {X : Cx} {G : Gh} {Wx : WX} {w w' w1 w2 : List D} {H Hs H' Hs' H1 Hs1 H2 Hs2 : Hp} {sd : SD} {σ : L2.St}
theorem cr_sortedT : CallR X (.builtin "sorted") (rSortedT X.K) := by
  intro pins s σ H vs us Q I r h
  obtain ⟨a, xs, rfl, hs, q⟩ := h
  obtain ⟨its, rv, hl, hz⟩ := I.list hs
  rw [Vals.ref1 r]
  have hi := rv.strs
  refine SrtO.sorted_ord SrtO.swo_sv hl.isList (by rw [← rv.length]; exact hz) (fun h2 h₁ a' _ _ => SrtO.strs_sortable hi h2) fun out h1 h2 => ?_
  obtain ⟨k1, k2, k3⟩ := SrtO.strs_out hi h1 h2
  obtain ⟨ep, he'⟩ := PyProof.Rows.sortedAll_at s.heap its out.toArray
  have hlen : ((out.map SrtO.svS).map V.str).length ≤ sizeLine := by
    rw [List.length_map, k2.length_eq]
    rw [List.length_map] at hz
    exact hz
  exact ⟨.ref _, upd H (s.heap.objs.size + 1) (.lst ((out.map SrtO.svS).map V.str)), I.laid (t' := s.toks) (fun _ _ => PyProof.Rows.sortedAll_old) (Nat.le_succ _) ⟨hlen, out, ep, vals_of_strs k1, he'⟩, rfl, q _ _ k2 k3 (I.hok.fresh (Nat.le_succ _))⟩
/-! ### sorted of numbers, of texts -/
def dInts : List D → Option (List Int)
  | [] => some []
  | .int i :: ds => (dInts ds).map (i :: ·)
  | _ => none
def dStrs : List D → Option (List (List Nat))
  | [] => some []
  | .str s :: ds => (dStrs ds).map (s :: ·)
  | _ => none
theorem ints_eq : ∀ {ds : List D} {ns : List Int}, dInts ds = some ns → ds = ns.map D.int
  | [], ns, e => by cases e; rfl
  | .int i :: ds, ns, e => by
    simp only [dInts] at e
    cases e1 : dInts ds with
    | none => rw [e1] at e; cases e
    | some ms => rw [e1] at e; cases e; rw [ints_eq e1]; rfl
  | .non :: _, _, e => by cases e
  | .bl _ :: _, _, e => by cases e
  | .str _ :: _, _, e => by cases e
  | .lst _ :: _, _, e => by cases e
  | .tup _ :: _, _, e => by cases e
  | .frz _ :: _, _, e => by cases e
  | .pen :: _, _, e => by cases e
  | .obj _ _ _ :: _, _, e => by cases e
  | .dct _ _ :: _, _, e => by cases e
  | .dcT _ _ :: _, _, e => by cases e
theorem strs_eq : ∀ {ds : List D} {ns : List (List Nat)}, dStrs ds = some ns → ds = ns.map D.str
  | [], ns, e => by cases e; rfl
  | .str i :: ds, ns, e => by
    simp only [dStrs] at e
    cases e1 : dStrs ds with
    | none => rw [e1] at e; cases e
    | some ms => rw [e1] at e; cases e; rw [strs_eq e1]; rfl
  | .non :: _, _, e => by cases e
  | .bl _ :: _, _, e => by cases e
  | .int _ :: _, _, e => by cases e
  | .lst _ :: _, _, e => by cases e
  | .tup _ :: _, _, e => by cases e
  | .frz _ :: _, _, e => by cases e
  | .pen :: _, _, e => by cases e
  | .obj _ _ _ :: _, _, e => by cases e
  | .dct _ _ :: _, _, e => by cases e
  | .dcT _ _ :: _, _, e => by cases e
theorem ints_map (ns : List Int) : dInts (ns.map D.int) = some ns := by
  induction ns with
  | nil => rfl
  | cons n ns ih => simp [dInts, ih]
theorem strs_map (ns : List (List Nat)) : dStrs (ns.map D.str) = some ns := by
  induction ns with
  | nil => rfl
  | cons n ns ih => simp [dStrs, ih]
theorem repL_ints {c : Cc} : ∀ {ns : List Int} {vs : List V}, RepL c H (ns.map D.int) vs → vs = ns.map V.int
  | [], vs, h => h
  | n :: ns, vs, ⟨v, r, e, h1, h2⟩ => by rw [e, show v = .int n from h1, repL_ints h2]; rfl
theorem repL_int {c : Cc} : ∀ (ns : List Int), RepL c H (ns.map D.int) (ns.map V.int)
  | [] => rfl
  | n :: ns => ⟨_, _, rfl, by simp [Rep], repL_int ns⟩
abbrev mkS (s : List Nat) : Str := ⟨s.toArray⟩
theorem repL_strs {c : Cc} : ∀ {ns : List (List Nat)} {vs : List V}, RepL c H (ns.map D.str) vs → vs = (ns.map mkS).map V.str ∧ ∀ s ∈ ns, SOk s
  | [], vs, h => ⟨h, fun _ h => by cases h⟩
  | n :: ns, vs, ⟨v, r, e, ⟨h1, o⟩, h2⟩ => by
    obtain ⟨h3, h4⟩ := repL_strs h2
    refine ⟨by rw [e, h1, h3]; rfl, fun s hs => ?_⟩
    rcases List.mem_cons.mp hs with z | z
    · rw [z]; exact o
    · exact h4 s z
theorem repL_str {c : Cc} : ∀ {ns : List (List Nat)}, (∀ s ∈ ns, SOk s) → RepL c H (ns.map D.str) ((ns.map mkS).map V.str)
  | [], _ => rfl
  | n :: ns, h => ⟨_, _, rfl, ⟨rfl, h n List.mem_cons_self⟩, repL_str fun s hs => h s (List.mem_cons_of_mem _ hs)⟩
def sortI (ns : List Int) : List Int := ns.mergeSort fun a b => decide (a ≤ b)
def sortS (ns : List (List Nat)) : List (List Nat) := ns.mergeSort fun a b => decide (a ≤ b)
theorem sortI_of {ns ms : List Int} (p : ms.Perm ns) (s : ms.Pairwise (· ≤ ·)) : ms = sortI ns := by
  refine List.Perm.eq_of_pairwise (le := (· ≤ ·)) (fun a b _ _ h1 h2 => Int.le_antisymm h1 h2) s ?_ (p.trans (List.mergeSort_perm _ _).symm)
  have := List.pairwise_mergeSort (le := fun a b : Int => decide (a ≤ b)) (fun a b c h1 h2 => decide_eq_true (Int.le_trans (of_decide_eq_true h1) (of_decide_eq_true h2))) (fun a b => by
    rcases Int.le_total a b with h | h
    · simp [h]
    · simp [h]) ns
  exact this.imp fun {a b} h => of_decide_eq_true h
theorem sortS_of {ns ms : List (List Nat)} (p : ms.Perm ns) (s : ms.Pairwise (· ≤ ·)) : ms = sortS ns := by
  refine List.Perm.eq_of_pairwise (le := (· ≤ ·)) (fun a b _ _ h1 h2 => List.le_antisymm h1 h2) s ?_ (p.trans (List.mergeSort_perm _ _).symm)
  have := List.pairwise_mergeSort (le := fun a b : List Nat => decide (a ≤ b)) (fun a b c h1 h2 => decide_eq_true (List.le_trans (of_decide_eq_true h1) (of_decide_eq_true h2))) (fun a b => by
    rcases List.le_total a b with h | h
    · simp [h]
    · simp [h]) ns
  exact this.imp fun {a b} h => of_decide_eq_true h
def fSort (ds : List D) : Option (List D) := match dInts ds with
  | some ns => some ((sortI ns).map D.int)
  | none => match dStrs ds with
    | some ns => some ((sortS ns).map D.str)
    | none => none
def mSortF (m : ME D) : ME (List D) := fun sd w => (m sd w).bind fun d w1 => match (match d with
  | .lst ds => fSort ds
  | _ => none) with
  | some es => .ok es w1
  | none => .bad
def rSortA (K : PySem.W.Frag) : List V → Hp → VK → Prop := fun vs H Q => rSortedI K vs H Q ∨ rSortedT K vs H Q
variable {e : Expr} {te : TE} {m : ME D} {p pos : Pos}
theorem jf_sorted (hm : X.mg "sorted" = none) (ha : JB X G Wx e te m) (hg : Gl X "sorted" := by rfl) (hK : X.K = G.c.K := by rfl) (he : starEach [e] X.env = (false, eval e X.env) :: starEach [] X.env := by rfl) : JF X G Wx (.Call (.Name "sorted" p) [e] [] pos) (tCB (rSortA G.c.K) (tCons te tNil)) (mSortF m) := by
  refine ⟨by rw [← hK]; exact pe_callB (CallR.or cr_sortedI cr_sortedT) hg hm (by decide +kernel) (pa_cons ha.pe pa_nil he) (by decide) (by decide) he rfl, fun sd w σ H Hs Q rs post => ?_⟩
  refine ha.si.bindF rs post fun d w1 v H1 Hs1 rs1 b1 q1 post1 => ?_
  cases d with
  | lst ds =>
    obtain ⟨a, vs, rfl, hp, rl, _⟩ := q1
    simp only at post1
    cases ef : fSort ds with
    | none => rw [ef] at post1; exact post1.elim
    | some es =>
      rw [ef] at post1
      unfold fSort at ef
      split at ef
      · rename_i ns hn
        cases ef
        rw [ints_eq hn] at rl
        rw [repL_ints rl] at hp
        refine .inl ⟨a, ns, rfl, .inl (.inl hp), fun ns' l h1 h2 hl => ?_⟩
        rw [sortI_of h1 h2]
        exact newF rs1.b hl (repL_int _) post1
      · split at ef
        · rename_i ns hn
          cases ef
          rw [strs_eq hn] at rl
          obtain ⟨e1, ok⟩ := repL_strs rl
          rw [e1] at hp
          refine .inr ⟨a, ns.map mkS, rfl, .inl (.inl hp), fun ys l h1 h2 hl => ?_⟩
          have e2 : ys.map (·.cps.toList) = sortS ns := by
            refine sortS_of ?_ (List.pairwise_map.mpr h2)
            have := h1.map (·.cps.toList)
            rw [List.map_map] at this
            have e3 : (ns.map ((fun x : Str => x.cps.toList) ∘ mkS)) = ns := by
              rw [List.map_congr_left (g := id) (fun a _ => by simp)]; simp
            rw [e3] at this
            exact this
          have e4 : ys = (sortS ns).map mkS := by
            rw [← e2, List.map_map]
            rw [List.map_congr_left (g := id) (fun a _ => by cases a; rfl)]; simp
          rw [e4]
          exact newF rs1.b hl (repL_str fun s hs => ok s ((List.mergeSort_perm _ _).mem_iff.mp hs)) post1
        · cases ef
  | _ => exact post1.elim
/-! ### methods of texts -/
def mMt (f : List Nat → List D → Option D) (mo : ME D) (m : ME (List D)) : ME D := fun sd w => (mo sd w).bind fun o w1 => match o with
  | .str s => (m sd w1).bind fun ds w2 => (match f s ds with
    | some d => .ok d w2
    | none => .bad)
  | _ => .bad
def MtD (G : Gh) (r : V → List V → Hp → VK → Prop) (f : List Nat → List D → Option D) : Prop := ∀ w H Hs xs s ds d (Q : VK), B G w H Hs → SOk s → RepBL G.c H Hs ds xs → f s ds = some d → (∀ v H' Hs', B (G.at_ H Hs) w H' Hs' → Rep G.c Hs' d v → Q v H') → r (.str ⟨s.toArray⟩) xs H Q
variable {o : Expr} {to : TE} {mo : ME D} {es : List Expr} {t : TA} {ma : ME (List D)} {name : Str} {apos cpos : Pos} {id : String} {r : V → List V → Hp → VK → Prop} {f : List Nat → List D → Option D}
/-- o.m(e, ..), o a text -/
theorem je_mtS (slot : Slot "str" name id) (hty : typeOf (.builtin id) = pure (.type "method_descriptor")) (hmt : MtR X id r) (hf : MtD G r f) (ho : JB X G Wx o to mo) (ha : JAB X G Wx (e :: es) t ma)
    (hbase : attributeBase o name X.env (eval o X.env) = eval o X.env := by rfl)
    (hfew : ((backTo cpos (starEach (e :: es) X.env)).all (fun x => !x.1) && (backToKw cpos (keywordEach [] X.env)).all (fun x => x.1.isSome)
      && decide ((e :: es).length + ([] : List Keyword).length + (if ([] : List Keyword).isEmpty then 0 else 1) < 30)) = true := by rfl)
    (hline : (apos.endLine == cpos.line) = true := by rfl) (hs : starEach (e :: es) X.env = (false, eval e X.env) :: starEach es X.env := by rfl) (hplain : (backTo cpos (starEach es X.env)).any (·.1) = false := by rfl) (hK : X.K = G.c.K := by rfl) :
    JE X G Wx (.Call (.Attribute o name apos) (e :: es) [] cpos) (tBM G.c.K "str" r to t) (mMt f mo ma) := by
  refine ⟨by rw [← hK]; exact pe_bm PySem.F.plainAttrs_str slot hty hmt ho.pe ha.pe hbase hfew hline hs hplain, fun sd w σ H Hs Q rs post => ?_⟩
  refine ho.si.bind rs post fun d w1 v H1 Hs1 rs1 b1 q1 post1 => ?_
  cases d with
  | str s =>
    obtain ⟨rfl, ok⟩ := _root_.id q1
    refine ⟨rfl, ?_⟩
    refine ha.si.bind rs1 post1 fun ds w2 vs H2 Hs2 rs2 b2 q2 post2 => ?_
    cases ef : f s ds with
    | none => rw [ef] at post2; exact post2.elim
    | some d =>
      rw [ef] at post2
      exact hf w2 H2 Hs2 vs s ds d Q rs2.b ok q2 ef post2
  | _ => exact post1.elim
/-- sep.join(texts) -/
def joinD (sep : List Nat) : List (List Nat) → List Nat
  | [] => []
  | [x] => x
  | x :: y :: r => x ++ sep ++ joinD sep (y :: r)
theorem glued_fold (sep : Str) : ∀ (r : List (List Nat)) (acc : Array Nat), ((r.map mkS).foldl (fun acc p => acc ++ sep.cps ++ p.cps) acc).toList = acc.toList ++ (r.map fun x => sep.cps.toList ++ x).flatten
  | [], acc => by simp
  | x :: r, acc => by
    rw [List.map_cons, List.foldl_cons, glued_fold sep r]
    simp
theorem joinD_flat (sep x : List Nat) : ∀ r : List (List Nat), joinD sep (x :: r) = x ++ (r.map fun y => sep ++ y).flatten := by
  intro r
  induction r generalizing x with
  | nil => simp [joinD]
  | cons y r ih => simp only [joinD]; rw [ih y]; simp
theorem join_eq (sep : List Nat) (xs : List (List Nat)) : Txt.join (mkS sep) (xs.map mkS) = mkS (joinD sep xs) := by
  show Builtin.Str.glued _ _ = _
  unfold Builtin.Str.glued
  cases xs with
  | nil => rfl
  | cons x r =>
    have := glued_fold (mkS sep) r x.toArray
    rw [joinD_flat]
    simp only [List.map_cons, List.drop_one, List.tail_cons, List.headD_cons]
    congr 1
    apply Array.ext'
    rw [this]
def fJoin (s : List Nat) (ds : List D) : Option D := match ds with
  | [.lst es] => (match dStrs es with
    | some xs => if (xs.map List.length).sum + xs.length * s.length ≤ 16777216 then some (.str (joinD s xs)) else none
    | none => none)
  | [.tup es] => (match dStrs es with
    | some xs => if (xs.map List.length).sum + xs.length * s.length ≤ 16777216 then some (.str (joinD s xs)) else none
    | none => none)
  | _ => none
theorem joinD_len (s : List Nat) : ∀ xs : List (List Nat), (joinD s xs).length ≤ (xs.map List.length).sum + xs.length * s.length
  | [] => by simp [joinD]
  | [x] => by simp [joinD]
  | x :: y :: r => by
    have := joinD_len s (y :: r)
    simp only [joinD, List.length_append, List.map_cons, List.sum_cons, List.length_cons] at *
    rw [Nat.succ_mul]
    omega
theorem joinD_mem {s : List Nat} {c : Nat} : ∀ {xs : List (List Nat)}, c ∈ joinD s xs → c ∈ s ∨ ∃ x ∈ xs, c ∈ x
  | [], h => by cases h
  | [x], h => .inr ⟨x, List.mem_singleton.mpr rfl, h⟩
  | x :: y :: r, h => by
    simp only [joinD, List.append_assoc, List.mem_append] at h
    rcases h with h | h | h
    · exact .inr ⟨x, List.mem_cons_self, h⟩
    · exact .inl h
    · rcases joinD_mem h with h | ⟨z, hz, h⟩
      · exact .inl h
      · exact .inr ⟨z, List.mem_cons_of_mem _ hz, h⟩
def rJoin (K : PySem.W.Frag) : V → List V → Hp → VK → Prop := fun x xs H Q => ∃ a p, ∃ ys : List Str, x = .str a ∧ xs = [.ref p] ∧ (SqL K H p (ys.map V.str) ∨ SqT K H p (ys.map V.str)) ∧
    (ys.map (·.length)).sum + ys.length * a.length ≤ 16777216 ∧ Q (.str (Txt.join a ys)) H
theorem join_side {s : List Nat} {xs : List (List Nat)} (h : (xs.map List.length).sum + xs.length * s.length ≤ 16777216) : (((xs.map mkS).map (·.length)).sum + (xs.map mkS).length * (mkS s).length ≤ 16777216) := by
  have e : (xs.map mkS).map (·.length) = xs.map List.length := by
    rw [List.map_map]
    exact List.map_congr_left fun a _ => str_len a
  rw [e, List.length_map, str_len]; exact h
theorem md_join {K : PySem.W.Frag} (hK : K = G.c.K) : MtD G (rJoin K) fJoin := by
  subst hK
  intro w H Hs xs s ds d Q hb ok hr e q
  have sok : ∀ {ys : List (List Nat)}, (∀ y ∈ ys, SOk y) → (ys.map List.length).sum + ys.length * s.length ≤ 16777216 → SOk (joinD s ys) := fun {ys} hy hz => by
    refine ⟨?_, fun c hc => ?_⟩
    · rw [sizeLine_eq]; exact Nat.le_trans (joinD_len s ys) hz
    · rcases joinD_mem hc with h | ⟨y, hy1, hy2⟩
      · exact ok.2 c h
      · exact (hy y hy1).2 c hy2
  unfold fJoin at e
  split at e
  · rename_i es
    split at e
    · rename_i ys hs
      split at e
      · rename_i hz
        cases e
        obtain ⟨v, rfl, a, vs, rfl, h1, h2, _⟩ := repBL1 hr
        rw [strs_eq hs] at h2
        obtain ⟨e1, e2⟩ := repL_strs h2
        rw [e1] at h1
        refine ⟨_, a, ys.map mkS, rfl, rfl, .inl (.inl (.inl h1)), join_side hz, ?_⟩
        rw [join_eq]
        exact q _ H Hs hb.refl_at ⟨rfl, sok e2 hz⟩
      · cases e
    · cases e
  · rename_i es
    split at e
    · rename_i ys hs
      split at e
      · rename_i hz
        cases e
        obtain ⟨v, rfl, a, vs, rfl, h1, h2⟩ := repBL1 hr
        rw [strs_eq hs] at h2
        obtain ⟨e1, e2⟩ := repL_strs h2
        rw [e1] at h1
        refine ⟨_, a, ys.map mkS, rfl, rfl, .inr (sqT_mono hb.sub h1), join_side hz, ?_⟩
        rw [join_eq]
        exact q _ H Hs hb.refl_at ⟨rfl, sok e2 hz⟩
      · cases e
    · cases e
  · cases e
theorem je_join (ho : JB X G Wx o to mo) (ha : JAB X G Wx [e] t ma) (hbase : attributeBase o "join" X.env (eval o X.env) = eval o X.env := by rfl)
    (hfew : ((backTo cpos (starEach [e] X.env)).all (fun x => !x.1) && (backToKw cpos (keywordEach [] X.env)).all (fun x => x.1.isSome)
      && decide ([e].length + ([] : List Keyword).length + (if ([] : List Keyword).isEmpty then 0 else 1) < 30)) = true := by rfl)
    (hline : (apos.endLine == cpos.line) = true := by rfl) (hs : starEach [e] X.env = (false, eval e X.env) :: starEach [] X.env := by rfl) (hK : X.K = G.c.K := by rfl) :
    JE X G Wx (.Call (.Attribute o "join" apos) [e] [] cpos) (tBM G.c.K "str" (rJoin G.c.K) to t) (mMt fJoin mo ma) :=
  je_mtS PySem.F.slot_str_join PySem.F.type_str_join (by rw [← hK]; exact mt_join) (md_join rfl) ho ha hbase hfew hline hs rfl hK
/-- s.index(c), one sign that is there -/
def fIndex (s : List Nat) (ds : List D) : Option D := match ds with
  | [.str [c]] => if c ∈ s then some (.int ((s.idxOf c : Nat) : Int)) else none
  | _ => none
def rIndexF : V → List V → Hp → VK → Prop := fun x xs H Q => ∃ (a b : Str) (k : Nat), x = .str a ∧ xs = [.str b] ∧ Txt.index0 a b = some k ∧ Q (.int (k : Nat)) H
theorem mt_indexF : MtR X "str.index" rIndexF := by
  intro pins s σ H x xs v us Q I rx rs h
  obtain ⟨a, b, k, rfl, rfl, hk, h⟩ := h
  obtain ⟨t, rfl⟩ := rx
  cases rs with
  | cons r1 rs =>
    cases rs
    obtain ⟨u, rfl⟩ := r1
    cases q : Builtin.Str.occurrences a b 0 a.length 1 with
    | nil =>
      unfold Txt.index0 at hk
      rw [q] at hk; cases hk
    | cons k' rest =>
      unfold Txt.index0 at hk
      rw [q] at hk
      cases hk
      exact PySem.SC.index q ⟨.int (k : Nat), H, I.tok _, ⟨_, rfl⟩, h⟩
theorem index_one {s : List Nat} {c : Nat} (h : c ∈ s) : Txt.index0 (mkS s) (mkS [c]) = some (s.idxOf c) := by
  unfold Txt.index0
  have at_iff : ∀ i, StrLaws.At (mkS s) (mkS [c]) (mkS s).length i ↔ s[i]? = some c := fun i => by
    have := StrLaws.subAt_one (mkS s) c i
    simpa [StrLaws.At] using this
  have hi : s[s.idxOf c]? = some c := by
    have hlt := List.idxOf_lt_length_of_mem h
    rw [List.getElem?_eq_getElem hlt, List.getElem_idxOf hlt]
  rcases StrLaws.occ_head (mkS s) (mkS [c]) 1 (Nat.le_refl _) with ⟨h0, hn⟩ | ⟨i, r, h0, h1, h2⟩
  · exact absurd ((at_iff _).mpr hi) (hn _)
  · rw [h0]
    have h1' := (at_iff i).mp h1
    have : i = s.idxOf c := by
      rcases Nat.lt_trichotomy i (s.idxOf c) with hlt | he | hgt
      · have := List.not_of_lt_findIdx (p := (· == c)) (xs := s) (i := i) (by simpa [List.idxOf] using hlt)
        have hli := (List.getElem?_eq_some_iff.mp h1')
        obtain ⟨hl, e⟩ := hli
        simp [e] at this
      · exact he
      · exact absurd ((at_iff _).mpr hi) (h2 _ hgt)
    rw [this]; rfl
theorem md_index : MtD G rIndexF fIndex := by
  intro w H Hs xs s ds d Q hb ok hr e q
  unfold fIndex at e
  split at e
  · split at e
    · rename_i c hc
      cases e
      obtain ⟨v, rfl, rfl, _⟩ := repBL1 hr
      exact ⟨_, _, _, rfl, rfl, index_one hc, q _ H Hs hb.refl_at rfl⟩
    · cases e
  · cases e
theorem je_index (ho : JB X G Wx o to mo) (ha : JAB X G Wx [e] t ma) (hbase : attributeBase o "index" X.env (eval o X.env) = eval o X.env := by rfl)
    (hfew : ((backTo cpos (starEach [e] X.env)).all (fun x => !x.1) && (backToKw cpos (keywordEach [] X.env)).all (fun x => x.1.isSome)
      && decide ([e].length + ([] : List Keyword).length + (if ([] : List Keyword).isEmpty then 0 else 1) < 30)) = true := by rfl)
    (hline : (apos.endLine == cpos.line) = true := by rfl) (hs : starEach [e] X.env = (false, eval e X.env) :: starEach [] X.env := by rfl) (hK : X.K = G.c.K := by rfl) :
    JE X G Wx (.Call (.Attribute o "index" apos) [e] [] cpos) (tBM G.c.K "str" rIndexF to t) (mMt fIndex mo ma) :=
  je_mtS PySem.F.slot_str_index PySem.F.type_str_index mt_indexF md_index ho ha hbase hfew hline hs rfl hK
end
end FT
end
section
set_option Elab.async false
set_option linter.all false
set_option maxRecDepth 100000
set_option maxHeartbeats 4000000
namespace FT
open PySem PySem.Spec PyProof.Rows L2
/-! ### calls with keywords -/
def pick {α : Type} (idx : List Nat) (xs : List α) : List α := idx.filterMap fun i => xs[i]?
theorem pick_cons {α : Type} (i : Nat) (idx : List Nat) (xs : List α) : pick (i :: idx) xs = match xs[i]? with
  | some x => x :: pick idx xs
  | none => pick idx xs := by
  unfold pick
  rw [List.filterMap_cons]
  cases xs[i]? <;> rfl
theorem pick_rep {c : Cc} {H : Hp} {ds : List D} {vs : List V} (r : RepL c H ds vs) : ∀ idx : List Nat, RepL c H (pick idx ds) (pick idx vs)
  | [] => rfl
  | i :: idx => by
    rw [pick_cons, pick_cons]
    cases e : ds[i]? with
    | none =>
      have : vs[i]? = none := by
        rw [List.getElem?_eq_none_iff] at e ⊢
        rw [r.length]; exact e
      rw [this]; exact pick_rep r idx
    | some d =>
      obtain ⟨v, e1, e2⟩ := r.get e
      rw [e1]
      exact ⟨v, _, rfl, e2, pick_rep r idx⟩
theorem pick_vals {vs : List V} {us : List Value} (r : Vals vs us) : ∀ idx : List Nat, Vals (pick idx vs) (pick idx us)
  | [] => .nil
  | i :: idx => by
    rw [pick_cons, pick_cons]
    cases e : vs[i]? with
    | none => rw [r.none_of e]; exact pick_vals r idx
    | some v =>
      obtain ⟨u, e1, e2⟩ := r.get e
      rw [e1]
      exact .cons e2 (pick_vals r idx)
section
variable {X : Cx} {G : Gh} {Wx : WX} {w w' w1 w2 : List D} {H Hs H' Hs' H1 Hs1 H2 Hs2 : Hp} {sd : SD} {σ : L2.St}
structure JK (X : Cx) (G : Gh) (Wx : WX) (kws : List Keyword) (t : TA) (m : ME (List D)) : Prop where
  pe : PK X kws t
  si : Sim G Wx (ρA G) t m
variable {e : Expr} {te : TE} {m : ME D} {es : List Expr} {t tk : TA} {ma mk : ME (List D)} {x : Str} {k n : Nat} {f : Addr} {fd : FuncData} {ps ks : List Str} {fm : List D → List D → R D} {idx : List Nat} {kws : List Keyword} {p pos kpos : Pos} {nm : Option Str}
theorem jk_nil : JK X G Wx [] tNil mNil := ⟨pk_nil, fun sd w σ H Hs Q rs post => post _ H Hs rs.b.refl_at rfl⟩
theorem jk_cons (ha : JE X G Wx e te m) (hr : JK X G Wx kws t ma) : JK X G Wx (⟨nm, e, kpos⟩ :: kws) (tCons te t) (mCons m ma) := by
  refine ⟨pk_cons ha.pe hr.pe, fun sd w σ H Hs Q rs post => ?_⟩
  refine ha.si.bind rs post fun d w1 v H1 Hs1 rs1 b1 q1 post1 => ?_
  refine hr.si.bind rs1 post1 fun ds w2 vs H2 Hs2 rs2 b2 q2 post2 => ?_
  exact post2 _ H2 Hs2 rs2.b.refl_at ⟨v, vs, rfl, q1.mono b2.sub0, q2⟩
/-- how it binds: the values as written (n by place, then the keywords'), picked by idx -/
abbrev KBp (K : PySem.W.Frag) (fd : FuncData) (ps : List Str) (n : Nat) (ks : List Str) (idx : List Nat) : Prop :=
  ∀ (s : Shared) (us ws : List Value), K.In s.heap → us.length = n → ws.length = ks.length → BindsTo s fd ⟨us, ks.zip ws⟩ (ps.zip (pick idx (us ++ ws)))
def tCallKD (n m : Nat) (sp : Sp) (idx : List Nat) (E : L2.St → XK) (t tk : TA) : TE := fun σ H Q => t σ H fun vs H1 => tk σ H1 fun zs H2 => vs.length = n ∧ zs.length = m ∧ sp (pick idx (vs ++ zs)) H2 Q (E σ)
theorem run_fnKD {CX : CXT} {sp : Sp} {E : L2.St → XK} {pins : List (Addr × Obj)} {s : Shared} {Q : VK} {us ws : List Value} {vs zs : List V} (F : FnOk X.prog X.w X.K X.mg X.base CX k f fd ps sp) (hr : Room k X.A) (hb : KBp X.K fd ps n ks idx) (hx : PassesAt CX X σ (E σ))
    (I : Inv X pins σ H s) (r : Vals vs us) (rz : Vals zs ws) (l1 : vs.length = n) (l2 : zs.length = ks.length) (h : sp (pick idx (vs ++ zs)) H Q (E σ)) : wpAny (model X.prog X.w) X.A (call (.ref f) us (ks.zip ws)) (EP X pins σ Q) X.xe s := by
  have r2 := pick_vals (Vals.append r rz) idx
  refine wpAny_call (codeAny_mono (F.run X.A X.stack s H ⟨us, ks.zip ws⟩ _ _ Q (E σ) hr I.env0 (hb s us ws I.kIn (by rw [← r.length]; exact l1) (by rw [← rz.length]; exact l2)) r2 h) fun r s' hq => ?_)
  cases r with
  | error e => exact hx pins H s e s' I hq
  | ok fl =>
    cases fl with
    | ret u => exact I.after hq
    | next => exact False.elim hq
    | brk => exact False.elim hq
    | cont => exact False.elim hq
theorem pe_callKD {CX : CXT} {sp : Sp} {E : L2.St → XK} (F : FnOk X.prog X.w X.K X.mg X.base CX k f fd ps sp) (hr : Room k X.A) (hg : Gl X x) (hm : X.mg x = some (.ref f)) (hk : PySem.W.keepIn X.K (.ref f) = true) (hb : KBp X.K fd ps n ks idx) (hx : ∀ σ, PassesAt CX X σ (E σ))
    (ha : PA X (e :: es) t) (hkw : PK X kws tk) (hall : (backToKw pos (keywordEach kws X.env)).all (·.1.isSome) = true) (hks : (backToKw pos (keywordEach kws X.env)).filterMap (·.1) = ks)
    (hdb : (x == ("__debug__" : Str)) = false) (he : starEach (e :: es) X.env = (false, eval e X.env) :: starEach es X.env)
    (hpl : ((backTo pos (starEach (e :: es) X.env)).any (·.1) || (backToKw pos (keywordEach kws X.env)).any (·.1.isNone)) = false) :
    PE X (.Call (.Name x p) (e :: es) kws pos) (tCallKD n ks.length sp idx E t tk) := by
  refine ⟨fun pins s σ H Q I h => ?_⟩
  refine wpAny_Call_Name_kw (ld_glob I hg hm ?_ hdb)
  refine PySem.W.callWith_KW (h₀ := X.base) I.ok.mod.kin hk hall (thn (ha.run pos pins s σ H _ I h) fun us s1 ⟨vs, H1, I1, r, q⟩ => ?_) hpl he
  refine thn (hkw.run pos pins s1 σ H1 _ I1 q) fun ws s2 ⟨zs, H2, I2, rz, q2⟩ => ⟨I2.kIn, ?_⟩
  rw [hks]
  obtain ⟨l1, l2, q3⟩ := q2
  exact run_fnKD F hr hb (hx σ) I2 r rz l1 l2 q3
theorem pe_callKD0 {CX : CXT} {sp : Sp} {E : L2.St → XK} (F : FnOk X.prog X.w X.K X.mg X.base CX k f fd ps sp) (hr : Room k X.A) (hg : Gl X x) (hm : X.mg x = some (.ref f)) (hk : PySem.W.keepIn X.K (.ref f) = true) (hb : KBp X.K fd ps 0 ks idx) (hx : ∀ σ, PassesAt CX X σ (E σ))
    (hkw : PK X kws tk) (hall : (backToKw pos (keywordEach kws X.env)).all (·.1.isSome) = true) (hks : (backToKw pos (keywordEach kws X.env)).filterMap (·.1) = ks)
    (hdb : (x == ("__debug__" : Str)) = false) (hpl : ((backTo pos (starEach [] X.env)).any (·.1) || (backToKw pos (keywordEach kws X.env)).any (·.1.isNone)) = false) :
    PE X (.Call (.Name x p) [] kws pos) (tCallKD 0 ks.length sp idx E tNil tk) := by
  refine ⟨fun pins s σ H Q I h => ?_⟩
  refine wpAny_Call_Name_kw (ld_glob I hg hm ?_ hdb)
  refine PySem.W.callWith_KW0 (h₀ := X.base) I.ok.mod.kin hk hall (thn (hkw.run pos pins s σ H _ I h) fun ws s2 ⟨zs, H2, I2, rz, q2⟩ => ⟨I2.kIn, ?_⟩) hpl
  rw [hks]
  obtain ⟨l1, l2, q3⟩ := q2
  exact run_fnKD (us := []) F hr hb (hx σ) I2 .nil rz l1 l2 q3
def mCallK (n m : Nat) (idx : List Nat) (f : List D → List D → R D) (ma mk : ME (List D)) : ME D := fun sd w => (ma sd w).bind fun ds w1 => (mk sd w1).bind fun es w2 => if ds.length = n ∧ es.length = m then f (pick idx (ds ++ es)) w2 else .bad
theorem sim_callK {m' : Nat} (ha : Sim G Wx (ρA G) t ma) (hk : Sim G Wx (ρA G) tk mk) : Sim G Wx (ρE G) (tCallKD n m' (spF G.c.K G.c.cl G.T k fm) idx (WE Wx) t tk) (mCallK n m' idx (nArg k fm) ma mk) := by
  intro sd w σ H Hs Q rs post
  refine ha.bind rs post fun ds w1 vs H1 Hs1 rs1 b1 q1 post1 => ?_
  refine hk.bind rs1 post1 fun es w2 zs H2 Hs2 rs2 b2 q2 post2 => ?_
  split at post2
  · rename_i hl
    exact ⟨by rw [q1.length]; exact hl.1, by rw [q2.length]; exact hl.2, call_post rs2.b (pick_rep ((q1.mono b2.sub0).append q2) idx) post2⟩
  · exact post2.elim
theorem je_callK {j : Nat} (F : FnOk X.prog X.w X.K X.mg X.base (L2.CX X.prog X.w) k f fd ps (spF G.c.K G.c.cl G.T j fm)) (hr : Room k X.A) (hm : X.mg x = some (.ref f)) (hk : PySem.W.keepIn X.K (.ref f) = true) (hb : KBp X.K fd ps n ks idx) (tkk : Takes X Wx)
    (ha : JA X G Wx (e :: es) t ma) (hkw : JK X G Wx kws tk mk) (hg : Gl X x := by rfl) (hall : (backToKw pos (keywordEach kws X.env)).all (·.1.isSome) = true := by rfl) (hks : (backToKw pos (keywordEach kws X.env)).filterMap (·.1) = ks := by rfl)
    (hdb : (x == ("__debug__" : Str)) = false := by decide) (he : starEach (e :: es) X.env = (false, eval e X.env) :: starEach es X.env := by rfl)
    (hpl : ((backTo pos (starEach (e :: es) X.env)).any (·.1) || (backToKw pos (keywordEach kws X.env)).any (·.1.isNone)) = false := by rfl) :
    JE X G Wx (.Call (.Name x p) (e :: es) kws pos) (tCallKD n ks.length (spF G.c.K G.c.cl G.T j fm) idx (WE Wx) t tk) (mCallK n ks.length idx (nArg j fm) ma mk) :=
  ⟨pe_callKD F hr hg hm hk hb (fun σ => passAt tkk σ) ha.pe hkw.pe hall hks hdb he hpl, sim_callK ha.si hkw.si⟩
theorem je_callK0 {j : Nat} (F : FnOk X.prog X.w X.K X.mg X.base (L2.CX X.prog X.w) k f fd ps (spF G.c.K G.c.cl G.T j fm)) (hr : Room k X.A) (hm : X.mg x = some (.ref f)) (hk : PySem.W.keepIn X.K (.ref f) = true) (hb : KBp X.K fd ps 0 ks idx) (tkk : Takes X Wx)
    (hkw : JK X G Wx kws tk mk) (hg : Gl X x := by rfl) (hall : (backToKw pos (keywordEach kws X.env)).all (·.1.isSome) = true := by rfl) (hks : (backToKw pos (keywordEach kws X.env)).filterMap (·.1) = ks := by rfl)
    (hdb : (x == ("__debug__" : Str)) = false := by decide) (hpl : ((backTo pos (starEach [] X.env)).any (·.1) || (backToKw pos (keywordEach kws X.env)).any (·.1.isNone)) = false := by rfl) :
    JE X G Wx (.Call (.Name x p) [] kws pos) (tCallKD 0 ks.length (spF G.c.K G.c.cl G.T j fm) idx (WE Wx) tNil tk) (mCallK 0 ks.length idx (nArg j fm) mNil mk) :=
  ⟨pe_callKD0 F hr hg hm hk hb (fun σ => passAt tkk σ) hkw.pe hall hks hdb hpl, sim_callK (ja_nil (X := X)).si hkw.si⟩
theorem kb_of {K : PySem.W.Frag} {qual : Str} {st : Stmt} (F : Fun K x qual st f fd)
    (h : ∀ (kV doc pm : Value) (an : Option Addr) (cdv ct : Value) (us ws : List Value), us.length = n → ws.length = ks.length → bindArgs (PySem.W.fnOf x qual (defArgs st) (defBody st) (defScope st) .none kV doc pm an cdv ct) ⟨us, ks.zip ws⟩ = pure (ps.zip (pick idx (us ++ ws)))) : KBp K fd ps n ks idx := by
  obtain ⟨oc, od, kV, doc, pm, an, cdv, ct, osl, rfl, lk, hcd⟩ := F.ex
  exact fun s us ws _ h1 h2 => BindsTo.of_eq (h kV doc pm an cdv ct us ws h1 h2)
/-! ### a def whose last row hands back a list of its own making -/
structure JSF (X : Cx) (G : Gh) (Wx : WX) (s : List Stmt) (t : TS) (m : SD → List D → R (List D)) : Prop where
  pe : PSs X s t
  si : ∀ sd w σ H Hs De, RS G sd w σ H Hs → (∀ ds w', m sd w = .ok ds w' → ∀ a vs H' Hs', B G w' H' Hs' → H' a = some (.lst vs) → RepL G.c Hs' ds vs → Hs' a = none → (∀ o', G.H0 a = some o' → ¬ NoT o') → G.c.ap ≠ some a → De.rt (.ref a) H') → (∃ ds w', m sd w = .ok ds w') → t De σ H
theorem jsf_ret {m : ME (List D)} (h : JF X G Wx e te m) : JSF X G Wx [.Return (some e) pos] (tRet te) m := by
  refine ⟨pss_one (ps_ret h.pe), fun sd w σ H Hs De rs post ⟨ds, w', e⟩ => h.si sd w σ H Hs _ rs ?_⟩
  rw [e]
  intro a vs H' Hs' b h1 h2 h3 h4 h5
  exact post ds w' e a vs H' Hs' (rs.b.trans b) h1 h2 h3 (fun o' e hn => h4 o' (rs.b.keep a o' h5 hn e) hn) h5
theorem jsf_cons {st : Stmt} {sts : List Stmt} {t1 t2 : TS} {m1 : MS} {m2 : SD → List D → R (List D)} (h1 : JS X G Wx st t1 m1) (h2 : JSF X G Wx sts t2 m2) : JSF X G Wx (st :: sts) (tSeq t1 t2) (fun sd w => match m1 sd w with
    | .nx sd' w' => m2 sd' w'
    | _ => .bad) := by
  refine ⟨pss_cons h1.pe h2.pe, fun sd w σ H Hs De rs post ⟨ds, w', e⟩ => h1.si sd w σ H Hs _ rs ?_⟩
  cases e1 : m1 sd w with
  | nx sd1 w1 =>
    rw [e1] at e
    simp only at e
    intro σ' H' Hs' rs' sm
    refine h2.si sd1 w1 σ' H' Hs' De rs' (fun ds2 w2 e2 => ?_) ⟨ds, w', e⟩
    exact post ds2 w2 (by rw [e1]; exact e2)
  | _ => rw [e1] at e; cases e
end
def spPF (K : PySem.W.Frag) (cl : Nat → Addr) (T : List (Addr × Str)) (n : Nat) (fm : List D → List D → R (List D)) : Sp := fun vs H Q E => ∃ (Hs : Hp) (ds : List D) (es : List D),
  B (gh K cl T none (fun _ => none) H Hs) [] H Hs ∧ RepL ⟨K, none, cl⟩ Hs ds vs ∧ ds.length = n ∧ fm ds [] = .ok es [] ∧ ∀ a us H' Hs', B (gh K cl T none (fun _ => none) H Hs) [] H' Hs' → H' a = some (.lst us) → RepL ⟨K, none, cl⟩ Hs' es us → Hs' a = none → (∀ o', H a = some o' → ¬ NoT o') → Q (.ref a) H'
section
variable {P : Program} {w0 : World} {K : PySem.W.Frag} {mg : Str → Option Value} {base : Heap}
theorem ok_pen {x qual : Str} {st : Stmt} {f : Addr} {fd : FuncData} {N ps : List Str} {k : Nat} {cl : Nat → Addr} {T : List (Addr × Str)} {m : SD → List D → R (List D)} (F : Fun K x qual st f fd) (S : FnScope N ps (defScope st)) (hps : ps.length ≤ N.length)
    (hb : ∀ (cdv : Value) (A : Around) (outer : List Env) (s : Shared) (H : Hp) (E : XK) (ap : Option Addr) (HP Hs : Hp), Room k (A.deeper (envOfC qual (defScope st) s.heap.objs.size f cdv)) →
      ∃ t, JSF (cxOf (L2.CX P w0) P w0 K mg base N qual (defScope st) f cdv A outer s H E) (gh K cl T ap HP H Hs) (fun c d _ H => E c d H) (defBody st) t m) :
    FnOk P w0 K mg base (L2.CX P w0) (k + 1) f fd ps (spPF K cl T ps.length fun ds w => m (sd0 N.length ds) w) := by
  refine F.okX S (fun vs H Q E h => ?_) (fun cdv A outer s H vs Q E hr h => ?_)
  · obtain ⟨Hs, ds, es, _, r, hn, _⟩ := h
    rw [r.length, hn]
  · obtain ⟨Hs, ds, es, b, r, hn, em, post⟩ := h
    obtain ⟨t, J⟩ := hb cdv A outer s H E none (fun _ => none) Hs hr
    refine ⟨t, J.pe, J.si (sd0 N.length ds) [] (L2.start N vs) H Hs _ ⟨b, sl_start (G := gh K cl T none (fun _ => none) H Hs) r (by rw [hn]; exact hps)⟩ (fun ds' w' e a us H' Hs' b' h1 h2 h3 h4 _ => ?_) ⟨es, [], em⟩⟩
    have e3 : (R.ok es [] : R (List D)) = .ok ds' w' := em.symm.trans e
    cases e3
    exact post a us H' Hs' b' h1 h2 h3 h4
/-! ### the law -/
mutual
theorem rep_ap {K : PySem.W.Frag} {cl : Nat → Addr} {ap : Option Addr} {H : Hp} : ∀ {d : D} {v : V}, Rep ⟨K, none, cl⟩ H d v → Rep ⟨K, ap, cl⟩ H d v
  | .non, _, h => h
  | .bl _, _, h => h
  | .int _, _, h => h
  | .str _, _, h => h
  | .lst _, _, ⟨a, vs, h1, h2, h3⟩ => ⟨a, vs, h1, h2, repL_ap h3⟩
  | .tup _, _, ⟨a, vs, h1, h2, h3⟩ => ⟨a, vs, h1, h2, repL_ap h3⟩
  | .frz _, _, ⟨a, vs, h1, h2, h3⟩ => ⟨a, vs, h1, h2, repL_ap h3⟩
  | .pen, _, ⟨a, h, _⟩ => by cases h
  | .obj _ _ _, _, ⟨a, dx, fs, h1, h2, h3, h4⟩ => ⟨a, dx, fs, h1, h2, h3, repL_ap h4⟩
  | .dct _ _, _, ⟨a, kvs, h1, h2, h3, h4⟩ => ⟨a, kvs, h1, h2, h3, repL_ap h4⟩
  | .dcT _ _, _, ⟨a, kvs, h1, h2, h3, h4⟩ => ⟨a, kvs, h1, h2, h3, repL_ap h4⟩
theorem repL_ap {K : PySem.W.Frag} {cl : Nat → Addr} {ap : Option Addr} {H : Hp} : ∀ {ds : List D} {vs : List V}, RepL ⟨K, none, cl⟩ H ds vs → RepL ⟨K, ap, cl⟩ H ds vs
  | [], _, h => h
  | _ :: _, _, ⟨v, r, h1, h2, h3⟩ => ⟨v, r, h1, rep_ap h2, repL_ap h3⟩
end
def tAny (X : Cx) (sts : List Stmt) : TS := fun De σ H => ∃ t, PSs X sts t ∧ t De σ H
theorem pss_any {X : Cx} {sts : List Stmt} : PSs X sts (tAny X sts) := ⟨fun pins s σ H De I ⟨t, p, h⟩ => p.run pins s σ H De I h⟩
/-- what the law is called with: the tables' addresses are empty tables -/
def spLaw (K : PySem.W.Frag) (T : List (Addr × Str)) (Pre : List Int → Prop) : Sp := fun vs H Q _ => ∃ (a : Addr) (ns : List Int), vs = [.ref a] ∧ SqL K H a (ns.map V.int) ∧ Pre ns ∧ LamX.Tabs T H ∧ ∀ H', Q (.bl true) H'
noncomputable def onlyN (H : Hp) : Hp := fun a => open Classical in if (∃ o, H a = some o ∧ NoT o) then H a else none
theorem onlyN_at {H : Hp} {a : Addr} {o : HO} (h : H a = some o) (n : NoT o) : onlyN H a = some o := by
  unfold onlyN
  rw [if_pos ⟨o, h, n⟩]; exact h
theorem onlyN_of {H : Hp} {a : Addr} {o : HO} (h : onlyN H a = some o) : H a = some o ∧ NoT o := by
  unfold onlyN at h
  split at h
  · rename_i hx
    obtain ⟨o', h1, h2⟩ := hx
    rw [h1] at h
    cases h
    exact ⟨h1, h2⟩
  · cases h
theorem ok_law {x qual : Str} {st st0 : Stmt} {rest : List Stmt} {f : Addr} {fd : FuncData} {s0 y : Str} {N : List Str} {k kp : Nat} {cl : Nat → Addr} {T : List (Addr × Str)} {Pre : List Int → Prop} {mr : MS} {pm : List D → List D → R (List D)} (F : Fun K x qual st f fd) (S : FnScope N [s0] (defScope st)) (hN : 2 ≤ N.length) (hbd : defBody st = st0 :: rest)
    (h0 : ∀ (cdv : Value) (A : Around) (outer : List Env) (s : Shared) (H : Hp) (E : XK), Room k (A.deeper (envOfC qual (defScope st) s.heap.objs.size f cdv)) →
      PS (cxOf (L2.CX P w0) P w0 K mg base N qual (defScope st) f cdv A outer s H E) st0 (tAsg (tCallS (spPF K cl T 1 pm) (WE fun c d _ H => E c d H) (tCons (tVar 0) tNil)) (gName 1)))
    (hb : ∀ (cdv : Value) (A : Around) (outer : List Env) (s : Shared) (H : Hp) (E : XK) (ap : Option Addr) (HP H1 Hs : Hp), Room k (A.deeper (envOfC qual (defScope st) s.heap.objs.size f cdv)) →
      ∃ t, JSs (cxOf (L2.CX P w0) P w0 K mg base N qual (defScope st) f cdv A outer s H E) (gh K cl T ap HP H1 Hs) (fun c d _ H => E c d H) rest t mr)
    (pure_law : ∀ ns, Pre ns → ∃ cells w', pm [.frz (ns.map D.int)] [] = .ok cells [] ∧ mr (.val (.frz (ns.map D.int)) :: .val .pen :: List.replicate (N.length - 2) .no) cells = .ret (.bl true) w') :
    FnOk P w0 K mg base (L2.CX P w0) (k + 1) f fd [s0] (spLaw K T Pre) := by
  refine F.okX S (fun vs H Q E h => ?_) (fun cdv A outer s H vs Q E hr h => ?_)
  · obtain ⟨a, ns, rfl, _⟩ := h; rfl
  · obtain ⟨a, ns, rfl, hS, hpre, hT, q⟩ := h
    obtain ⟨cells, w', e1, e2⟩ := pure_law ns hpre
    rw [hbd]
    refine ⟨_, pss_cons (h0 cdv A outer s H E hr) pss_any, ?_⟩
    have sN : Same (onlyN H) H := fun b o e => (onlyN_of e).1
    have b0 : B (gh K cl T none (fun _ => none) H (onlyN H)) [] H (onlyN H) := ⟨sN, Same.refl _, fun _ _ _ _ h => h, fun _ _ h => .inl h, (fun _ h => by cases h), (fun _ _ h => by cases h), fun b o e => (onlyN_of e).2, hT⟩
    have hSs : SqL K (onlyN H) a (ns.map V.int) := by
      rcases hS with (h | ⟨o, h⟩) | h
      · exact .inl (.inl (onlyN_at h lst_noT))
      · exact .inl (.inr ⟨o, onlyN_at h (fun _ e => by cases e)⟩)
      · exact .inr h
    have rF : Rep ⟨K, none, cl⟩ (onlyN H) (.frz (ns.map D.int)) (.ref a) := ⟨a, _, rfl, hSs, repL_int _⟩
    refine ⟨_, rfl, onlyN H, [.frz (ns.map D.int)], cells, b0, RepL.one rF, rfl, e1, fun p us H1 Hs1 b1 hp rl hps hf => ?_⟩
    obtain ⟨t, J⟩ := hb cdv A outer s H E (some p) Hs1 H1 Hs1 hr
    refine ⟨t, J.pe, J.si (.val (.frz (ns.map D.int)) :: .val .pen :: List.replicate (N.length - 2) .no) cells _ H1 Hs1 _ ⟨?_, ?_⟩ ?_⟩
    · exact ⟨b1.sub, Same.refl _, fun _ _ _ _ h => h, fun _ _ h => .inl h, fun a' ha' => by
        cases ha'
        exact ⟨⟨us, hp, repL_ap rl⟩, hps⟩, Same.refl _, b1.nt, b1.tab⟩
    · have hst : L2.start N [V.ref a] = some (.ref a) :: List.replicate (N.length - 1) none := rfl
      have hrep : List.replicate (N.length - 1) (none : Option V) = none :: List.replicate (N.length - 2) none := by
        have : N.length - 1 = (N.length - 2) + 1 := by omega
        rw [this]; rfl
      rw [hst, hrep]
      show SL _ _ (some (V.ref a) :: some (.ref p) :: List.replicate (N.length - 2) none) _ _
      have no_own : ∀ (i : Nat) (ds : List D), (SV.val (D.frz (ns.map D.int)) :: SV.val .pen :: List.replicate (N.length - 2) SV.no)[i]? ≠ some (SV.own ds) := fun i ds h => by
        match i, h with
        | 0, h => cases h
        | 1, h => cases h
        | i + 2, h =>
          have h' : (List.replicate (N.length - 2) SV.no)[i]? = some (SV.own ds) := h
          have := (List.mem_replicate.mp (List.mem_of_getElem? h')).2
          cases this
      have no_prv : ∀ (i : Nat) (ds : Pv), (SV.val (D.frz (ns.map D.int)) :: SV.val .pen :: List.replicate (N.length - 2) SV.no)[i]? ≠ some (SV.prv ds) := fun i ds h => by
        match i, h with
        | 0, h => cases h
        | 1, h => cases h
        | i + 2, h =>
          have h' : (List.replicate (N.length - 2) SV.no)[i]? = some (SV.prv ds) := h
          have := (List.mem_replicate.mp (List.mem_of_getElem? h')).2
          cases this
      refine ⟨by simp, fun i d h => ?_, fun i ds h => absurd h (no_own i ds), fun i j ds es a h => absurd h (no_own i ds), fun i ds h => absurd h (no_prv i ds), fun i j ds es a h => absurd h (no_prv i ds)⟩
      match i, h with
      | 0, h => cases h; exact ⟨_, rfl, a, _, rfl, b1.sub0.seq hSs, repL_int _⟩
      | 1, h => cases h; exact ⟨_, rfl, p, rfl, rfl⟩
      | i + 2, h =>
        have h' : (List.replicate (N.length - 2) SV.no)[i]? = some (SV.val d) := h
        have := (List.mem_replicate.mp (List.mem_of_getElem? h')).2
        cases this
    · rw [e2]
      intro v H' Hs' b' rv
      rw [show v = .bl true from rv]
      exact q H'
end
end FT
end
section
set_option Elab.async false
set_option linter.all false
set_option maxRecDepth 100000
set_option maxHeartbeats 4000000
namespace FT
open PySem PySem.Spec PyProof.Rows L2
/-! ### zip of lists, tuples, texts, in any mix -/
inductive Sd where
  | lst (a : Addr)
  | tup (a : Addr)
  | txt (z : Str) (t : Tok)
def Sd.fp : Sd → Addr → List Addr
  | .lst a, i => [i, a]
  | .tup a, i => [i, a]
  | .txt _ _, i => [i]
def Sd.on : Sd → Addr → Nat → Heap → Prop
  | .lst a, it, i, h => h.IsListIter it a i
  | .tup a, it, i, h => h.IsTupleIter it a i
  | .txt x t, it, i, h => h.IsStrIter it (strIterType x) x t i
def chars (z : Str) : List V := z.cps.toList.map fun c => V.str ⟨#[c]⟩
def Sd.At (K : PySem.W.Frag) (H : Hp) : Sd → List V → Prop
  | .lst a, xs => SqL K H a xs
  | .tup a, xs => SqT K H a xs
  | .txt z _, xs => xs = chars z
theorem Sd.on_obj {sd : Sd} {it : Addr} {i : Nat} {h : Heap} (o : sd.on it i h) : ∃ ob, h.get? it = some ob ∧ ∀ v, ob.data ≠ .cell v := by
  cases sd with
  | lst a => obtain ⟨o, h1, _, h2⟩ := o; exact ⟨o, h1, fun v z => by rw [h2] at z; cases z⟩
  | tup a => obtain ⟨o, h1, _, h2⟩ := o; exact ⟨o, h1, fun v z => by rw [h2] at z; cases z⟩
  | txt x t => obtain ⟨o, h1, _, h2⟩ := o; exact ⟨o, h1, fun v z => by rw [h2] at z; cases z⟩
theorem Sd.on_at {sd : Sd} {it : Addr} {i : Nat} {h h' : Heap} (o : sd.on it i h) (k : ∀ ob, h.get? it = some ob → h'.get? it = some ob) : sd.on it i h' := by
  cases sd with
  | lst a => obtain ⟨o, h1, h2⟩ := o; exact ⟨o, k o h1, h2⟩
  | tup a => obtain ⟨o, h1, h2⟩ := o; exact ⟨o, k o h1, h2⟩
  | txt x t => obtain ⟨o, h1, h2⟩ := o; exact ⟨o, k o h1, h2⟩
theorem Sd.draws {X : Cx} {pins : List (Addr × Obj)} {σ : L2.St} {H : Hp} {s : Shared} (hc : X.calm = true) (I : Inv X pins σ H s) {sd : Sd} {xs : List V} (h : sd.At X.K H xs) (it : Addr) (S : ∀ a ∈ sd.fp it, a = it ∨ a ≠ it) (ne : ∀ a, sd = .lst a ∨ sd = .tup a → a ≠ it) :
    ∃ (P : Nat → Value → Prop) (St : Nat → Heap → Prop), Draws X.prog X.w X.A.in1 it (sd.fp it) xs.length P St ∧ (∀ i, sd.on it i s.heap → St i s.heap) ∧ (∀ i h, St i h → sd.on it i h) ∧ ∀ i v x, P i v → xs[i]? = some x → RelV x v := by
  have hh : X.A.in1.handled = none := I.ok.hd hc
  cases sd with
  | lst a =>
    obtain ⟨its, rv, p, hz⟩ := I.list h
    refine ⟨fun i v => its.toArray[i]? = some v, fun i h => h.IsListIter it a i ∧ h.IsList a its.toArray, by rw [rv.length]; exact Draws.list hh it a (ne a (.inl rfl)) its.toArray, fun i o => ⟨o, p.isList⟩, fun i h st => st.1, fun i v x hp hx => ?_⟩
    obtain ⟨u, e1, e2⟩ := rv.get hx
    have : its[i]? = some v := by simpa using hp
    rw [this] at e1; cases e1; exact e2
  | tup a =>
    obtain ⟨its, rv, p, hz⟩ := I.tuple h
    refine ⟨fun i v => its.toArray[i]? = some v, fun i h => h.IsTupleIter it a i ∧ h.IsTuple a its.toArray, by rw [rv.length]; exact Draws.tuple hh it a (ne a (.inr rfl)) its.toArray, fun i o => ⟨o, p⟩, fun i h st => st.1, fun i v x hp hx => ?_⟩
    obtain ⟨u, e1, e2⟩ := rv.get hx
    have : its[i]? = some v := by simpa using hp
    rw [this] at e1; cases e1; exact e2
  | txt z t =>
    have h : xs = chars z := h
    subst h
    refine ⟨fun i v => ∃ c u, z.cps[i]? = some c ∧ v = .str ⟨#[c]⟩ u, fun i h => h.IsStrIter it (strIterType z) z t i, by rw [show (chars z).length = z.cps.size by simp [chars]]; exact Draws.text hh it z t, fun i o => o, fun i h st => st, fun i v x ⟨c, u, h1, h2⟩ hx => ?_⟩
    subst h2
    unfold chars at hx
    rw [List.getElem?_map] at hx
    have : z.cps.toList[i]? = some c := by simpa using h1
    rw [this] at hx
    cases hx
    exact ⟨u, rfl⟩
/-- the two as they stand at each turn, the items in new pairs -/
def ItzA (K : PySem.W.Frag) (p q : Sd) : It :=
  ⟨fun i H => ∃ (xs ys : List V) (x y : V), p.At K H xs ∧ q.At K H ys ∧ xs[i]? = some x ∧ ys[i]? = some y,
    fun i H v H' => ∃ T x y, v = .ref T ∧ H T = none ∧ H' = upd H T (.tup [x, y]) ∧ (∀ xs, p.At K H xs → xs[i]? = some x) ∧ ∀ ys, q.At K H ys → ys[i]? = some y,
    fun i H => ∃ xs ys : List V, p.At K H xs ∧ q.At K H ys ∧ i = min xs.length ys.length⟩
theorem Sd.at_inj {X : Cx} {pins : List (Addr × Obj)} {σ : L2.St} {H : Hp} {s : Shared} (I : Inv X pins σ H s) {sd : Sd} {xs ys : List V} (h : sd.At X.K H xs) (h' : sd.At X.K H ys) : ys = xs := by
  cases sd with
  | lst a => exact I.list_inj h' h
  | tup a => exact I.tuple_inj h' h
  | txt z t => exact (show ys = chars z from h').trans (show xs = chars z from h).symm
theorem turn_zipA {P : Program} {w : World} {K : PySem.W.Frag} {elts : List Expr} {kk : Nat} {tpos : Pos} {p q : Sd} {z TI TO i1 i2 : Addr} (S : ZipSep2 z TI TO i1 i2 (p.fp i1) (q.fp i2)) (ne1 : ∀ a, p = .lst a ∨ p = .tup a → a ≠ i1) (ne2 : ∀ a, q = .lst a ∨ q = .tup a → a ≠ i2) :
    Turn P w K (.Tuple elts kk tpos) (ItzA K p q) [z, TI, TO, i1, i2] z (fun i h => IsZip h z TI TO .none ∧ IsTupOf2 h TI (.ref i1) (.ref i2) ∧ (∃ x y, IsTupOf2 h TO x y) ∧ p.on i1 i h ∧ q.on i2 i h) where
  mem := by simp
  obj := fun i h st c hc => by
    obtain ⟨hz, hTI, ⟨x, y, hTO⟩, h1, h2⟩ := st
    have e' : c = z ∨ c = TI ∨ c = TO ∨ c = i1 ∨ c = i2 := by simpa using hc
    rcases e' with e | e | e | e | e
    · rw [e]; exact ⟨_, hz, fun v q => nomatch q⟩
    · rw [e]; exact ⟨_, hTI, fun v q => nomatch q⟩
    · rw [e]; exact ⟨_, hTO, fun v q => nomatch q⟩
    · rw [e]; exact Sd.on_obj (sd := p) h1
    · rw [e]; exact Sd.on_obj (sd := q) h2
  keep := fun i h h' st k => by
    obtain ⟨hz, hTI, ⟨x, y, hTO⟩, h1, h2⟩ := st
    exact ⟨k z (by simp) _ hz, k TI (by simp) _ hTI, ⟨x, y, k TO (by simp) _ hTO⟩, Sd.on_at (sd := p) h1 fun o q => k i1 (by simp) o q, Sd.on_at (sd := q) h2 fun o q => k i2 (by simp) o q⟩
  item := by
    intro X hP hw hK hc i pins s σ H E I hf st hg
    subst hP hw hK
    obtain ⟨hz, hTI, ⟨x0, y0, hTO⟩, h1, h2⟩ := st
    obtain ⟨xs, ys, x, y, hqx, hqy, hx, hy⟩ := hg
    obtain ⟨P1, St1, D1, f1, g1, r1⟩ := Sd.draws hc I hqx i1 (fun a _ => Classical.em _) ne1
    obtain ⟨P2, St2, D2, f2, g2, r2⟩ := Sd.draws hc I hqy i2 (fun a _ => Classical.em _) ne2
    have hzl : z < s.heap.objs.size := Heap.lt_size hz
    refine wpAny_pyNext_zipD2_item S D1 D2 hz hTI hTO (f1 i h1) (f2 i h2) (List.getElem?_eq_some_iff.mp hx).1 (List.getElem?_eq_some_iff.mp hy).1 fun u u2 h' tk q1 q2 z' TO' st1' st2' hT hsz hk => ?_
    have ru := r1 i u x q1 hx
    have ru2 := r2 i u2 y q2 hy
    have h1' := g1 _ _ st1'
    have h2' := g2 _ _ st2'
    refine ⟨_, rfl, wpAny_letOwnedTupleGo_zip (s := { s with heap := h', toks := tk }) z' fun h'' z'' sb => ?_⟩
    have hT2 : h''.get? s.heap.objs.size = some { cls := .type "tuple", data := .seq #[u, u2] } := (sb.2 _ (Nat.ne_of_gt hzl)).trans hT
    have new : ObjOk X.prog X.w (upd H s.heap.objs.size (.tup [x, y])) h'' s.heap.objs.size (.tup [x, y]) :=
      ⟨by show 2 ≤ sizeLine; decide, [u, u2], .cons ru (.cons ru2 .nil), ⟨_, hT2, rfl, _, rfl⟩⟩
    have I1 : Inv X pins σ (upd H s.heap.objs.size (.tup [x, y])) { s with heap := h'', toks := tk } :=
      I.turnedNew (t' := tk) (ch := [z, TI, TO, i1, i2]) (fun c o hb q => (sb.2 c (fun q' => hb (by simp [q']))).trans (hk c o (fun q' => hb (by simp [q'])) (fun q' => hb (by simp [q'])) (fun q' => hb (by simp [q'])) (fun q' => hb (by simp [q'])) q)) hf (Nat.le_refl _) new
    have i1z : i1 ≠ z := fun e => S.zf1 (by rw [← e]; exact S.mem1)
    have i2z : i2 ≠ z := fun e => S.zf2 (by rw [← e]; exact S.mem2)
    refine ⟨.ref s.heap.objs.size, _, I1, rfl, ⟨_, x, y, rfl, I.hok.fresh (Nat.le_refl _), rfl, fun l hl => by rw [Sd.at_inj I hqx hl]; exact hx, fun l hl => by rw [Sd.at_inj I hqy hl]; exact hy⟩, ⟨z'', ?_, ⟨u, u2, ?_⟩, ?_, ?_⟩, fun c hcm => ?_⟩
    · exact (sb.2 _ S.TIz).trans (hk _ _ S.TIz S.TITO S.TIi1 S.TIi2 hTI)
    · exact (sb.2 _ S.TOz).trans TO'
    · exact Sd.on_at (sd := p) h1' fun o q => (sb.2 _ i1z).trans q
    · exact Sd.on_at (sd := q) h2' fun o q => (sb.2 _ i2z).trans q
    · have hlt : c < s.heap.objs.size := by
        have e' : c = z ∨ c = TI ∨ c = TO ∨ c = i1 ∨ c = i2 := by simpa using hcm
        rcases e' with e | e | e | e | e
        · rw [e]; exact hzl
        · rw [e]; exact Heap.lt_size hTI
        · rw [e]; exact Heap.lt_size hTO
        · rw [e]; obtain ⟨_, e1, _⟩ := Sd.on_obj (sd := p) h1; exact Heap.lt_size e1
        · rw [e]; obtain ⟨_, e2, _⟩ := Sd.on_obj (sd := q) h2; exact Heap.lt_size e2
      rw [upd_ne (Nat.ne_of_lt hlt)]
      exact (hf c hcm).1
  done := by
    intro X hP hw hK hc i pins s σ H E I hf st hg
    subst hP hw hK
    obtain ⟨hz, hTI, ⟨x0, y0, hTO⟩, h1, h2⟩ := st
    obtain ⟨xs, ys, hqx, hqy, hend⟩ := hg
    obtain ⟨P1, St1, D1, f1, g1, r1⟩ := Sd.draws hc I hqx i1 (fun a _ => Classical.em _) ne1
    obtain ⟨P2, St2, D2, f2, g2, r2⟩ := Sd.draws hc I hqy i2 (fun a _ => Classical.em _) ne2
    exact wpAny_pyNext_zipD2_end S D1 D2 hz hTI hTO (f1 i h1) (f2 i h2) (by omega) (by omega) (by omega) fun h' tk hk => ⟨rfl, I.turnedL (t' := tk) (ch := [z, TI, TO, i1, i2]) (fun c o hb q =>
      hk c o (fun q' => hb (by simp [q'])) (fun q' => hb (by simp [q'])) (fun q' => hb (by simp [q'])) (fun q' => hb (by simp [q'])) q) hf⟩
  self := fun A i s Q E st h => wpAny_pyIter_zip st.1 h
/-- what a value is to a zip -/
inductive SdOf : V → Value → Sd → Prop
  | lst (a : Addr) : SdOf (.ref a) (.ref a) (.lst a)
  | tup (a : Addr) : SdOf (.ref a) (.ref a) (.tup a)
  | txt (z : Str) (t : Tok) : SdOf (.str z) (.str z t) (.txt z t)
def sdO : Sd → Obj
  | .lst l => { cls := .type "list_iterator", data := .fields #[.ref l, .int 0 0] }
  | .tup l => { cls := .type "tuple_iterator", data := .fields #[.ref l, .int 0 0] }
  | .txt x t => { cls := .type (strIterType x), data := .fields #[.str x t, .int 0 0] }
theorem sdO_on {sd : Sd} {it : Addr} {h : Heap} (e : h.get? it = some (sdO sd)) : sd.on it 0 h := by
  cases sd with
  | lst a => exact ⟨_, e, rfl, rfl⟩
  | tup a => exact ⟨_, e, rfl, rfl⟩
  | txt x t => exact ⟨_, e, rfl, rfl⟩
theorem SdOf.begins {X : Cx} {pins : List (Addr × Obj)} {σ : L2.St} {H : Hp} {s : Shared} (I : Inv X pins σ H s) {x : V} {u : Value} {sd : Sd} {xs : List V} (h : SdOf x u sd) (a : sd.At X.K H xs) : ∃ Hq : Heap → Prop, Begins u (sdO sd) Hq ∧ Hq s.heap ∧ ∀ b ∈ sd.fp s.heap.objs.size, b = s.heap.objs.size ∨ b < s.heap.objs.size := by
  cases h with
  | lst a' =>
    obtain ⟨its, rv, p, hz⟩ := I.list a
    refine ⟨_, begins_list a' its.toArray, p.isList, fun b hb => ?_⟩
    have e : b = s.heap.objs.size ∨ b = a' := by simpa [Sd.fp] using hb
    rcases e with e | e
    · exact .inl e
    · exact .inr (by rw [e]; exact p.lt)
  | tup a' =>
    obtain ⟨its, rv, p, hz⟩ := I.tuple a
    obtain ⟨o1, ho1, _⟩ := id p
    refine ⟨_, begins_tuple a' its.toArray, p, fun b hb => ?_⟩
    have e : b = s.heap.objs.size ∨ b = a' := by simpa [Sd.fp] using hb
    rcases e with e | e
    · exact .inl e
    · exact .inr (by rw [e]; exact Heap.lt_size ho1)
  | txt z t => exact ⟨_, begins_text z t, trivial, fun b hb => .inl (by simpa [Sd.fp] using hb)⟩
def SdV (K : PySem.W.Frag) (H : Hp) (x : V) (f : Tok → Sd) (xs : List V) : Prop := (∃ a, x = .ref a ∧ (f = fun _ => .lst a) ∧ SqL K H a xs) ∨ (∃ a, x = .ref a ∧ (f = fun _ => .tup a) ∧ SqT K H a xs) ∨ ∃ z, x = .str z ∧ (f = fun t => .txt z t) ∧ xs = chars z
theorem SdV.of {K : PySem.W.Frag} {H : Hp} {x : V} {u : Value} {f : Tok → Sd} {xs : List V} (h : SdV K H x f xs) (r : RelV x u) : ∃ t, SdOf x u (f t) ∧ (f t).At K H xs := by
  rcases h with ⟨a, rfl, rfl, h⟩ | ⟨a, rfl, rfl, h⟩ | ⟨z, rfl, rfl, h⟩
  · cases r; exact ⟨0, .lst a, h⟩
  · cases r; exact ⟨0, .tup a, h⟩
  · obtain ⟨t, rfl⟩ := r; exact ⟨t, .txt z t, h⟩
theorem zsep (n : Nat) (fp1 fp2 : List Nat) (m1 : n ∈ fp1) (m2 : n + 1 ∈ fp2) (b1 : ∀ b ∈ fp1, b = n ∨ b < n) (b2 : ∀ b ∈ fp2, b = n + 1 ∨ b < n) : ZipSep2 (n + 4) (n + 2) (n + 3) n (n + 1) fp1 fp2 := by
  have k1 : ∀ m : Nat, n < m → m ∉ fp1 := fun m hm h => by have := b1 m h; omega
  have k2 : ∀ m : Nat, n < m → m ≠ n + 1 → m ∉ fp2 := fun m hm hn h => by have := b2 m h; omega
  refine ⟨Nat.ne_of_lt ?_, Nat.ne_of_lt ?_, Nat.ne_of_lt ?_, Nat.ne_of_gt ?_, m1, k1 _ ?_, k1 _ ?_, Nat.ne_of_gt ?_, m2, k2 _ ?_ (Nat.ne_of_gt ?_), k2 _ ?_ (Nat.ne_of_gt ?_), fun h => ?_, k1 _ ?_⟩
  all_goals first | omega | (have := b2 _ h; omega)
def iZipX (K : PySem.W.Frag) (ta : TA) : TI := fun σ H R => ta σ H fun vs H1 => ∃ x y f g xs ys, vs = [x, y] ∧ SdV K H1 x f xs ∧ SdV K H1 y g ys ∧ ∀ t t', R (ItzA K (f t) (g t')) H1
theorem pi_zipX {X : Cx} {e e2 : Expr} {ta : TA} {p pos tpos : Pos} {elts : List Expr} {kk : Nat} (hg : Gl X "zip") (hm : X.mg "zip" = none) (ha : PA X [e, e2] ta)
    (hs : starEach [e, e2] X.env = (false, eval e X.env) :: starEach [e2] X.env := by rfl) (hpl : (backTo pos (starEach [e2] X.env)).any (·.1) = false := by rfl) :
    PI X (.Tuple elts kk tpos) (.Call (.Name "zip" p) [e, e2] [] pos) (iZipX X.K ta) := by
  refine ⟨fun pins s σ H R I h => ?_⟩
  refine Call_ (ld_blt I hg hm PyProof.Rows.boot_zip (PyProof.Rows.callWith_type1 (thn (ha.run pos pins s σ H _ I h) fun us s1 ⟨vs, H1, I1, r1, q1⟩ => ?_) hs hpl))
  obtain ⟨x, y, f, g, xs, ys, ex, hx, hy, q⟩ := q1
  subst ex
  cases r1 with
  | cons r rr =>
    cases rr with
    | cons r' rr =>
      cases rr
      obtain ⟨t, o1, a1⟩ := hx.of r
      obtain ⟨t', o2, a2⟩ := hy.of r'
      obtain ⟨H1q, B1, b1, l1⟩ := o1.begins I1 a1
      obtain ⟨H2q, B2, b2, l2⟩ := o2.begins I1 a2
      have fresh5 : ∀ c, c ∈ [s1.heap.objs.size + 4, s1.heap.objs.size + 2, s1.heap.objs.size + 3, s1.heap.objs.size, s1.heap.objs.size + 1] → FpOk X pins H1 c := fun c hcm => by
        have e' : c = s1.heap.objs.size + 4 ∨ c = s1.heap.objs.size + 2 ∨ c = s1.heap.objs.size + 3 ∨ c = s1.heap.objs.size ∨ c = s1.heap.objs.size + 1 := by simpa using hcm
        have hle : s1.heap.objs.size ≤ c := by omega
        exact I1.fpOk hle (I1.hok.fresh hle)
      refine zip_begins2 B1 B2 b1 b2 fun h' hz hTI hTO h1 h2 hsz hk => wpAny_pyIter_zip hz ?_
      have I2 : Inv X pins σ H1 { s1 with heap := h' } := I1.kept (t' := s1.toks) hk
      have m1 : s1.heap.objs.size ∈ (f t).fp s1.heap.objs.size := by cases f t <;> simp [Sd.fp]
      have m2 : s1.heap.objs.size + 1 ∈ (g t').fp (s1.heap.objs.size + 1) := by cases g t' <;> simp [Sd.fp]
      have ll : ∀ (sd : Sd) (n : Addr), (∀ b ∈ sd.fp n, b = n ∨ b < n) → ∀ a, sd = .lst a ∨ sd = .tup a → a = n ∨ a < n := fun sd n hh a ha => by
        rcases ha with rfl | rfl
        · exact hh a (by simp [Sd.fp])
        · exact hh a (by simp [Sd.fp])
      have lt1 : ∀ a, f t = .lst a ∨ f t = .tup a → a < s1.heap.objs.size := fun a ha => by
        rcases ha with ha | ha
        · rw [ha] at a1; obtain ⟨its, rv, p, hz⟩ := I1.list a1; exact p.lt
        · rw [ha] at a1; obtain ⟨its, rv, p, hz⟩ := I1.tuple a1; obtain ⟨o1, ho1, _⟩ := id p; exact Heap.lt_size ho1
      have lt2 : ∀ a, g t' = .lst a ∨ g t' = .tup a → a < s1.heap.objs.size := fun a ha => by
        rcases ha with ha | ha
        · rw [ha] at a2; obtain ⟨its, rv, p, hz⟩ := I1.list a2; exact p.lt
        · rw [ha] at a2; obtain ⟨its, rv, p, hz⟩ := I1.tuple a2; obtain ⟨o1, ho1, _⟩ := id p; exact Heap.lt_size ho1
      have fpb : ∀ (sd : Sd) (n : Addr), (∀ a, sd = .lst a ∨ sd = .tup a → a < s1.heap.objs.size) → ∀ b ∈ sd.fp n, b = n ∨ b < s1.heap.objs.size := fun sd n hl b hb => by
        cases sd with
        | lst a =>
          have e : b = n ∨ b = a := by simpa [Sd.fp] using hb
          rcases e with e | e
          · exact .inl e
          · exact .inr (by rw [e]; exact hl a (.inl rfl))
        | tup a =>
          have e : b = n ∨ b = a := by simpa [Sd.fp] using hb
          rcases e with e | e
          · exact .inl e
          · exact .inr (by rw [e]; exact hl a (.inr rfl))
        | txt z t => exact .inl (by simpa [Sd.fp] using hb)
      have S := zsep s1.heap.objs.size _ _ m1 m2 (fpb _ _ lt1) (fpb _ _ lt2)
      exact ⟨s1.heap.objs.size + 4, [s1.heap.objs.size + 4, s1.heap.objs.size + 2, s1.heap.objs.size + 3, s1.heap.objs.size, s1.heap.objs.size + 1], _, _, H1, rfl, I2, turn_zipA S (fun a ha => Nat.ne_of_lt (lt1 a ha)) (fun a ha => Nat.ne_of_lt (Nat.lt_succ_of_lt (lt2 a ha))), ⟨hz, hTI, ⟨_, _, hTO⟩, sdO_on h1, sdO_on h2⟩, fresh5, q t t'⟩
end FT
end
section
set_option Elab.async false
set_option linter.all false
set_option maxRecDepth 100000
set_option maxHeartbeats 4000000
namespace FT
open PySem PySem.Spec PyProof.Rows L2
section
variable {X : Cx} {G : Gh} {Wx : WX} {w w' w1 w2 : List D} {H Hs H' Hs' H1 Hs1 H2 Hs2 : Hp} {sd : SD} {σ : L2.St}
theorem repL_chars {c : Cc} {s : List Nat} (o : SOk s) : RepL c H (s.map fun k => D.str [k]) (chars ⟨s.toArray⟩) := by
  have : ∀ t : List Nat, (∀ k ∈ t, k < 0x110000) → RepL c H (t.map fun k => D.str [k]) (t.map fun k => V.str ⟨#[k]⟩) := by
    intro t
    induction t with
    | nil => intro _; rfl
    | cons k t ih => exact fun h => ⟨_, _, rfl, ⟨rfl, by rw [sizeLine_eq]; show (1 : Nat) ≤ _; decide, fun c' hc => by rw [List.mem_singleton.mp hc]; exact h k List.mem_cons_self⟩, ih fun c' hc => h c' (List.mem_cons_of_mem _ hc)⟩
  exact this s o.2
theorem walk_zipA {c : Cc} {K : PySem.W.Frag} {p q : Sd} {ds es : List D} {P : Hp → Hp → Prop} (h : ∀ H Hs, P H Hs → Same Hs H → ∃ vs, p.At K H vs ∧ RepL c Hs ds vs) (h' : ∀ H Hs, P H Hs → Same Hs H → ∃ vs, q.At K H vs ∧ RepL c Hs es vs) : Walk c (ItzA K p q) (zipD ds es) P := by
  refine ⟨fun i d H Hs e p s => ?_, fun H Hs p s => ?_⟩
  · obtain ⟨vs, h1, h2⟩ := h H Hs p s
    obtain ⟨us, g1, g2⟩ := h' H Hs p s
    obtain ⟨d1, d2, e1, e2, rfl⟩ := zipD_get _ _ _ _ e
    obtain ⟨v, e3, r1⟩ := h2.get e1
    obtain ⟨u, e4, r2⟩ := g2.get e2
    refine ⟨⟨vs, us, v, u, h1, g1, e3, e4⟩, fun x H' ⟨T, x0, y0, y1, y2, y3, y4, y5⟩ => .inr ⟨T, _, _, y2, y3, y1, rfl, ?_⟩⟩
    have z1 := (y4 vs h1).symm.trans e3
    have z2 := (y5 us g1).symm.trans e4
    cases z1
    cases z2
    exact ⟨_, _, rfl, r1, _, _, rfl, r2, rfl⟩
  · obtain ⟨vs, h1, h2⟩ := h H Hs p s
    obtain ⟨us, g1, g2⟩ := h' H Hs p s
    refine ⟨vs, us, h1, g1, ?_⟩
    rw [h2.length, g2.length, zipD_len]
/-- one side of a zip, shared -/
theorem sideI {c : Cc} {d : D} {x : V} {ds : List D} (r : Rep c Hs1 d x) (e : items d = some ds) (s1 : Same Hs1 H1) : ∃ f xs, SdV c.K H1 x f xs ∧ ∀ t H2 Hs2, Same Hs1 Hs2 → Same Hs2 H2 → ∃ vs, (f t).At c.K H2 vs ∧ RepL c Hs2 ds vs := by
  cases d with
  | lst es =>
    cases e
    obtain ⟨a, vs, rfl, h1, h2⟩ := r
    exact ⟨_, vs, .inl ⟨a, rfl, rfl, .inl (.inl (s1 _ _ h1))⟩, fun t H2 Hs2 p s => ⟨vs, .inl (.inl (s _ _ (p _ _ h1))), h2.mono p⟩⟩
  | tup es =>
    cases e
    obtain ⟨a, vs, rfl, h1, h2⟩ := r
    exact ⟨_, vs, .inr (.inl ⟨a, rfl, rfl, sqT_mono s1 h1⟩), fun t H2 Hs2 p s => ⟨vs, sqT_mono (p.trans s) h1, h2.mono p⟩⟩
  | frz es =>
    cases e
    obtain ⟨a, vs, rfl, h1, h2⟩ := r
    exact ⟨_, vs, .inl ⟨a, rfl, rfl, s1.seq h1⟩, fun t H2 Hs2 p s => ⟨vs, (p.trans s).seq h1, h2.mono p⟩⟩
  | str z =>
    cases e
    obtain ⟨rfl, o⟩ := r
    exact ⟨_, _, .inr (.inr ⟨_, rfl, rfl, rfl⟩), fun t H2 Hs2 p s => ⟨_, rfl, repL_chars o⟩⟩
  | _ => cases e
theorem sideB {d : D} {x : V} {ds : List D} (r : RepB G.c H1 Hs1 d x) (e : items d = some ds) (s1 : Same Hs1 H1) : ∃ f xs, SdV G.c.K H1 x f xs ∧ ∀ t H2 Hs2, PB G H1 Hs1 H2 Hs2 → Same Hs2 H2 → ∃ vs, (f t).At G.c.K H2 vs ∧ RepL G.c Hs2 ds vs := by
  cases d with
  | lst es =>
    cases e
    obtain ⟨a, vs, rfl, h1, h2, h3⟩ := r
    exact ⟨_, vs, .inl ⟨a, rfl, rfl, .inl (.inl h1)⟩, fun t H2 Hs2 ⟨w2, p⟩ s => ⟨vs, .inl (.inl (p.keep _ _ h3 lst_noT h1)), h2.mono p.sub0⟩⟩
  | tup es =>
    obtain ⟨f, xs, h1, h2⟩ := sideI (c := G.c) (d := .tup es) r e s1
    exact ⟨f, xs, h1, fun t H2 Hs2 ⟨w2, p⟩ s => h2 t H2 Hs2 p.sub0 s⟩
  | frz es =>
    obtain ⟨f, xs, h1, h2⟩ := sideI (c := G.c) (d := .frz es) r e s1
    exact ⟨f, xs, h1, fun t H2 Hs2 ⟨w2, p⟩ s => h2 t H2 Hs2 p.sub0 s⟩
  | str z =>
    obtain ⟨f, xs, h1, h2⟩ := sideI (c := G.c) (d := .str z) r e s1
    exact ⟨f, xs, h1, fun t H2 Hs2 ⟨w2, p⟩ s => h2 t H2 Hs2 p.sub0 s⟩
  | _ => cases e
def fZipX (ds : List D) : Option (List D) := match ds with
  | [a, b] => (match items a, items b with
    | some xs, some ys => some (zipD xs ys)
    | _, _ => none)
  | _ => none
def mZipX (m : ME (List D)) : ME (List D) := fun sd w => (m sd w).bind fun ds w1 => match fZipX ds with
  | some xs => .ok xs w1
  | none => .bad
variable {tg e : Expr} {te : TE} {p p2 pos tpos : Pos} {elts : List Expr} {kk : Nat}
theorem jib_zipX {e2 : Expr} {t : TA} {m : ME (List D)} (hm : X.mg "zip" = none) (ha : JAB X G Wx [e, e2] t m) (hg : Gl X "zip" := by rfl)
    (hs : starEach [e, e2] X.env = (false, eval e X.env) :: starEach [e2] X.env := by rfl) (hpl : (backTo pos (starEach [e2] X.env)).any (·.1) = false := by rfl) (hK : X.K = G.c.K := by rfl) :
    JIB X G Wx (.Tuple elts kk tpos) (.Call (.Name "zip" p) [e, e2] [] pos) (iZipX G.c.K t) (mZipX m) := by
  refine ⟨by rw [← hK]; exact pi_zipX hg hm ha.pe hs hpl, fun sd w σ H Hs Q rs post => ?_⟩
  refine ha.si sd w σ H Hs _ rs ?_
  unfold mZipX at post
  cases e : m sd w with
  | ok ds w' =>
    rw [e] at post
    intro v H' Hs' b q
    have rs' := rs.step b
    have post' : PostI G Wx σ H Hs (PB G) Q (match fZipX ds with
      | some xs => .ok xs w'
      | none => .bad) := post
    cases ef : fZipX ds with
    | none => rw [ef] at post'; exact post'.elim
    | some xs =>
    rw [ef] at post'
    unfold fZipX at ef
    split at ef
    · rename_i da db
      split at ef
      · rename_i ys zs e1 e2
        cases ef
        obtain ⟨v1, v2, rfl, q1, q2⟩ := repBL2 q
        obtain ⟨f1, xs1, a1, a2⟩ := sideB q1 e1 rs'.b.sub
        obtain ⟨f2, xs2, b1, b2⟩ := sideB q2 e2 rs'.b.sub
        exact ⟨v1, v2, f1, f2, xs1, xs2, rfl, a1, b1, fun t t' => post' _ H' Hs' b (walk_zipA (a2 t) (b2 t'))⟩
      · cases ef
    · cases ef
  | exc c ns ds w' => rw [e] at post; exact post
  | bad => rw [e] at post; exact post
theorem ji_zipX {e2 : Expr} {t : TA} {m : ME (List D)} (hm : X.mg "zip" = none) (ha : JA X G Wx [e, e2] t m) (hg : Gl X "zip" := by rfl)
    (hs : starEach [e, e2] X.env = (false, eval e X.env) :: starEach [e2] X.env := by rfl) (hpl : (backTo pos (starEach [e2] X.env)).any (·.1) = false := by rfl) (hK : X.K = G.c.K := by rfl) :
    JI X G Wx (.Tuple elts kk tpos) (.Call (.Name "zip" p) [e, e2] [] pos) (iZipX G.c.K t) (mZipX m) := by
  refine ⟨by rw [← hK]; exact pi_zipX hg hm ha.pe hs hpl, fun sd w σ H Hs Q rs post => ?_⟩
  refine ha.si sd w σ H Hs _ rs ?_
  unfold mZipX at post
  cases e : m sd w with
  | ok ds w' =>
    rw [e] at post
    intro v H' Hs' b q
    have rs' := rs.step b
    have post' : PostI G Wx σ H Hs PM Q (match fZipX ds with
      | some xs => .ok xs w'
      | none => .bad) := post
    cases ef : fZipX ds with
    | none => rw [ef] at post'; exact post'.elim
    | some xs =>
    rw [ef] at post'
    unfold fZipX at ef
    split at ef
    · rename_i da db
      split at ef
      · rename_i ys zs e1 e2
        cases ef
        obtain ⟨v1, r1, rfl, q1, v2, r2, rfl, q2, g4⟩ := q
        rw [show r2 = [] from g4]
        obtain ⟨f1, xs1, a1, a2⟩ := sideI q1 e1 rs'.b.sub
        obtain ⟨f2, xs2, b1, b2⟩ := sideI q2 e2 rs'.b.sub
        exact ⟨v1, v2, f1, f2, xs1, xs2, rfl, a1, b1, fun t t' => post' _ H' Hs' b (walk_zipA (fun H2 Hs2 p s => a2 t H2 Hs2 p s) (fun H2 Hs2 p s => b2 t' H2 Hs2 p s))⟩
      · cases ef
    · cases ef
  | exc c ns ds w' => rw [e] at post; exact post
  | bad => rw [e] at post; exact post
/-! ### the module's own constants -/
theorem je_globI {x : Str} {i : Int} (hm : ∃ t, X.mg x = some (.int i t)) (hg : Gl X x := by rfl) (hd : (x == ("__debug__" : Str)) = false := by decide) : JE X G Wx (.Name x pos) (tC (.int i)) (mC (.int i)) :=
  let ⟨t, hm⟩ := hm
  je_glob hg hm ⟨t, rfl⟩ (fun _ => rfl) hd
theorem je_globS {x : Str} (s : List Nat) (hm : ∃ t, X.mg x = some (.str ⟨s.toArray⟩ t)) (hs : (decide (s.length ≤ 1000) && s.all (fun c => decide (c < 0x110000))) = true := by decide) (hg : Gl X x := by rfl) (hd : (x == ("__debug__" : Str)) = false := by decide) : JE X G Wx (.Name x pos) (tC (.str ⟨s.toArray⟩)) (mC (.str s)) :=
  let ⟨t, hm⟩ := hm
  je_glob hg hm ⟨t, rfl⟩ (fun _ => ⟨rfl, Nat.le_of_lt (small1000 (of_decide_eq_true (Bool.and_eq_true_iff.mp hs).1)), fun c hc => of_decide_eq_true (List.all_eq_true.mp (Bool.and_eq_true_iff.mp hs).2 c hc)⟩) hd
/-! ### list(x) of a text as well -/
theorem vals_signs {z : Str} {acc : Array Value} (h : ItemsOf (SignAt z) acc z.cps.size) : Vals (chars z) acc.toList := by
  have : ∀ (cs : List Nat) (vs : List Value), vs.length = cs.length → (∀ (j : Nat) (v : Value), vs[j]? = some v → ∃ (c : Nat) (u : Tok), cs[j]? = some c ∧ v = Value.str ⟨#[c]⟩ u) → Vals (cs.map fun c => V.str ⟨#[c]⟩) vs := by
    intro cs
    induction cs with
    | nil => intro vs hl _; cases vs with
      | nil => exact .nil
      | cons => cases hl
    | cons c cs ih =>
      intro vs hl hv
      cases vs with
      | nil => cases hl
      | cons v vs =>
        obtain ⟨c', u, h1, h2⟩ := hv 0 v rfl
        cases h1
        exact .cons ⟨u, h2⟩ (ih vs (by simpa using hl) fun j v' e => hv (j + 1) v' e)
  refine this z.cps.toList acc.toList (by simpa using h.1) fun j v e => ?_
  obtain ⟨c, u, h1, h2⟩ := h.2 j v (by simpa using e)
  exact ⟨c, u, by simpa using h1, h2⟩
def rListX (K : PySem.W.Frag) : List V → Hp → VK → Prop := fun xs H Q => rListOf K xs H Q ∨ ∃ z : Str, xs = [.str z] ∧ z.cps.size ≤ sizeLine ∧ ∀ l, H l = none → Q (.ref l) (upd H l (.lst (chars z)))
theorem call_list_txt (hc : X.calm = true) : CallR X (.type "list") (fun xs H Q => ∃ z : Str, xs = [.str z] ∧ z.cps.size ≤ sizeLine ∧ ∀ l, H l = none → Q (.ref l) (upd H l (.lst (chars z)))) := by
  intro pins s σ H xs us Q I r h
  obtain ⟨z, rfl, hz, q⟩ := h
  obtain ⟨u, rfl, rx⟩ := vals1 r
  obtain ⟨t, rfl⟩ := rx
  refine call_list_str (I.ok.hd hc) z t (fun h' tk acc' c' kp e it => ?_) hz
  exact ⟨.ref s.heap.objs.size, _, I.laid (t' := tk) kp (Nat.le_refl _) (show ObjOk X.prog X.w _ h' _ (.lst (chars z)) from ⟨by rw [show (chars z).length = z.cps.size by simp [chars]]; exact hz, acc'.toList, c', vals_signs it, e⟩), rfl, q _ (I.hok.fresh (Nat.le_refl _))⟩
def mListX (m : ME D) : ME (List D) := fun sd w => (m sd w).bind fun d w1 => match items d with
  | some ds => .ok ds w1
  | none => .bad
theorem jf_listX {m : ME D} (hm : X.mg "list" = none) (ha : JB X G Wx e te m) (hc : X.calm = true := by rfl) (hg : Gl X "list" := by rfl) (hK : X.K = G.c.K := by rfl) (he : starEach [e] X.env = (false, eval e X.env) :: starEach [] X.env := by rfl) : JF X G Wx (.Call (.Name "list" p) [e] [] pos) (tCB (rListX G.c.K) (tCons te tNil)) (mListX m) := by
  refine ⟨pe_callTy (by rw [← hK]; exact CallR.or call_list_of (call_list_txt hc)) hg hm (by decide +kernel) (pa_cons ha.pe pa_nil he) (by decide) (by decide) he rfl, fun sd w σ H Hs Q rs post => ?_⟩
  refine ha.si.bindF rs post fun d w1 v H1 Hs1 rs1 b1 q1 post1 => ?_
  cases d with
  | lst ds =>
    obtain ⟨a, vs, rfl, hp, rl, _⟩ := q1
    exact .inl ⟨a, vs, rfl, .inl (.inl (.inl hp)), fun l hl => newF rs1.b hl rl post1⟩
  | tup ds =>
    obtain ⟨a, vs, rfl, hp, rl⟩ := q1
    exact .inl ⟨a, vs, rfl, .inr (sqT_mono rs1.b.sub hp), fun l hl => newF rs1.b hl rl post1⟩
  | frz ds =>
    obtain ⟨a, vs, rfl, hp, rl⟩ := q1
    exact .inl ⟨a, vs, rfl, .inl (rs1.b.sub.seq hp), fun l hl => newF rs1.b hl rl post1⟩
  | str z =>
    obtain ⟨rfl, o⟩ := q1
    exact .inr ⟨_, rfl, by show z.toArray.size ≤ _; rw [List.size_toArray]; exact o.1, fun l hl => newF rs1.b hl (repL_chars o) post1⟩
  | _ => exact post1.elim
end
end FT
end
section
set_option Elab.async false
set_option linter.all false
set_option maxRecDepth 100000
set_option maxHeartbeats 4000000
namespace FT
open PySem PySem.Spec PyProof.Rows L2 LamX
section
variable {X : Cx} {G : Gh} {Wx : WX} {w w' w1 w2 : List D} {H Hs H' Hs' H1 Hs1 H2 Hs2 : Hp} {sd : SD} {σ : L2.St}
variable {elt tg it : Expr} {ifs : List Expr} {scope : Scope} {own : List (Str × Nat)} {pos spos py : Pos} {ti : TI} {mi : ME (List D)} {tgt : TG} {g : D → SD → Option SD} {js : List Nat} {tt : TT} {mt : ME Bool} {te : TE} {me : ME D} {i : Nat} {y : Str}
/-! ### name = [..] on one line -/
theorem js_setLcO (hN : X.N.Nodup) (hi : JIB X G Wx tg it ti mi) (ok : BlkOk X.N X.env.scope scope own)
    (hg : ∀ (s : Shared) (H : Hp) (C : Addr) (cl : List (Str × Addr)) (fp : List Addr), JG (X.blk s H scope (compEnvC scope cl C X.env) fp) G tg tgt g js)
    (ht : ∀ (s : Shared) (H : Hp) (C : Addr) (cl : List (Str × Addr)) (fp : List Addr), JTs (X.blk s H scope (compEnvC scope cl C X.env) fp) G F0 ifs tt mt)
    (he : ∀ (s : Shared) (H : Hp) (C : Addr) (cl : List (Str × Addr)) (fp : List Addr), JE (X.blk s H scope (compEnvC scope cl C X.env) fp) G F0 elt te me)
    (hy : X.N[i]? = some y := by rfl) (hyl : X.env.scope.names.lookup y = some .local := by rfl) (hsw : swapsWith (.ListComp elt [⟨tg, it, ifs, 0⟩] scope pos) (some (.Name y py)) spos.line X.env = pure true := by exact sw_true rfl rfl rfl rfl)
    (hjs : (∀ j ∈ js, j ∈ own.map (·.2)) := by decide) (hc : X.calm = true := by rfl) (hs : ∀ x, foldedSetIterable it X.env x = pure x := by intro _; rfl) :
    JS X G Wx (.Assign [.Name y py] (.ListComp elt [⟨tg, it, ifs, 0⟩] scope pos) spos) (tAsg (tLc ti tgt tt te (own.map (·.2))) (gName i)) (mSetO i (mComp mi g mt me (own.map (·.2)))) :=
  ⟨ps_setLc hc hN hy hyl hsw hi.pe ok (fun s H C cl fp => (hg s H C cl fp).pe) (fun s H C cl fp => (ht s H C cl fp).pe) (fun s H C cl fp => (he s H C cl fp).pe) hs,
    fun sd w σ H Hs De rs post => (jf_comp (pos := pos) hN hi ok hg ht he hjs hc hs).si sd w σ H Hs _ rs (PostF.toS rs post)⟩
theorem js_setLc (hN : X.N.Nodup) (hi : JIB X G Wx tg it ti mi) (ok : BlkOk X.N X.env.scope scope own)
    (hg : ∀ (s : Shared) (H : Hp) (C : Addr) (cl : List (Str × Addr)) (fp : List Addr), JG (X.blk s H scope (compEnvC scope cl C X.env) fp) G tg tgt g js)
    (ht : ∀ (s : Shared) (H : Hp) (C : Addr) (cl : List (Str × Addr)) (fp : List Addr), JTs (X.blk s H scope (compEnvC scope cl C X.env) fp) G F0 ifs tt mt)
    (he : ∀ (s : Shared) (H : Hp) (C : Addr) (cl : List (Str × Addr)) (fp : List Addr), JE (X.blk s H scope (compEnvC scope cl C X.env) fp) G F0 elt te me)
    (hy : X.N[i]? = some y := by rfl) (hyl : X.env.scope.names.lookup y = some .local := by rfl) (hsw : swapsWith (.ListComp elt [⟨tg, it, ifs, 0⟩] scope pos) (some (.Name y py)) spos.line X.env = pure true := by exact sw_true rfl rfl rfl rfl)
    (hjs : (∀ j ∈ js, j ∈ own.map (·.2)) := by decide) (hc : X.calm = true := by rfl) (hs : ∀ x, foldedSetIterable it X.env x = pure x := by intro _; rfl) :
    JS X G Wx (.Assign [.Name y py] (.ListComp elt [⟨tg, it, ifs, 0⟩] scope pos) spos) (tAsg (tLc ti tgt tt te (own.map (·.2))) (gName i)) (mAsg (gN i) (mF (mComp mi g mt me (own.map (·.2))))) :=
  ⟨ps_setLc hc hN hy hyl hsw hi.pe ok (fun s H C cl fp => (hg s H C cl fp).pe) (fun s H C cl fp => (ht s H C cl fp).pe) (fun s H C cl fp => (he s H C cl fp).pe) hs,
    sim_asg (je_f (jf_comp (pos := pos) hN hi ok hg ht he hjs hc hs)).si (jg_name (X := X) (pos := py) hN hy (.inl hyl) (.inr hyl)).si⟩
variable {tg1 it1 : Expr} {ifs1 : List Expr} {ti1 : TI} {mi1 : ME (List D)} {tgt1 : TG} {g1 : D → SD → Option SD} {js1 vs1 : List Nat} {tt1 : TT} {mt1 : ME Bool}
theorem js_setLc2O (hN : X.N.Nodup) (hi : JIB X G Wx tg it ti mi) (ok : BlkOk X.N X.env.scope scope own) (hv : (∀ i ∈ vs1, i ∈ own.map (·.2)))
    (hg : ∀ (s : Shared) (H : Hp) (C : Addr) (cl : List (Str × Addr)) (fp : List Addr), JG (X.blk s H scope (compEnvC scope cl C X.env) fp) G tg tgt g js)
    (ht : ∀ (s : Shared) (H : Hp) (C : Addr) (cl : List (Str × Addr)) (fp : List Addr), JTs (X.blk s H scope (compEnvC scope cl C X.env) fp) G F0 ifs tt mt)
    (hi1 : ∀ (s : Shared) (H : Hp) (C : Addr) (cl : List (Str × Addr)) (fp : List Addr), JI (X.blk s H scope (compEnvC scope cl C X.env) fp) G F0 tg1 it1 ti1 mi1)
    (hg1 : ∀ (s : Shared) (H : Hp) (C : Addr) (cl : List (Str × Addr)) (fp : List Addr), JG (X.blk s H scope (compEnvC scope cl C X.env) fp) G tg1 tgt1 g1 js1)
    (ht1 : ∀ (s : Shared) (H : Hp) (C : Addr) (cl : List (Str × Addr)) (fp : List Addr), JTs (X.blk s H scope (compEnvC scope cl C X.env) fp) G F0 ifs1 tt1 mt1)
    (he : ∀ (s : Shared) (H : Hp) (C : Addr) (cl : List (Str × Addr)) (fp : List Addr), JE (X.blk s H scope (compEnvC scope cl C X.env) fp) G F0 elt te me)
    (hy : X.N[i]? = some y := by rfl) (hyl : X.env.scope.names.lookup y = some .local := by rfl) (hsw : swapsWith (.ListComp elt [⟨tg, it, ifs, 0⟩, ⟨tg1, it1, ifs1, 0⟩] scope pos) (some (.Name y py)) spos.line X.env = pure true := by exact sw_true rfl rfl rfl rfl)
    (hjs : (∀ j ∈ js, j ∈ own.map (·.2)) := by decide) (hjs1 : (∀ j ∈ js1, j ∈ vs1) := by decide) (hc : X.calm = true := by rfl) (hs : ∀ x, foldedSetIterable it X.env x = pure x := by intro _; rfl) (hs1 : ∀ env x, foldedSetIterable it1 env x = pure x := by intro _ _; rfl) :
    JS X G Wx (.Assign [.Name y py] (.ListComp elt [⟨tg, it, ifs, 0⟩, ⟨tg1, it1, ifs1, 0⟩] scope pos) spos) (tAsg (tLc2 ti tgt tt ti1 tgt1 tt1 te (own.map (·.2)) vs1) (gName i)) (mSetO i (mComp2 mi g mt mi1 g1 mt1 me (own.map (·.2)) vs1)) :=
  ⟨ps_setLc2 hc hN hy hyl hsw hi.pe ok hv (fun s H C cl fp => (hg s H C cl fp).pe) (fun s H C cl fp => (ht s H C cl fp).pe) (fun s H C cl fp => (hi1 s H C cl fp).pe) (fun s H C cl fp => (hg1 s H C cl fp).pe) (fun s H C cl fp => (ht1 s H C cl fp).pe) (fun s H C cl fp => (he s H C cl fp).pe) hs hs1,
    fun sd w σ H Hs De rs post => (jf_comp2 (pos := pos) hN hi ok hv hg ht hi1 hg1 ht1 he hjs hjs1 hc hs hs1).si sd w σ H Hs _ rs (PostF.toS rs post)⟩
theorem js_setLc2 (hN : X.N.Nodup) (hi : JIB X G Wx tg it ti mi) (ok : BlkOk X.N X.env.scope scope own) (hv : (∀ i ∈ vs1, i ∈ own.map (·.2)))
    (hg : ∀ (s : Shared) (H : Hp) (C : Addr) (cl : List (Str × Addr)) (fp : List Addr), JG (X.blk s H scope (compEnvC scope cl C X.env) fp) G tg tgt g js)
    (ht : ∀ (s : Shared) (H : Hp) (C : Addr) (cl : List (Str × Addr)) (fp : List Addr), JTs (X.blk s H scope (compEnvC scope cl C X.env) fp) G F0 ifs tt mt)
    (hi1 : ∀ (s : Shared) (H : Hp) (C : Addr) (cl : List (Str × Addr)) (fp : List Addr), JI (X.blk s H scope (compEnvC scope cl C X.env) fp) G F0 tg1 it1 ti1 mi1)
    (hg1 : ∀ (s : Shared) (H : Hp) (C : Addr) (cl : List (Str × Addr)) (fp : List Addr), JG (X.blk s H scope (compEnvC scope cl C X.env) fp) G tg1 tgt1 g1 js1)
    (ht1 : ∀ (s : Shared) (H : Hp) (C : Addr) (cl : List (Str × Addr)) (fp : List Addr), JTs (X.blk s H scope (compEnvC scope cl C X.env) fp) G F0 ifs1 tt1 mt1)
    (he : ∀ (s : Shared) (H : Hp) (C : Addr) (cl : List (Str × Addr)) (fp : List Addr), JE (X.blk s H scope (compEnvC scope cl C X.env) fp) G F0 elt te me)
    (hy : X.N[i]? = some y := by rfl) (hyl : X.env.scope.names.lookup y = some .local := by rfl) (hsw : swapsWith (.ListComp elt [⟨tg, it, ifs, 0⟩, ⟨tg1, it1, ifs1, 0⟩] scope pos) (some (.Name y py)) spos.line X.env = pure true := by exact sw_true rfl rfl rfl rfl)
    (hjs : (∀ j ∈ js, j ∈ own.map (·.2)) := by decide) (hjs1 : (∀ j ∈ js1, j ∈ vs1) := by decide) (hc : X.calm = true := by rfl) (hs : ∀ x, foldedSetIterable it X.env x = pure x := by intro _; rfl) (hs1 : ∀ env x, foldedSetIterable it1 env x = pure x := by intro _ _; rfl) :
    JS X G Wx (.Assign [.Name y py] (.ListComp elt [⟨tg, it, ifs, 0⟩, ⟨tg1, it1, ifs1, 0⟩] scope pos) spos) (tAsg (tLc2 ti tgt tt ti1 tgt1 tt1 te (own.map (·.2)) vs1) (gName i)) (mAsg (gN i) (mF (mComp2 mi g mt mi1 g1 mt1 me (own.map (·.2)) vs1))) :=
  ⟨ps_setLc2 hc hN hy hyl hsw hi.pe ok hv (fun s H C cl fp => (hg s H C cl fp).pe) (fun s H C cl fp => (ht s H C cl fp).pe) (fun s H C cl fp => (hi1 s H C cl fp).pe) (fun s H C cl fp => (hg1 s H C cl fp).pe) (fun s H C cl fp => (ht1 s H C cl fp).pe) (fun s H C cl fp => (he s H C cl fp).pe) hs hs1,
    sim_asg (je_f (jf_comp2 (pos := pos) hN hi ok hv hg ht hi1 hg1 ht1 he hjs hjs1 hc hs hs1)).si (jg_name (X := X) (pos := py) hN hy (.inl hyl) (.inr hyl)).si⟩
/-! ### a, b = [..], e -/
theorem RS.setOwn {i : Nat} {ds : List D} {vs : List V} {a : Addr} (rs : RS G sd w σ H Hs) (h1 : H a = some (.lst vs)) (h2 : RepL G.c Hs ds vs) (h3 : Hs a = none) (h4 : ∀ o', G.H0 a = some o' → ¬ NoT o') (h5 : G.c.ap ≠ some a)
    (hne : ∀ (j : Nat) (es : List D), sd[j]? = some (SV.own es) → σ[j]? ≠ some (some (.ref a))) : RS G (sd.set i (.own ds)) w (σ.set i (some (.ref a))) H Hs := by
  have s' := rs.s
  refine ⟨rs.b, by rw [List.length_set, List.length_set, s'.len], fun j e h => ?_, fun j es h => ?_, fun j l es fs c q1 q2 q3 q4 => ?_, fun j p h => ?_, fun j l es fs c q1 q2 q3 q4 => ?_⟩
  · rcases get_set h with ⟨rfl, h7, h8⟩ | ⟨hn, h7⟩
    · cases h7
    · rw [List.getElem?_set_ne hn]; exact s'.val j e h7
  · rcases get_set h with ⟨rfl, h7, h8⟩ | ⟨hn, h7⟩
    · cases h7
      exact ⟨a, vs, List.getElem?_set_self (by rw [s'.len]; exact h8), h1, h2, h3, h4, h5⟩
    · rw [List.getElem?_set_ne hn]; exact s'.own j es h7
  · rcases get_set q1 with ⟨rfl, h7, g1⟩ | ⟨n1, h7⟩
    · rcases get_set q2 with ⟨rfl, h8, _⟩ | ⟨n2, h8⟩
      · rfl
      · rw [List.getElem?_set_self (by rw [s'.len]; exact g1)] at q3
        rw [List.getElem?_set_ne n2] at q4
        cases q3
        exact absurd q4 (hne l fs h8)
    · rcases get_set q2 with ⟨rfl, h8, g2⟩ | ⟨n2, h8⟩
      · rw [List.getElem?_set_self (by rw [s'.len]; exact g2)] at q4
        rw [List.getElem?_set_ne n1] at q3
        cases q4
        exact absurd q3 (hne j es h7)
      · rw [List.getElem?_set_ne n1] at q3
        rw [List.getElem?_set_ne n2] at q4
        exact s'.sep j l es fs c h7 h8 q3 q4
  · rcases get_set h with ⟨rfl, h7, h8⟩ | ⟨hn, h7⟩
    · cases h7
    · rw [List.getElem?_set_ne hn]; exact s'.prv j p h7
  · rcases get_set q1 with ⟨rfl, h7, _⟩ | ⟨n1, h7⟩
    · cases h7
    · rcases get_set q2 with ⟨rfl, h8, _⟩ | ⟨n2, h8⟩
      · cases h8
      · rw [List.getElem?_set_ne n1] at q3
        rw [List.getElem?_set_ne n2] at q4
        exact s'.sepP j l es fs c h7 h8 q3 q4
def mParFE (i j : Nat) (ma : ME (List D)) (mb : ME D) : MS := fun sd w => eb (ma sd w) sd fun ds w1 => eb (mb sd w1) sd fun d w2 => .nx ((sd.set i (.own ds)).set j (.val d)) w2
theorem js_parFE {i j : Nat} {x y : Str} {a b : Expr} {ta tb : TE} {ma : ME (List D)} {mb : ME D} {px py pt pos : Pos} {kt k2 pt2} (hN : X.N.Nodup) (ha : JF X G Wx a ta ma) (hb : JE X G Wx b tb mb) (hi : X.N[i]? = some x := by rfl) (hj : X.N[j]? = some y := by rfl) (hij : i ≠ j := by decide)
    (hx : X.env.scope.names.lookup x = some .local := by rfl) (hy : X.env.scope.names.lookup y = some .local := by rfl)
    (hw : swappedStores [.Tuple [.Name x px, .Name y py] kt pt] (.Tuple [a, b] k2 pt2) X.env = pure (some [x, y]) := by rfl) (hc : X.calm = true := by rfl)
    (hs : swapsWithSole [.Tuple [.Name x px, .Name y py] kt pt] (.Tuple [a, b] k2 pt2) pos.line X.env = pure false := by rfl)
    (e1 : starEach [a, b] X.env = (false, eval a X.env) :: starEach [b] X.env := by rfl) (e2 : starEach [b] X.env = (false, eval b X.env) :: starEach [] X.env := by rfl) :
    JS X G Wx (.Assign [.Tuple [.Name x px, .Name y py] kt pt] (.Tuple [a, b] k2 pt2) pos) (tPar i j (tCons ta (tCons tb tNil))) (mParFE i j ma mb) := by
  refine ⟨ps_par hc hN hi hj hij hx hy (pa_cons ha.pe (pa_cons hb.pe pa_nil e2) e1) hw hs, fun sd w σ H Hs De rs post => ?_⟩
  refine ha.si sd w σ H Hs _ rs ?_
  unfold mParFE at post
  cases e : ma sd w with
  | exc c ns ds w' =>
    rw [e] at post
    exact fun dd H' Hs' b q => post dd σ H' Hs' (rs.step b) q
  | bad => rw [e] at post; exact post
  | ok ds w1 =>
    rw [e] at post
    have post1 : PostS G Wx Hs De (eb (mb sd w1) sd fun d w2 => .nx ((sd.set i (.own ds)).set j (.val d)) w2) := post
    intro a vs H1 Hs1 b1 h1 h2 h3 h4 h5
    have rs1 := rs.step b1
    have hne : ∀ (j : Nat) (es : List D), sd[j]? = some (SV.own es) → σ[j]? ≠ some (some (.ref a)) := fun j es hj hσ => by
      obtain ⟨c, us, e1, e2, _⟩ := rs.s.own j es hj
      rw [hσ] at e1
      cases e1
      exact h4 _ e2 lst_noT
    refine hb.si.bindS rs1 (post1.shift b1.sub0) fun d w2 v H2 Hs2 rs2 b2 q2 post2 => ?_
    refine ⟨.ref a, v, rfl, ?_⟩
    have hH2 := b2.keep a _ h5 lst_noT h1
    have hs2 := none_stay b2 h1 lst_noT h3
    have rs3 := rs2.setOwn (i := i) hH2 (h2.mono b2.sub0) hs2 (fun o' e hn => h4 o' (rs.b.keep a o' h5 hn e) hn) h5 hne
    exact post2 _ H2 Hs2 (rs3.setVal q2) (Same.refl _)
def mParEF (i j : Nat) (ma : ME D) (mb : ME (List D)) : MS := fun sd w => eb (ma sd w) sd fun d w1 => eb (mb sd w1) sd fun ds w2 => .nx ((sd.set j (.own ds)).set i (.val d)) w2
end
end FT
end
section
set_option Elab.async false
set_option linter.all false
set_option maxRecDepth 100000
set_option maxHeartbeats 4000000
namespace FT
open PySem PySem.Spec PyProof.Rows L2 LamX PySem.HandSPX
/-! ### a def that makes lambdas: its code object is known -/
structure FunC (K : PySem.W.Frag) (x qual : Str) (st : Stmt) (f : Addr) (fd : FuncData) (c : Addr) : Prop where
  ex : ∃ (oc : Value) (od : Option Addr) (kV doc pm : Value) (an : Option Addr) (ct : Value) (osl : Array (Option Value)),
    fd = PySem.W.fnOf x qual (defArgs st) (defBody st) (defScope st) .none kV doc pm an (.ref c) ct ∧ K.lookup f = some ⟨oc, od, .func fd, osl⟩ ∧ PySem.W.codeIn K (.ref c) qual = true
  kp : PySem.W.keepIn K (.ref f) = true
theorem FunC.f {K : PySem.W.Frag} {x qual : Str} {st : Stmt} {f c : Addr} {fd : FuncData} (F : FunC K x qual st f fd c) : Fun K x qual st f fd := by
  obtain ⟨oc, od, kV, doc, pm, an, ct, osl, rfl, lk, hcd⟩ := F.ex
  exact ⟨⟨oc, od, kV, doc, pm, an, _, ct, osl, rfl, lk, hcd⟩, F.kp⟩
theorem funC_mk {K : PySem.W.Frag} {x qual : Str} {st : Stmt} {f c : Addr} {oc : Value} {od an : Option Addr} {osl : Array (Option Value)} {kV doc pm ct : Value} (l : K.lookup f = some ⟨oc, od, .func (PySem.W.fnOf x qual (defArgs st) (defBody st) (defScope st) .none kV doc pm an (.ref c) ct), osl⟩)
    (cd : PySem.W.codeIn K (.ref c) qual = true) (k : PySem.W.keepIn K (.ref f) = true) : FunC K x qual st f (PySem.W.fnOf x qual (defArgs st) (defBody st) (defScope st) .none kV doc pm an (.ref c) ct) c :=
  ⟨⟨oc, od, kV, doc, pm, an, ct, osl, rfl, l, cd⟩, k⟩
section
variable {P : Program} {w0 : World} {K : PySem.W.Frag} {mg : Str → Option Value} {base : Heap}
theorem ok_fnC {x qual : Str} {st : Stmt} {f c : Addr} {fd : FuncData} {N ps : List Str} {k : Nat} {cl : Nat → Addr} {T : List (Addr × Str)} {m : MS} (F : FunC K x qual st f fd c) (S : FnScope N ps (defScope st)) (hps : ps.length ≤ N.length)
    (hb : ∀ (A : Around) (outer : List Env) (s : Shared) (H : Hp) (E : XK) (ap : Option Addr) (HP Hs : Hp), Room k (A.deeper (envOfC qual (defScope st) s.heap.objs.size f (.ref c))) →
      ∃ t, JSs (cxOf (L2.CX P w0) P w0 K mg base N qual (defScope st) f (.ref c) A outer s H E) (gh K cl T ap HP H Hs) (fun c d _ H => E c d H) (defBody st) t m) :
    FnOk P w0 K mg base (L2.CX P w0) (k + 1) f fd ps (spF K cl T ps.length (runB N.length m)) := by
  obtain ⟨oc, od, kV, doc, pm, an, ct, osl, rfl, lk, hcd⟩ := F.ex
  refine fn_of lk hcd S (fun vs H Q E h => ?_) (fun A outer s H vs Q E hr h => ?_)
  · obtain ⟨ap, HP, Hs, ds, w, _, r, hn, _⟩ := h
    rw [r.length, hn]
  · obtain ⟨ap, HP, Hs, ds, w, b, r, hn, post⟩ := h
    obtain ⟨t, J⟩ := hb A outer s H E ap HP Hs hr
    refine ⟨t, J.pe, J.si (sd0 N.length ds) w (L2.start N vs) H Hs _ ⟨b, sl_start (G := gh K cl T ap HP H Hs) r (by rw [hn]; exact hps)⟩ ?_⟩
    unfold runB at post
    cases e : m (sd0 N.length ds) w with
    | nx sd' w' =>
      rw [e] at post
      exact fun σ' H' Hs' rs _ => post _ H' Hs' rs.b rfl
    | ret d w' =>
      rw [e] at post
      exact fun v H' Hs' b' q => post v H' Hs' b' q
    | brk sd' w' => rw [e] at post; exact post.elim
    | cnt sd' w' => rw [e] at post; exact post.elim
    | exc sd' c ns ds w' =>
      rw [e] at post
      exact fun dd σ' H' Hs' rs q => post dd H' Hs' rs.b q
    | bad => rw [e] at post; exact post.elim
end
/-- the facts of an error class -/
structure ClsF (K : PySem.W.Frag) (mg : Str → Option Value) (x : Str) (C fI : Addr) : Prop where
  oex : OexC K C
  iC : PySem.W.findIn K (.ref C) "__init__" = some (some (.ref fI))
  tI : PySem.W.typeIn K (.ref fI) = some (.type "function")
  mg : mg x = some (.ref C)
  xf : XfC K C
theorem ClsF.xc {X : Cx} {G : Gh} {n : Nat} {x : Str} {fI : Addr} (h : ClsF X.K X.mg x (G.c.cl n) fI) : XC X G n x fI := ⟨h.oex, h.iC, h.tI, h.mg⟩
/-- all that one computation tells of an error class -/
theorem clsF_mk {K : PySem.W.Frag} {mg : Str → Option Value} {h : Heap} {x : Str} {C fI : Addr} (KX : K.In h) (G : h.Ns mainGlobals mg) {nm q : Str} {N : Addr} {bs : List Value} {bm sub : List Value} {sn : List Str} {ab : Bool} {col : Option Bool} {dd : Option Addr} {m0 m1 m2 m3 m5 : Option Value}
    (aC : PySem.W.nsIn K mainGlobals x = some (some (.ref C)))
    (xL : K.lookup C = some (excClassObj nm q C N bs bm true sn sub ab col dd m0 m1 m2 m3 m5 "ValueError.__new__")) (hbm : PySem.HandSPX.refsVE bm = true)
    (sa : PySem.W.findIn K (.ref C) "__setattr__" = some (some (.builtin "object.__setattr__"))) (exC : PySem.W.subIn K (.ref C) (.type "BaseException") = some true) (tyC : PySem.W.typeIn K (.ref C) = some (.type "type")) (kC : PySem.W.keepIn K (.ref C) = true)
    (a1 : PySem.W.findIn K (.ref C) "__init__" = some (some (.ref fI))) (t1 : PySem.W.typeIn K (.ref fI) = some (.type "function")) (xf : XfC K C) : ClsF K mg x C fI :=
  ⟨⟨⟨nm, q, N, bs, bm, sn, sub, ab, col, dd, m0, m1, m2, m3, m5, xL, hbm⟩, sa, exC, tyC, kC⟩, a1, t1, PySem.W.mg_of KX G aC, xf⟩
section
variable {P : Program} {w0 : World} {K : PySem.W.Frag} {mg : Str → Option Value} {base : Heap}
theorem ok_fnN {x qual : Str} {st : Stmt} {f : Addr} {fd : FuncData} {N ps : List Str} {k n n2 : Nat} {cl : Nat → Addr} {T : List (Addr × Str)} {m : MS} (F : Fun K x qual st f fd) (S : FnScope N ps (defScope st)) (e1 : ps.length = n) (e2 : N.length = n2) (hps : n ≤ n2)
    (hb : ∀ (cdv : Value) (A : Around) (outer : List Env) (s : Shared) (H : Hp) (E : XK) (ap : Option Addr) (HP Hs : Hp), Room k (A.deeper (envOfC qual (defScope st) s.heap.objs.size f cdv)) →
      ∃ t, JSs (cxOf (L2.CX P w0) P w0 K mg base N qual (defScope st) f cdv A outer s H E) (gh K cl T ap HP H Hs) (fun c d _ H => E c d H) (defBody st) t m) :
    FnOk P w0 K mg base (L2.CX P w0) (k + 1) f fd ps (spF K cl T n (runB n2 m)) := by
  subst e1 e2
  exact ok_fn F S hps hb
theorem ok_fnCN {x qual : Str} {st : Stmt} {f c : Addr} {fd : FuncData} {N ps : List Str} {k n n2 : Nat} {cl : Nat → Addr} {T : List (Addr × Str)} {m : MS} (F : FunC K x qual st f fd c) (S : FnScope N ps (defScope st)) (e1 : ps.length = n) (e2 : N.length = n2) (hps : n ≤ n2)
    (hb : ∀ (A : Around) (outer : List Env) (s : Shared) (H : Hp) (E : XK) (ap : Option Addr) (HP Hs : Hp), Room k (A.deeper (envOfC qual (defScope st) s.heap.objs.size f (.ref c))) →
      ∃ t, JSs (cxOf (L2.CX P w0) P w0 K mg base N qual (defScope st) f (.ref c) A outer s H E) (gh K cl T ap HP H Hs) (fun c d _ H => E c d H) (defBody st) t m) :
    FnOk P w0 K mg base (L2.CX P w0) (k + 1) f fd ps (spF K cl T n (runB n2 m)) := by
  subst e1 e2
  exact ok_fnC F S hps hb
theorem ok_penN {x qual : Str} {st : Stmt} {f : Addr} {fd : FuncData} {N ps : List Str} {k n n2 : Nat} {cl : Nat → Addr} {T : List (Addr × Str)} {m : SD → List D → R (List D)} {fm : List D → List D → R (List D)} (F : Fun K x qual st f fd) (S : FnScope N ps (defScope st)) (e1 : ps.length = n) (e2 : N.length = n2) (hps : n ≤ n2) (hf : fm = fun ds w => m (sd0 n2 ds) w)
    (hb : ∀ (cdv : Value) (A : Around) (outer : List Env) (s : Shared) (H : Hp) (E : XK) (ap : Option Addr) (HP Hs : Hp), Room k (A.deeper (envOfC qual (defScope st) s.heap.objs.size f cdv)) →
      ∃ t, JSF (cxOf (L2.CX P w0) P w0 K mg base N qual (defScope st) f cdv A outer s H E) (gh K cl T ap HP H Hs) (fun c d _ H => E c d H) (defBody st) t m) :
    FnOk P w0 K mg base (L2.CX P w0) (k + 1) f fd ps (spPF K cl T n fm) := by
  subst e1 e2 hf
  exact ok_pen F S hps hb
end
end FT
end
section
set_option Elab.async false
set_option linter.all false
set_option maxRecDepth 100000
set_option maxHeartbeats 4000000
namespace FT
open PySem PySem.Spec PyProof.Rows L2
section
variable {X : Cx} {G : Gh} {Wx : WX}
/-! ### comparisons as tests -/
structure JC (X : Cx) (G : Gh) (Wx : WX) (e : Expr) (t : TE) (m : ME D) : Prop where
  pt : PT X e (tTest t)
  si : Sim G Wx (ρE G) t m
def mTst (m : ME D) : ME Bool := fun sd w => (m sd w).bind fun d w1 => match d with
  | .bl k => .ok k w1
  | _ => .bad
variable {a b c : Expr} {ta tb tc : TE} {ma mb mc : ME D} {pos : Pos}
theorem jt_c {e : Expr} {t : TE} {m : ME D} (h : JC X G Wx e t m) : JT X G Wx e (tTest t) (mTst m) := by
  refine ⟨h.pt, fun sd w σ H Hs Q rs post => ?_⟩
  refine h.si.bind rs post fun d w1 v H1 Hs1 rs1 b1 q1 post1 => ?_
  cases d with
  | bl k => exact ⟨k, q1, post1 k H1 Hs1 rs1.b.refl_at rfl⟩
  | _ => exact post1.elim
theorem jc_cmp {op : CmpOp} {r : R2} {f : D → D → Option D} (ho : OpR X (compareOp op) r) (hf : OpD G r f) (ha : JB X G Wx a ta ma) (hb : JB X G Wx b tb mb) (hm : behindInMarks op b = false) :
    JC X G Wx (.Compare a [op] [b] pos) (tOp r ta tb) (mBin f ma mb) := ⟨pt_cmpR ho ha.pe hb.pe hm, sim_op hf ha.si hb.si⟩
theorem jc_eq {k : Nat} (hr : Room k X.A) (ha : JB X G Wx a ta ma) (hb : JB X G Wx b tb mb) (hK : X.K = G.c.K := by rfl) : JC X G Wx (.Compare a [.Eq] [b] pos) (tOp (rEqD G.c.K) ta tb) (mBin (oEq false) ma mb) :=
  jc_cmp (by rw [← hK]; exact op_eqD hr.units) (opd_eq rfl) ha hb (nomark _)
theorem jc_ne {k : Nat} (hr : Room k X.A) (ha : JB X G Wx a ta ma) (hb : JB X G Wx b tb mb) (hK : X.K = G.c.K := by rfl) : JC X G Wx (.Compare a [.NotEq] [b] pos) (tOp (rNeD G.c.K) ta tb) (mBin (oEq true) ma mb) :=
  jc_cmp (by rw [← hK]; exact op_neD hr.units) (opd_ne rfl) ha hb (nomark _)
theorem jc_lt (ha : JB X G Wx a ta ma) (hb : JB X G Wx b tb mb) : JC X G Wx (.Compare a [.Lt] [b] pos) (tOp (rCmp fLt sLt) ta tb) (mBin (oCmp fLt sLt) ma mb) := jc_cmp op_ltA opd_cmp ha hb (nomark _)
theorem jc_le (ha : JB X G Wx a ta ma) (hb : JB X G Wx b tb mb) : JC X G Wx (.Compare a [.LtE] [b] pos) (tOp (rCmp fLe sLe) ta tb) (mBin (oCmp fLe sLe) ma mb) := jc_cmp op_leA opd_cmp ha hb (nomark _)
theorem jc_gt (ha : JB X G Wx a ta ma) (hb : JB X G Wx b tb mb) : JC X G Wx (.Compare a [.Gt] [b] pos) (tOp (rCmp fGt sGt) ta tb) (mBin (oCmp fGt sGt) ma mb) := jc_cmp op_gtA opd_cmp ha hb (nomark _)
theorem jc_ge (ha : JB X G Wx a ta ma) (hb : JB X G Wx b tb mb) : JC X G Wx (.Compare a [.GtE] [b] pos) (tOp (rCmp fGe sGe) ta tb) (mBin (oCmp fGe sGe) ma mb) := jc_cmp op_geA opd_cmp ha hb (nomark _)
theorem jc_in {k : Nat} (hr : Room k X.A) (ha : JB X G Wx a ta ma) (hb : JB X G Wx b tb mb) (hm : behindInMarks .In b = false := by with_unfolding_all rfl) (hK : X.K = G.c.K := by rfl) : JC X G Wx (.Compare a [.In] [b] pos) (tOp (rInA G.c.K false) ta tb) (mBin (oIn false) ma mb) :=
  jc_cmp (by rw [← hK]; exact op_inA hr) (opd_in rfl false) ha hb hm
theorem jc_notin {k : Nat} (hr : Room k X.A) (ha : JB X G Wx a ta ma) (hb : JB X G Wx b tb mb) (hm : behindInMarks .NotIn b = false := by with_unfolding_all rfl) (hK : X.K = G.c.K := by rfl) : JC X G Wx (.Compare a [.NotIn] [b] pos) (tOp (rInA G.c.K true) ta tb) (mBin (oIn true) ma mb) :=
  jc_cmp (by rw [← hK]; exact op_notInA hr) (opd_in rfl true) ha hb hm
theorem jc_is (ha : JB X G Wx a ta ma) (hb : JB X G Wx b tb mb) : JC X G Wx (.Compare a [.Is] [b] pos) (tOp (rIsA false) ta tb) (mBin (oIs false) ma mb) := jc_cmp op_isA (opd_is false) ha hb (nomark _)
theorem jc_isnot (ha : JB X G Wx a ta ma) (hb : JB X G Wx b tb mb) : JC X G Wx (.Compare a [.IsNot] [b] pos) (tOp (rIsA true) ta tb) (mBin (oIs true) ma mb) := jc_cmp op_isNotA (opd_is true) ha hb (nomark _)
theorem jc_chain {op op' : CmpOp} {r r' : R2} {f g : D → D → Option D} (ho : OpR X (compareOp op) r) (ho' : OpR X (compareOp op') r') (hf : OpD G r f) (hg : OpD G r' g) (ha : JB X G Wx a ta ma) (hb : JB X G Wx b tb mb) (hc : JB X G Wx c tc mc)
    (hm : lastMarks [op, op'] [b, c] = false := by with_unfolding_all rfl) : JC X G Wx (.Compare a [op, op'] [b, c] pos) (tChain r r' ta tb tc) (mChain f g ma mb mc) :=
  ⟨pt_chain ho ho' ha.pe hb.pe hc.pe hm, (je_chain (pos := pos) ho ho' hf hg ha hb hc hm).si⟩
end
end FT
end
section
set_option Elab.async false
set_option linter.all false
set_option maxRecDepth 100000
set_option maxHeartbeats 4000000
namespace FT
open PySem PySem.Spec PyProof.Rows L2 LamX
theorem cx_no {P : Program} {w : World} {H : Hp} {s : Shared} {e : Value} {s' : Shared} (h : L2.CX P w [] H s (fun _ _ _ => False) e s') : False := by
  obtain ⟨_, _, _, _, _, _, _, _, _, _, _, _, h⟩ := h
  exact h
theorem finish {l : PySem.W.OpenLaw} {w : World} {K : PySem.W.Frag} {k n : Nat} {x : Str} {mg : Str → Option Value} {fa : Addr} {h : Heap} {fd : FuncData} {cs : List (Addr × Addr)} {T : List (Addr × Str)} {Pre : List Int → Prop} (KX : K.In h)
    (hb : ∀ (s : Shared) (u : Value), BindsTo s fd ⟨[u], []⟩ [(x, u)]) (hF : ∀ base : Heap, K.In base → base.Ns mainGlobals mg → (∀ p ∈ cs, TabB base mg p.1 p.2) → FnOk l.prog w K mg base (L2.CX l.prog w) k fa fd [x] (spLaw K T Pre))
    (hT : ∀ p ∈ cs, h.get? p.2 = some { cls := .none, data := .fields #[] }) (hN : ∀ p ∈ cs, K.lookup p.2 = none) (hC : ∀ p ∈ cs, PySem.W.codeHdIn K p.1 p.2 = true) (hTP : ∀ p ∈ T, ∃ q ∈ cs, q.2 = p.1)
    (hPre : ∀ ns : List Int, ns.length ≤ n → (∀ z ∈ ns, Builtin.Int.intBits z ≤ 1048576) → Pre ns) : LawAtS l w K (L2.CX l.prog w) k n x mg fa h := by
  refine ⟨fd, cs, spLaw K T Pre, hT, hN, fun p hp => PySem.W.codeHd_of_K KX (hC p hp), hb, fun H a ns hl hz hH hS => ?_, hF⟩
  refine ⟨a, ns, rfl, hS, hPre ns hl hz, fun p hp => ?_, fun H' => rfl⟩
  obtain ⟨q, hq, e⟩ := hTP p hp
  exact TabS.nil (by rw [← e]; exact hH q hq)
/-- an error of the class at S, and «except C» -/
theorem exm_of {K : PySem.W.Frag} {S C : Addr} {b : Bool} (h1 : PySem.W.subIn K (.ref C) (.type "BaseException") = some true) (h2 : PySem.W.isClsIn K C = true) (h3 : PySem.W.typeIn K (.ref C) = some (.type "type")) (h4 : PySem.W.subIn K (.ref S) (.ref C) = some b) :
    PySem.W.exmOne K (.ref S) (.ref C) = some b := by
  have e1 : (PySem.W.subIn K (.ref C) (.type "BaseException") == some true) = true := by rw [h1] <;> rfl
  have e2 : ((PySem.W.clsIn K C).isSome && PySem.W.typeIn K (.ref C) == some (.type "type")) = true := by
    have h2' : (PySem.W.clsIn K C).isSome = true := h2
    rw [h2', h3] <;> rfl
  show (if (PySem.W.subIn K (.ref C) (.type "BaseException") == some true) = true then (if ((PySem.W.clsIn K C).isSome && PySem.W.typeIn K (.ref C) == some (.type "type")) = true then PySem.W.subIn K (.ref S) (.ref C) else none) else none) = some b
  rw [if_pos e1, if_pos e2]
  exact h4
end FT
end
section
set_option Elab.async false
set_option linter.all false
set_option maxRecDepth 100000
set_option maxHeartbeats 4000000
namespace FT
open PySem PySem.Spec PyProof.Rows L2
/-! ### calls: by place, by keyword, by default -/
/-- how it binds: n values by place, the keywords', then the defaults dvs, picked by idx -/
abbrev KBd (K : PySem.W.Frag) (fd : FuncData) (ps : List Str) (n : Nat) (ks : List Str) (idx : List Nat) (dvs : List V) : Prop :=
  ∃ us0 : List Value, Vals dvs us0 ∧ ∀ (s : Shared) (us ws : List Value), K.In s.heap → us.length = n → ws.length = ks.length → BindsTo s fd ⟨us, ks.zip ws⟩ (ps.zip (pick idx (us ++ ws ++ us0)))
theorem pick_shift {α : Type} (x : α) (xs : List α) : ∀ idx : List Nat, pick (idx.map (· + 1)) (x :: xs) = pick idx xs
  | [] => rfl
  | i :: idx => by
    rw [List.map_cons, pick_cons, pick_cons, pick_shift x xs idx]
    rfl
theorem pick_self {α : Type} (x : α) (xs : List α) (idx : List Nat) : pick (0 :: idx.map (· + 1)) (x :: xs) = x :: pick idx xs := by
  rw [pick_cons, pick_shift]; rfl
def tCallG (n m : Nat) (sp : Sp) (idx : List Nat) (dvs : List V) (E : L2.St → XK) (t tk : TA) : TE := fun σ H Q => t σ H fun vs H1 => tk σ H1 fun zs H2 => vs.length = n ∧ zs.length = m ∧ sp (pick idx (vs ++ zs ++ dvs)) H2 Q (E σ)
def tMakeG (C : Addr) (n m : Nat) (sp : Sp) (idx : List Nat) (dvs : List V) (E : L2.St → XK) (t tk : TA) : TE := fun σ H Q => t σ H fun vs H1 => tk σ H1 fun zs H2 => vs.length = n ∧ zs.length = m ∧
  ∀ x dx, H2 x = none → H2 dx = none → dx ≠ x → sp (pick idx (.ref x :: vs ++ zs ++ dvs)) (upd (upd H2 dx (.own x)) x (.ins C dx [])) (fun v H3 => v = .non ∧ Q (.ref x) H3) (E σ)
def tMethG (C : Addr) (mn : Str) (n m : Nat) (sp : Sp) (idx : List Nat) (dvs : List V) (E : L2.St → XK) (ta : TE) (t tk : TA) : TE := fun σ H Q => ta σ H fun x H1 => ∃ a dx fs, x = .ref a ∧ H1 a = some (.ins C dx fs) ∧ fs.lookup mn = none ∧
  t σ H1 fun vs H2 => tk σ H2 fun zs H3 => vs.length = n ∧ zs.length = m ∧ sp (pick idx (x :: vs ++ zs ++ dvs)) H3 Q (E σ)
section
variable {X : Cx} {G : Gh} {Wx : WX} {w w' w1 w2 : List D} {H Hs H' Hs' H1 Hs1 H2 Hs2 : Hp} {sd : SD} {σ : L2.St}
variable {e o : Expr} {te ta : TE} {m : ME D} {es : List Expr} {t tk : TA} {ma mk : ME (List D)} {x mn : Str} {k n : Nat} {f C : Addr} {fd : FuncData} {ps ks : List Str} {fm : List D → List D → R D} {idx : List Nat} {dvs : List V} {kws : List Keyword} {p pos kpos apos : Pos} {CX : CXT} {sp : Sp} {E : L2.St → XK}
theorem run_fnG {pins : List (Addr × Obj)} {s : Shared} {Q : VK} {us ws : List Value} {vs zs : List V} (F : FnOk X.prog X.w X.K X.mg X.base CX k f fd ps sp) (hr : Room k X.A) (hb : KBd X.K fd ps n ks idx dvs) (hx : PassesAt CX X σ (E σ))
    (I : Inv X pins σ H s) (r : Vals vs us) (rz : Vals zs ws) (l1 : vs.length = n) (l2 : zs.length = ks.length) (h : sp (pick idx (vs ++ zs ++ dvs)) H Q (E σ)) : wpAny (model X.prog X.w) X.A (call (.ref f) us (ks.zip ws)) (EP X pins σ Q) X.xe s := by
  obtain ⟨us0, rd, hb⟩ := hb
  have r2 := pick_vals (Vals.append (Vals.append r rz) rd) idx
  refine wpAny_call (codeAny_mono (F.run X.A X.stack s H ⟨us, ks.zip ws⟩ _ _ Q (E σ) hr I.env0 (hb s us ws I.kIn (by rw [← r.length]; exact l1) (by rw [← rz.length]; exact l2)) r2 h) fun r s' hq => ?_)
  cases r with
  | error e => exact hx pins H s e s' I hq
  | ok fl =>
    cases fl with
    | ret u => exact I.after hq
    | next => exact False.elim hq
    | brk => exact False.elim hq
    | cont => exact False.elim hq
theorem run_makeG {pins : List (Addr × Obj)} {s : Shared} {Q : VK} {us ws : List Value} {vs zs : List V} (M : Mk X.K C f) (F : FnOk X.prog X.w X.K X.mg X.base CX k f fd ps sp) (hr : Room (k + 1) X.A) (hb : KBd X.K fd ps (n + 1) ks idx dvs) (hx : PassesAt CX X σ (E σ))
    (I : Inv X pins σ H s) (r : Vals vs us) (rz : Vals zs ws) (l1 : vs.length = n) (l2 : zs.length = ks.length)
    (h : ∀ x dx, H x = none → H dx = none → dx ≠ x → sp (pick idx (.ref x :: vs ++ zs ++ dvs)) (upd (upd H dx (.own x)) x (.ins C dx [])) (fun v H2 => v = .non ∧ Q (.ref x) H2) (E σ)) :
    wpAny (model X.prog X.w) X.A (call (.ref C) us (ks.zip ws)) (EP X pins σ Q) X.xe s := by
  obtain ⟨us0, rd, hb⟩ := hb
  have hq := h (s.heap.objs.size + 1) s.heap.objs.size (I.hok.fresh (Nat.le_succ _)) (I.hok.fresh (Nat.le_refl _)) (Nat.ne_of_lt (Nat.lt_succ_self _))
  have I2 := Inv.made (C := C) I
  have r1 : Vals (V.ref (s.heap.objs.size + 1) :: vs) (Value.ref (s.heap.objs.size + 1) :: us) := .cons rfl r
  have r2 := pick_vals (Vals.append (Vals.append r1 rz) rd) idx
  have n1 : (Value.ref (s.heap.objs.size + 1) :: us).length = n + 1 := by
    rw [List.length_cons, ← r.length, l1]
  refine wpAny_call (make_map (f := f) I.kIn M.makes M.init (beq_iff_eq.mp M.fn) (codeAny_mono (F.run _ X.stack _ _ ⟨Value.ref (s.heap.objs.size + 1) :: us, ks.zip ws⟩ _ _ _ (E σ) (hr.make C us (ks.zip ws))
    (I2.env0.make C us (ks.zip ws)) (hb _ (Value.ref (s.heap.objs.size + 1) :: us) ws I2.kIn n1 (rz.length.symm.trans l2)) r2 hq) fun r s' hq' => ?_))
  cases r with
  | error e => exact hx pins _ _ e s' I2 hq'
  | ok fl =>
    cases fl with
    | ret u =>
      obtain ⟨v, H', I3, rv, ev, q3⟩ := I2.after hq'
      subst ev
      exact ⟨rv, ⟨V.ref (s.heap.objs.size + 1), H', I3, rfl, q3⟩⟩
    | next => exact False.elim hq'
    | brk => exact False.elim hq'
    | cont => exact False.elim hq'
/-! the rules -/
theorem pe_callG (F : FnOk X.prog X.w X.K X.mg X.base CX k f fd ps sp) (hr : Room k X.A) (hg : Gl X x) (hm : X.mg x = some (.ref f)) (hk : PySem.W.keepIn X.K (.ref f) = true) (hb : KBd X.K fd ps n ks idx dvs) (hx : ∀ σ, PassesAt CX X σ (E σ))
    (ha : PA X (e :: es) t) (hkw : PK X kws tk) (hall : (backToKw pos (keywordEach kws X.env)).all (·.1.isSome) = true) (hks : (backToKw pos (keywordEach kws X.env)).filterMap (·.1) = ks)
    (hdb : (x == ("__debug__" : Str)) = false) (he : starEach (e :: es) X.env = (false, eval e X.env) :: starEach es X.env)
    (hpl : ((backTo pos (starEach (e :: es) X.env)).any (·.1) || (backToKw pos (keywordEach kws X.env)).any (·.1.isNone)) = false) :
    PE X (.Call (.Name x p) (e :: es) kws pos) (tCallG n ks.length sp idx dvs E t tk) := by
  refine ⟨fun pins s σ H Q I h => ?_⟩
  refine wpAny_Call_Name_kw (ld_glob I hg hm ?_ hdb)
  refine PySem.W.callWith_KW (h₀ := X.base) I.ok.mod.kin hk hall (thn (ha.run pos pins s σ H _ I h) fun us s1 ⟨vs, H1, I1, r, q⟩ => ?_) hpl he
  refine thn (hkw.run pos pins s1 σ H1 _ I1 q) fun ws s2 ⟨zs, H2, I2, rz, q2⟩ => ⟨I2.kIn, ?_⟩
  rw [hks]
  obtain ⟨l1, l2, q3⟩ := q2
  exact run_fnG F hr hb (hx σ) I2 r rz l1 l2 q3
theorem pe_callG0 (F : FnOk X.prog X.w X.K X.mg X.base CX k f fd ps sp) (hr : Room k X.A) (hg : Gl X x) (hm : X.mg x = some (.ref f)) (hk : PySem.W.keepIn X.K (.ref f) = true) (hb : KBd X.K fd ps 0 ks idx dvs) (hx : ∀ σ, PassesAt CX X σ (E σ))
    (hkw : PK X kws tk) (hall : (backToKw pos (keywordEach kws X.env)).all (·.1.isSome) = true) (hks : (backToKw pos (keywordEach kws X.env)).filterMap (·.1) = ks)
    (hdb : (x == ("__debug__" : Str)) = false) (hpl : ((backTo pos (starEach [] X.env)).any (·.1) || (backToKw pos (keywordEach kws X.env)).any (·.1.isNone)) = false) :
    PE X (.Call (.Name x p) [] kws pos) (tCallG 0 ks.length sp idx dvs E tNil tk) := by
  refine ⟨fun pins s σ H Q I h => ?_⟩
  refine wpAny_Call_Name_kw (ld_glob I hg hm ?_ hdb)
  refine PySem.W.callWith_KW0 (h₀ := X.base) I.ok.mod.kin hk hall (thn (hkw.run pos pins s σ H _ I h) fun ws s2 ⟨zs, H2, I2, rz, q2⟩ => ⟨I2.kIn, ?_⟩) hpl
  rw [hks]
  obtain ⟨l1, l2, q3⟩ := q2
  exact run_fnG (us := []) F hr hb (hx σ) I2 .nil rz l1 l2 q3
theorem pe_makeG (M : Mk X.K C f) (F : FnOk X.prog X.w X.K X.mg X.base CX k f fd ps sp) (hr : Room (k + 1) X.A) (hg : Gl X x) (hm : X.mg x = some (.ref C)) (hb : KBd X.K fd ps (n + 1) ks idx dvs) (hx : ∀ σ, PassesAt CX X σ (E σ))
    (ha : PA X (e :: es) t) (hkw : PK X kws tk) (hall : (backToKw pos (keywordEach kws X.env)).all (·.1.isSome) = true) (hks : (backToKw pos (keywordEach kws X.env)).filterMap (·.1) = ks)
    (hdb : (x == ("__debug__" : Str)) = false) (he : starEach (e :: es) X.env = (false, eval e X.env) :: starEach es X.env)
    (hpl : ((backTo pos (starEach (e :: es) X.env)).any (·.1) || (backToKw pos (keywordEach kws X.env)).any (·.1.isNone)) = false) :
    PE X (.Call (.Name x p) (e :: es) kws pos) (tMakeG C n ks.length sp idx dvs E t tk) := by
  refine ⟨fun pins s σ H Q I h => ?_⟩
  refine wpAny_Call_Name_kw (ld_glob I hg hm ?_ hdb)
  refine PySem.W.callWith_KW (h₀ := X.base) I.ok.mod.kin M.kp hall (thn (ha.run pos pins s σ H _ I h) fun us s1 ⟨vs, H1, I1, r, q⟩ => ?_) hpl he
  refine thn (hkw.run pos pins s1 σ H1 _ I1 q) fun ws s2 ⟨zs, H2, I2, rz, q2⟩ => ⟨I2.kIn, ?_⟩
  rw [hks]
  obtain ⟨l1, l2, q3⟩ := q2
  exact run_makeG M F hr hb (hx σ) I2 r rz l1 l2 q3
theorem pe_makeG0 (M : Mk X.K C f) (F : FnOk X.prog X.w X.K X.mg X.base CX k f fd ps sp) (hr : Room (k + 1) X.A) (hg : Gl X x) (hm : X.mg x = some (.ref C)) (hb : KBd X.K fd ps 1 ks idx dvs) (hx : ∀ σ, PassesAt CX X σ (E σ))
    (hkw : PK X kws tk) (hall : (backToKw pos (keywordEach kws X.env)).all (·.1.isSome) = true) (hks : (backToKw pos (keywordEach kws X.env)).filterMap (·.1) = ks)
    (hdb : (x == ("__debug__" : Str)) = false) (hpl : ((backTo pos (starEach [] X.env)).any (·.1) || (backToKw pos (keywordEach kws X.env)).any (·.1.isNone)) = false) :
    PE X (.Call (.Name x p) [] kws pos) (tMakeG C 0 ks.length sp idx dvs E tNil tk) := by
  refine ⟨fun pins s σ H Q I h => ?_⟩
  refine wpAny_Call_Name_kw (ld_glob I hg hm ?_ hdb)
  refine PySem.W.callWith_KW0 (h₀ := X.base) I.ok.mod.kin M.kp hall (thn (hkw.run pos pins s σ H _ I h) fun ws s2 ⟨zs, H2, I2, rz, q2⟩ => ⟨I2.kIn, ?_⟩) hpl
  rw [hks]
  obtain ⟨l1, l2, q3⟩ := q2
  exact run_makeG (n := 0) (us := []) (vs := []) M F hr hb (hx σ) I2 .nil rz l1 l2 q3
theorem pe_methG {pl : Sem Bool} (he : PE X o ta) (c : Cls X.K C) (hm : Meth X.K C mn f) (F : FnOk X.prog X.w X.K X.mg X.base CX k f fd ps sp) (hr : Room k X.A) (hb : KBd X.K fd ps (n + 1) ks idx dvs) (hx : ∀ σ, PassesAt CX X σ (E σ))
    (ha : PA X (e :: es) t) (hkw : PK X kws tk) (hall : (backToKw pos (keywordEach kws X.env)).all (·.1.isSome) = true) (hks : (backToKw pos (keywordEach kws X.env)).filterMap (·.1) = ks)
    (hst : starEach (e :: es) X.env = (false, eval e X.env) :: starEach es X.env)
    (hpl : ((backTo pos (starEach (e :: es) X.env)).any (·.1) || (backToKw pos (keywordEach kws X.env)).any (·.1.isNone)) = false)
    (ht : eval (.Call (.Attribute o mn apos) (e :: es) kws pos) X.env = (do
      let ov ← eval o X.env
      standAt apos.atName
      let (f, first) ← holding [ov] (getMethod ov mn pl)
      callWith pos f first (backTo pos (starEach (e :: es) X.env)) (backToKw pos (keywordEach kws X.env)))) :
    PE X (.Call (.Attribute o mn apos) (e :: es) kws pos) (tMethG C mn n ks.length sp idx dvs E ta t tk) := by
  refine ⟨fun pins s σ H Q I h => ?_⟩
  refine PySem.W.methodCall_KW (pl := pl) (thn (he.run pins s σ H _ I h) fun u s1 ⟨x, H1, I1, rx, a, dx, fs, ex, ea, l, q⟩ => ?_) ht
  subst ex
  obtain rfl : u = Value.ref a := rx
  refine getmeth_ok I1 ea c hm l ?_
  refine PySem.W.callWith_KW (first := [.ref a]) (h₀ := X.base) I.ok.mod.kin hm.kp hall (thn (ha.run pos pins s1 σ H1 _ I1 q) fun us s2 ⟨vs, H2, I2, r, q2⟩ => ?_) hpl hst
  refine thn (hkw.run pos pins s2 σ H2 _ I2 q2) fun ws s3 ⟨zs, H3, I3, rz, q3⟩ => ⟨I3.kIn, ?_⟩
  rw [hks]
  obtain ⟨l1, l2, q4⟩ := q3
  exact run_fnG (us := .ref a :: us) (vs := .ref a :: vs) F hr hb (hx σ) I3 (.cons rfl r) rz (by rw [List.length_cons, l1]) l2 q4
theorem pe_methG0 {pl : Sem Bool} (he : PE X o ta) (c : Cls X.K C) (hm : Meth X.K C mn f) (F : FnOk X.prog X.w X.K X.mg X.base CX k f fd ps sp) (hr : Room k X.A) (hb : KBd X.K fd ps 1 ks idx dvs) (hx : ∀ σ, PassesAt CX X σ (E σ))
    (hkw : PK X kws tk) (hall : (backToKw pos (keywordEach kws X.env)).all (·.1.isSome) = true) (hks : (backToKw pos (keywordEach kws X.env)).filterMap (·.1) = ks)
    (hpl : ((backTo pos (starEach [] X.env)).any (·.1) || (backToKw pos (keywordEach kws X.env)).any (·.1.isNone)) = false)
    (ht : eval (.Call (.Attribute o mn apos) [] kws pos) X.env = (do
      let ov ← eval o X.env
      standAt apos.atName
      let (f, first) ← holding [ov] (getMethod ov mn pl)
      callWith pos f first (backTo pos (starEach [] X.env)) (backToKw pos (keywordEach kws X.env)))) :
    PE X (.Call (.Attribute o mn apos) [] kws pos) (tMethG C mn 0 ks.length sp idx dvs E ta tNil tk) := by
  refine ⟨fun pins s σ H Q I h => ?_⟩
  refine PySem.W.methodCall_KW (pl := pl) (thn (he.run pins s σ H _ I h) fun u s1 ⟨x, H1, I1, rx, a, dx, fs, ex, ea, l, q⟩ => ?_) ht
  subst ex
  obtain rfl : u = Value.ref a := rx
  refine getmeth_ok I1 ea c hm l ?_
  refine PySem.W.callWith_KW0 (first := [.ref a]) (h₀ := X.base) I.ok.mod.kin hm.kp hall (thn (hkw.run pos pins s1 σ H1 _ I1 q) fun ws s2 ⟨zs, H2, I2, rz, q2⟩ => ⟨I2.kIn, ?_⟩) hpl
  rw [hks]
  obtain ⟨l1, l2, q4⟩ := q2
  exact run_fnG (us := [.ref a]) (vs := [.ref a]) F hr hb (hx σ) I2 (.cons rfl .nil) rz (by rfl) l2 q4
end
end FT
end
section
set_option Elab.async false
set_option linter.all false
set_option maxRecDepth 100000
set_option maxHeartbeats 4000000
namespace FT
open PySem PySem.Spec PyProof.Rows L2
/-! ### mirrors of calls -/
def mCallG (n m : Nat) (idx : List Nat) (dv : List D) (f : List D → List D → R D) (ma mk : ME (List D)) : ME D := fun sd w => (ma sd w).bind fun ds w1 => (mk sd w1).bind fun es w2 => if ds.length = n ∧ es.length = m then f (pick idx (ds ++ es ++ dv)) w2 else .bad
/-- a method of the class of number c -/
def mMethG (c : Nat) (mn : Str) (n m : Nat) (idx : List Nat) (dv : List D) (f : List D → List D → R D) (mo : ME D) (ma mk : ME (List D)) : ME D := fun sd w => (mo sd w).bind fun o w0 => match o with
  | .obj c' ns ds0 => if c' = c ∧ (ns.contains mn) = false then (ma sd w0).bind fun ds w1 => (mk sd w1).bind fun es w2 => if ds.length = n ∧ es.length = m then f (.obj c' ns ds0 :: pick idx (ds ++ es ++ dv)) w2 else .bad else .bad
  | _ => .bad
/-- values that need no heap -/
def flatR : D → V → Bool
  | .non, .non => true
  | .bl a, .bl b => a == b
  | .int i, .int j => i == j
  | .str s, .str z => decide (z = ⟨s.toArray⟩) && decide (s.length ≤ sizeLine) && s.all (fun c => decide (c < 0x110000))
  | _, _ => false
theorem flatR_rep {c : Cc} {H : Hp} : ∀ {d : D} {v : V}, flatR d v = true → Rep c H d v
  | .non, v, h => by cases v <;> first | rfl | cases h
  | .bl a, v, h => by
    cases v with
    | bl b => rw [show a = b from by simpa [flatR] using h]; exact rfl
    | _ => cases h
  | .int a, v, h => by
    cases v with
    | int b => rw [show a = b from by simpa [flatR] using h]; exact rfl
    | _ => cases h
  | .str s, v, h => by
    cases v with
    | str z =>
      simp only [flatR, Bool.and_eq_true, decide_eq_true_eq, List.all_eq_true] at h
      exact ⟨by rw [h.1.1], h.1.2, h.2⟩
    | _ => cases h
  | .lst _, v, h => by cases h
  | .tup _, v, h => by cases h
  | .frz _, v, h => by cases h
  | .pen, v, h => by cases h
  | .obj _ _ _, v, h => by cases h
  | .dct _ _, v, h => by cases h
  | .dcT _ _, v, h => by cases h
def flatRL : List D → List V → Bool
  | [], [] => true
  | d :: ds, v :: vs => flatR d v && flatRL ds vs
  | _, _ => false
theorem flatRL_rep {c : Cc} {H : Hp} : ∀ {ds : List D} {vs : List V}, flatRL ds vs = true → RepL c H ds vs
  | [], [], _ => rfl
  | [], _ :: _, h => by cases h
  | _ :: _, [], h => by cases h
  | d :: ds, v :: vs, h => by
    simp only [flatRL, Bool.and_eq_true] at h
    exact ⟨v, vs, rfl, flatR_rep h.1, flatRL_rep h.2⟩
section
variable {X : Cx} {G : Gh} {Wx : WX} {w w' w1 w2 : List D} {H Hs H' Hs' H1 Hs1 H2 Hs2 : Hp} {sd : SD} {σ : L2.St}
variable {e o : Expr} {te ta : TE} {m mo : ME D} {es : List Expr} {t tk : TA} {ma mk : ME (List D)} {x mn : Str} {k n j : Nat} {f C : Addr} {fd : FuncData} {ps ks : List Str} {fm : List D → List D → R D} {idx : List Nat} {dv : List D} {dvs : List V} {kws : List Keyword} {p pos kpos apos : Pos}
theorem sim_callG {m' : Nat} (hdv : flatRL dv dvs = true) (ha : Sim G Wx (ρA G) t ma) (hk : Sim G Wx (ρA G) tk mk) : Sim G Wx (ρE G) (tCallG n m' (spF G.c.K G.c.cl G.T k fm) idx dvs (WE Wx) t tk) (mCallG n m' idx dv (nArg k fm) ma mk) := by
  intro sd w σ H Hs Q rs post
  refine ha.bind rs post fun ds w1 vs H1 Hs1 rs1 b1 q1 post1 => ?_
  refine hk.bind rs1 post1 fun es w2 zs H2 Hs2 rs2 b2 q2 post2 => ?_
  split at post2
  · rename_i hl
    exact ⟨by rw [q1.length]; exact hl.1, by rw [q2.length]; exact hl.2, call_post rs2.b (pick_rep (((q1.mono b2.sub0).append q2).append (flatRL_rep hdv)) idx) post2⟩
  · exact post2.elim
/-- f(e, .., k = v, ..) with defaults -/
theorem je_callG (F : FnOk X.prog X.w X.K X.mg X.base (L2.CX X.prog X.w) k f fd ps (spF G.c.K G.c.cl G.T j fm)) (hr : Room k X.A) (hm : X.mg x = some (.ref f)) (hk : PySem.W.keepIn X.K (.ref f) = true) (hb : KBd X.K fd ps n ks idx dvs) (hdv : flatRL dv dvs = true) (tkk : Takes X Wx)
    (ha : JA X G Wx (e :: es) t ma) (hkw : JK X G Wx kws tk mk) (hg : Gl X x := by rfl) (hall : (backToKw pos (keywordEach kws X.env)).all (·.1.isSome) = true := by rfl) (hks : (backToKw pos (keywordEach kws X.env)).filterMap (·.1) = ks := by rfl)
    (hdb : (x == ("__debug__" : Str)) = false := by decide) (he : starEach (e :: es) X.env = (false, eval e X.env) :: starEach es X.env := by rfl)
    (hpl : ((backTo pos (starEach (e :: es) X.env)).any (·.1) || (backToKw pos (keywordEach kws X.env)).any (·.1.isNone)) = false := by rfl) :
    JE X G Wx (.Call (.Name x p) (e :: es) kws pos) (tCallG n ks.length (spF G.c.K G.c.cl G.T j fm) idx dvs (WE Wx) t tk) (mCallG n ks.length idx dv (nArg j fm) ma mk) :=
  ⟨pe_callG F hr hg hm hk hb (fun σ => passAt tkk σ) ha.pe hkw.pe hall hks hdb he hpl, sim_callG hdv ha.si hkw.si⟩
theorem je_callG0 (F : FnOk X.prog X.w X.K X.mg X.base (L2.CX X.prog X.w) k f fd ps (spF G.c.K G.c.cl G.T j fm)) (hr : Room k X.A) (hm : X.mg x = some (.ref f)) (hk : PySem.W.keepIn X.K (.ref f) = true) (hb : KBd X.K fd ps 0 ks idx dvs) (hdv : flatRL dv dvs = true) (tkk : Takes X Wx)
    (hkw : JK X G Wx kws tk mk) (hg : Gl X x := by rfl) (hall : (backToKw pos (keywordEach kws X.env)).all (·.1.isSome) = true := by rfl) (hks : (backToKw pos (keywordEach kws X.env)).filterMap (·.1) = ks := by rfl)
    (hdb : (x == ("__debug__" : Str)) = false := by decide) (hpl : ((backTo pos (starEach [] X.env)).any (·.1) || (backToKw pos (keywordEach kws X.env)).any (·.1.isNone)) = false := by rfl) :
    JE X G Wx (.Call (.Name x p) [] kws pos) (tCallG 0 ks.length (spF G.c.K G.c.cl G.T j fm) idx dvs (WE Wx) tNil tk) (mCallG 0 ks.length idx dv (nArg j fm) mNil mk) :=
  ⟨pe_callG0 F hr hg hm hk hb (fun σ => passAt tkk σ) hkw.pe hall hks hdb hpl, sim_callG hdv (ja_nil (X := X)).si hkw.si⟩
/-! ### methods -/
theorem lookup_none {f : Str} : ∀ {fs : List (Str × V)}, (fs.map (·.1)).contains f = false → fs.lookup f = none
  | [], _ => rfl
  | (g, v) :: fs, h => by
    rw [List.map_cons, List.contains_cons, Bool.or_eq_false_iff] at h
    rw [List.lookup_cons, h.1]
    exact lookup_none h.2
theorem sim_methG {m' c : Nat} (hdv : flatRL dv dvs = true) (ho : Sim G Wx (ρB G) ta mo) (ha : Sim G Wx (ρA G) t ma) (hk : Sim G Wx (ρA G) tk mk) :
    Sim G Wx (ρE G) (tMethG (G.c.cl c) mn n m' (spF G.c.K G.c.cl G.T k fm) (0 :: idx.map (· + 1)) dvs (WE Wx) ta t tk) (mMethG c mn n m' idx dv (nArg k fm) mo ma mk) := by
  intro sd w σ H Hs Q rs post
  refine ho.bind rs post fun od w0 x H0 Hs0 rs0 b0 q0 post0 => ?_
  split at post0
  · rename_i c' ns ds0
    split at post0
    · rename_i hc
      obtain ⟨rfl, hmn⟩ := hc
      obtain ⟨a, dx, fs, rfl, h2, h3, h4⟩ := q0
      refine ⟨a, dx, fs, rfl, rs0.b.sub _ _ h2, lookup_none (by rw [h3]; exact hmn), ?_⟩
      refine ha.bind rs0 post0 fun ds w1 vs H1 Hs1 rs1 b1 q1 post1 => ?_
      refine hk.bind rs1 post1 fun es w2 zs H2 Hs2 rs2 b2 q2 post2 => ?_
      split at post2
      · rename_i hl
        refine ⟨by rw [q1.length]; exact hl.1, by rw [q2.length]; exact hl.2, ?_⟩
        rw [List.append_assoc, List.cons_append, pick_self, ← List.append_assoc]
        refine call_post rs2.b ?_ post2
        refine ⟨_, _, rfl, ⟨a, dx, fs, rfl, b2.sub0 _ _ (b1.sub0 _ _ h2), h3, (h4.mono b1.sub0).mono b2.sub0⟩, ?_⟩
        exact pick_rep (((q1.mono b2.sub0).append q2).append (flatRL_rep hdv)) idx
      · exact post2.elim
    · exact post0.elim
  · exact post0.elim
theorem je_methG {c : Nat} {pl : Sem Bool} (ho : JB X G Wx o ta mo) (hc : Cls X.K (G.c.cl c)) (hm : Meth X.K (G.c.cl c) mn f) (F : FnOk X.prog X.w X.K X.mg X.base (L2.CX X.prog X.w) k f fd ps (spF G.c.K G.c.cl G.T j fm)) (hr : Room k X.A) (hb : KBd X.K fd ps (n + 1) ks (0 :: idx.map (· + 1)) dvs) (hdv : flatRL dv dvs = true) (tkk : Takes X Wx)
    (ha : JA X G Wx (e :: es) t ma) (hkw : JK X G Wx kws tk mk) (hall : (backToKw pos (keywordEach kws X.env)).all (·.1.isSome) = true := by rfl) (hks : (backToKw pos (keywordEach kws X.env)).filterMap (·.1) = ks := by rfl)
    (he : starEach (e :: es) X.env = (false, eval e X.env) :: starEach es X.env := by rfl)
    (hpl : ((backTo pos (starEach (e :: es) X.env)).any (·.1) || (backToKw pos (keywordEach kws X.env)).any (·.1.isNone)) = false := by rfl)
    (ht : eval (.Call (.Attribute o mn apos) (e :: es) kws pos) X.env = (do
      let ov ← eval o X.env
      standAt apos.atName
      let (f, first) ← holding [ov] (getMethod ov mn pl)
      callWith pos f first (backTo pos (starEach (e :: es) X.env)) (backToKw pos (keywordEach kws X.env))) := by rfl) :
    JE X G Wx (.Call (.Attribute o mn apos) (e :: es) kws pos) (tMethG (G.c.cl c) mn n ks.length (spF G.c.K G.c.cl G.T j fm) (0 :: idx.map (· + 1)) dvs (WE Wx) ta t tk) (mMethG c mn n ks.length idx dv (nArg j fm) mo ma mk) :=
  ⟨pe_methG ho.pe hc hm F hr hb (fun σ => passAt tkk σ) ha.pe hkw.pe hall hks he hpl ht, sim_methG hdv ho.si ha.si hkw.si⟩
theorem je_methG0 {c : Nat} {pl : Sem Bool} (ho : JB X G Wx o ta mo) (hc : Cls X.K (G.c.cl c)) (hm : Meth X.K (G.c.cl c) mn f) (F : FnOk X.prog X.w X.K X.mg X.base (L2.CX X.prog X.w) k f fd ps (spF G.c.K G.c.cl G.T j fm)) (hr : Room k X.A) (hb : KBd X.K fd ps 1 ks (0 :: idx.map (· + 1)) dvs) (hdv : flatRL dv dvs = true) (tkk : Takes X Wx)
    (hkw : JK X G Wx kws tk mk) (hall : (backToKw pos (keywordEach kws X.env)).all (·.1.isSome) = true := by rfl) (hks : (backToKw pos (keywordEach kws X.env)).filterMap (·.1) = ks := by rfl)
    (hpl : ((backTo pos (starEach [] X.env)).any (·.1) || (backToKw pos (keywordEach kws X.env)).any (·.1.isNone)) = false := by rfl)
    (ht : eval (.Call (.Attribute o mn apos) [] kws pos) X.env = (do
      let ov ← eval o X.env
      standAt apos.atName
      let (f, first) ← holding [ov] (getMethod ov mn pl)
      callWith pos f first (backTo pos (starEach [] X.env)) (backToKw pos (keywordEach kws X.env))) := by rfl) :
    JE X G Wx (.Call (.Attribute o mn apos) [] kws pos) (tMethG (G.c.cl c) mn 0 ks.length (spF G.c.K G.c.cl G.T j fm) (0 :: idx.map (· + 1)) dvs (WE Wx) ta tNil tk) (mMethG c mn 0 ks.length idx dv (nArg j fm) mo mNil mk) :=
  ⟨pe_methG0 ho.pe hc hm F hr hb (fun σ => passAt tkk σ) hkw.pe hall hks hpl ht, sim_methG hdv ho.si (ja_nil (X := X)).si hkw.si⟩
/-! ### fields -/
def mFld (ok : Nat → Bool) (f : Str) (m : ME D) : ME D := fun sd w => (m sd w).bind fun d w1 => match d with
  | .obj c ns ds => if ok c = true then (match (ns.zip ds).lookup f with
    | some d => .ok d w1
    | none => .bad) else .bad
  | _ => .bad
/-- classes that have the field, and no name of the class in its way -/
abbrev FldC (K : PySem.W.Frag) (cl : Nat → Addr) (ok : Nat → Bool) (f : Str) : Prop := ∀ c, ok c = true → Cls K (cl c) ∧ NoAttr K (cl c) f
theorem je_fld {ok : Nat → Bool} {fl : Str} (hf : FldC G.c.K G.c.cl ok fl) (ho : JB X G Wx e te m) (hb : attributeBase e fl X.env (eval e X.env) = eval e X.env := by rfl) (hK : X.K = G.c.K := by rfl) : JE X G Wx (.Attribute e fl pos) (tFld G.c.K te fl) (mFld ok fl m) := by
  refine ⟨by rw [← hK]; exact pe_fld ho.pe hb, fun sd w σ H Hs Q rs post => ?_⟩
  refine ho.si.bind rs post fun d w1 v H1 Hs1 rs1 b1 q1 post1 => ?_
  split at post1
  · rename_i c ns ds
    split at post1
    · rename_i hc
      obtain ⟨a, dx, fs, rfl, h2, h3, h4⟩ := q1
      split at post1
      · rename_i d' hl
        obtain ⟨v, hv, rv⟩ := lookup_rep (c := G.c) h4 (by rw [h3]; exact hl)
        exact ⟨a, _, dx, fs, v, rfl, rs1.b.sub _ _ h2, (hf c hc).1, (hf c hc).2, hv, post1 v H1 Hs1 rs1.b.refl_at rv⟩
      · exact post1.elim
    · exact post1.elim
  · exact post1.elim
end
end FT
end
section
set_option Elab.async false
set_option linter.all false
set_option maxRecDepth 100000
set_option maxHeartbeats 4000000
namespace FT
open PySem PySem.Spec PyProof.Rows L2
/-! ### writing to a thing of one's own -/
section
variable {G : Gh} {Wx : WX} {w w' w1 w2 : List D} {H Hs H' Hs' H1 Hs1 H2 Hs2 : Hp} {sd : SD} {σ : L2.St}
/-- an object that is none of the special ones -/
structure Plain (o : HO) : Prop where
  nt : NoT o
  nl : ∀ vs, o ≠ .lst vs
  nc : ∀ c q, o ≠ LamX.CodeO c q
theorem Mine.plain {a : Addr} {o : HO} (m : Mine G H Hs a o) : Plain o := ⟨m.nt, m.nl, m.nc⟩
theorem codeO_ext {c : Addr} {q : Str} : ∃ φ, LamX.CodeO c q = .ext φ := ⟨_, rfl⟩
theorem plain_ins {C dx : Addr} {fs : List (Str × V)} : Plain (.ins C dx fs) := ⟨fun _ e => (by cases e), fun _ e => (by cases e), fun c q e => (by obtain ⟨φ, h⟩ := codeO_ext (c := c) (q := q); rw [h] at e; cases e)⟩
theorem plain_own {x : Addr} : Plain (.own x) := ⟨fun _ e => (by cases e), fun _ e => (by cases e), fun c q e => (by obtain ⟨φ, h⟩ := codeO_ext (c := c) (q := q); rw [h] at e; cases e)⟩
theorem plain_dK {kvs : List (Key × V)} : Plain (.dK kvs) := ⟨fun _ e => (by cases e), fun _ e => (by cases e), fun c q e => (by obtain ⟨φ, h⟩ := codeO_ext (c := c) (q := q); rw [h] at e; cases e)⟩
theorem plain_dT {kvs : List (List Key × V)} : Plain (.dT kvs) := ⟨fun _ e => (by cases e), fun _ e => (by cases e), fun c q e => (by obtain ⟨φ, h⟩ := codeO_ext (c := c) (q := q); rw [h] at e; cases e)⟩
theorem tabs_writeP {T : List (Addr × Str)} {a : Addr} {o o' : HO} (t : LamX.Tabs T H) (ha : H a = some o) (p : Plain o) : LamX.Tabs T (upd H a o') := by
  intro q hq
  obtain ⟨ps, h1, h2, h3⟩ := t q hq
  refine ⟨ps, ?_, h2, fun pos cv e => ?_⟩
  · rw [upd_ne (fun z => by rw [z, ha] at h1; exact p.nt ps (Option.some.inj h1))]; exact h1
  · obtain ⟨c, e1, e2⟩ := h3 pos cv e
    refine ⟨c, e1, ?_⟩
    rw [upd_ne (fun z => by rw [z, ha] at e2; exact p.nc _ _ (Option.some.inj e2))]; exact e2
theorem B.writeMine {a : Addr} {o o' : HO} (b : B G w H Hs) (m : Mine G H Hs a o) : B G w (upd H a o') Hs := by
  refine ⟨fun x y e => ?_, b.sub0, fun x y h1 h2 e => ?_, b.new, fun x e => ?_, b.penH, b.nt, tabs_writeP b.tab m.at_ m.plain⟩
  · rw [upd_ne (fun z => by rw [z, show Hs a = none from m.ns] at e; cases e)]; exact b.sub _ _ e
  · rw [upd_ne (fun z => by rw [z] at e; exact m.fr _ e h2)]; exact b.keep _ _ h1 h2 e
  · rw [upd_ne (fun z => m.ap (by rw [← z]; exact e))]; exact b.pen x e
theorem Mine.writeNe {a b : Addr} {o o' : HO} (m : Mine G H Hs a o) (z : a ≠ b) : Mine G (upd H b o') Hs a o := ⟨by rw [upd_ne z]; exact m.at_, m.nt, m.nl, m.nc, m.ns, m.fr, m.ap⟩
theorem Mine.put {a : Addr} {o o' : HO} (m : Mine G H Hs a o) (p : Plain o') : Mine G (upd H a o') Hs a o' := ⟨upd_same, p.nt, p.nl, p.nc, m.ns, m.fr, m.ap⟩
theorem RS.writePrv {i : Nat} {p p' : Pv} {a : Addr} {o o' : HO} {tl : List (Addr × HO)} (rs : RS G sd w σ H Hs) (hi : sd[i]? = some (.prv p)) (hσ : σ[i]? = some (some (.ref a))) (sh : Shape G Hs p a ((a, o) :: tl)) (mine : ∀ q ∈ (a, o) :: tl, Mine G H Hs q.1 q.2)
    (sh' : Shape G Hs p' a ((a, o') :: tl)) (pl : Plain o') : RS G (sd.set i (.prv p')) w σ (upd H a o') Hs := by
  have m := mine _ List.mem_cons_self
  have s := rs.s
  obtain ⟨o2, tl2, e2, nown, htl⟩ := sh.head
  cases e2
  refine ⟨rs.b.writeMine m, ?_⟩
  refine ⟨by rw [List.length_set, s.len], fun j e h => ?_, fun j es h => ?_, fun j l es fs b h1 h2 h3 h4 => ?_, fun j q h => ?_, fun j l es fs b h1 h2 h3 h4 => ?_⟩
  · rcases get_set h with ⟨rfl, h2, h3⟩ | ⟨hn, h2⟩
    · cases h2
    · exact s.val j e h2
  · rcases get_set h with ⟨rfl, h2, h3⟩ | ⟨hn, h2⟩
    · cases h2
    · obtain ⟨b, vs, h4, h5, h6, h7, h8, h9⟩ := s.own j es h2
      have z : b ≠ a := fun z => by
        have := m.at_
        rw [← z, show H b = _ from h5] at this
        exact m.nl vs (Option.some.inj this).symm
      exact ⟨b, vs, h4, by rw [upd_ne z]; exact h5, h6, h7, h8, h9⟩
  · rcases get_set h1 with ⟨rfl, h5, _⟩ | ⟨n1, h5⟩
    · cases h5
    · rcases get_set h2 with ⟨rfl, h6, _⟩ | ⟨n2, h6⟩
      · cases h6
      · exact s.sep j l es fs b h5 h6 h3 h4
  · rcases get_set h with ⟨rfl, h2, h3⟩ | ⟨hn, h2⟩
    · cases h2
      refine ⟨_, hσ, a, _, rfl, sh', fun q hq => ?_⟩
      rcases List.mem_cons.mp hq with rfl | hq
      · exact m.put pl
      · have mq := mine q (List.mem_cons_of_mem _ hq)
        refine mq.writeNe fun z => ?_
        obtain ⟨x, hx⟩ := htl q hq
        have h1 := mq.at_
        rw [z, show H a = some o from m.at_, hx] at h1
        exact nown x (Option.some.inj h1)
    · obtain ⟨v, e1, b, ft, rfl, e3, e4⟩ := s.prv j q h2
      obtain ⟨ob, tb, e5, nb, htb⟩ := e3.head
      subst e5
      have hba : b ≠ a := fun z => hn (s.sepP i j p q (.ref a) hi h2 hσ (by rw [e1, z]))
      refine ⟨_, e1, b, _, rfl, e3, fun r hr => (e4 r hr).writeNe fun z => ?_⟩
      rcases List.mem_cons.mp hr with rfl | hr
      · exact hba z
      · obtain ⟨x, hx⟩ := htb r hr
        have h1 := (e4 r (List.mem_cons_of_mem _ hr)).at_
        rw [z, show H a = some o from m.at_, hx] at h1
        exact nown x (Option.some.inj h1)
  · rcases get_set h1 with ⟨rfl, h5, _⟩ | ⟨n1, h5⟩
    · rcases get_set h2 with ⟨rfl, h6, _⟩ | ⟨n2, h6⟩
      · rfl
      · exact s.sepP _ l p fs b hi h6 h3 h4
    · rcases get_set h2 with ⟨rfl, h6, _⟩ | ⟨n2, h6⟩
      · exact s.sepP j _ es p b h5 hi h3 h4
      · exact s.sepP j l es fs b h5 h6 h3 h4
end
/-! ### an instance in the making -/
def putN (f : Str) : List Str → List Str
  | [] => [f]
  | g :: r => if g = f then g :: r else g :: putN f r
def putV (f : Str) (d : D) : List Str → List D → List D
  | g :: r, x :: xs => if g = f then d :: xs else x :: putV f d r xs
  | _, _ => [d]
theorem putF_names (f : Str) (v : V) : ∀ fs : List (Str × V), (putF f v fs).map (·.1) = putN f (fs.map (·.1))
  | [] => rfl
  | (g, x) :: r => by
    show (if g = f then (g, v) :: r else (g, x) :: putF f v r).map (·.1) = if g = f then g :: r.map (·.1) else g :: putN f (r.map (·.1))
    by_cases h : g = f
    · rw [if_pos h, if_pos h]; rfl
    · rw [if_neg h, if_neg h, List.map_cons, putF_names f v r]
theorem putF_rep {c : Cc} {H : Hp} {f : Str} {d : D} {v : V} (h : Rep c H d v) : ∀ {fs : List (Str × V)} {ds : List D}, RepL c H ds (fs.map (·.2)) → RepL c H (putV f d (fs.map (·.1)) ds) ((putF f v fs).map (·.2))
  | [], [], _ => RepL.one h
  | [], _ :: _, ⟨_, _, e, _, _⟩ => by cases e
  | (g, x) :: r, [], e => by cases e
  | (g, x) :: r, e :: es, ⟨u, us, e1, h2, h3⟩ => by
    rw [List.map_cons] at e1
    cases e1
    show RepL c H (if g = f then d :: es else e :: putV f d (r.map (·.1)) es) ((if g = f then (g, v) :: r else (g, x) :: putF f v r).map (·.2))
    by_cases q : g = f
    · rw [if_pos q, if_pos q]; exact ⟨_, _, rfl, h, h3⟩
    · rw [if_neg q, if_neg q]; exact ⟨_, _, rfl, h2, putF_rep h h3⟩
section
variable {X : Cx} {G : Gh} {Wx : WX} {w w' w1 w2 : List D} {H Hs H' Hs' H1 Hs1 H2 Hs2 : Hp} {sd : SD} {σ : L2.St}
variable {e : Expr} {te : TE} {m : ME D} {pos pos' px : Pos} {x : Str}
def mFldS (ok : Nat → Bool) (f : Str) (i : Nat) : ME D := fun sd w => match sd[i]? with
  | some (.prv (.ins c ns ds)) => if ok c = true then (match (ns.zip ds).lookup f with
    | some d => .ok d w
    | none => .bad) else .bad
  | _ => .bad
/-- self.f while self is in the making -/
theorem je_fldS {ok : Nat → Bool} {fl : Str} (i : Nat) (hf : FldC X.K G.c.cl ok fl) (hN : X.N[i]? = some x := by rfl) (hv : Vis X.env.scope x := by first | exact Or.inl rfl | exact Or.inr (Or.inl rfl) | exact Or.inr (Or.inr rfl)) (hd : (x == ("__debug__" : Str)) = false := by decide)
    (hcd : (x == ("__classdict__" : Str)) = false := by decide) (hb : attributeBase (.Name x px) fl X.env (eval (.Name x px) X.env) = eval (.Name x px) X.env := by rfl) : JE X G Wx (.Attribute (.Name x px) fl pos) (tFld X.K (tVar i) fl) (mFldS ok fl i) := by
  refine ⟨pe_fld (pe_var hN hv hd hcd) hb, fun sd w σ H Hs Q rs post => ?_⟩
  unfold mFldS at post
  split at post
  · rename_i c ns ds hi
    split at post
    · rename_i hc
      obtain ⟨v, h1, a, ft, rfl, ⟨_, dx, fs, rfl, h3, h4⟩, h5⟩ := rs.s.prv i _ hi
      split at post
      · rename_i d' hl
        obtain ⟨v, hv, rv⟩ := lookup_rep (c := G.c) h4 (by rw [h3]; exact hl)
        exact ⟨_, h1, a, _, dx, fs, v, rfl, (h5 _ List.mem_cons_self).at_, (hf c hc).1, (hf c hc).2, hv, post v H Hs rs.b.refl_at rv⟩
      · exact post.elim
    · exact post.elim
  · exact post.elim
/-- self.f = e -/
def mFldP (ok : Nat → Bool) (f : Str) (i : Nat) (m : ME D) : MS := fun sd w => eb (m sd w) sd fun d w1 => match sd[i]? with
  | some (.prv (.ins c ns ds)) => if ok c = true ∧ ns.length < 900 then .nx (sd.set i (.prv (.ins c (putN f ns) (putV f d ns ds)))) w1 else .bad
  | _ => .bad
theorem js_fldP {ok : Nat → Bool} {fl : Str} (i : Nat) (hf : FldC X.K G.c.cl ok fl) (he : JE X G Wx e te m) (hN : X.N[i]? = some x := by rfl) (hv : Vis X.env.scope x := by first | exact Or.inl rfl | exact Or.inr (Or.inl rfl) | exact Or.inr (Or.inr rfl)) (hd : (x == ("__debug__" : Str)) = false := by decide)
    (hcd : (x == ("__classdict__" : Str)) = false := by decide) (hs : swapsWith e (some (.Attribute (.Name x px) fl pos')) pos.line X.env = pure false := by rfl) :
    JS X G Wx (.Assign [.Attribute (.Name x px) fl pos'] e pos) (sFld X.K (tVar i) te fl) (mFldP ok fl i m) := by
  refine ⟨ps_fld (pe_var hN hv hd hcd) he.pe hs, fun sd w σ H Hs De rs post => ?_⟩
  refine he.si.bindS rs post fun d w1 v H1 Hs1 rs1 b1 q1 post1 => ?_
  split at post1
  · rename_i c ns ds hi
    split at post1
    · rename_i hc
      obtain ⟨v2, h1, a, ft, rfl, ⟨h0, dx, fs, rfl, h3, h4⟩, h5⟩ := rs1.s.prv i _ hi
      have hl : fs.length < 1000 := by
        have := congrArg List.length h3
        rw [List.length_map] at this
        have := hc.2
        omega
      refine ⟨_, h1, a, _, dx, fs, rfl, (h5 _ List.mem_cons_self).at_, (hf c hc.1).1, (hf c hc.1).2, hl, ?_⟩
      refine post1 σ _ Hs1 (rs1.writePrv hi h1 ⟨h0, dx, fs, rfl, h3, h4⟩ h5 ⟨h0, dx, putF fl v fs, rfl, ?_, ?_⟩ plain_ins) (Same.refl _)
      · rw [putF_names, h3]
      · have := putF_rep (f := fl) q1 h4
        rw [h3] at this
        exact this
    · exact post1.elim
  · exact post1.elim
end
end FT
end
section
set_option Elab.async false
set_option linter.all false
set_option maxRecDepth 100000
set_option maxHeartbeats 4000000
namespace FT
open PySem PySem.Spec PyProof.Rows L2
/-! ### __init__ of an own class -/
abbrev ghN (K : PySem.W.Frag) (cl : Nat → Addr) (T : List (Addr × Str)) (ap : Option Addr) (HP H Hs : Hp) (a : Addr) : Gh := { c := ⟨K, ap, cl⟩, HP := HP, T := T, H0 := H, Hs0 := Hs, sf := some a }
def PostN (G : Gh) (E : XK) (a : Addr) (c : Nat) (Q : VK) : R (List Str × List D) → Prop
  | .ok r w' => ∀ H' Hs' dx fs, B G w' H' Hs' → H' a = some (.ins (G.c.cl c) dx fs) → H' dx = some (.own a) → Hs' a = none → Hs' dx = none → fs.map (·.1) = r.1 → RepL G.c Hs' r.2 (fs.map (·.2)) → Q .non H'
  | .exc c ns ds w' => ∀ dd H' Hs', B G w' H' Hs' → ExcAt G.c H' Hs' dd ns ds → E (.ref (G.c.cl c)) (some dd) H'
  | .bad => False
/-- what a call of __init__ promises: fm, the fields, of the class's number and the values behind self -/
def spN (K : PySem.W.Frag) (cl : Nat → Addr) (T : List (Addr × Str)) (n : Nat) (fm : Nat → List D → List D → R (List Str × List D)) : Sp := fun vs H Q E => ∃ (ap : Option Addr) (HP H0 Hs : Hp) (ds w : List D) (a dx : Addr) (c : Nat) (us : List V),
  vs = .ref a :: us ∧ H a = some (.ins (cl c) dx []) ∧ H dx = some (.own a) ∧ dx ≠ a ∧ Hs a = none ∧ Hs dx = none ∧ H0 a = none ∧ H0 dx = none ∧ ap ≠ some a ∧ ap ≠ some dx ∧ B (gh K cl T ap HP H0 Hs) w H Hs ∧ RepL ⟨K, ap, cl⟩ Hs ds us ∧ ds.length = n ∧
  PostN (gh K cl T ap HP H0 Hs) E a c Q (fm c ds w)
def sdN (n c : Nat) (ds : List D) : SD := .prv (.ins c [] []) :: sd0 n ds
def outN (c : Nat) : Out → R (List Str × List D)
  | .nx sd w => (match sd[0]? with
    | some (SV.prv (Pv.ins c' ns ds)) => if c' = c then .ok (ns, ds) w else .bad
    | _ => .bad)
  | .exc _ c ns ds w => .exc c ns ds w
  | _ => .bad
/-- n: the slots behind self -/
def runN (n : Nat) (m : MS) (c : Nat) (ds w : List D) : R (List Str × List D) := outN c (m (sdN n c ds) w)
theorem sd0_prv {n : Nat} {ds : List D} (i : Nat) (p : Pv) : (sd0 n ds)[i]? ≠ some (SV.prv p) := fun h => by
  unfold sd0 at h
  rcases List.mem_append.mp (List.mem_of_getElem? h) with h | h
  · obtain ⟨d, _, e⟩ := List.mem_map.mp h
    cases e
  · have := (List.mem_replicate.mp h).2
    cases this
theorem SL.consPrv {G : Gh} {sd : SD} {σ : L2.St} {H Hs : Hp} {p : Pv} {v : V} (s : SL G sd σ H Hs) (hn : ∀ (i : Nat) (p : Pv), sd[i]? ≠ some (SV.prv p)) (m : Priv G H Hs p v) : SL G (.prv p :: sd) (some v :: σ) H Hs := by
  refine ⟨by simp [s.len], fun i d h => ?_, fun i ds h => ?_, fun i j l es a h1 h2 h3 h4 => ?_, fun i q h => ?_, fun i j l es a h1 h2 h3 h4 => ?_⟩
  · match i, h with
    | 0, h => cases h
    | i + 1, h => exact s.val i d h
  · match i, h with
    | 0, h => cases h
    | i + 1, h => exact s.own i ds h
  · match i, j, h1, h2 with
    | 0, _, h1, _ => cases h1
    | _ + 1, 0, _, h2 => cases h2
    | i + 1, j + 1, h1, h2 => rw [s.sep i j l es a h1 h2 h3 h4]
  · match i, h with
    | 0, h => cases h; exact ⟨v, rfl, m⟩
    | i + 1, h => exact absurd h (hn i q)
  · match i, j, h1, h2 with
    | 0, 0, _, _ => rfl
    | i + 1, _, h1, _ => exact absurd h1 (hn i l)
    | _, j + 1, _, h2 => exact absurd h2 (hn j es)
section
variable {P : Program} {w0 : World} {K : PySem.W.Frag} {mg : Str → Option Value} {base : Heap}
theorem ok_initD {dvs : List V} {kws : List (Str × V)} {x qual : Str} {st : Stmt} {f : Addr} {fd : FuncData} {n0 : Str} {N ps : List Str} {k j : Nat} {cl : Nat → Addr} {T : List (Addr × Str)} {m : MS} (F : FunD K x qual (defArgs st) (defBody st) (defScope st) dvs kws f fd) (S : FnScope (n0 :: N) (n0 :: ps) (defScope st)) (hj : ps.length = j) (hps : ps.length ≤ N.length)
    (hb : ∀ (cdv : Value) (A : Around) (outer : List Env) (s : Shared) (H : Hp) (E : XK) (ap : Option Addr) (HP H0 Hs : Hp) (a : Addr), Room k (A.deeper (envOfC qual (defScope st) s.heap.objs.size f cdv)) →
      ∃ t, JSs (cxOf (L2.CX P w0) P w0 K mg base (n0 :: N) qual (defScope st) f cdv A outer s H E) (ghN K cl T ap HP H0 Hs a) (fun c d _ H => E c d H) (defBody st) t m) :
    FnOk P w0 K mg base (L2.CX P w0) (k + 1) f fd (n0 :: ps) (spN K cl T j (runN N.length m)) := by
  subst hj
  refine F.ok S (fun vs H Q E h => ?_) (fun cdv A outer s H vs Q E hr h => ?_)
  · obtain ⟨ap, HP, H0, Hs, ds, w, a, dx, c, us, rfl, _, _, _, _, _, _, _, _, _, _, r, hn, _⟩ := h
    rw [List.length_cons, List.length_cons, r.length, hn]
  · obtain ⟨ap, HP, H0, Hs, ds, w, a, dx, c, us, rfl, ha, hd, hne, sa, sdx, z1, z2, z3, z4, b, r, hn, post⟩ := h
    obtain ⟨t, J⟩ := hb cdv A outer s H E ap HP H0 Hs a hr
    have b' : B (ghN K cl T ap HP H0 Hs a) w H Hs := ⟨b.sub, b.sub0, b.keep, b.new, b.pen, b.penH, b.nt, b.tab⟩
    have hst : L2.start (n0 :: N) (V.ref a :: us) = some (.ref a) :: L2.start N us := by
      unfold L2.start
      rw [List.map_cons, List.length_cons, List.length_cons, Nat.add_sub_add_right]; rfl
    have s0 := sl_start (G := ghN K cl T ap HP H0 Hs a) (N := N) (H := H) r (by rw [hn]; exact hps)
    have mn : ∀ {x : Addr} {o : HO}, H x = some o → Plain o → Hs x = none → H0 x = none → ap ≠ some x → Mine (ghN K cl T ap HP H0 Hs a) H Hs x o := fun {x o} h1 p h2 h3 h4 => ⟨h1, p.nt, p.nl, p.nc, h2, fun o' e => (by
      rw [show H0 x = some o' from e] at h3; cases h3), h4⟩
    have pv : Priv (ghN K cl T ap HP H0 Hs a) H Hs (.ins c [] []) (.ref a) := by
      refine ⟨a, _, rfl, ⟨rfl, dx, [], rfl, rfl, rfl⟩, fun q hq => ?_⟩
      rcases List.mem_cons.mp hq with rfl | hq
      · exact mn ha plain_ins sa z1 z3
      · rw [List.mem_singleton] at hq
        subst hq
        exact mn hd plain_own sdx z2 z4
    refine ⟨t, J.pe, J.si (sdN N.length c ds) w _ H Hs _ ⟨b', ?_⟩ ?_⟩
    · rw [hst]
      exact s0.consPrv (fun i p => sd0_prv i p) pv
    · unfold runN at post
      cases e : m (sdN N.length c ds) w with
      | nx sd' w' =>
        rw [e] at post
        simp only [outN] at post
        split at post
        · rename_i c' ns es hi
          split at post
          · rename_i hc
            subst hc
            intro σ' H' Hs' rs _
            obtain ⟨v, h1, a', ft, rfl, ⟨hsf, dx', fs, rfl, h3, h4⟩, h5⟩ := rs.s.prv 0 _ hi
            cases hsf
            have hA := h5 _ List.mem_cons_self
            have hB := h5 _ (List.mem_cons_of_mem _ List.mem_cons_self)
            have b2 : B (gh K cl T ap HP H0 Hs) w' H' Hs' := ⟨rs.b.sub, rs.b.sub0, rs.b.keep, rs.b.new, rs.b.pen, rs.b.penH, rs.b.nt, rs.b.tab⟩
            exact post H' Hs' dx' fs b2 hA.at_ hB.at_ hA.ns hB.ns h3 h4
          · exact post.elim
        · exact post.elim
      | ret d w' => rw [e] at post; exact post.elim
      | brk sd' w' => rw [e] at post; exact post.elim
      | cnt sd' w' => rw [e] at post; exact post.elim
      | exc sd' c ns ds w' =>
        rw [e] at post
        intro dd σ' H' Hs' rs q
        have b2 : B (gh K cl T ap HP H0 Hs) w' H' Hs' := ⟨rs.b.sub, rs.b.sub0, rs.b.keep, rs.b.new, rs.b.pen, rs.b.penH, rs.b.nt, rs.b.tab⟩
        exact post dd H' Hs' b2 q
      | bad => rw [e] at post; exact post.elim
theorem funD_of {x qual : Str} {st : Stmt} {f : Addr} {fd : FuncData} (F : Fun K x qual st f fd) : FunD K x qual (defArgs st) (defBody st) (defScope st) [] [] f fd := by
  obtain ⟨oc, od, kV, doc, pm, an, cdv, ct, osl, e, lk, hcd⟩ := F.ex
  exact ⟨⟨oc, od, .none, kV, doc, pm, an, cdv, ct, osl, e, lk, hcd, .inl ⟨rfl, rfl⟩, .inl rfl⟩, F.kp⟩
theorem ok_initN {x qual : Str} {st : Stmt} {f : Addr} {fd : FuncData} {n0 : Str} {N ps : List Str} {k j : Nat} {cl : Nat → Addr} {T : List (Addr × Str)} {m : MS} (F : Fun K x qual st f fd) (S : FnScope (n0 :: N) (n0 :: ps) (defScope st)) (hj : ps.length = j) (hps : ps.length ≤ N.length)
    (hb : ∀ (cdv : Value) (A : Around) (outer : List Env) (s : Shared) (H : Hp) (E : XK) (ap : Option Addr) (HP H0 Hs : Hp) (a : Addr), Room k (A.deeper (envOfC qual (defScope st) s.heap.objs.size f cdv)) →
      ∃ t, JSs (cxOf (L2.CX P w0) P w0 K mg base (n0 :: N) qual (defScope st) f cdv A outer s H E) (ghN K cl T ap HP H0 Hs a) (fun c d _ H => E c d H) (defBody st) t m) :
    FnOk P w0 K mg base (L2.CX P w0) (k + 1) f fd (n0 :: ps) (spN K cl T j (runN N.length m)) := ok_initD (funD_of F) S hj hps hb
end
end FT
end
section
set_option Elab.async false
set_option linter.all false
set_option maxRecDepth 100000
set_option maxHeartbeats 4000000
namespace FT
open PySem PySem.Spec PyProof.Rows L2
section
variable {X : Cx} {G : Gh} {Wx : WX} {w w' w1 w2 : List D} {H Hs H' Hs' H1 Hs1 H2 Hs2 : Hp} {sd : SD} {σ : L2.St}
variable {e o a b : Expr} {te ta tb : TE} {m mo mb : ME D} {es rest : List Expr} {t tk : TA} {ma mk : ME (List D)} {x mn : Str} {k n j : Nat} {f C : Addr} {fd : FuncData} {ps ks : List Str} {idx : List Nat} {dv : List D} {dvs : List V} {kws : List Keyword} {p pos kpos apos : Pos}
/-! ### C(..) -/
def nArgN (n : Nat) (f : Nat → List D → List D → R (List Str × List D)) : Nat → List D → List D → R (List Str × List D) := fun c ds w => if ds.length = n then f c ds w else .bad
def mMakeG (c n m : Nat) (idx : List Nat) (dv : List D) (f : Nat → List D → List D → R (List Str × List D)) (ma mk : ME (List D)) : ME D := fun sd w => (ma sd w).bind fun ds w1 => (mk sd w1).bind fun es w2 => if ds.length = n ∧ es.length = m then (f c (pick idx (ds ++ es ++ dv)) w2).bind fun r w3 => .ok (.obj c r.1 r.2) w3 else .bad
theorem sim_makeG {m' c : Nat} {fm : Nat → List D → List D → R (List Str × List D)} (hdv : flatRL dv dvs = true) (ha : Sim G Wx (ρA G) t ma) (hk : Sim G Wx (ρA G) tk mk) :
    Sim G Wx (ρE G) (tMakeG (G.c.cl c) n m' (spN G.c.K G.c.cl G.T j fm) (0 :: idx.map (· + 1)) dvs (WE Wx) t tk) (mMakeG c n m' idx dv (nArgN j fm) ma mk) := by
  intro sd w σ H Hs Q rs post
  refine ha.bind rs post fun ds w1 vs H1 Hs1 rs1 b1 q1 post1 => ?_
  refine hk.bind rs1 post1 fun es w2 zs H2 Hs2 rs2 b2 q2 post2 => ?_
  split at post2
  · rename_i hl
    refine ⟨by rw [q1.length]; exact hl.1, by rw [q2.length]; exact hl.2, fun x dx hx hdx hne => ?_⟩
    rw [List.append_assoc, List.cons_append, pick_self, ← List.append_assoc]
    have B1 := rs2.b.allocOwn (o := .own x) hdx
    have hx' : upd H2 dx (.own x) x = none := by rw [upd_ne (Ne.symm hne)]; exact hx
    have B2 := B1.trans (B1.refl_at.allocOwn (o := .ins (G.c.cl c) dx []) hx')
    have ns : ∀ {y : Addr}, H2 y = none → Hs2 y = none := fun {y} hy => by
      cases e : Hs2 y with
      | none => rfl
      | some o => rw [rs2.b.sub _ _ e] at hy; cases hy
    have nap : ∀ {y : Addr}, H2 y = none → G.c.ap ≠ some y := fun {y} hy e => by
      obtain ⟨⟨vs, h1, _⟩, _⟩ := rs2.b.pen y e
      rw [h1] at hy; cases hy
    unfold nArgN at post2
    split at post2
    · rename_i hn
      refine ⟨G.c.ap, G.HP, H2, Hs2, _, w2, x, dx, c, _, rfl, upd_same, by rw [upd_ne hne, upd_same], hne, ns hx, ns hdx, hx, hdx, nap hx, nap hdx, B2.noSf, pick_rep (((q1.mono b2.sub0).append q2).append (flatRL_rep hdv)) idx, hn, ?_⟩
      cases e : fm c (pick idx (ds ++ es ++ dv)) w2 with
      | ok r w' =>
        rw [e] at post2
        intro H' Hs' dx' fs b h1 h2 h3 h4 h5 h6
        refine ⟨rfl, ?_⟩
        have b' := b.toSf (G := G)
        have hf : ∀ o', H2 x = some o' → ¬ NoT o' := fun o' e => by rw [hx] at e; cases e
        exact post2 _ H' _ (b'.share h1 plain_ins.nt h3 hf (nap hx)) ⟨x, dx', fs, rfl, upd_same, h5, h6.mono (same_share h3)⟩
      | exc c' ns' ds' w' =>
        rw [e] at post2
        intro dd H' Hs' b q
        exact post2 dd H' Hs' (b.toSf (G := G)) q
      | bad => rw [e] at post2; exact post2.elim
    · exact post2.elim
  · exact post2.elim
theorem je_makeG {c : Nat} {fm : Nat → List D → List D → R (List Str × List D)} (M : Mk X.K (G.c.cl c) f) (F : FnOk X.prog X.w X.K X.mg X.base (L2.CX X.prog X.w) k f fd ps (spN G.c.K G.c.cl G.T j fm)) (hr : Room (k + 1) X.A) (hm : X.mg x = some (.ref (G.c.cl c))) (hb : KBd X.K fd ps (n + 1) ks (0 :: idx.map (· + 1)) dvs) (hdv : flatRL dv dvs = true) (tkk : Takes X Wx)
    (ha : JA X G Wx (e :: es) t ma) (hkw : JK X G Wx kws tk mk) (hg : Gl X x := by rfl) (hall : (backToKw pos (keywordEach kws X.env)).all (·.1.isSome) = true := by rfl) (hks : (backToKw pos (keywordEach kws X.env)).filterMap (·.1) = ks := by rfl)
    (hdb : (x == ("__debug__" : Str)) = false := by decide) (he : starEach (e :: es) X.env = (false, eval e X.env) :: starEach es X.env := by rfl)
    (hpl : ((backTo pos (starEach (e :: es) X.env)).any (·.1) || (backToKw pos (keywordEach kws X.env)).any (·.1.isNone)) = false := by rfl) :
    JE X G Wx (.Call (.Name x p) (e :: es) kws pos) (tMakeG (G.c.cl c) n ks.length (spN G.c.K G.c.cl G.T j fm) (0 :: idx.map (· + 1)) dvs (WE Wx) t tk) (mMakeG c n ks.length idx dv (nArgN j fm) ma mk) :=
  ⟨pe_makeG M F hr hg hm hb (fun σ => passAt tkk σ) ha.pe hkw.pe hall hks hdb he hpl, sim_makeG hdv ha.si hkw.si⟩
theorem je_makeG0 {c : Nat} {fm : Nat → List D → List D → R (List Str × List D)} (M : Mk X.K (G.c.cl c) f) (F : FnOk X.prog X.w X.K X.mg X.base (L2.CX X.prog X.w) k f fd ps (spN G.c.K G.c.cl G.T j fm)) (hr : Room (k + 1) X.A) (hm : X.mg x = some (.ref (G.c.cl c))) (hb : KBd X.K fd ps 1 ks (0 :: idx.map (· + 1)) dvs) (hdv : flatRL dv dvs = true) (tkk : Takes X Wx)
    (hkw : JK X G Wx kws tk mk) (hg : Gl X x := by rfl) (hall : (backToKw pos (keywordEach kws X.env)).all (·.1.isSome) = true := by rfl) (hks : (backToKw pos (keywordEach kws X.env)).filterMap (·.1) = ks := by rfl)
    (hdb : (x == ("__debug__" : Str)) = false := by decide) (hpl : ((backTo pos (starEach [] X.env)).any (·.1) || (backToKw pos (keywordEach kws X.env)).any (·.1.isNone)) = false := by rfl) :
    JE X G Wx (.Call (.Name x p) [] kws pos) (tMakeG (G.c.cl c) 0 ks.length (spN G.c.K G.c.cl G.T j fm) (0 :: idx.map (· + 1)) dvs (WE Wx) tNil tk) (mMakeG c 0 ks.length idx dv (nArgN j fm) mNil mk) :=
  ⟨pe_makeG0 M F hr hg hm hb (fun σ => passAt tkk σ) hkw.pe hall hks hdb hpl, sim_makeG hdv (ja_nil (X := X)).si hkw.si⟩
/-! ### == by an own __eq__ -/
theorem cx_noS {P : Program} {w : World} {st : List Env} {H : Hp} {s : Shared} {e : Value} {s' : Shared} (h : L2.CX P w st H s (fun _ _ _ => False) e s') : False := by
  obtain ⟨_, _, _, _, _, _, _, _, _, _, _, _, h⟩ := h
  exact h
def rOwnEq (C : Addr) (sp : Sp) : R2 := fun x y H Q => ∃ (a b dx dy : Addr) (fs gs : List (Str × V)), x = .ref a ∧ y = .ref b ∧ H a = some (.ins C dx fs) ∧ H b = some (.ins C dy gs) ∧ sp [x, y] H (fun v H' => (∃ z, v = .bl z) ∧ Q v H') (fun _ _ _ => False)
theorem op_ownEq {sp : Sp} (F : FnOk X.prog X.w X.K X.mg X.base (L2.CX X.prog X.w) k f fd ps sp) (hr : Room k X.A) (hs : PySem.W.findIn X.K (.ref C) "__eq__" = some (some (.ref f))) (hf : PySem.W.isFn X.K (.ref f) = true) (hb : L2.Binds X.K fd ps []) : OpR X (compareOp .Eq) (rOwnEq C sp) := by
  intro pins s σ H x y v u Q I rx ry hq
  obtain ⟨a, b, dx, dy, fs, gs, rfl, rfl, ha, hb', hsp⟩ := hq
  cases rx
  cases ry
  obtain ⟨mA, J, _⟩ := ins_get I.hok ha
  obtain ⟨mB, J', _⟩ := ins_get I.hok hb'
  obtain ⟨od, J, _⟩ := J.look
  obtain ⟨od', J', _⟩ := J'.look
  obtain ⟨m, hF⟩ := I.fr
  show wpAny (model X.prog X.w) X.A (richCompare .Eq (.ref a) (.ref b)) (EP X pins σ Q) X.xe s
  refine PySem.W.cmp_K (op := .Eq) (tb := .ref C) hr.units0 hF I.ok.mod.kin J J'.type (by simp [PySem.W.notFirst]) hs hf ?_
  have r2 : Vals [V.ref a, V.ref b] [Value.ref a, Value.ref b] := .cons rfl (.cons rfl .nil)
  refine wpAny_mono (run_fn (dvs := []) (ds := []) F hr hb .nil (fun _ _ _ _ _ _ _ hq => (cx_noS hq).elim) I r2 hsp) (fun r s' z => ?_) fun _ _ x => x
  obtain ⟨v, H', I', rv, ⟨z, rfl⟩, q⟩ := z
  cases rv
  exact ⟨.bl z, H', I', rfl, q⟩
def mEqO (c : Nat) (f : List D → List D → R D) (ma mb : ME D) : ME D := fun sd w => (ma sd w).bind fun a w1 => (mb sd w1).bind fun b w2 => match a, b with
  | .obj c1 n1 d1, .obj c2 n2 d2 => if c1 = c ∧ c2 = c then (match f [.obj c1 n1 d1, .obj c2 n2 d2] w2 with
    | .ok (.bl r) w3 => .ok (.bl r) w3
    | _ => .bad) else .bad
  | _, _ => .bad
theorem sim_eqO {c : Nat} {fm : List D → List D → R D} {mA : ME D} (ha : Sim G Wx (ρB G) ta mA) (hb : Sim G Wx (ρB G) tb mb) : Sim G Wx (ρE G) (tOp (rOwnEq (G.c.cl c) (spF G.c.K G.c.cl G.T 2 fm)) ta tb) (mEqO c fm mA mb) := by
  intro sd w σ H Hs Q rs post
  refine ha.bind rs post fun d1 w1 x H1 Hs1 rs1 b1 q1 post1 => ?_
  refine hb.bind rs1 post1 fun d2 w2 y H2 Hs2 rs2 b2 q2 post2 => ?_
  split at post2
  · rename_i c1 n1 e1 c2 n2 e2
    split at post2
    · rename_i hc
      obtain ⟨rfl, rfl⟩ := hc
      obtain ⟨p1, dx, fs, rfl, h1, h2, h3⟩ := RepB.step q1 b2
      obtain ⟨p2, dy, gs, rfl, g1, g2, g3⟩ := q2
      refine ⟨p1, p2, dx, dy, fs, gs, rfl, rfl, rs2.b.sub _ _ h1, rs2.b.sub _ _ g1, ?_⟩
      refine ⟨G.c.ap, G.HP, Hs2, [.obj c2 n1 e1, .obj c2 n2 e2], w2, rs2.b.refl_at.noSf, ⟨_, _, rfl, ⟨p1, dx, fs, rfl, h1, h2, h3⟩, RepL.one ⟨p2, dy, gs, rfl, g1, g2, g3⟩⟩, rfl, ?_⟩
      cases e : fm [.obj c2 n1 e1, .obj c2 n2 e2] w2 with
      | ok d w3 =>
        rw [e] at post2
        cases d with
        | bl r => exact fun v H' Hs' b q => ⟨⟨r, q⟩, post2 v H' Hs' (b.toSf (G := G)) q⟩
        | _ => exact post2.elim
      | exc c' ns ds w3 => rw [e] at post2; exact post2.elim
      | bad => rw [e] at post2; exact post2.elim
    · exact post2.elim
  · exact post2.elim
theorem je_eqO {c : Nat} {fm : List D → List D → R D} {mA : ME D} (F : FnOk X.prog X.w X.K X.mg X.base (L2.CX X.prog X.w) k f fd ps (spF G.c.K G.c.cl G.T 2 fm)) (hr : Room k X.A) (hs : PySem.W.findIn X.K (.ref (G.c.cl c)) "__eq__" = some (some (.ref f))) (hf : PySem.W.isFn X.K (.ref f) = true) (hb : L2.Binds X.K fd ps [])
    (ha : JB X G Wx a ta mA) (hbb : JB X G Wx b tb mb) : JE X G Wx (.Compare a [.Eq] [b] pos) (tOp (rOwnEq (G.c.cl c) (spF G.c.K G.c.cl G.T 2 fm)) ta tb) (mEqO c fm mA mb) :=
  ⟨pe_cmpR (op_ownEq F hr hs hf hb) ha.pe hbb.pe (nomark _), sim_eqO ha.si hbb.si⟩
theorem jc_eqO {c : Nat} {fm : List D → List D → R D} {mA : ME D} (F : FnOk X.prog X.w X.K X.mg X.base (L2.CX X.prog X.w) k f fd ps (spF G.c.K G.c.cl G.T 2 fm)) (hr : Room k X.A) (hs : PySem.W.findIn X.K (.ref (G.c.cl c)) "__eq__" = some (some (.ref f))) (hf : PySem.W.isFn X.K (.ref f) = true) (hb : L2.Binds X.K fd ps [])
    (ha : JB X G Wx a ta mA) (hbb : JB X G Wx b tb mb) : JC X G Wx (.Compare a [.Eq] [b] pos) (tOp (rOwnEq (G.c.cl c) (spF G.c.K G.c.cl G.T 2 fm)) ta tb) (mEqO c fm mA mb) :=
  ⟨pt_cmpR (op_ownEq F hr hs hf hb) ha.pe hbb.pe (nomark _), sim_eqO ha.si hbb.si⟩
end
end FT
end
section
set_option Elab.async false
set_option linter.all false
set_option maxRecDepth 100000
set_option maxHeartbeats 4000000
namespace FT
open PySem PySem.Spec PyProof.Rows L2
/-! ### keys -/
def keyD : D → Option KD
  | .int i => some (.inl i)
  | .str s => some (.inr s)
  | _ => none
theorem keyD_rep {c : Cc} {H : Hp} {d : D} {v : V} {k : KD} (r : Rep c H d v) (e : keyD d = some k) : v = kV (toK k) ∧ KOk k := by
  cases d with
  | int i => cases e; exact ⟨r, trivial⟩
  | str s => cases e; exact ⟨r.1, r.2⟩
  | _ => cases e
theorem toK_inj {a b : KD} (h : toK a = toK b) : a = b := by
  cases a with
  | inl i => cases b with
    | inl j => rw [Sum.inl.inj h]
    | inr s => cases h
  | inr s => cases b with
    | inl j => cases h
    | inr t =>
      have h1 : (⟨s.toArray⟩ : Str) = ⟨t.toArray⟩ := Sum.inr.inj h
      injection h1 with h2
      have := congrArg Array.toList h2
      simp at this
      rw [this]
/-- what stands at a key -/
def lookD (k : KD) : List KD → List D → Option D
  | a :: ks, d :: ds => if a = k then some d else lookD k ks ds
  | _, _ => none
theorem valV_cons {κ : Type} [DecidableEq κ] (a k : κ) (v : V) (r : List (κ × V)) : valV ((a, v) :: r) k = if a = k then some v else valV r k := by
  unfold valV
  rw [List.find?_cons]
  by_cases h : a = k
  · simp [h]
  · simp [h]
theorem lookD_rep {c : Cc} {H : Hp} (k : KD) : ∀ {kvs : List (Key × V)} {ks : List KD} {ds : List D}, kvs.map (·.1) = ks.map toK → RepL c H ds (kvs.map (·.2)) → match lookD k ks ds with
    | some d => ∃ v, valV kvs (toK k) = some v ∧ Rep c H d v
    | none => valV kvs (toK k) = none
  | [], [], ds, _, _ => by
    cases ds <;> rfl
  | [], _ :: _, _, h, _ => by cases h
  | _ :: _, [], _, h, _ => by cases h
  | (a, v) :: r, b :: ks, [], h, e => by cases e
  | (a, v) :: r, b :: ks, d :: ds, h, ⟨u, us, e1, h2, h3⟩ => by
    rw [List.map_cons, List.map_cons] at h
    rw [List.map_cons] at e1
    obtain ⟨ha, hr⟩ := List.cons.inj h
    obtain ⟨hu, hus⟩ := List.cons.inj e1
    subst hu; subst hus
    rw [valV_cons]
    show match (if b = k then some d else lookD k ks ds) with
      | some d => _
      | none => _
    by_cases q : b = k
    · subst q
      rw [if_pos rfl, if_pos ha]
      exact ⟨_, rfl, h2⟩
    · rw [if_neg q, if_neg (fun z => q (toK_inj (ha.symm.trans z)))]
      exact lookD_rep k hr h3
def putKs (k : KD) (ks : List KD) : List KD := if ks.any (fun a => decide (a = k)) = true then ks else ks ++ [k]
def putDs (k : KD) (d : D) (ks : List KD) (ds : List D) : List D := if ks.any (fun a => decide (a = k)) = true then List.zipWith (fun a e => if a = k then d else e) ks ds else ds ++ [d]
theorem any_toK (k : KD) : ∀ {kvs : List (Key × V)} {ks : List KD}, kvs.map (·.1) = ks.map toK → kvs.any (fun kv => decide (kv.1 = toK k)) = ks.any (fun a => decide (a = k))
  | [], [], _ => rfl
  | [], _ :: _, h => by cases h
  | _ :: _, [], h => by cases h
  | (a, v) :: r, b :: ks, h => by
    rw [List.map_cons, List.map_cons] at h
    obtain ⟨ha, hr⟩ := List.cons.inj h
    have ha : a = toK b := ha
    rw [List.any_cons, List.any_cons, any_toK k hr]
    congr 1
    rw [ha]
    by_cases q : b = k
    · simp [q]
    · simp [q]
      exact fun z => q (toK_inj z)
theorem zip_rep {c : Cc} {H : Hp} {k : KD} {d : D} {v : V} (h : Rep c H d v) : ∀ {kvs : List (Key × V)} {ks : List KD} {ds : List D}, kvs.map (·.1) = ks.map toK → RepL c H ds (kvs.map (·.2)) →
    RepL c H (List.zipWith (fun a e => if a = k then d else e) ks ds) ((kvs.map fun kv => if kv.1 = toK k then (kv.1, v) else kv).map (·.2))
  | [], [], ds, _, e => by
    have : ds = [] := by
      have := e.length
      simp at this
      exact List.length_eq_zero_iff.mp this.symm
    subst this; rfl
  | [], _ :: _, _, h, _ => by cases h
  | _ :: _, [], _, h, _ => by cases h
  | (a, v) :: r, b :: ks, [], _, e => by cases e
  | (a, v2) :: r, b :: ks, d2 :: ds, h', ⟨u, us, e1, h2, h3⟩ => by
    rw [List.map_cons, List.map_cons] at h'
    rw [List.map_cons] at e1
    obtain ⟨ha, hr⟩ := List.cons.inj h'
    have ha : a = toK b := ha
    obtain ⟨hu, hus⟩ := List.cons.inj e1
    have hu : v2 = u := hu
    subst hu; subst hus
    rw [List.zipWith_cons_cons, List.map_cons, List.map_cons]
    by_cases q : b = k
    · subst q
      rw [if_pos rfl, if_pos ha]
      exact ⟨_, _, rfl, h, zip_rep h hr h3⟩
    · rw [if_neg q, if_neg (fun z => q (toK_inj (ha.symm.trans z)))]
      exact ⟨_, _, rfl, h2, zip_rep h hr h3⟩
theorem putK_rep {c : Cc} {H : Hp} {k : KD} {d : D} {v : V} (h : Rep c H d v) {kvs : List (Key × V)} {ks : List KD} {ds : List D} (e : kvs.map (·.1) = ks.map toK) (r : RepL c H ds (kvs.map (·.2))) :
    (putK kvs (toK k) v).map (·.1) = (putKs k ks).map toK ∧ RepL c H (putDs k d ks ds) ((putK kvs (toK k) v).map (·.2)) := by
  unfold putK putKs putDs
  rw [any_toK k e]
  by_cases q : ks.any (fun a => decide (a = k)) = true
  · rw [if_pos q, if_pos q, if_pos q]
    refine ⟨?_, zip_rep h e r⟩
    rw [List.map_map, ← e]
    refine List.map_congr_left fun kv _ => ?_
    show (if kv.1 = toK k then (kv.1, v) else kv).1 = kv.1
    split <;> rfl
  · rw [if_neg q, if_neg q, if_neg q]
    refine ⟨by rw [List.map_append, List.map_append, e]; rfl, ?_⟩
    rw [List.map_append]
    exact r.append (RepL.one h)
theorem putKs_ok {k : KD} (hk : KOk k) {ks : List KD} (h : ∀ a ∈ ks, KOk a) : ∀ a ∈ putKs k ks, KOk a := fun a ha => by
  unfold putKs at ha
  split at ha
  · exact h a ha
  · rcases List.mem_append.mp ha with ha | ha
    · exact h a ha
    · rw [List.mem_singleton.mp ha]; exact hk
section
variable {X : Cx} {G : Gh} {Wx : WX} {w w' w1 w2 : List D} {H Hs H' Hs' H1 Hs1 H2 Hs2 : Hp} {sd : SD} {σ : L2.St}
variable {e o a b : Expr} {te ta tb tc : TE} {m mo mb mc : ME D} {pos cpos apos : Pos}
/-! ### in, get -/
def rInK : R2 := fun x y H Q => ∃ a o, y = .ref a ∧ DGet H a x o ∧ Q (.bl o.isSome) H
def rNotInK : R2 := fun x y H Q => ∃ a o, y = .ref a ∧ DGet H a x o ∧ Q (.bl (!o.isSome)) H
theorem op_inK (hu : X.A.units + 1 < cLine) : OpR X (compareOp .In) rInK := fun pins s σ H x y v u Q I rx ry ⟨a, o, ey, g, q⟩ => by
  subst ey
  obtain rfl : u = Value.ref a := ry
  exact d_in hu I g rx fun s3 I3 => ⟨.bl o.isSome, H, I3, rfl, q⟩
theorem op_notInK (hu : X.A.units + 1 < cLine) : OpR X (compareOp .NotIn) rNotInK := fun pins s σ H x y v u Q I rx ry ⟨a, o, ey, g, q⟩ => by
  subst ey
  obtain rfl : u = Value.ref a := ry
  exact d_notIn hu I g rx fun s3 I3 => ⟨.bl (!o.isSome), H, I3, rfl, q⟩
def oInK (neg : Bool) : D → D → Option D
  | a, .dct ks ds => match keyD a with
    | some k => some (.bl (if neg then !(lookD k ks ds).isSome else (lookD k ks ds).isSome))
    | none => none
  | _, _ => none
theorem dget_of {c : Cc} {k : KD} {ks : List KD} {ds : List D} {p : Addr} {kvs : List (Key × V)} (hp : H p = some (.dK kvs)) (h3 : kvs.map (·.1) = ks.map toK) (h4 : RepL c Hs ds (kvs.map (·.2))) : ∃ o, DGet H p (kV (toK k)) o ∧ o.isSome = (lookD k ks ds).isSome ∧ (∀ d, lookD k ks ds = some d → ∃ v, o = some v ∧ Rep c Hs d v) ∧ (lookD k ks ds = none → o = none) := by
  have := lookD_rep (c := c) (H := Hs) k h3 h4
  cases e : lookD k ks ds with
  | none =>
    rw [e] at this
    exact ⟨_, DGet.k hp, by rw [this]; rfl, fun d h => (by cases h), fun _ => this⟩
  | some d =>
    rw [e] at this
    obtain ⟨v, h1, h2⟩ := this
    exact ⟨_, DGet.k hp, by rw [h1]; rfl, fun d' h => (by cases h; exact ⟨v, h1, h2⟩), fun h => (by cases h)⟩
theorem opd_inK (neg : Bool) : OpD G (if neg then rNotInK else rInK) (oInK neg) := by
  intro w H Hs x y a b d Q hb h1 h2 e q
  unfold oInK at e
  split at e
  · rename_i ks ds
    cases hk : keyD a with
    | none => rw [hk] at e; cases e
    | some k =>
      rw [hk] at e
      have h1' : Rep G.c Hs a x := by
        cases a <;> first | exact h1 | cases hk
      obtain ⟨rfl, ok⟩ := keyD_rep h1' hk
      obtain ⟨p, kvs, rfl, hp, ⟨h3, _⟩, h4⟩ := h2
      obtain ⟨o, g, e1, _, _⟩ := dget_of (k := k) (hb.sub _ _ hp) h3 h4
      cases neg with
      | true =>
        cases e
        refine ⟨p, o, rfl, g, ?_⟩
        rw [e1]; exact q _ H Hs hb.refl_at rfl
      | false =>
        cases e
        refine ⟨p, o, rfl, g, ?_⟩
        rw [e1]; exact q _ H Hs hb.refl_at rfl
  · cases e
end
end FT
end
section
set_option Elab.async false
set_option linter.all false
set_option maxRecDepth 100000
set_option maxHeartbeats 4000000
namespace FT
open PySem PySem.Spec PyProof.Rows L2
section
variable {X : Cx} {G : Gh} {Wx : WX} {w w' w1 w2 : List D} {H Hs H' Hs' H1 Hs1 H2 Hs2 : Hp} {sd : SD} {σ : L2.St}
variable {e o a b : Expr} {te ta tb tc : TE} {m mo mb mc mA : ME D} {pos cpos apos : Pos}
theorem je_inK {k : Nat} (hr : Room k X.A) (ha : JB X G Wx a ta mA) (hb : JB X G Wx b tb mb) (hm : behindInMarks .In b = false := by with_unfolding_all rfl) : JE X G Wx (.Compare a [.In] [b] pos) (tOp rInK ta tb) (mBin (oInK false) mA mb) :=
  je_cmp (op_inK (by have := hr.un; omega)) (opd_inK false) ha hb hm
theorem jc_inK {k : Nat} (hr : Room k X.A) (ha : JB X G Wx a ta mA) (hb : JB X G Wx b tb mb) (hm : behindInMarks .In b = false := by with_unfolding_all rfl) : JC X G Wx (.Compare a [.In] [b] pos) (tOp rInK ta tb) (mBin (oInK false) mA mb) :=
  jc_cmp (op_inK (by have := hr.un; omega)) (opd_inK false) ha hb hm
theorem jc_notinK {k : Nat} (hr : Room k X.A) (ha : JB X G Wx a ta mA) (hb : JB X G Wx b tb mb) (hm : behindInMarks .NotIn b = false := by with_unfolding_all rfl) : JC X G Wx (.Compare a [.NotIn] [b] pos) (tOp rNotInK ta tb) (mBin (oInK true) mA mb) :=
  jc_cmp (op_notInK (by have := hr.un; omega)) (opd_inK true) ha hb hm
def mGet2 (mo mk md : ME D) : ME D := fun sd w => (mo sd w).bind fun o w1 => match o with
  | .dct ks ds => (mk sd w1).bind fun a w2 => (md sd w2).bind fun d w3 => (match keyD a with
    | some k => (match lookD k ks ds with
      | some e => .ok e w3
      | none => .ok d w3)
    | none => .bad)
  | _ => .bad
theorem je_get2 {f : Expr} {tx : TE} {mf : ME D} {k : Nat} (hr : Room k X.A) (ho : JE X G Wx o ta mo) (he : JE X G Wx e te m) (hf : JE X G Wx f tx mf)
    (hbase : attributeBase o "get" X.env (eval o X.env) = eval o X.env := by rfl)
    (hfew : ((backTo cpos (starEach [e, f] X.env)).all (fun x => !x.1) && (backToKw cpos (keywordEach [] X.env)).all (fun x => x.1.isSome)
      && decide (([e, f] : List Expr).length + ([] : List Keyword).length + (if ([] : List Keyword).isEmpty then 0 else 1) < 30)) = true := by rfl)
    (hline : (apos.endLine == cpos.line) = true := by rfl) (htr : backTo cpos (starEach [e, f] X.env) = [(false, eval e X.env), (false, eval f X.env)] := by rfl) :
    JE X G Wx (.Call (.Attribute o "get" apos) [e, f] [] cpos) (tDGet2 ta te tx) (mGet2 mo m mf) := by
  refine ⟨pe_dget2 (by have := hr.un; omega) ho.pe he.pe hf.pe ⟨hbase, hfew, hline, htr⟩, fun sd w σ H Hs Q rs post => ?_⟩
  refine ho.si.bind rs post fun od w1 x H1 Hs1 rs1 b1 q1 post1 => ?_
  split at post1
  · rename_i ks ds
    obtain ⟨p, kvs, rfl, hp, ⟨h3, h3k⟩, h4⟩ := q1
    refine ⟨p, rfl, .inl ⟨kvs, .inl (rs1.b.sub _ _ hp)⟩, ?_⟩
    refine he.si.bind rs1 post1 fun kd w2 y H2 Hs2 rs2 b2 q2 post2 => ?_
    refine hf.si.bind rs2 post2 fun dd w3 z H3 Hs3 rs3 b3 q3 post3 => ?_
    cases hk : keyD kd with
    | none => rw [hk] at post3; exact post3.elim
    | some k =>
      rw [hk] at post3
      simp only at post3
      obtain ⟨rfl, ok⟩ := keyD_rep (q2.mono b3.sub0) hk
      obtain ⟨ov, g, _, e1, e2⟩ := dget_of (k := k) (rs3.b.sub _ _ (b3.sub0 _ _ (b2.sub0 _ _ hp))) h3 ((h4.mono b2.sub0).mono b3.sub0)
      refine ⟨ov, g, ?_⟩
      cases hl : lookD k ks ds with
      | none =>
        rw [hl] at post3
        rw [e2 hl]
        exact post3 z H3 Hs3 rs3.b.refl_at q3
      | some d =>
        rw [hl] at post3
        obtain ⟨v, rfl, r⟩ := e1 d hl
        exact post3 v H3 Hs3 rs3.b.refl_at r
  · exact post1.elim
/-! ### {k: v, ..} -/
abbrev ρP (G : Gh) : Hp → Hp → List (D × D) → List (V × V) → Prop := fun _ Hs ds ps => RepL G.c Hs (ds.map (·.1)) (ps.map (·.1)) ∧ RepL G.c Hs (ds.map (·.2)) (ps.map (·.2))
structure JPs (X : Cx) (G : Gh) (Wx : WX) (pos : Pos) (keys : List (Option Expr)) (values : List Expr) (trs : List (TE × TE)) (m : ME (List (D × D))) : Prop where
  pe : PPs X pos keys values trs
  si : Sim G Wx (ρP G) (tPairs trs) m
def mPNil : ME (List (D × D)) := fun _ w => .ok [] w
def mPCons (mk mv : ME D) (r : ME (List (D × D))) : ME (List (D × D)) := fun sd w => (mk sd w).bind fun a w1 => (mv sd w1).bind fun d w2 => (r sd w2).bind fun ps w3 => .ok ((a, d) :: ps) w3
theorem jps_nil : JPs X G Wx pos [] [] [] mPNil := ⟨pps_nil, fun sd w σ H Hs Q rs post => post [] H Hs rs.b.refl_at ⟨rfl, rfl⟩⟩
theorem jps_cons {keys : List (Option Expr)} {values : List Expr} {trs : List (TE × TE)} {mr : ME (List (D × D))} (hk : JE X G Wx a ta mA) (hv : JE X G Wx b tb mb) (hr : JPs X G Wx pos keys values trs mr) :
    JPs X G Wx pos (some a :: keys) (b :: values) ((ta, tb) :: trs) (mPCons mA mb mr) := by
  refine ⟨pps_cons hk.pe hv.pe hr.pe, fun sd w σ H Hs Q rs post => ?_⟩
  refine hk.si.bind rs post fun kd w1 x H1 Hs1 rs1 b1 q1 post1 => ?_
  refine hv.si.bind rs1 post1 fun vd w2 y H2 Hs2 rs2 b2 q2 post2 => ?_
  refine hr.si.bind rs2 post2 fun ps w3 vs H3 Hs3 rs3 b3 q3 post3 => ?_
  exact post3 ((x, y) :: vs) H3 Hs3 rs3.b.refl_at ⟨⟨_, _, rfl, (q1.mono b2.sub0).mono b3.sub0, q3.1⟩, ⟨_, _, rfl, q2.mono b3.sub0, q3.2⟩⟩
def dispD : List (D × D) → List KD → List D → Option (List KD × List D)
  | [], ks, ds => some (ks, ds)
  | (a, d) :: r, ks, ds => match keyD a with
    | some k => dispD r (putKs k ks) (putDs k d ks ds)
    | none => none
theorem dispD_rep {c : Cc} {H : Hp} : ∀ {ps : List (D × D)} {vs : List (V × V)} {ks : List KD} {ds : List D} {kvs0 : List (Key × V)} {r : List KD × List D}, RepL c H (ps.map (·.1)) (vs.map (·.1)) → RepL c H (ps.map (·.2)) (vs.map (·.2)) →
    kvs0.map (·.1) = ks.map toK → (∀ k ∈ ks, KOk k) → RepL c H ds (kvs0.map (·.2)) → dispD ps ks ds = some r →
    ∃ kvs : List (Key × V), vs = kvs.map (fun kv => (kV kv.1, kv.2)) ∧ kvs.length = ps.length ∧ (mergeK kvs0 kvs).map (·.1) = r.1.map toK ∧ (∀ k ∈ r.1, KOk k) ∧ RepL c H r.2 ((mergeK kvs0 kvs).map (·.2))
  | [], vs, ks, ds, kvs0, r, h1, h2, h3, h4, h5, e => by
    have : vs = [] := by
      have := h1.length
      simp at this
      exact this
    subst this
    cases e
    exact ⟨[], rfl, rfl, h3, h4, h5⟩
  | (a, d) :: ps, vs, ks, ds, kvs0, r, ⟨x, xs, hx, h1, h1'⟩, ⟨y, ys, hy, h2, h2'⟩, h3, h4, h5, e => by
    cases vs with
    | nil => cases hx
    | cons v vs =>
      obtain ⟨v1, v2⟩ := v
      rw [List.map_cons] at hx hy
      obtain ⟨hx1, hx2⟩ := List.cons.inj hx
      obtain ⟨hy1, hy2⟩ := List.cons.inj hy
      have hx1 : v1 = x := hx1
      have hy1 : v2 = y := hy1
      subst hx1; subst hy1; subst hx2; subst hy2
      simp only [dispD] at e
      cases hk : keyD a with
      | none => rw [hk] at e; cases e
      | some k =>
        rw [hk] at e
        obtain ⟨hv1, ok⟩ := keyD_rep h1 hk
        obtain ⟨g1, g2⟩ := putK_rep (k := k) h2 h3 h5
        obtain ⟨kvs, z1, z2, z3, z4, z5⟩ := dispD_rep h1' h2' g1 (putKs_ok ok h4) g2 e
        refine ⟨(toK k, v2) :: kvs, ?_, by rw [List.length_cons, List.length_cons, z2], ?_, z4, ?_⟩
        · rw [List.map_cons, ← z1, hv1]
        · exact z3
        · exact z5
def mDisp (m : ME (List (D × D))) : ME D := fun sd w => (m sd w).bind fun ps w1 => if ps.length ≤ 15 then (match dispD ps [] [] with
  | some r => .ok (.dct r.1 r.2) w1
  | none => .bad) else .bad
theorem je_disp {keys : List (Option Expr)} {values : List Expr} {trs : List (TE × TE)} {mp : ME (List (D × D))} (h : JPs X G Wx pos keys values trs mp) (hall : keys.all (·.isSome) = true := by rfl) (hl : keys.length = values.length := by rfl) (h0 : keys ≠ [] := by simp) (h15 : keys.length ≤ 15 := by decide) :
    JE X G Wx (.Dict keys values pos) (tDisp trs) (mDisp mp) := by
  refine ⟨pe_disp h.pe hall hl h0 h15, fun sd w σ H Hs Q rs post p hp => ?_⟩
  have ba := rs.b.allocOwn (o := .dK []) hp
  have ⟨hap, hsp⟩ := rs.b.none_live hp
  have rs0 := rs.step ba
  refine h.si sd w σ _ Hs _ rs0 ?_
  unfold mDisp at post
  cases e : mp sd w with
  | exc c ns ds w' => rw [e] at post; exact fun dd H' Hs' b q => post dd H' Hs' (ba.trans b) q
  | bad => rw [e] at post; exact post
  | ok ps w1 =>
    rw [e] at post
    intro vs H2 Hs2 b q
    have post : Post G Wx σ H Hs (ρE G) Q (if ps.length ≤ 15 then (match dispD ps [] [] with
      | some r => .ok (.dct r.1 r.2) w1
      | none => .bad) else .bad) := post
    split at post
    · rename_i h15
      cases ed : dispD ps [] [] with
      | none => rw [ed] at post; exact post.elim
      | some r =>
        rw [ed] at post
        have hk2 := b.keep p _ hap plain_dK.nt upd_same
        refine ⟨hk2, ?_⟩
        obtain ⟨kvs, z1, z2, z3, z4, z5⟩ := dispD_rep (kvs0 := []) (ks := []) (ds := []) q.1 q.2 rfl (fun k h => (by cases h)) (show RepL G.c Hs2 [] [] from rfl) ed
        refine ⟨kvs, z1, by rw [z2]; exact h15, ?_⟩
        have bb := ba.trans b
        have np := none_stay b upd_same plain_dK.nt hsp
        have mn : Mine (G.at_ H Hs) H2 Hs2 p (.dK []) := ⟨hk2, plain_dK.nt, plain_dK.nl, plain_dK.nc, np, fun o' e => (by rw [show H p = some o' from e] at hp; cases hp), hap⟩
        have bw := bb.writeMine (o' := .dK (mergeK [] kvs)) mn
        exact post _ _ _ (bw.share upd_same plain_dK.nt np (fun o' e => (by rw [show H p = some o' from e] at hp; cases hp)) hap) ⟨p, _, rfl, upd_same, ⟨z3, z4⟩, z5.mono (same_share np)⟩
    · exact post.elim
end
end FT
end
section
set_option Elab.async false
set_option linter.all false
set_option maxRecDepth 100000
set_option maxHeartbeats 4000000
namespace FT
open PySem PySem.Spec PyProof.Rows L2
/-! ### {k: v for x in xs if t} -/
def dcompL (g : D → SD → Option SD) (mt : ME Bool) (mk mv : ME D) (sd0 : SD) : List D → List KD → List D → List D → Option ((List KD × List D) × List D)
  | [], ks, vs, w => some ((ks, vs), w)
  | d :: ds, ks, vs, w => match g d sd0 with
    | none => none
    | some sd1 => match mt sd1 w with
      | .ok true w1 => (match mk sd1 w1 with
        | .ok a w2 => (match keyD a with
          | some k => (match mv sd1 w2 with
            | .ok e w3 => dcompL g mt mk mv sd0 ds (putKs k ks) (putDs k e ks vs) w3
            | _ => none)
          | none => none)
        | _ => none)
      | .ok false w1 => dcompL g mt mk mv sd0 ds ks vs w1
      | _ => none
def mDc (mi : ME (List D)) (g : D → SD → Option SD) (mt : ME Bool) (mk mv : ME D) (vs : List Nat) : ME D := fun sd w => (mi sd w).bind fun ds w1 => if ds.length ≤ 1000000 then (match dcompL g mt mk mv (wipeD sd vs) ds [] [] w1 with
  | some (r, w2) => .ok (.dct r.1 r.2) w2
  | none => .bad) else .bad
theorem putKs_len (k : KD) (ks : List KD) : (putKs k ks).length ≤ ks.length + 1 := by
  unfold putKs
  split
  · omega
  · simp
section
variable {X : Cx} {G : Gh} {Wx : WX} {w w' w1 w2 : List D} {H Hs H' Hs' H1 Hs1 H2 Hs2 : Hp} {sd : SD} {σ : L2.St}
theorem loopD_in {J : It} {ds : List D} {P : Hp → Hp → Prop} {g : D → SD → Option SD} {js vs : List Nat} {tgt : TG} {tt : TT} {mt : ME Bool} {tk tv : TE} {mk mv : ME D} {Hb Hsb : Hp} {wb : List D} {d : Addr} {acc : List (Key × V)} {accK : List KD} {accD : List D} {wF : List D} {rF : List KD × List D} {Qd : Hp → Prop}
    (wk : Walk G.c J ds P) (hst : ∀ w Hc Hs Hc' Hs', P Hc Hs → B (G.at_ Hb Hsb) w Hc' Hs' → Same Hs Hs' → P Hc' Hs') (hg : SimG G tgt g js) (hjs : ∀ j ∈ js, j ∈ vs) (ht : Sim G F0 ρT tt mt) (hk : Sim G F0 (ρE G) tk mk) (hv : Sim G F0 (ρE G) tv mv)
    (bG : B G wb Hb Hsb) (hd : Hb d = none) (no : NotOwn d sd σ) (b0 : B (G.at_ Hb Hsb) w H Hs) (s0 : SL G sd σ H Hs) (h0 : H d = some (.dK acc)) (r0 : (acc.map (·.1) = accK.map toK ∧ ∀ k ∈ accK, KOk k) ∧ RepL G.c Hs accD (acc.map (·.2))) (n0 : Hs d = none) (p0 : P H Hs) (hlen : accK.length + ds.length ≤ 1000000)
    (ec : dcompL g mt mk mv (wipeD sd vs) ds accK accD w = some (rF, wF)) (fin : ∀ Hc' Hs' acc', B (G.at_ Hb Hsb) wF Hc' Hs' → Same Hs Hs' → SL G sd σ Hc' Hs' → Hc' d = some (.dK acc') → ((acc'.map (·.1) = rF.1.map toK ∧ ∀ k ∈ rF.1, KOk k) ∧ RepL G.c Hs' rF.2 (acc'.map (·.2))) → Hs' d = none → Qd Hc') :
    ∃ W : Nat → Nat → Hp → Prop, (∃ m, W 0 m H) ∧ ∀ i m H, W i m H →
      (J.stop i H ∧ Qd H) ∨ (J.go i H ∧ ∃ Nx : Hp → Prop, (∀ H', Nx H' → ∃ m', m' < m ∧ W (i + 1) m' H') ∧ ∀ x H', J.yld i H x H' → tgt x (L2.wipe σ vs) H' fun σ2 H2 => L2.wipe σ2 vs = L2.wipe σ vs ∧ tt σ2 H2 fun b H3 =>
        if b = true then tk σ2 H3 fun y H4 => tv σ2 H4 fun z H5 => ∃ kvs k, y = kV k ∧ H5 d = some (.dK kvs) ∧ kvs.length < sizeLine ∧ Nx (upd H5 d (.dK (putK kvs k z))) else Nx H3) := by
  refine ⟨fun i m Hc => ∃ w Hsc acc1 accK1 accD1, B (G.at_ Hb Hsb) w Hc Hsc ∧ Same Hs Hsc ∧ SL G sd σ Hc Hsc ∧ Hc d = some (.dK acc1) ∧ ((acc1.map (·.1) = accK1.map toK ∧ ∀ k ∈ accK1, KOk k) ∧ RepL G.c Hsc accD1 (acc1.map (·.2))) ∧ Hsc d = none ∧ P Hc Hsc ∧ i + m = ds.length ∧ accK1.length ≤ accK.length + i ∧
      dcompL g mt mk mv (wipeD sd vs) (ds.drop i) accK1 accD1 w = some (rF, wF), ⟨ds.length, w, Hs, acc, accK, accD, b0, Same.refl _, s0, h0, r0, n0, p0, Nat.zero_add _, Nat.le_refl _, ec⟩, fun i m Hc h => ?_⟩
  obtain ⟨wc, Hsc, acc1, accK1, accD1, b, sm, s, hD, rD, nD, p, em, el, ecc⟩ := h
  have hap : G.c.ap ≠ some d := (bG.none_live hd).1
  cases ei : ds[i]? with
  | none =>
    have hi : ds.length ≤ i := List.getElem?_eq_none_iff.mp ei
    have e0 : i = ds.length := by omega
    subst e0
    rw [List.drop_length] at ecc
    simp only [dcompL, Option.some.injEq, Prod.mk.injEq] at ecc
    obtain ⟨rfl, rfl⟩ := ecc
    exact .inl ⟨wk.stop Hc Hsc p b.sub, fin Hc Hsc acc1 b sm s hD rD nD⟩
  | some x0 =>
    have hil : i < ds.length := (List.getElem?_eq_some_iff.mp ei).1
    have e1 : ds.drop i = x0 :: ds.drop (i + 1) := by
      rw [List.drop_eq_getElem_cons hil]
      rw [List.getElem?_eq_getElem hil] at ei
      rw [Option.some.inj ei]
    rw [e1] at ecc
    simp only [dcompL] at ecc
    obtain ⟨g1, g2⟩ := wk.go i x0 Hc Hsc ei p b.sub
    refine .inr ⟨g1, fun H' => ∃ w Hsc acc1 accK1 accD1, B (G.at_ Hb Hsb) w H' Hsc ∧ Same Hs Hsc ∧ SL G sd σ H' Hsc ∧ H' d = some (.dK acc1) ∧ ((acc1.map (·.1) = accK1.map toK ∧ ∀ k ∈ accK1, KOk k) ∧ RepL G.c Hsc accD1 (acc1.map (·.2))) ∧ Hsc d = none ∧ P H' Hsc ∧ accK1.length ≤ accK.length + (i + 1) ∧
      dcompL g mt mk mv (wipeD sd vs) (ds.drop (i + 1)) accK1 accD1 w = some (rF, wF), fun H' hN => ?_, fun x H' hy => ?_⟩
    · obtain ⟨w3, Hs3, a3, aK3, aD3, q1, q1b, q2, q3, q4, q5, q6, q7, q8⟩ := hN
      exact ⟨m - 1, by omega, w3, Hs3, a3, aK3, aD3, q1, q1b, q2, q3, q4, q5, q6, by omega, q7, q8⟩
    · have key : ∀ Hs3, B (G.at_ Hb Hsb) wc H' Hs3 → Same Hsc Hs3 → SL G sd σ H' Hs3 → H' d = some (.dK acc1) → Hs3 d = none → Rep G.c Hs3 x0 x → tgt x (L2.wipe σ vs) H' fun σ2 H2 => L2.wipe σ2 vs = L2.wipe σ vs ∧ tt σ2 H2 fun b H3 =>
          if b = true then tk σ2 H3 fun y H4 => tv σ2 H4 fun z H5 => ∃ kvs k, y = kV k ∧ H5 d = some (.dK kvs) ∧ kvs.length < sizeLine ∧ (∃ w Hsc acc1 accK1 accD1, B (G.at_ Hb Hsb) w (upd H5 d (.dK (putK kvs k z))) Hsc ∧ Same Hs Hsc ∧ SL G sd σ (upd H5 d (.dK (putK kvs k z))) Hsc ∧ (upd H5 d (.dK (putK kvs k z))) d = some (.dK acc1) ∧ ((acc1.map (·.1) = accK1.map toK ∧ ∀ k ∈ accK1, KOk k) ∧ RepL G.c Hsc accD1 (acc1.map (·.2))) ∧ Hsc d = none ∧ P (upd H5 d (.dK (putK kvs k z))) Hsc ∧ accK1.length ≤ accK.length + (i + 1) ∧
            dcompL g mt mk mv (wipeD sd vs) (ds.drop (i + 1)) accK1 accD1 w = some (rF, wF)) else (∃ w Hsc acc1 accK1 accD1, B (G.at_ Hb Hsb) w H3 Hsc ∧ Same Hs Hsc ∧ SL G sd σ H3 Hsc ∧ H3 d = some (.dK acc1) ∧ ((acc1.map (·.1) = accK1.map toK ∧ ∀ k ∈ accK1, KOk k) ∧ RepL G.c Hsc accD1 (acc1.map (·.2))) ∧ Hsc d = none ∧ P H3 Hsc ∧ accK1.length ≤ accK.length + (i + 1) ∧
            dcompL g mt mk mv (wipeD sd vs) (ds.drop (i + 1)) accK1 accD1 w = some (rF, wF)) := by
        intro Hs3 b3 sm3 s3 hD3 nD3 rep
        cases eg : g x0 (wipeD sd vs) with
        | none => rw [eg] at ecc; cases ecc
        | some sd1 =>
          rw [eg] at ecc
          simp only at ecc
          have rs3 : RS G (wipeD sd vs) wc (L2.wipe σ vs) H' Hs3 := ⟨bG.trans b3, s3.wipe vs⟩
          refine hg x0 x _ wc _ H' Hs3 _ rs3 rep (fun sd' e' σ4 rs4 wp => ?_) (by rw [eg]; rfl)
          rw [eg] at e'
          cases e'
          refine ⟨by rw [wp.wp vs hjs, wipe_wipe fun v hv => hv], ?_⟩
          refine ht sd1 wc σ4 H' Hs3 _ rs4 ?_
          cases et : mt sd1 wc with
          | exc c ns ds w' => rw [et] at ecc; cases ecc
          | bad => rw [et] at ecc; cases ecc
          | ok k w5 =>
            rw [et] at ecc
            intro k' H5 Hs5 b5 ek
            obtain rfl : k = k' := ek
            have rs5 := rs4.step b5
            have b5' := b3.trans b5
            have s5 := s3.step b5
            have hD5 := b5.keep d _ hap plain_dK.nt hD3
            have nD5 := none_stay b5 hD3 plain_dK.nt nD3
            cases k with
            | false =>
              exact ⟨w5, Hs5, acc1, accK1, accD1, b5', (sm.trans sm3).trans b5.sub0, s5, hD5, ⟨rD.1, rD.2.mono (sm3.trans b5.sub0)⟩, nD5, hst _ _ _ _ _ p b5' (sm3.trans b5.sub0), by omega, ecc⟩
            | true =>
              simp only at ecc
              refine hk sd1 w5 σ4 H5 Hs5 _ rs5 ?_
              cases ee : mk sd1 w5 with
              | exc c ns ds w' => rw [ee] at ecc; cases ecc
              | bad => rw [ee] at ecc; cases ecc
              | ok kd w6 =>
                rw [ee] at ecc
                simp only at ecc
                intro y H6 Hs6 b6 rk
                have rs6 := rs5.step b6
                have b6' := b5'.trans b6
                have s6 := s5.step b6
                have hD6 := b6.keep d _ hap plain_dK.nt hD5
                have nD6 := none_stay b6 hD5 plain_dK.nt nD5
                cases ek : keyD kd with
                | none => rw [ek] at ecc; cases ecc
                | some kk =>
                  rw [ek] at ecc
                  simp only at ecc
                  refine hv sd1 w6 σ4 H6 Hs6 _ rs6 ?_
                  cases ev : mv sd1 w6 with
                  | exc c ns ds w' => rw [ev] at ecc; cases ecc
                  | bad => rw [ev] at ecc; cases ecc
                  | ok vd w7 =>
                    rw [ev] at ecc
                    simp only at ecc
                    intro z H7 Hs7 b7 rv
                    have b7' := b6'.trans b7
                    have s7 := s6.step b7
                    have hD7 := b7.keep d _ hap plain_dK.nt hD6
                    have nD7 := none_stay b7 hD6 plain_dK.nt nD6
                    have sm7 : Same Hsc Hs7 := sm3.trans (b5.sub0.trans (b6.sub0.trans b7.sub0))
                    obtain ⟨hy, ok⟩ := keyD_rep rk ek
                    obtain ⟨z1, z2⟩ := putK_rep (k := kk) rv rD.1.1 (rD.2.mono sm7)
                    have mn : Mine (G.at_ Hb Hsb) H7 Hs7 d (.dK acc1) := ⟨hD7, plain_dK.nt, plain_dK.nl, plain_dK.nc, nD7, fun o' e => (by rw [show Hb d = some o' from e] at hd; cases hd), hap⟩
                    have bw : B (G.at_ Hb Hsb) w7 (upd H7 d (.dK (putK acc1 (toK kk) z))) Hs7 := b7'.writeMine mn
                    have hl : acc1.length ≤ 1000000 := by
                      have := congrArg List.length rD.1.1
                      rw [List.length_map, List.length_map] at this
                      omega
                    refine ⟨acc1, toK kk, hy, hD7, by rw [sizeLine_eq]; omega, w7, Hs7, _, putKs kk accK1, putDs kk vd accK1 accD1, bw, sm.trans sm7, s7.writeOther no (fun x e y => by rw [hD7] at e; cases e; exact fun h => by cases h), upd_same, ⟨⟨z1, putKs_ok ok rD.1.2⟩, z2⟩, nD7, hst _ _ _ _ _ p bw sm7, ?_, ecc⟩
                    have := putKs_len kk accK1
                    omega
      rcases g2 x H' hy with ⟨rfl, rep⟩ | ⟨T, us, es, t1, rfl, rfl, rfl, rep⟩
      · exact key Hsc b (Same.refl _) s hD nD rep
      · have ba := (bG.trans b).alloc (o := .tup us) t1 tup_noT
        have hT : d ≠ T := fun z => by rw [← z, hD] at t1; cases t1
        exact key _ (b.trans ba) ba.sub0 (s.step ba) (by rw [upd_ne hT]; exact hD) (by rw [upd_ne hT]; exact nD) ⟨T, us, rfl, .inl (.inl upd_same), rep.mono ba.sub0⟩
variable {kx vx tg it : Expr} {ifs : List Expr} {scope : Scope} {own : List (Str × Nat)} {pos : Pos} {ti : TI} {mi : ME (List D)} {tgt : TG} {g : D → SD → Option SD} {js : List Nat} {tt : TT} {mt : ME Bool} {tk tv : TE} {mk mv : ME D}
theorem je_dc (hN : X.N.Nodup) (hi : JIB X G Wx tg it ti mi) (ok : BlkOk X.N X.env.scope scope own)
    (hg : ∀ (s : Shared) (H : Hp) (C : Addr) (cl : List (Str × Addr)) (fp : List Addr), JG (X.blk s H scope (compEnvC scope cl C X.env) fp) G tg tgt g js)
    (ht : ∀ (s : Shared) (H : Hp) (C : Addr) (cl : List (Str × Addr)) (fp : List Addr), JTs (X.blk s H scope (compEnvC scope cl C X.env) fp) G F0 ifs tt mt)
    (hk : ∀ (s : Shared) (H : Hp) (C : Addr) (cl : List (Str × Addr)) (fp : List Addr), JE (X.blk s H scope (compEnvC scope cl C X.env) fp) G F0 kx tk mk)
    (hv : ∀ (s : Shared) (H : Hp) (C : Addr) (cl : List (Str × Addr)) (fp : List Addr), JE (X.blk s H scope (compEnvC scope cl C X.env) fp) G F0 vx tv mv)
    (hjs : (∀ j ∈ js, j ∈ own.map (·.2)) := by decide) (hc : X.calm = true := by rfl) (hs : ∀ x, foldedSetIterable it X.env x = pure x := by intro _; rfl) :
    JE X G Wx (.DictComp kx vx [⟨tg, it, ifs, 0⟩] scope pos) (tDc ti tgt tt tk tv (own.map (·.2))) (mDc mi g mt mk mv (own.map (·.2))) := by
  refine ⟨pe_dc hc hN hi.pe ok (fun s H C cl fp => (hg s H C cl fp).pe) (fun s H C cl fp => (ht s H C cl fp).pe) (fun s H C cl fp => (hk s H C cl fp).pe) (fun s H C cl fp => (hv s H C cl fp).pe) hs, fun sd w σ H Hs Q rs post => ?_⟩
  refine hi.si sd w σ H Hs _ rs ?_
  unfold mDc at post
  cases e : mi sd w with
  | exc c ns ds w' => rw [e] at post; exact post
  | bad => rw [e] at post; exact post
  | ok ds w1 =>
    rw [e] at post
    have post1 : Post G Wx σ H Hs (ρE G) Q (if ds.length ≤ 1000000 then (match dcompL g mt mk mv (wipeD sd (own.map (·.2))) ds [] [] w1 with
      | some (r, w2) => .ok (.dct r.1 r.2) w2
      | none => .bad) else .bad) := post
    intro J H1 Hs1 b1 wk d hd
    have rs1 := rs.step b1
    split at post1
    · rename_i hl
      cases ec : dcompL g mt mk mv (wipeD sd (own.map (·.2))) ds [] [] w1 with
      | none => rw [ec] at post1; exact post1.elim
      | some pr =>
        obtain ⟨rF, wF⟩ := pr
        rw [ec] at post1
        have ba := rs1.b.allocOwn (o := .dK []) hd
        have no := notOwn_new rs1.s hd
        have ⟨hap, hsp⟩ := rs1.b.none_live hd
        refine loopD_in (acc := []) (accK := []) (accD := []) (P := PB G H1 Hs1) wk (fun w Hc Hs Hc' Hs' _ b _ => ⟨w, b⟩) (hg X.s_0 X.H_0 0 [] []).si hjs (ht X.s_0 X.H_0 0 [] []).si (hk X.s_0 X.H_0 0 [] []).si (hv X.s_0 X.H_0 0 [] []).si rs1.b hd no ba (rs1.s.step ba) upd_same ⟨⟨rfl, fun k h => (by cases h)⟩, rfl⟩ hsp ⟨w1, ba⟩ (by show 0 + ds.length ≤ _; omega) ec fun Hc' Hs' acc' b' _ _ h1 h2 h3 => ?_
        have hf : ∀ o', H d = some o' → ¬ NoT o' := fun o' e hn => by
          have := b1.keep d o' hap hn e
          rw [hd] at this; cases this
        exact post1 _ Hc' _ ((b1.trans b').share h1 plain_dK.nt h3 hf hap) ⟨d, acc', rfl, upd_same, h2.1, h2.2.mono (same_share h3)⟩
    · exact post1.elim
end
end FT
end
section
set_option Elab.async false
set_option linter.all false
set_option maxRecDepth 100000
set_option maxHeartbeats 4000000
namespace FT
open PySem PySem.Spec PyProof.Rows L2
section
variable {X : Cx} {G : Gh} {Wx : WX} {w w' w1 w2 : List D} {H Hs H' Hs' H1 Hs1 H2 Hs2 : Hp} {sd : SD} {σ : L2.St}
variable {e o a b c : Expr} {rest : List Expr} {te ta tb tc : TE} {tt : TT} {m mo mb mc mA : ME D} {mt : ME Bool} {pos cpos apos : Pos}
/-! ### x or y, x and y by truth -/
def mOrT (m1 m2 : ME D) : ME D := fun sd w => (m1 sd w).bind fun d w1 => match truthD d with
  | some true => .ok d w1
  | some false => m2 sd w1
  | none => .bad
def mAndT (m1 m2 : ME D) : ME D := fun sd w => (m1 sd w).bind fun d w1 => match truthD d with
  | some true => m2 sd w1
  | some false => .ok d w1
  | none => .bad
theorem je_orT (ha : JE X G Wx a ta mA) (hb : JE X G Wx (.BoolOp .Or (b :: rest) pos) tb mb) (hK : X.K = G.c.K := by rfl) : JE X G Wx (.BoolOp .Or (a :: b :: rest) pos) (tOrT G.c.K ta tb) (mOrT mA mb) := by
  refine ⟨by rw [← hK]; exact pe_orT ha.pe hb.pe, fun sd w σ H Hs Q rs post => ?_⟩
  refine ha.si.bind rs post fun d w1 v H1 Hs1 rs1 b1 q1 post1 => ?_
  cases e : truthD d with
  | none => rw [e] at post1; exact post1.elim
  | some k =>
    rw [e] at post1
    refine ⟨k, truV_of rs1.b (Rep.toB (c := G.c) rs1.b q1) e, ?_⟩
    cases k with
    | true => exact post1 v H1 Hs1 rs1.b.refl_at q1
    | false => exact hb.si sd w1 σ H1 Hs1 Q rs1 post1
theorem je_andT (ha : JE X G Wx a ta mA) (hb : JE X G Wx (.BoolOp .And (b :: rest) pos) tb mb) (hK : X.K = G.c.K := by rfl) : JE X G Wx (.BoolOp .And (a :: b :: rest) pos) (tAndT G.c.K ta tb) (mAndT mA mb) := by
  refine ⟨by rw [← hK]; exact pe_andT ha.pe hb.pe, fun sd w σ H Hs Q rs post => ?_⟩
  refine ha.si.bind rs post fun d w1 v H1 Hs1 rs1 b1 q1 post1 => ?_
  cases e : truthD d with
  | none => rw [e] at post1; exact post1.elim
  | some k =>
    rw [e] at post1
    refine ⟨k, truV_of rs1.b (Rep.toB (c := G.c) rs1.b q1) e, ?_⟩
    cases k with
    | false => exact post1 v H1 Hs1 rs1.b.refl_at q1
    | true => exact hb.si sd w1 σ H1 Hs1 Q rs1 post1
/-! ### xs[::-1], z[::-1] -/
theorem rev_idx (cps : Array Nat) : (Builtin.Str.strSliceIndices none none (-1) cps.size).filterMap (cps[·]?) = cps.toList.reverse := by
  unfold Builtin.Str.strSliceIndices
  have h1 : ¬ ((-1 : Int) > 0) := by decide
  simp only [h1, if_false]
  rw [PySem.W.krv_sliceRange, PySem.W.krv_range, List.filterMap_reverse, PySem.W.krv_all]
def tRev (K : PySem.W.Frag) (te : TE) : TE := fun σ H Q => te σ H fun x H1 => (∃ a xs, x = .ref a ∧ SqL K H1 a xs ∧ ∀ p, H1 p = none → Q (.ref p) (upd H1 p (.lst xs.reverse))) ∨ ∃ z, x = .str z ∧ z.length ≤ sizeLine ∧ Q (.str ⟨z.cps.toList.reverse.toArray⟩) H1
theorem pe_rev {k : Nat} {p1 p2 p3 : Pos} (he : PE X e te) : PE X (.Subscript e (.Slice none none (some (.UnaryOp .USub (.Constant (.int 1) k p1) p2)) p3) pos) (tRev X.K te) := by
  refine ⟨fun pins s σ H Q I h => ?_⟩
  refine Subscript_ (thn (he.run pins s σ H _ I h) fun v s1 ⟨x, H1, I1, r1, q1⟩ => ?_)
  have hst : PO X (some (.UnaryOp .USub (.Constant (.int 1) k p1) p2)) (tPart (tUn (rU fun i => .int (-i)) (tC (.int 1)))) := po_some (pe_un un_neg pe_int)
  refine wpAny_Slice (thn (po_none.run pins s1 σ H1 (fun o H2 => o = none ∧ H2 = H1) I1 ⟨rfl, rfl⟩) fun vl s2 ⟨l, H2, I2, pl, el, e2⟩ => ?_)
  subst el e2
  refine thn (po_none.run pins s2 σ H2 (fun o H3 => o = none ∧ H3 = H2) I2 ⟨rfl, rfl⟩) fun vu s3 ⟨u, H3, I3, pu, eu, e3⟩ => ?_
  subst eu e3
  refine thn (hst.run pins s3 σ H3 (fun o H4 => o = some (-1) ∧ H4 = H3) I3 ⟨1, rfl, -1, rfl, rfl, rfl⟩) fun vs s4 ⟨o, H4, I4, ps, eo, e4⟩ => ?_
  subst eo e4
  have I5 : Inv X pins σ H4 { s4 with heap := s4.heap.push { cls := .type "slice", data := .fields #[vl, vu, vs] } } := I4.kept (t' := s4.toks) fun b ob q => Heap.get?_push_of_some _ q
  rcases q1 with ⟨a, xs, ex, hx, q⟩ | ⟨z, ex, hz, q⟩
  · subst ex
    cases r1
    obtain ⟨its, r, ht, hz⟩ := I5.list hx
    have hlen := r.length
    show wpAny (model X.prog X.w) X.A (subscriptTail e (.Slice none none (some (.UnaryOp .USub (.Constant (.int 1) k p1) p2)) p3) (.ref a) (.ref s4.heap.objs.size)) (EP X pins σ Q) X.xe { s4 with heap := s4.heap.push { cls := .type "slice", data := .fields #[vl, vu, vs] } }
    refine tail_any (ops := [.ref a, .ref s4.heap.objs.size]) ht.isList.typeIs (PySem.slot_list_getitem.lookup) ?_ (by with_unfolding_all rfl)
    refine wpAny_getItem_list_slice ht.isList (Heap.IsSliceOf.new _ vl vu vs) pl pu ps (by decide) ?_ (by rw [List.size_toArray]; omega)
    rw [PySem.W.krv_pick]
    refine ⟨.ref _, _, I5.laid (t' := s4.toks) (o := .lst xs.reverse) (fun b ob q => Heap.get?_push_of_some _ q) (Nat.le_refl _) ?_, rfl, q _ (I5.hok.fresh (Nat.le_refl _))⟩
    exact ⟨by rw [List.length_reverse]; exact hz, _, 0, r.reverse, Heap.get?_push_size _ rfl⟩
  · subst ex
    obtain ⟨t, rfl⟩ := r1
    obtain ⟨l, rfl, hl⟩ := IsPart.raw pl
    obtain ⟨u, rfl, hu⟩ := IsPart.raw pu
    obtain ⟨st, rfl, hs⟩ := IsPart.raw ps
    show wpAny (model X.prog X.w) X.A (subscriptTail e (.Slice none none (some (.UnaryOp .USub (.Constant (.int 1) k p1) p2)) p3) (.str z t) (.ref s4.heap.objs.size)) (EP X pins σ Q) X.xe _
    refine tail_any (ops := [.str z t, .ref s4.heap.objs.size]) (typeIs_str _ _ _) (F.slot_str_getitem.lookup) ?_ (by with_unfolding_all rfl)
    refine wpAny_getItem_str_slice (l := l) (u := u) (st := st) ?_ (by rw [hs]; rfl) ?_
    · obtain ⟨os, h1, h2, h3⟩ := Heap.IsSliceOf.new s4.heap (partValue l) (partValue u) (partValue st)
      exact ⟨os, h1, h2, h3⟩
    · have e1 : (Builtin.Str.strSliceIndices none none (-1) z.length).filterMap (z.cps[·]?) = z.cps.toList.reverse := rev_idx z.cps
      show Made.post (if (((st.map (·.1)).getD 1) == 1 && (Builtin.Str.strSliceIndices (l.map (·.1)) (u.map (·.1)) ((st.map (·.1)).getD 1) z.length).length == z.length) = true then Made.val (.str z t)
        else Made.str ⟨((Builtin.Str.strSliceIndices (l.map (·.1)) (u.map (·.1)) ((st.map (·.1)).getD 1) z.length).filterMap (z.cps[·]?)).toArray⟩) (EP X pins σ Q) _
      rw [hs, hl, hu]
      show Made.post (if (((-1 : Int) == 1) && _) = true then Made.val (.str z t) else Made.str ⟨((Builtin.Str.strSliceIndices none none (-1) z.length).filterMap (z.cps[·]?)).toArray⟩) (EP X pins σ Q) _
      rw [if_neg (by simp), e1]
      refine ⟨?_, .str _, H4, I5.tok _, ⟨_, rfl⟩, q⟩
      show (z.cps.toList.reverse.toArray).size ≤ sizeLine
      rw [List.size_toArray, List.length_reverse, Array.length_toList]
      exact hz
def mRev (m : ME D) : ME D := fun sd w => (m sd w).bind fun d w1 => match d with
  | .lst ds => .ok (.lst ds.reverse) w1
  | .frz ds => .ok (.lst ds.reverse) w1
  | .str s => .ok (.str s.reverse) w1
  | _ => .bad
theorem repL_reverse {c : Cc} {H : Hp} : ∀ {ds : List D} {vs : List V}, RepL c H ds vs → RepL c H ds.reverse vs.reverse
  | [], _, h => by rw [show _ = ([] : List V) from h]; rfl
  | d :: ds, _, ⟨v, r, h1, h2, h3⟩ => by
    rw [h1, List.reverse_cons, List.reverse_cons]
    exact (repL_reverse h3).append (RepL.one h2)
theorem je_rev {k : Nat} {p1 p2 p3 : Pos} (he : JB X G Wx e te m) (hK : X.K = G.c.K := by rfl) : JE X G Wx (.Subscript e (.Slice none none (some (.UnaryOp .USub (.Constant (.int 1) k p1) p2)) p3) pos) (tRev G.c.K te) (mRev m) := by
  refine ⟨by rw [← hK]; exact pe_rev he.pe, fun sd w σ H Hs Q rs post => ?_⟩
  refine he.si.bind rs post fun d w1 v H1 Hs1 rs1 b1 q1 post1 => ?_
  have fin : ∀ (a : Addr) (vs : List V) (ds : List D), SqL G.c.K H1 a vs → RepL G.c Hs1 ds vs → (∀ v H' Hs', B (G.at_ H1 Hs1) w1 H' Hs' → Rep G.c Hs' (.lst ds.reverse) v → Q v H') → (∃ a' xs, (V.ref a) = .ref a' ∧ SqL G.c.K H1 a' xs ∧ ∀ p, H1 p = none → Q (.ref p) (upd H1 p (.lst xs.reverse))) := fun a vs ds h1 h2 pq =>
    ⟨a, vs, rfl, h1, fun p hp => by
      have ba := rs1.b.alloc (o := .lst vs.reverse) hp lst_noT
      exact pq _ _ _ ba ⟨p, _, rfl, upd_same, (repL_reverse h2).mono ba.sub0⟩⟩
  split at post1
  · obtain ⟨a, vs, rfl, h1, h2, _⟩ := q1
    exact .inl (fin a vs _ (.inl (.inl h1)) h2 post1)
  · obtain ⟨a, vs, rfl, h1, h2⟩ := q1
    exact .inl (fin a vs _ (rs1.b.sub.seq h1) h2 post1)
  · rename_i s
    obtain ⟨rfl, o⟩ := q1
    refine .inr ⟨_, rfl, o.line, post1 _ H1 Hs1 rs1.b.refl_at ⟨by simp, by rw [List.length_reverse]; exact o.1, fun c hc => o.2 c (List.mem_reverse.mp hc)⟩⟩
  · exact post1.elim
end
end FT
end
section
set_option Elab.async false
set_option linter.all false
set_option maxRecDepth 100000
set_option maxHeartbeats 4000000
namespace FT
open PySem PySem.Spec PyProof.Rows L2
/-! ### defs with defaults -/
section
variable {P : Program} {w0 : World} {K : PySem.W.Frag} {mg : Str → Option Value} {base : Heap}
theorem ok_fnD {dvs : List V} {kws : List (Str × V)} {x qual : Str} {st : Stmt} {f : Addr} {fd : FuncData} {N ps : List Str} {k j n : Nat} {cl : Nat → Addr} {T : List (Addr × Str)} {m : MS} (F : FunD K x qual (defArgs st) (defBody st) (defScope st) dvs kws f fd) (S : FnScope N ps (defScope st)) (e1 : ps.length = j) (e2 : N.length = n) (hps : j ≤ n)
    (hb : ∀ (cdv : Value) (A : Around) (outer : List Env) (s : Shared) (H : Hp) (E : XK) (ap : Option Addr) (HP Hs : Hp), Room k (A.deeper (envOfC qual (defScope st) s.heap.objs.size f cdv)) →
      ∃ t, JSs (cxOf (L2.CX P w0) P w0 K mg base N qual (defScope st) f cdv A outer s H E) (gh K cl T ap HP H Hs) (fun c d _ H => E c d H) (defBody st) t m) :
    FnOk P w0 K mg base (L2.CX P w0) (k + 1) f fd ps (spF K cl T j (runB n m)) := by
  subst e1; subst e2
  refine F.ok S (fun vs H Q E h => ?_) (fun cdv A outer s H vs Q E hr h => ?_)
  · obtain ⟨ap, HP, Hs, ds, w, _, r, hn, _⟩ := h
    rw [r.length, hn]
  · obtain ⟨ap, HP, Hs, ds, w, b, r, hn, post⟩ := h
    obtain ⟨t, J⟩ := hb cdv A outer s H E ap HP Hs hr
    refine ⟨t, J.pe, J.si (sd0 N.length ds) w (L2.start N vs) H Hs _ ⟨b, sl_start (G := gh K cl T ap HP H Hs) r (by rw [hn]; exact hps)⟩ ?_⟩
    unfold runB at post
    cases e : m (sd0 N.length ds) w with
    | nx sd' w' =>
      rw [e] at post
      exact fun σ' H' Hs' rs _ => post _ H' Hs' rs.b rfl
    | ret d w' =>
      rw [e] at post
      exact fun v H' Hs' b' q => post v H' Hs' b' q
    | brk sd' w' => rw [e] at post; exact post.elim
    | cnt sd' w' => rw [e] at post; exact post.elim
    | exc sd' c ns ds w' =>
      rw [e] at post
      exact fun dd σ' H' Hs' rs q => post dd H' Hs' rs.b q
    | bad => rw [e] at post; exact post.elim
/-- a def as it stands, with defaults in the tuple at T0 -/
theorem funD_mk {x qual : Str} {st : Stmt} {f T0 : Addr} {oc : Value} {od an : Option Addr} {osl : Array (Option Value)} {kV doc pm cdv ct : Value} {dvs : List V} (l : K.lookup f = some ⟨oc, od, .func (PySem.W.fnOf x qual (defArgs st) (defBody st) (defScope st) (.ref T0) kV doc pm an cdv ct), osl⟩)
    (c : PySem.W.codeIn K cdv qual = true) (k : PySem.W.keepIn K (.ref f) = true) (hne : dvs ≠ []) (hd : ∃ (o : Obj) (its : List Value) (n : Nat), K.lookup T0 = some o ∧ o.data = .seq its.toArray n ∧ Vals dvs its) :
    FunD K x qual (defArgs st) (defBody st) (defScope st) dvs [] f (PySem.W.fnOf x qual (defArgs st) (defBody st) (defScope st) (.ref T0) kV doc pm an cdv ct) := by
  obtain ⟨o, its, n, h1, h2, h3⟩ := hd
  exact ⟨⟨oc, od, .ref T0, kV, doc, pm, an, cdv, ct, osl, rfl, l, c, .inr ⟨hne, T0, o, its, n, rfl, h1, h2, h3⟩, .inl rfl⟩, k⟩
theorem kbd_of {x qual : Str} {st : Stmt} {f : Addr} {fd : FuncData} {ps ks : List Str} {n : Nat} {idx : List Nat} {dvs : List V} {kws : List (Str × V)} (F : FunD K x qual (defArgs st) (defBody st) (defScope st) dvs kws f fd) (hd : dvs ≠ [])
    (h : ∀ (T : Addr) (kV doc pm : Value) (an : Option Addr) (cdv ct : Value) (us ws its : List Value), us.length = n → ws.length = ks.length → its.length = dvs.length →
      ∃ k, bindArgs (PySem.W.fnOf x qual (defArgs st) (defBody st) (defScope st) (.ref T) kV doc pm an cdv ct) ⟨us, ks.zip ws⟩ = seqItems? (.ref T) >>= k ∧ k (some its.toArray) = pure (ps.zip (pick idx (us ++ ws ++ its)))) : KBd K fd ps n ks idx dvs := by
  obtain ⟨oc, od, dV, kV, doc, pm, an, cdv, ct, osl, rfl, lk, hcd, hD, hK⟩ := F.ex
  rcases hD with ⟨e, _⟩ | ⟨_, T, o, its, m, rfl, lT, oT, rT⟩
  · exact absurd e hd
  · refine ⟨its, rT, fun s us ws X l1 l2 => ?_⟩
    obtain ⟨k, e1, e2⟩ := h T kV doc pm an cdv ct us ws its l1 l2 rT.length.symm
    refine BindsTo.of_looks fun M => ?_
    rw [e1]
    exact looks_items X lT oT (.of_pure e2)
theorem kbd_of0 {x qual : Str} {st : Stmt} {f : Addr} {fd : FuncData} {ps ks : List Str} {n : Nat} {idx : List Nat} (F : Fun K x qual st f fd)
    (h : ∀ (kV doc pm : Value) (an : Option Addr) (cdv ct : Value) (us ws : List Value), us.length = n → ws.length = ks.length → bindArgs (PySem.W.fnOf x qual (defArgs st) (defBody st) (defScope st) .none kV doc pm an cdv ct) ⟨us, ks.zip ws⟩ = pure (ps.zip (pick idx (us ++ ws)))) : KBd K fd ps n ks idx [] := by
  obtain ⟨oc, od, kV, doc, pm, an, cdv, ct, osl, rfl, lk, hcd⟩ := F.ex
  exact ⟨[], .nil, fun s us ws _ h1 h2 => BindsTo.of_eq (by rw [List.append_nil]; exact h kV doc pm an cdv ct us ws h1 h2)⟩
end
/-! ### isinstance(x, own class) -/
structure ObjC (K : PySem.W.Frag) (C : Addr) : Prop where
  cls : Cls K C
  ha : PySem.W.findIn K (.ref C) "__class__" = some (some (.builtin "object.__class__"))
  hm : PySem.W.mroIn K C (.type "object") = some true
structure KitC (K : PySem.W.Frag) (cl : Nat → Addr) (okc tb : Nat → Bool) (C : Addr) : Prop where
  hn : PySem.W.specialIn K (.builtin "object.__class__") "__get__" = some (some (.builtin "getset_descriptor.__get__"))
  ht : PySem.W.takesIn K (.builtin "object.__class__") = some true
  own : ∀ c, okc c = true → ObjC K (cl c) ∧ PySem.W.kitOne K (.ref (cl c)) (.ref C) = some (tb c)
  bi : ∀ t ∈ tyNs, PySem.W.kitOne K (.type t) (.ref C) = some false
section
variable {X : Cx} {G : Gh} {Wx : WX} {w w' w1 w2 : List D} {H Hs H' Hs' H1 Hs1 H2 Hs2 : Hp} {sd : SD} {σ : L2.St}
variable {e : Expr} {te : TE} {m : ME D} {p p2 pos : Pos} {T : Str} {C : Addr} {okc tb : Nat → Bool}
def mIsiC (okc tb : Nat → Bool) (m : ME D) : ME D := fun sd w => (m sd w).bind fun d w1 => match d with
  | .obj c _ _ => if okc c = true then .ok (.bl (tb c)) w1 else .bad
  | d => match tyN d with
    | some _ => .ok (.bl false) w1
    | none => .bad
theorem je_isiC (kc : KitC X.K G.c.cl okc tb C) (hm : X.mg "isinstance" = none) (hmT : X.mg T = some (.ref C)) (ha : JB X G Wx e te m) (hg : Gl X "isinstance" := by rfl) (hgT : Gl X T := by rfl) (hdT : (T == ("__debug__" : Str)) = false := by decide)
    (hs : starEach (e :: [.Name T p2]) X.env = (false, eval e X.env) :: starEach [.Name T p2] X.env := by rfl) (hK : X.K = G.c.K := by rfl) :
    JE X G Wx (.Call (.Name "isinstance" p) [e, .Name T p2] [] pos) (tCB (rIsi G.c.K) (tCons te (tCons (tC (.ref C)) tNil))) (mIsiC okc tb m) := by
  refine ⟨by rw [← hK]; exact pe_callB call_isi hg hm (by decide +kernel) (pa_cons ha.pe (pa_cons (pe_glob hgT hmT rfl hdT) pa_nil) hs) (he := hs), fun sd w σ H Hs Q rs post => ?_⟩
  rw [hK] at kc
  refine ha.si.bind rs post fun d w1 v H1 Hs1 rs1 b1 q1 post1 => ?_
  split at post1
  · rename_i c ns ds
    split at post1
    · rename_i hc
      obtain ⟨a, dx, fs, rfl, h2, h3, h4⟩ := q1
      obtain ⟨oc, k1⟩ := kc.own c hc
      exact ⟨.ref a, .ref C, .ref (G.c.cl c), .ref C, tb c, rfl, .own C, .base (.ins (rs1.b.sub _ _ h2) oc.cls oc.ha kc.hn kc.ht oc.hm), k1, post1 _ H1 Hs1 rs1.b.refl_at (by simp [Rep])⟩
    · exact post1.elim
  · split at post1
    · rename_i d' _ t e1
      exact ⟨v, .ref C, .type t, .ref C, false, rfl, .own C, tyX_of rs1.b q1 e1, kc.bi t (tyN_mem e1), post1 _ H1 Hs1 rs1.b.refl_at (by simp [Rep])⟩
    · exact post1.elim
end
end FT
end
section
set_option Elab.async false
set_option linter.all false
set_option maxRecDepth 100000
set_option maxHeartbeats 4000000
namespace FT
open PySem PySem.Spec PyProof.Rows L2
/-! ### the scope of a comprehension, by its path in a def -/
def kidE : Expr → List Expr
  | .BoolOp _ vs _ => vs
  | .BinOp a _ b _ => [a, b]
  | .UnaryOp _ e _ => [e]
  | .Lambda _ b _ _ => [b]
  | .IfExp a b c _ => [a, b, c]
  | .Dict ks vs _ => ks.filterMap id ++ vs
  | .ListComp e gs _ _ => e :: gs.flatMap fun g => match g with | ⟨t, i, fs, _⟩ => t :: i :: fs
  | .DictComp k v gs _ _ => k :: v :: gs.flatMap fun g => match g with | ⟨t, i, fs, _⟩ => t :: i :: fs
  | .Compare a _ bs _ => a :: bs
  | .Call f as ks _ => f :: as ++ ks.map fun k => match k with | ⟨_, e, _⟩ => e
  | .Attribute e _ _ => [e]
  | .Subscript a b _ => [a, b]
  | .Starred e _ => [e]
  | .List es _ => es
  | .Tuple es _ _ => es
  | .Slice a b c _ => [a, b, c].filterMap id
  | _ => []
def kidS : Stmt → List Expr
  | .Return (some e) _ => [e]
  | .Assign ts v _ => ts ++ [v]
  | .For t i _ _ _ => [t, i]
  | .While t _ _ _ => [t]
  | .If t _ _ _ => [t]
  | .Expr e _ => [e]
  | .Raise (some e) _ _ => [e]
  | _ => []
def subS : Stmt → List Stmt
  | .For _ _ b o _ => b ++ o
  | .While _ b o _ => b ++ o
  | .If _ b o _ => b ++ o
  | _ => []
def goS : List Stmt → List Nat → Option Stmt
  | _, [] => none
  | l, [i] => l[i]?
  | l, i :: r => match l[i]? with
    | some s => goS (subS s) r
    | none => none
def goE : List Expr → List Nat → Option Expr
  | _, [] => none
  | l, [i] => l[i]?
  | l, i :: r => match l[i]? with
    | some e => goE (kidE e) r
    | none => none
def scE (d : Scope) : Expr → Scope
  | .ListComp _ _ s _ => s
  | .DictComp _ _ _ s _ => s
  | .SetComp _ _ s _ => s
  | .GeneratorExp _ _ s _ => s
  | .Lambda _ _ s _ => s
  | _ => d
def scAt (s : Stmt) (p q : List Nat) : Scope := match goS (defBody s) p with
  | some t => (match goE (kidS t) q with
    | some e => scE (defScope s) e
    | none => defScope s)
  | none => defScope s
section
variable {X : Cx} {G : Gh} {Wx : WX} {w w' w1 w2 : List D} {H Hs H' Hs' H1 Hs1 H2 Hs2 : Hp} {sd : SD} {σ : L2.St}
/-! ### a, b = e, [..] -/
theorem js_parEF {i j : Nat} {x y : Str} {a b : Expr} {ta tb : TE} {ma : ME D} {mb : ME (List D)} {px py pt pos : Pos} {kt k2 pt2} (hN : X.N.Nodup) (ha : JE X G Wx a ta ma) (hb : JF X G Wx b tb mb) (hi : X.N[i]? = some x := by rfl) (hj : X.N[j]? = some y := by rfl) (hij : i ≠ j := by decide)
    (hx : X.env.scope.names.lookup x = some .local := by rfl) (hy : X.env.scope.names.lookup y = some .local := by rfl)
    (hw : swappedStores [.Tuple [.Name x px, .Name y py] kt pt] (.Tuple [a, b] k2 pt2) X.env = pure (some [x, y]) := by rfl) (hc : X.calm = true := by rfl)
    (hs : swapsWithSole [.Tuple [.Name x px, .Name y py] kt pt] (.Tuple [a, b] k2 pt2) pos.line X.env = pure false := by rfl)
    (e1 : starEach [a, b] X.env = (false, eval a X.env) :: starEach [b] X.env := by rfl) (e2 : starEach [b] X.env = (false, eval b X.env) :: starEach [] X.env := by rfl) :
    JS X G Wx (.Assign [.Tuple [.Name x px, .Name y py] kt pt] (.Tuple [a, b] k2 pt2) pos) (tPar i j (tCons ta (tCons tb tNil))) (mParEF i j ma mb) := by
  refine ⟨ps_par hc hN hi hj hij hx hy (pa_cons ha.pe (pa_cons hb.pe pa_nil e2) e1) hw hs, fun sd w σ H Hs De rs post => ?_⟩
  refine ha.si.bindS rs post fun d w1 v H1 Hs1 rs1 b1 q1 post1 => ?_
  refine hb.si sd w1 σ H1 Hs1 _ rs1 ?_
  cases e : mb sd w1 with
  | exc c ns ds w' =>
    rw [e] at post1
    exact fun dd H' Hs' b q => post1 dd σ H' Hs' (rs1.step b) q
  | bad => rw [e] at post1; exact post1
  | ok ds w2 =>
    rw [e] at post1
    have post1 : PostS G Wx Hs1 De (.nx ((sd.set j (.own ds)).set i (.val d)) w2) := post1
    intro a vs H2 Hs2 b2 h1 h2 h3 h4 h5
    have rs2 := rs1.step b2
    have hne : ∀ (j : Nat) (es : List D), sd[j]? = some (SV.own es) → σ[j]? ≠ some (some (.ref a)) := fun j es hj hσ => by
      obtain ⟨c, us, e1, e2, _⟩ := rs1.s.own j es hj
      rw [hσ] at e1
      cases e1
      exact h4 _ e2 lst_noT
    refine ⟨v, .ref a, rfl, ?_⟩
    have rs3 := rs2.setOwn (i := j) h1 h2 h3 (fun o' e hn => h4 o' (rs1.b.keep a o' h5 hn e) hn) h5 hne
    have := post1 _ H2 Hs2 (rs3.setVal (i := i) (q1.mono b2.sub0)) b2.sub0
    rw [List.set_comm _ _ (Ne.symm hij)] at this
    exact this
end
end FT
namespace FT
open PySem PySem.Spec PyProof.Rows L2
/-- the scope that a block has: free names that are cells of the def's -/
def relSc (sc d : Scope) : Scope := relabel sc { scope := d, locals := 0, globals := 0, cells := [] }
theorem blkOk_by2 {N N' : List Str} {sc sc' scope : Scope} {own : List (Str × Nat)} (h : blkC N sc scope own = true) (hN : N' = N := by rfl) (hs : sc' = sc := by rfl) : BlkOk N' sc' scope own := by
  subst hN; subst hs; exact blkOk_by h
end FT
end
section
set_option Elab.async false
set_option linter.all false
set_option maxRecDepth 100000
set_option maxHeartbeats 4000000
namespace PySem
open Sem (wp)
open AutoSeq1 (wpAny_loadPart')
theorem meets_enumerate_newT (l : Addr) (items : Array Value) (n : Nat) (dct : Option Addr) (sl : Array (Option Value)) :
    Meets (Builtin.«enumerate.__new__» ⟨[.type "enumerate", .ref l], []⟩) (fun _ R s => s.heap.get? l = some { cls := .type "tuple", dict := dct, data := .seq items n, slots := sl } ∧
      R (.ok (.ret (.ref (s.heap.push { cls := .type "tuple_iterator", data := .fields #[.ref l, .int 0 0] }).objs.size)))
        { s with heap := (s.heap.push { cls := .type "tuple_iterator", data := .fields #[.ref l, .int 0 0] }).push { cls := .type "enumerate", data := .fields #[.none, .bool false, .ref s.heap.objs.size, rawInt 0, .none, .none] } }) :=
  .of_wp fun prog w A R s h => by
    obtain ⟨hp, g, d, tk, os⟩ := s; obtain ⟨hl, h⟩ := h
    have hsub := sub_enumerate
    have hL : Heap.IsTuple (Shared.heap ⟨hp, g, d, tk, os⟩) l items := ⟨_, hl, rfl, n, rfl⟩
    wp_walk using wpAny_loadPart' hl
    refine wpAny_stack_any fun st => wpAny_pure ?_
    split
    · rename_i c _ _ _ _ _
      cases (c == Value.type "enumerate")
      · wp_walk using wpAny_loadPart' hl, wpAny_pyIter_tuple hL
        exact ⟨_, rfl, h⟩
      · wp_walk using wpAny_loadPart' hl, wpAny_pyIter_tuple hL
        exact ⟨_, rfl, h⟩
    · wp_walk using wpAny_loadPart' hl, wpAny_pyIter_tuple hL
      exact ⟨_, rfl, h⟩
theorem call_enumerate_tuple {prog : Program} {w : World} {A : Around} {E : Value → Shared → Prop} {s : Shared} {l : Addr} {items : Array Value} {Q : Value → Shared → Prop} (hL : s.heap.IsTuple l items)
    (h : ∀ h', IsEnum h' (s.heap.objs.size + 1) s.heap.objs.size 0 .none → h'.IsTupleIter s.heap.objs.size l 0 → h'.objs.size = s.heap.objs.size + 2 →
      (∀ b o, s.heap.get? b = some o → h'.get? b = some o) → Q (.ref (s.heap.objs.size + 1)) { s with heap := h' }) :
    wpAny (model prog w) A (call (.type "enumerate") [.ref l]) Q E s := by
  obtain ⟨⟨c, dct, dt, sl⟩, hl, hc, n, hd⟩ := hL
  replace hc : c = .type "tuple" := hc
  replace hd : dt = .seq items n := hd
  subst hc hd
  refine callType_new F.called_enumerate (by decide) (F.typeCall_enumerate_1 _) (F.newCall_enumerate_1 _) (fun obj => F.args_object_init_2 obj _) F.entry_enumerate_new
    (meets_enumerate_newT l items n dct sl) ⟨hl, ?_⟩
  have hz : (s.heap.push { cls := .type "tuple_iterator", data := .fields #[.ref l, .int 0 0] }).objs.size = s.heap.objs.size + 1 := Heap.size_push ..
  show _ ∧ _
  rw [hz]
  have he : IsEnum ((s.heap.push { cls := .type "tuple_iterator", data := .fields #[.ref l, .int 0 0] }).push
      { cls := .type "enumerate", data := .fields #[.none, .bool false, .ref s.heap.objs.size, rawInt 0, .none, .none] }) (s.heap.objs.size + 1) s.heap.objs.size 0 .none := by
    have := Heap.get?_push_size (s.heap.push { cls := .type "tuple_iterator", data := .fields #[.ref l, .int 0 0] })
      (o := { cls := .type "enumerate", data := .fields #[.none, .bool false, .ref s.heap.objs.size, rawInt 0, .none, .none] }) rfl
    rw [hz] at this; exact this
  refine ⟨⟨_, he, rfl⟩, h _ he ⟨_, Heap.get?_push_of_some _ (Heap.get?_push_size _ rfl), rfl, rfl⟩ (by rw [Heap.size_push, hz]) fun b o x => Heap.get?_push_of_some _ (Heap.get?_push_of_some _ x)⟩
end PySem
namespace FT
open PySem PySem.Spec PyProof.Rows L2
/-! ### enumerate of a list, a tuple, a text -/
def IteA (K : PySem.W.Frag) (p : Sd) : It :=
  ⟨fun i H => ∃ (xs : List V) (x : V), p.At K H xs ∧ xs[i]? = some x, fun i H v H' => ∃ T x, v = .ref T ∧ H T = none ∧ H' = upd H T (.tup [.int (i : Nat), x]) ∧ ∀ xs, p.At K H xs → xs[i]? = some x, fun i H => ∃ xs : List V, p.At K H xs ∧ i = xs.length⟩
theorem turn_enumA {P : Program} {w : World} {K : PySem.W.Frag} {elts : List Expr} {kk : Nat} {tpos : Pos} {p : Sd} {e it : Addr} (hne : e ≠ it) (hef : e ∉ p.fp it) (ne1 : ∀ a, p = .lst a ∨ p = .tup a → a ≠ it) :
    Turn P w K (.Tuple elts kk tpos) (IteA K p) [e, it] e (fun i h => (∃ old, IsEnum h e it ((i : Nat) : Int) old) ∧ p.on it i h) where
  mem := by simp
  obj := fun i h st b hb => by
    obtain ⟨⟨old, he⟩, h1⟩ := st
    have e' : b = e ∨ b = it := by simpa using hb
    rcases e' with z | z
    · rw [z]; exact ⟨_, he, fun v q => nomatch q⟩
    · rw [z]; exact Sd.on_obj (sd := p) h1
  keep := fun i h h' st k => let ⟨⟨old, he⟩, hi⟩ := st; ⟨⟨old, k e (by simp) _ he⟩, Sd.on_at (sd := p) hi fun o q => k it (by simp) o q⟩
  item := by
    intro X hP hw hK hc i pins s σ H E I hf st hg
    subst hP hw hK
    obtain ⟨⟨old, he⟩, hit⟩ := st
    obtain ⟨xs, x, hq, hx⟩ := hg
    obtain ⟨P1, St1, D1, f1, g1, r1⟩ := Sd.draws hc I hq it (fun a _ => Classical.em _) ne1
    have hel : e < s.heap.objs.size := Heap.lt_size he
    have hil : it < s.heap.objs.size := by obtain ⟨_, e1, _⟩ := Sd.on_obj (sd := p) hit; exact Heap.lt_size e1
    refine wpAny_pyNext_enum_itemD D1 he (f1 i hit) (List.getElem?_eq_some_iff.mp hx).1 hne hef fun u h' tk hp ho hst' hT hsz hk => ?_
    have ru := r1 i u x hp hx
    have hit' := g1 _ _ hst'
    refine ⟨_, rfl, wpAny_letOwnedTupleGo_enum (s := { s with heap := h', toks := tk + 1 }) ho fun h'' he' sb => ?_⟩
    have hT2 : h''.get? s.heap.objs.size = some { cls := .type "tuple", data := .seq #[.int i tk, u] } := (sb.2 _ (Nat.ne_of_gt hel)).trans hT
    have new : ObjOk X.prog X.w (upd H s.heap.objs.size (.tup [.int (i : Nat), x])) h'' s.heap.objs.size (.tup [.int (i : Nat), x]) :=
      ⟨by show 2 ≤ sizeLine; decide, [.int i tk, u], .cons ⟨_, rfl⟩ (.cons ru .nil), ⟨_, hT2, rfl, _, rfl⟩⟩
    have I1 : Inv X pins σ (upd H s.heap.objs.size (.tup [.int (i : Nat), x])) { s with heap := h'', toks := tk + 1 } :=
      I.turnedNew (t' := tk + 1) (ch := [e, it]) (fun b ob hb q => (sb.2 b (fun z => hb (by simp [z]))).trans (hk b ob (fun z => hb (by simp [z])) (fun z => hb (by simp [z])) q)) hf (Nat.le_refl _) new
    refine ⟨.ref s.heap.objs.size, _, I1, rfl, ⟨_, x, rfl, I.hok.fresh (Nat.le_refl _), rfl, fun ys hy => by rw [Sd.at_inj I hq hy]; exact hx⟩, ⟨⟨u, ?_⟩, Sd.on_at (sd := p) hit' fun o q => (sb.2 it (Ne.symm hne)).trans q⟩, fun b hb => ?_⟩
    · have e1 : ((i + 1 : Nat) : Int) = (i : Int) + 1 := by omega
      rw [e1]; exact he'
    · have hb' : b < s.heap.objs.size := by
        have e' : b = e ∨ b = it := by simpa using hb
        rcases e' with z | z
        · rw [z]; exact hel
        · rw [z]; exact hil
      rw [upd_ne (Nat.ne_of_lt hb')]
      exact (hf b hb).1
  done := by
    intro X hP hw hK hc i pins s σ H E I hf st hg
    subst hP hw hK
    obtain ⟨⟨old, he⟩, hit⟩ := st
    obtain ⟨xs, hq, hx⟩ := hg
    subst hx
    obtain ⟨P1, St1, D1, f1, g1, r1⟩ := Sd.draws hc I hq it (fun a _ => Classical.em _) ne1
    obtain ⟨f0, f1', f2, f3, f4, f5⟩ := hf it (by simp)
    exact wpAny_pyNext_enum_endD D1 he (f1 _ hit) fun h' eb => ⟨rfl, I.turned (t' := s.toks) (fun b o hb q => eb b o hb q) f0 f1' f3 f4 f5⟩
  self := fun A i s Q E st h => let ⟨⟨_, he⟩, _⟩ := st; wpAny_pyIter_enum he h
def iEnumX (K : PySem.W.Frag) (ta : TA) : TI := fun σ H R => ta σ H fun vs H1 => ∃ x f xs, vs = [x] ∧ SdV K H1 x f xs ∧ ∀ t, R (IteA K (f t)) H1
theorem pi_enumX {X : Cx} {e : Expr} {ta : TA} {p pos tpos : Pos} {elts : List Expr} {kk : Nat} (hg : Gl X "enumerate") (hm : X.mg "enumerate" = none) (ha : PA X [e] ta) (hs : starEach [e] X.env = [(false, eval e X.env)] := by rfl) :
    PI X (.Tuple elts kk tpos) (.Call (.Name "enumerate" p) [e] [] pos) (iEnumX X.K ta) := by
  refine ⟨fun pins s σ H R I h => ?_⟩
  refine Call_ (ld_blt I hg hm boot_enumerate (PyProof.Rows.callWith_type1 (thn (ha.run pos pins s σ H _ I h) fun us s1 ⟨vs, H1, I1, r1, q1⟩ => ?_) hs rfl))
  obtain ⟨x, f, xs, ex, hq, q⟩ := q1
  subst ex
  cases r1 with
  | cons r rr =>
    cases rr
    obtain ⟨t, o1, a1⟩ := hq.of r
    have fin : ∀ h', IsEnum h' (s1.heap.objs.size + 1) s1.heap.objs.size 0 .none → (f t).on s1.heap.objs.size 0 h' → (∀ b o, s1.heap.get? b = some o → h'.get? b = some o) → (∀ a, f t = .lst a ∨ f t = .tup a → a < s1.heap.objs.size) →
        wpAny (model X.prog X.w) X.A (pyIter (.ref (s1.heap.objs.size + 1))) (PIE X pins σ (.Tuple elts kk tpos) R) X.xe { s1 with heap := h' } := fun h' he hit hk lt1 => by
      refine wpAny_pyIter_enum he ?_
      have I2 : Inv X pins σ H1 { s1 with heap := h' } := I1.kept (t' := s1.toks) hk
      have fresh2 : ∀ c, c ∈ [s1.heap.objs.size + 1, s1.heap.objs.size] → FpOk X pins H1 c := fun c hcm => by
        have e' : c = s1.heap.objs.size + 1 ∨ c = s1.heap.objs.size := by simpa using hcm
        have hle : s1.heap.objs.size ≤ c := by omega
        exact I1.fpOk hle (I1.hok.fresh hle)
      refine ⟨s1.heap.objs.size + 1, [s1.heap.objs.size + 1, s1.heap.objs.size], _, _, H1, rfl, I2, turn_enumA (p := f t) (Nat.ne_of_gt (Nat.lt_succ_self _)) (fun hm => ?_) (fun a ha => Nat.ne_of_lt (lt1 a ha)), ⟨⟨.none, he⟩, hit⟩, fresh2, q t⟩
      cases hf : f t with
      | lst a =>
        rw [hf] at hm
        have := lt1 a (.inl hf)
        have e' : s1.heap.objs.size + 1 = s1.heap.objs.size ∨ s1.heap.objs.size + 1 = a := by simpa [Sd.fp] using hm
        rcases e' with e' | e'
        · exact absurd e' (Nat.succ_ne_self _)
        · rw [← e'] at this; exact Nat.lt_irrefl _ (Nat.lt_trans (Nat.lt_succ_self _) this)
      | tup a =>
        rw [hf] at hm
        have := lt1 a (.inr hf)
        have e' : s1.heap.objs.size + 1 = s1.heap.objs.size ∨ s1.heap.objs.size + 1 = a := by simpa [Sd.fp] using hm
        rcases e' with e' | e'
        · exact absurd e' (Nat.succ_ne_self _)
        · rw [← e'] at this; exact Nat.lt_irrefl _ (Nat.lt_trans (Nat.lt_succ_self _) this)
      | txt z t' =>
        rw [hf] at hm
        have e' : s1.heap.objs.size + 1 = s1.heap.objs.size := by simpa [Sd.fp] using hm
        omega
    generalize hf : f t = sd at *
    cases o1 with
    | lst a =>
      obtain ⟨its, rv, p', hz⟩ := I1.list a1
      exact call_enumerate_list p'.isList fun h' he hit hsz hk => fin h' he hit hk fun b hb => by rcases hb with hb | hb <;> cases hb; exact p'.lt
    | tup a =>
      obtain ⟨its, rv, p', hz⟩ := I1.tuple a1
      obtain ⟨ob, ho1, _⟩ := id p'
      exact call_enumerate_tuple p' fun h' he hit hsz hk => fin h' he hit hk fun b hb => by rcases hb with hb | hb <;> cases hb; exact Heap.lt_size ho1
    | txt z t' =>
      exact call_enumerate_str fun h' he hit hsz hk => fin h' he hit hk fun b hb => by rcases hb with hb | hb <;> cases hb
theorem walk_enumA {c : Cc} {K : PySem.W.Frag} {p : Sd} {ds : List D} {P : Hp → Hp → Prop} (h : ∀ H Hs, P H Hs → Same Hs H → ∃ vs, p.At K H vs ∧ RepL c Hs ds vs) : Walk c (IteA K p) (enumD 0 ds) P := by
  refine ⟨fun i d H Hs e p s => ?_, fun H Hs p s => ?_⟩
  · obtain ⟨vs, h1, h2⟩ := h H Hs p s
    rw [enumD_get] at e
    cases e0 : ds[i]? with
    | none => rw [e0] at e; cases e
    | some d0 =>
      rw [e0] at e
      cases e
      obtain ⟨v, e1, r1⟩ := h2.get e0
      refine ⟨⟨vs, v, h1, e1⟩, fun x H' ⟨T, x0, y1, y2, y3, y4⟩ => .inr ⟨T, _, _, y2, y3, y1, rfl, ?_⟩⟩
      have := (y4 vs h1).symm.trans e1
      cases this
      exact ⟨_, _, rfl, by simp [Rep], _, _, rfl, r1, rfl⟩
  · obtain ⟨vs, h1, h2⟩ := h H Hs p s
    exact ⟨vs, h1, by rw [h2.length, enumD_len]⟩
section
variable {X : Cx} {G : Gh} {Wx : WX} {e : Expr} {te : TE} {m : ME D} {p pos tpos : Pos} {elts : List Expr} {kk : Nat}
def mEnumX (m : ME D) : ME (List D) := fun sd w => (m sd w).bind fun d w1 => match items d with
  | some ds => .ok (enumD 0 ds) w1
  | none => .bad
@[simp] theorem s_mEnumX (m : ME D) (sd : SD) (w : List D) : mEnumX m sd w = ((m sd w).bind fun d w1 => match items d with
  | some ds => .ok (enumD 0 ds) w1
  | none => .bad) := (rfl)
theorem jib_enumX (hm : X.mg "enumerate" = none) (he : JB X G Wx e te m) (hg : Gl X "enumerate" := by rfl) (hs : starEach [e] X.env = (false, eval e X.env) :: starEach [] X.env := by rfl) (hs2 : starEach [e] X.env = [(false, eval e X.env)] := by rfl) (hK : X.K = G.c.K := by rfl) :
    JIB X G Wx (.Tuple elts kk tpos) (.Call (.Name "enumerate" p) [e] [] pos) (iEnumX G.c.K (tCons te tNil)) (mEnumX m) := by
  refine ⟨by rw [← hK]; exact pi_enumX hg hm (pa_cons he.pe pa_nil hs) hs2, fun sd w σ H Hs Q rs post => ?_⟩
  refine he.si sd w σ H Hs _ rs ?_
  unfold mEnumX at post
  cases e : m sd w with
  | ok d w' =>
    rw [e] at post
    intro v H' Hs' b q
    have rs' := rs.step b
    have post' : PostI G Wx σ H Hs (PB G) Q (match items d with
      | some ds => .ok (enumD 0 ds) w'
      | none => .bad) := post
    cases e1 : items d with
    | none => rw [e1] at post'; exact post'.elim
    | some ys =>
      rw [e1] at post'
      obtain ⟨f1, xs1, a1, a2⟩ := sideB q e1 rs'.b.sub
      exact ⟨v, f1, xs1, rfl, a1, fun t => post' _ H' Hs' b (walk_enumA (a2 t))⟩
  | exc c ns ds w' => rw [e] at post; exact post
  | bad => rw [e] at post; exact post
theorem ji_enumX (hm : X.mg "enumerate" = none) (he : JE X G Wx e te m) (hg : Gl X "enumerate" := by rfl) (hs : starEach [e] X.env = (false, eval e X.env) :: starEach [] X.env := by rfl) (hs2 : starEach [e] X.env = [(false, eval e X.env)] := by rfl) (hK : X.K = G.c.K := by rfl) :
    JI X G Wx (.Tuple elts kk tpos) (.Call (.Name "enumerate" p) [e] [] pos) (iEnumX G.c.K (tCons te tNil)) (mEnumX m) := by
  refine ⟨by rw [← hK]; exact pi_enumX hg hm (pa_cons he.pe pa_nil hs) hs2, fun sd w σ H Hs Q rs post => ?_⟩
  refine he.si sd w σ H Hs _ rs ?_
  unfold mEnumX at post
  cases e : m sd w with
  | ok d w' =>
    rw [e] at post
    intro v H' Hs' b q
    have rs' := rs.step b
    have post' : PostI G Wx σ H Hs _ Q (match items d with
      | some ds => .ok (enumD 0 ds) w'
      | none => .bad) := post
    cases e1 : items d with
    | none => rw [e1] at post'; exact post'.elim
    | some ys =>
      rw [e1] at post'
      obtain ⟨f1, xs1, a1, a2⟩ := sideI q e1 rs'.b.sub
      exact ⟨v, f1, xs1, rfl, a1, fun t => post' _ H' Hs' b (walk_enumA (a2 t))⟩
  | exc c ns ds w' => rw [e] at post; exact post
  | bad => rw [e] at post; exact post
end
end FT
end
section
set_option Elab.async false
set_option linter.all false
set_option maxRecDepth 100000
set_option maxHeartbeats 4000000
namespace GQ
open PySem PySem.SeqAt
open AutoSeq1 (wpAny_loadPart')
open MeetsSeq MeetsSeq2 MeetsSeq3 SeqRoads2
section
variable {prog : Program} {w : World} {A : Around} {R : Result → Shared → Prop}
theorem tuple_eq_nil (l b : Addr) (items : Array Value) (n n2 : Nat) (dd dd2 : Option Addr) (sl sl2 : Array (Option Value)) {s : Shared}
    (hl1 : s.heap.get? l = some { cls := .type "tuple", dict := dd, data := .seq items n, slots := sl }) (hb1 : s.heap.get? b = some { cls := .type "tuple", dict := dd2, data := .seq #[] n2, slots := sl2 })
    (fin : R (.ok (.ret (.bool (items.size == 0)))) s) :
    wpAny (model prog w) A.in1 (Builtin.«tuple.__eq__» ⟨[.ref l, .ref b], []⟩) (FinOf prog w A R) (fun e s' => R (.error e) s') s := by
  have f2 := AutoSeq1.sub_tuple_tuple
  have hz : items.toList.zip (#[] : Array Value).toList = [] := by simp
  obtain ⟨hp, g, d, tk, os⟩ := s
  wp_walk using wpAny_loadPart' hl1, wpAny_loadPart' hb1, wpAny_forIn_list _ (fun rest b s' => b.1 = none ∧ rest = [] ∧ R (.ok (.ret (.bool (items.size == 0)))) s') _
  case turn =>
    rintro ⟨y, x⟩ rest b s' ⟨hb', hz', _⟩
    cases hz'
  case fin =>
    rintro ⟨b1, b2⟩ s' ⟨hb', _, hR⟩
    simp only at hb'
    subst hb'
    wp_walk
    simpa [Builtin.Tuple.tupleCompareSizes] using hR
  case h =>
    exact ⟨rfl, hz, fin⟩
end
end GQ
namespace GQ
open PySem PySem.SeqAt
section
variable {prog : Program} {w : World} {A : Around} {E : Value → Shared → Prop} {s : Shared}
theorem rc_tupN {l b : Addr} {items : Array Value} {Q : Value → Shared → Prop} (hu : A.units < cLine)
    (hl : s.heap.IsTuple l items) (hb : s.heap.IsTuple b #[]) (fin : Q (.bool (items.size == 0)) s) : wpAny (model prog w) A (richCompare .Eq (.ref l) (.ref b)) Q E s := by
  obtain ⟨⟨cls, dd, data, sl⟩, ho, hc, n, hd⟩ := id hl
  obtain ⟨⟨cls2, dd2, data2, sl2⟩, ho2, hc2, n2, hd2⟩ := id hb
  simp only at hc hd hc2 hd2
  subst hc hd hc2 hd2
  refine wpAny_richCompare_same_room (op := .Eq) ⟨_, ho, rfl⟩ ⟨_, ho2, rfl⟩ F.slot_tuple_eq (call_here F.slot_tuple_eq ⟨_, ho, rfl⟩ F.entry_tuple_eq (F.args_tuple_eq_2 _ _) ?_) hu
  exact tuple_eq_nil (R := wants (fun v s' => v ≠ .notImplemented ∧ Q v s') E) l b items n n2 dd dd2 sl sl2 ho ho2 ⟨(fun x => nomatch x), fin⟩
end
end GQ
namespace FT
open PySem PySem.Spec PyProof.Rows L2 StX
section
variable {X : Cx} {G : Gh} {Wx : WX} {w w' w1 w2 : List D} {H Hs H' Hs' H1 Hs1 H2 Hs2 : Hp} {sd : SD} {σ : L2.St}
variable {e o a b : Expr} {es : List Expr} {te ta tb tc : TE} {t : TA} {m mo mb mc mA : ME D} {ml : ME (List D)} {p pos cpos apos : Pos}
/-! ### a tuple against the empty one -/
def rEqE (K : PySem.W.Frag) : R2 := fun x y H Q => ∃ a b xs, x = .ref a ∧ y = .ref b ∧ SqT K H a xs ∧ SqT K H b [] ∧ Q (.bl (xs.length == 0)) H
theorem op_eqE (hu : X.A.units < cLine) : OpR X (compareOp .Eq) (rEqE X.K) := by
  intro pins s σ H x y v u Q I rx ry ⟨a, b, xs, hx, hy, ha, hb, q⟩
  subst hx hy
  cases rx
  cases ry
  show wpAny (model X.prog X.w) X.A (richCompare .Eq _ _) (EP X pins σ Q) X.xe s
  obtain ⟨its, r, e, z⟩ := I.tuple ha
  obtain ⟨its2, r2, e2, z2⟩ := I.tuple hb
  cases r2
  refine GQ.rc_tupN hu e e2 ⟨.bl _, H, I, ?_, q⟩
  rw [List.size_toArray, r.length]; rfl
def oEqE : D → D → Option D
  | .tup ds, .tup [] => some (.bl (ds.length == 0))
  | _, _ => none
theorem opd_eqE {K : PySem.W.Frag} (hK : K = G.c.K) : OpD G (rEqE K) oEqE := by
  subst hK
  intro w H Hs x y a b d Q hb h1 h2 e q
  unfold oEqE at e
  split at e
  · cases e
    obtain ⟨p1, v1, rfl, t1, l1⟩ := h1
    obtain ⟨p2, v2, rfl, t2, l2⟩ := h2
    obtain rfl : v2 = [] := l2
    refine ⟨p1, p2, v1, rfl, rfl, sqT_mono hb.sub t1, sqT_mono hb.sub t2, ?_⟩
    rw [l1.length]
    exact q _ H Hs hb.refl_at rfl
  · cases e
theorem je_eqE {k : Nat} (hr : Room k X.A) (ha : JB X G Wx a ta mA) (hb : JB X G Wx b tb mb) (hK : X.K = G.c.K := by rfl) : JE X G Wx (.Compare a [.Eq] [b] pos) (tOp (rEqE G.c.K) ta tb) (mBin oEqE mA mb) :=
  je_cmp (by rw [← hK]; exact op_eqE (by have := hr.un; omega)) (opd_eqE rfl) ha hb (nomark _)
theorem jc_eqE {k : Nat} (hr : Room k X.A) (ha : JB X G Wx a ta mA) (hb : JB X G Wx b tb mb) (hK : X.K = G.c.K := by rfl) : JC X G Wx (.Compare a [.Eq] [b] pos) (tOp (rEqE G.c.K) ta tb) (mBin oEqE mA mb) :=
  jc_cmp (by rw [← hK]; exact op_eqE (by have := hr.un; omega)) (opd_eqE rfl) ha hb (nomark _)
/-! ### in a tuple of flat things -/
def flatD : D → Bool
  | .non => true
  | .bl _ => true
  | .int _ => true
  | .str _ => true
  | _ => false
theorem flat_V {c : Cc} {H : Hp} {d : D} {v : V} (r : Rep c H d v) (h : flatD d = true) : flatV v = true := by
  cases d with
  | non => obtain rfl : v = .non := r; rfl
  | bl => obtain rfl : v = .bl _ := r; rfl
  | int => obtain rfl : v = .int _ := r; rfl
  | str => obtain ⟨rfl, _⟩ := r; rfl
  | _ => cases h
theorem eq_flat {c : Cc} {H : Hp} {d d2 : D} {v v2 : V} (r : Rep c H d v) (h : flatD d = true) (r2 : Rep c H d2 v2) (h2 : flatD d2 = true) : eqV v v2 = eqD d d2 := by
  cases d with
  | non =>
    obtain rfl : v = .non := r
    cases d2 with
    | non => obtain rfl : v2 = .non := r2; rfl
    | bl => obtain rfl : v2 = .bl _ := r2; rfl
    | int => obtain rfl : v2 = .int _ := r2; rfl
    | str => obtain ⟨rfl, _⟩ := r2; rfl
    | _ => cases h2
  | bl =>
    obtain rfl : v = .bl _ := r
    cases d2 with
    | non => obtain rfl : v2 = .non := r2; rfl
    | bl => obtain rfl : v2 = .bl _ := r2; rfl
    | int => obtain rfl : v2 = .int _ := r2; rfl
    | str => obtain ⟨rfl, _⟩ := r2; rfl
    | _ => cases h2
  | int =>
    obtain rfl : v = .int _ := r
    cases d2 with
    | non => obtain rfl : v2 = .non := r2; rfl
    | bl => obtain rfl : v2 = .bl _ := r2; rfl
    | int => obtain rfl : v2 = .int _ := r2; rfl
    | str => obtain ⟨rfl, _⟩ := r2; rfl
    | _ => cases h2
  | str =>
    obtain ⟨rfl, _⟩ := r
    cases d2 with
    | non => obtain rfl : v2 = .non := r2; rfl
    | bl => obtain rfl : v2 = .bl _ := r2; rfl
    | int => obtain rfl : v2 = .int _ := r2; rfl
    | str => obtain ⟨rfl, _⟩ := r2; exact str_beq _ _
    | _ => cases h2
  | _ => cases h
theorem in_flat {c : Cc} {H : Hp} {d : D} {v : V} (r : Rep c H d v) (h : flatD d = true) : ∀ {ds : List D} {vs : List V}, RepL c H ds vs → ds.all flatD = true → vs.all flatV = true ∧ inV v vs = ds.any fun z => eqD z d
  | [], vs, l, _ => by
    obtain rfl : vs = [] := l
    exact ⟨rfl, rfl⟩
  | d2 :: ds, vs, l, hh => by
    obtain ⟨v2, vs, rfl, r2, l2⟩ := l
    rw [List.all_cons, Bool.and_eq_true] at hh
    obtain ⟨i1, i2⟩ := in_flat r h l2 hh.2
    refine ⟨by rw [List.all_cons, flat_V r2 hh.1, i1]; rfl, ?_⟩
    show (eqV v2 v || inV v vs) = _
    rw [eq_flat r2 hh.1 r h, i2]; rfl
def oInT (neg : Bool) : D → D → Option D
  | a, .tup ds => if (flatD a && ds.all flatD) = true then some (.bl (if neg then !ds.any fun z => eqD z a else ds.any fun z => eqD z a)) else none
  | _, _ => none
theorem opd_inT {K : PySem.W.Frag} (hK : K = G.c.K) (neg : Bool) : OpD G (rIn K neg) (oInT neg) := by
  subst hK
  intro w H Hs x y a b d Q hb h1 h2 e q
  unfold oInT at e
  split at e
  · rename_i ds
    split at e
    · rename_i hc
      cases e
      obtain ⟨f1, f2⟩ := Bool.and_eq_true_iff.mp hc
      have h1' : Rep G.c Hs a x := by
        cases a <;> first | exact h1 | cases f1
      obtain ⟨p2, v2, rfl, t2, l2⟩ := h2
      obtain ⟨i1, i2⟩ := in_flat h1' f1 l2 f2
      refine ⟨p2, v2, rfl, .inr (sqT_mono hb.sub t2), flat_V h1' f1, i1, ?_⟩
      rw [i2]
      exact q _ H Hs hb.refl_at rfl
    · cases e
  · cases e
theorem je_inT (ha : JB X G Wx a ta mA) (hb : JB X G Wx b tb mb) (hm : behindInMarks .In b = false := by with_unfolding_all rfl) (hK : X.K = G.c.K := by rfl) : JE X G Wx (.Compare a [.In] [b] pos) (tOp (rIn G.c.K false) ta tb) (mBin (oInT false) mA mb) :=
  je_cmp (by rw [← hK]; exact op_in_seq) (opd_inT rfl false) ha hb hm
theorem jc_inT (ha : JB X G Wx a ta mA) (hb : JB X G Wx b tb mb) (hm : behindInMarks .In b = false := by with_unfolding_all rfl) (hK : X.K = G.c.K := by rfl) : JC X G Wx (.Compare a [.In] [b] pos) (tOp (rIn G.c.K false) ta tb) (mBin (oInT false) mA mb) :=
  jc_cmp (by rw [← hK]; exact op_in_seq) (opd_inT rfl false) ha hb hm
theorem jc_notinT (ha : JB X G Wx a ta mA) (hb : JB X G Wx b tb mb) (hm : behindInMarks .NotIn b = false := by with_unfolding_all rfl) (hK : X.K = G.c.K := by rfl) : JC X G Wx (.Compare a [.NotIn] [b] pos) (tOp (rIn G.c.K true) ta tb) (mBin (oInT true) mA mb) :=
  jc_cmp (by rw [← hK]; exact op_notIn_seq) (opd_inT rfl true) ha hb hm
/-! ### max, min of two -/
def fMax2 : List D → List D → Option D
  | _, [.int i, .int j] => some (.int (if j > i then j else i))
  | _, _ => none
def fMin2 : List D → List D → Option D
  | _, [.int i, .int j] => some (.int (if j < i then j else i))
  | _, _ => none
theorem je_max2 (hm : X.mg "max" = none) (ha : JAB X G Wx [a, b] t ml) (hc : X.calm = true := by rfl) (hg : Gl X "max" := by rfl) (he : starEach [a, b] X.env = (false, eval a X.env) :: starEach [b] X.env := by rfl) (hs : (backTo pos (starEach [b] X.env)).any (·.1) = false := by rfl) :
    JE X G Wx (.Call (.Name "max" p) [a, b] [] pos) (tCB (fun xs H Q => ∃ i j, xs = [V.int i, .int j] ∧ Q (.int (if j > i then j else i)) H) t) (mCB fMax2 ml) :=
  je_callB (call_max2 hc) (by
    intro w H Hs xs ds d Q hb h e q
    unfold fMax2 at e
    split at e
    · cases e
      obtain ⟨v, v2, rfl, rfl, rfl⟩ := repBL2 h
      exact ⟨_, _, rfl, q _ H Hs hb.refl_at rfl⟩
    · cases e) hg hm (by decide +kernel) ha (by decide) (by decide) he hs
theorem je_min2 (hm : X.mg "min" = none) (ha : JAB X G Wx [a, b] t ml) (hc : X.calm = true := by rfl) (hg : Gl X "min" := by rfl) (he : starEach [a, b] X.env = (false, eval a X.env) :: starEach [b] X.env := by rfl) (hs : (backTo pos (starEach [b] X.env)).any (·.1) = false := by rfl) :
    JE X G Wx (.Call (.Name "min" p) [a, b] [] pos) (tCB (fun xs H Q => ∃ i j, xs = [V.int i, .int j] ∧ Q (.int (if j < i then j else i)) H) t) (mCB fMin2 ml) :=
  je_callB (call_min2 hc) (by
    intro w H Hs xs ds d Q hb h e q
    unfold fMin2 at e
    split at e
    · cases e
      obtain ⟨v, v2, rfl, rfl, rfl⟩ := repBL2 h
      exact ⟨_, _, rfl, q _ H Hs hb.refl_at rfl⟩
    · cases e) hg hm (by decide +kernel) ha (by decide) (by decide) he hs
/-! ### *xs in a display -/
def mStar (me : ME D) (mr : ME (List D)) : ME (List D) := fun sd w => (me sd w).bind fun d w1 => match d with
  | .tup es => (mr sd w1).bind fun ds w2 => .ok (es ++ ds) w2
  | .lst es => (mr sd w1).bind fun ds w2 => .ok (es ++ ds) w2
  | _ => .bad
theorem ja_star (ha : JE X G Wx e te m) (hr : JA X G Wx es t ml) (hs : starEach (.Starred e p :: es) X.env = (true, eval e X.env) :: starEach es X.env := by rfl) (hK : X.K = G.c.K := by rfl) :
    JA X G Wx (.Starred e p :: es) (tStar G.c.K te t) (mStar m ml) := by
  refine ⟨by rw [← hK]; exact pa_star ha.pe hr.pe hs, fun sd w σ H Hs Q rs post => ?_⟩
  refine ha.si.bind rs post fun d w1 v H1 Hs1 rs1 b1 q1 post1 => ?_
  cases d with
  | tup ds =>
    obtain ⟨p, vs, rfl, tv, lv⟩ := q1
    refine ⟨p, vs, rfl, .inl (sqT_mono rs1.b.sub tv), ?_⟩
    refine hr.si.bind rs1 post1 fun ds2 w2 vs2 H2 Hs2 rs2 b2 q2 post2 => ?_
    exact post2 _ H2 Hs2 rs2.b.refl_at ((lv.mono b2.sub0).append q2)
  | lst ds =>
    obtain ⟨p, vs, rfl, tv, lv⟩ := q1
    refine ⟨p, vs, rfl, .inr (.inl (.inl (rs1.b.sub _ _ tv))), ?_⟩
    refine hr.si.bind rs1 post1 fun ds2 w2 vs2 H2 Hs2 rs2 b2 q2 post2 => ?_
    exact post2 _ H2 Hs2 rs2.b.refl_at ((lv.mono b2.sub0).append q2)
  | _ => exact post1.elim
end
end FT
end
section
set_option Elab.async false
set_option linter.all false
set_option maxRecDepth 100000
set_option maxHeartbeats 4000000
namespace FT
open PySem PySem.Spec PyProof.Rows L2
section
variable {X : Cx} {G : Gh} {Wx : WX} {w w' w1 w2 : List D} {H Hs H' Hs' H1 Hs1 H2 Hs2 : Hp} {sd : SD} {σ : L2.St}
variable {e o a b : Expr} {es : List Expr} {te ta tb tc : TE} {t : TA} {m mo mb mc mA : ME D} {ml : ME (List D)} {p pos cpos apos : Pos}
variable {k : Nat} {f C : Addr} {fd : FuncData} {ps : List Str}
/-! ### len of an own thing -/
def rLenOwn (C : Addr) (sp : Sp) : List V → Hp → VK → Prop := fun xs H Q => ∃ (a dx : Addr) (fs : List (Str × V)), xs = [.ref a] ∧ H a = some (.ins C dx fs) ∧ sp [.ref a] H (fun v H' => (∃ i : Int, v = .int i ∧ 0 ≤ i ∧ i < 2 ^ 63) ∧ Q v H') (fun _ _ _ => False)
theorem call_lenOwn {sp : Sp} (F : FnOk X.prog X.w X.K X.mg X.base (L2.CX X.prog X.w) k f fd ps sp) (hr : Room (k + 1) X.A) (hs : PySem.W.findIn X.K (.ref C) "__len__" = some (some (.ref f))) (hf : PySem.W.isFn X.K (.ref f) = true) (hb : L2.Binds X.K fd ps []) : CallR X (.builtin "len") (rLenOwn C sp) := by
  intro pins s σ H xs us Q I r hq
  obtain ⟨a, dx, fs, rfl, ha, hsp⟩ := hq
  obtain ⟨u, rfl, ru⟩ := r.one
  cases (show u = Value.ref a from ru)
  obtain ⟨mA, J, _⟩ := ins_get I.hok ha
  obtain ⟨od, J, _⟩ := J.look
  have hr1 : Room k X.A.in1 := Room.in1 hr
  have e0 : Env0 X.prog X.w X.K X.mg X.base X.A.in1 X.stack s H := I.env0.in1
  have hl := F.len _ _ _ _ hsp
  have r2 : Vals [V.ref a] [Value.ref a] := .cons rfl .nil
  refine Calls.call_function_entry kind_len plain_len entry_len (args_len1 _) ?_
  unfold Builtin.«len»
  refine wpAny_bind (m := oneArg "len" _) (wpAny_pure ?_)
  refine wpAny_bind (m := callSpecial? (.ref a) (PySem.Str.ofString "__len__")) (PySem.W.special_fn I.kIn J hs (beq_iff_eq.mp hf) ?_)
  refine wpAny_call (codeAny_mono (F.run X.A.in1 X.stack s H ⟨[.ref a], []⟩ [.ref a] [.ref a] _ (fun _ _ _ => False) hr1 e0 (by
    have := hb s [.ref a] I.kIn (by simpa using hl)
    simpa using this) r2 hsp) fun r s' hq => ?_)
  cases r with
  | error e => exact (cx_noS hq).elim
  | ok fl =>
    cases fl with
    | ret w =>
      obtain ⟨z, H', I', rz, ⟨i, ez, i0, i1⟩, q⟩ := I.after hq
      subst ez
      obtain ⟨t, rfl⟩ := (show ∃ t, w = Value.int i t from rz)
      refine wpAny_bind (wpAny_holding (wpAny_pure ?_))
      refine wpAny_bind (wpAny_letGo ?_)
      show wpAny _ _ (if i < 0 then _ else _) _ _ _
      rw [if_neg (by omega)]
      show wpAny _ _ (if i ≥ 2 ^ 63 then _ else _) _ _ _
      rw [if_neg (by omega)]
      exact wpAny_bind (wpAny_mkInt (wpAny_pure ⟨_, rfl, .int i, H', I'.tok _, ⟨_, rfl⟩, q⟩))
    | next => exact False.elim hq
    | brk => exact False.elim hq
    | cont => exact False.elim hq
def mLenO (c : Nat) (f : List D → List D → R D) (ma : ME D) : ME D := fun sd w => (ma sd w).bind fun a w1 => match a with
  | .obj c1 n1 d1 => if c1 = c then (match f [.obj c1 n1 d1] w1 with
    | .ok (.int i) w3 => if 0 ≤ i ∧ i < 2 ^ 63 then .ok (.int i) w3 else .bad
    | _ => .bad) else .bad
  | _ => .bad
theorem sim_lenO {c : Nat} {fm : List D → List D → R D} (ha : Sim G Wx (ρB G) ta mA) : Sim G Wx (ρE G) (tCB (rLenOwn (G.c.cl c) (spF G.c.K G.c.cl G.T 1 fm)) (tCons ta tNil)) (mLenO c fm mA) := by
  intro sd w σ H Hs Q rs post
  refine ha.bind rs post fun d1 w1 x H1 Hs1 rs1 b1 q1 post1 => ?_
  split at post1
  · rename_i c1 n1 e1
    split at post1
    · rename_i hc
      subst hc
      obtain ⟨p1, dx, fs, rfl, h1, h2, h3⟩ := q1
      refine ⟨p1, dx, fs, rfl, rs1.b.sub _ _ h1, ?_⟩
      refine ⟨G.c.ap, G.HP, Hs1, [.obj c1 n1 e1], w1, rs1.b.refl_at.noSf, RepL.one ⟨p1, dx, fs, rfl, h1, h2, h3⟩, rfl, ?_⟩
      cases e : fm [.obj c1 n1 e1] w1 with
      | ok d w3 =>
        rw [e] at post1
        cases d with
        | int i =>
          simp only at post1
          split at post1
          · rename_i hi
            exact fun v H' Hs' b q => ⟨⟨i, q, hi.1, hi.2⟩, post1 v H' Hs' (b.toSf (G := G)) q⟩
          · exact post1.elim
        | _ => exact post1.elim
      | exc c' ns ds w3 => rw [e] at post1; exact post1.elim
      | bad => rw [e] at post1; exact post1.elim
    · exact post1.elim
  · exact post1.elim
theorem je_lenO {c : Nat} {fm : List D → List D → R D} (F : FnOk X.prog X.w X.K X.mg X.base (L2.CX X.prog X.w) k f fd ps (spF G.c.K G.c.cl G.T 1 fm)) (hr : Room (k + 1) X.A) (hs : PySem.W.findIn X.K (.ref (G.c.cl c)) "__len__" = some (some (.ref f))) (hf : PySem.W.isFn X.K (.ref f) = true) (hb : L2.Binds X.K fd ps [])
    (hm : X.mg "len" = none) (ha : JB X G Wx e te m) (hg : Gl X "len" := by rfl) (he : starEach [e] X.env = (false, eval e X.env) :: starEach [] X.env := by rfl) (hs1 : starEach [e] X.env = [(false, eval e X.env)] := by rfl) :
    JE X G Wx (.Call (.Name "len" p) [e] [] pos) (tCB (rLenOwn (G.c.cl c) (spF G.c.K G.c.cl G.T 1 fm)) (tCons te tNil)) (mLenO c fm m) :=
  ⟨pe_callB (call_lenOwn F hr hs hf hb) hg hm (by decide +kernel) (pa_cons ha.pe pa_nil he) (he := hs1), sim_lenO ha.si⟩
end
end FT
end
section
set_option Elab.async false
set_option linter.all false
set_option maxRecDepth 100000
set_option maxHeartbeats 4000000
namespace FT
open PySem PySem.Spec PyProof.Rows L2
/-! ### zip of three -/
def ItzB (K : PySem.W.Frag) (p q r : Sd) : It :=
  ⟨fun i H => ∃ (xs ys zs : List V) (x y z : V), p.At K H xs ∧ q.At K H ys ∧ r.At K H zs ∧ xs[i]? = some x ∧ ys[i]? = some y ∧ zs[i]? = some z,
    fun i H v H' => ∃ T x y z, v = .ref T ∧ H T = none ∧ H' = upd H T (.tup [x, y, z]) ∧ (∀ xs, p.At K H xs → xs[i]? = some x) ∧ (∀ ys, q.At K H ys → ys[i]? = some y) ∧ ∀ zs, r.At K H zs → zs[i]? = some z,
    fun i H => ∃ xs ys zs : List V, p.At K H xs ∧ q.At K H ys ∧ r.At K H zs ∧ i = min xs.length (min ys.length zs.length)⟩
theorem turn_zipB {P : Program} {w : World} {K : PySem.W.Frag} {elts : List Expr} {kk : Nat} {tpos : Pos} {p q r : Sd} {z TI TO i1 i2 i3 : Addr} (S : ZipSep3 z TI TO i1 i2 i3 (p.fp i1) (q.fp i2) (r.fp i3)) (ne1 : ∀ a, p = .lst a ∨ p = .tup a → a ≠ i1) (ne2 : ∀ a, q = .lst a ∨ q = .tup a → a ≠ i2) (ne3 : ∀ a, r = .lst a ∨ r = .tup a → a ≠ i3) :
    Turn P w K (.Tuple elts kk tpos) (ItzB K p q r) [z, TI, TO, i1, i2, i3] z (fun i h => IsZip h z TI TO .none ∧ IsTupOf3 h TI (.ref i1) (.ref i2) (.ref i3) ∧ (∃ x y u, IsTupOf3 h TO x y u) ∧ p.on i1 i h ∧ q.on i2 i h ∧ r.on i3 i h) where
  mem := by simp
  obj := fun i h st c hc => by
    obtain ⟨hz, hTI, ⟨x, y, u, hTO⟩, h1, h2, h3⟩ := st
    have e' : c = z ∨ c = TI ∨ c = TO ∨ c = i1 ∨ c = i2 ∨ c = i3 := by simpa using hc
    rcases e' with e | e | e | e | e | e
    · rw [e]; exact ⟨_, hz, fun v q => nomatch q⟩
    · rw [e]; exact ⟨_, hTI, fun v q => nomatch q⟩
    · rw [e]; exact ⟨_, hTO, fun v q => nomatch q⟩
    · rw [e]; exact Sd.on_obj (sd := p) h1
    · rw [e]; exact Sd.on_obj (sd := q) h2
    · rw [e]; exact Sd.on_obj (sd := r) h3
  keep := fun i h h' st k => by
    obtain ⟨hz, hTI, ⟨x, y, u, hTO⟩, h1, h2, h3⟩ := st
    exact ⟨k z (by simp) _ hz, k TI (by simp) _ hTI, ⟨x, y, u, k TO (by simp) _ hTO⟩, Sd.on_at (sd := p) h1 fun o q => k i1 (by simp) o q, Sd.on_at (sd := q) h2 fun o q => k i2 (by simp) o q, Sd.on_at (sd := r) h3 fun o q => k i3 (by simp) o q⟩
  item := by
    intro X hP hw hK hc i pins s σ H E I hf st hg
    subst hP hw hK
    obtain ⟨hz, hTI, ⟨x0, y0, u0, hTO⟩, h1, h2, h3⟩ := st
    obtain ⟨xs, ys, zs, x, y, u, hqx, hqy, hqz, hx, hy, hu⟩ := hg
    obtain ⟨P1, St1, D1, f1, g1, r1⟩ := Sd.draws hc I hqx i1 (fun a _ => Classical.em _) ne1
    obtain ⟨P2, St2, D2, f2, g2, r2⟩ := Sd.draws hc I hqy i2 (fun a _ => Classical.em _) ne2
    obtain ⟨P3, St3, D3, f3, g3, r3⟩ := Sd.draws hc I hqz i3 (fun a _ => Classical.em _) ne3
    have hzl : z < s.heap.objs.size := Heap.lt_size hz
    refine wpAny_pyNext_zipD3_item S D1 D2 D3 hz hTI hTO (f1 i h1) (f2 i h2) (f3 i h3) (List.getElem?_eq_some_iff.mp hx).1 (List.getElem?_eq_some_iff.mp hy).1 (List.getElem?_eq_some_iff.mp hu).1 fun u1 u2 u3 h' tk q1 q2 q3 z' TO' st1' st2' st3' hT hsz hk => ?_
    have ru := r1 i u1 x q1 hx
    have ru2 := r2 i u2 y q2 hy
    have ru3 := r3 i u3 u q3 hu
    have h1' := g1 _ _ st1'
    have h2' := g2 _ _ st2'
    have h3' := g3 _ _ st3'
    refine ⟨_, rfl, wpAny_letOwnedTupleGo_zip (s := { s with heap := h', toks := tk }) z' fun h'' z'' sb => ?_⟩
    have hT2 : h''.get? s.heap.objs.size = some { cls := .type "tuple", data := .seq #[u1, u2, u3] } := (sb.2 _ (Nat.ne_of_gt hzl)).trans hT
    have new : ObjOk X.prog X.w (upd H s.heap.objs.size (.tup [x, y, u])) h'' s.heap.objs.size (.tup [x, y, u]) :=
      ⟨by show 3 ≤ sizeLine; decide, [u1, u2, u3], .cons ru (.cons ru2 (.cons ru3 .nil)), ⟨_, hT2, rfl, _, rfl⟩⟩
    have I1 : Inv X pins σ (upd H s.heap.objs.size (.tup [x, y, u])) { s with heap := h'', toks := tk } :=
      I.turnedNew (t' := tk) (ch := [z, TI, TO, i1, i2, i3]) (fun c o hb q => (sb.2 c (fun q' => hb (by simp [q']))).trans (hk c o (fun q' => hb (by simp [q'])) (fun q' => hb (by simp [q'])) (fun q' => hb (by simp [q'])) (fun q' => hb (by simp [q'])) (fun q' => hb (by simp [q'])) q)) hf (Nat.le_refl _) new
    have i1z : i1 ≠ z := fun e => S.zf1 (by rw [← e]; exact S.mem1)
    have i2z : i2 ≠ z := fun e => S.zf2 (by rw [← e]; exact S.mem2)
    have i3z : i3 ≠ z := fun e => S.zf3 (by rw [← e]; exact S.mem3)
    refine ⟨.ref s.heap.objs.size, _, I1, rfl, ⟨_, x, y, u, rfl, I.hok.fresh (Nat.le_refl _), rfl, fun l hl => by rw [Sd.at_inj I hqx hl]; exact hx, fun l hl => by rw [Sd.at_inj I hqy hl]; exact hy, fun l hl => by rw [Sd.at_inj I hqz hl]; exact hu⟩, ⟨z'', ?_, ⟨u1, u2, u3, ?_⟩, ?_, ?_, ?_⟩, fun c hcm => ?_⟩
    · exact (sb.2 _ S.TIz).trans (hk _ _ S.TIz S.TITO S.TIi1 S.TIi2 S.TIi3 hTI)
    · exact (sb.2 _ S.TOz).trans TO'
    · exact Sd.on_at (sd := p) h1' fun o q => (sb.2 _ i1z).trans q
    · exact Sd.on_at (sd := q) h2' fun o q => (sb.2 _ i2z).trans q
    · exact Sd.on_at (sd := r) h3' fun o q => (sb.2 _ i3z).trans q
    · have hlt : c < s.heap.objs.size := by
        have e' : c = z ∨ c = TI ∨ c = TO ∨ c = i1 ∨ c = i2 ∨ c = i3 := by simpa using hcm
        rcases e' with e | e | e | e | e | e
        · rw [e]; exact hzl
        · rw [e]; exact Heap.lt_size hTI
        · rw [e]; exact Heap.lt_size hTO
        · rw [e]; obtain ⟨_, e1, _⟩ := Sd.on_obj (sd := p) h1; exact Heap.lt_size e1
        · rw [e]; obtain ⟨_, e2, _⟩ := Sd.on_obj (sd := q) h2; exact Heap.lt_size e2
        · rw [e]; obtain ⟨_, e3, _⟩ := Sd.on_obj (sd := r) h3; exact Heap.lt_size e3
      rw [upd_ne (Nat.ne_of_lt hlt)]
      exact (hf c hcm).1
  done := by
    intro X hP hw hK hc i pins s σ H E I hf st hg
    subst hP hw hK
    obtain ⟨hz, hTI, ⟨x0, y0, u0, hTO⟩, h1, h2, h3⟩ := st
    obtain ⟨xs, ys, zs, hqx, hqy, hqz, hend⟩ := hg
    obtain ⟨P1, St1, D1, f1, g1, r1⟩ := Sd.draws hc I hqx i1 (fun a _ => Classical.em _) ne1
    obtain ⟨P2, St2, D2, f2, g2, r2⟩ := Sd.draws hc I hqy i2 (fun a _ => Classical.em _) ne2
    obtain ⟨P3, St3, D3, f3, g3, r3⟩ := Sd.draws hc I hqz i3 (fun a _ => Classical.em _) ne3
    exact wpAny_pyNext_zipD3_end S D1 D2 D3 hz hTI hTO (f1 i h1) (f2 i h2) (f3 i h3) (by omega) (by omega) (by omega) (by omega) fun h' tk hk => ⟨rfl, I.turnedL (t' := tk) (ch := [z, TI, TO, i1, i2, i3]) (fun c o hb q =>
      hk c o (fun q' => hb (by simp [q'])) (fun q' => hb (by simp [q'])) (fun q' => hb (by simp [q'])) (fun q' => hb (by simp [q'])) (fun q' => hb (by simp [q'])) q) hf⟩
  self := fun A i s Q E st h => wpAny_pyIter_zip st.1 h
theorem zsep3 (n : Nat) (fp1 fp2 fp3 : List Nat) (m1 : n ∈ fp1) (m2 : n + 1 ∈ fp2) (m3 : n + 2 ∈ fp3) (b1 : ∀ b ∈ fp1, b = n ∨ b < n) (b2 : ∀ b ∈ fp2, b = n + 1 ∨ b < n) (b3 : ∀ b ∈ fp3, b = n + 2 ∨ b < n) : ZipSep3 (n + 5) (n + 3) (n + 4) n (n + 1) (n + 2) fp1 fp2 fp3 := by
  have k1 : ∀ m : Nat, n < m → m ∉ fp1 := fun m hm h => by have := b1 m h; omega
  have k2 : ∀ m : Nat, n ≤ m → m ≠ n + 1 → m ∉ fp2 := fun m hm hn h => by have := b2 m h; omega
  have k3 : ∀ m : Nat, n ≤ m → m ≠ n + 2 → m ∉ fp3 := fun m hm hn h => by have := b3 m h; omega
  exact ⟨show (n + 3 : Nat) ≠ n + 5 by omega, show (n + 4 : Nat) ≠ n + 5 by omega, show (n + 3 : Nat) ≠ n + 4 by omega, show (n + 3 : Nat) ≠ n by omega, m1, k1 (n + 5) (by omega), k1 (n + 4) (by omega), show (n + 3 : Nat) ≠ n + 1 by omega, m2, k2 (n + 5) (by omega) (by omega), k2 (n + 4) (by omega) (by omega),
    show (n + 3 : Nat) ≠ n + 2 by omega, m3, k3 (n + 5) (by omega) (by omega), k3 (n + 4) (by omega) (by omega), k2 n (by omega) (by omega), k3 n (by omega) (by omega), k1 (n + 1) (by omega), k3 (n + 1) (by omega) (by omega), k1 (n + 2) (by omega), k2 (n + 2) (by omega) (by omega)⟩
def iZip3 (K : PySem.W.Frag) (ta : TA) : TI := fun σ H R => ta σ H fun vs H1 => ∃ x y u f g k xs ys us, vs = [x, y, u] ∧ SdV K H1 x f xs ∧ SdV K H1 y g ys ∧ SdV K H1 u k us ∧ ∀ t t' t2, R (ItzB K (f t) (g t') (k t2)) H1
theorem pi_zip3 {X : Cx} {e e2 e3 : Expr} {ta : TA} {p pos tpos : Pos} {elts : List Expr} {kk : Nat} (hg : Gl X "zip") (hm : X.mg "zip" = none) (ha : PA X [e, e2, e3] ta)
    (hs : starEach [e, e2, e3] X.env = (false, eval e X.env) :: starEach [e2, e3] X.env := by rfl) (hpl : (backTo pos (starEach [e2, e3] X.env)).any (·.1) = false := by rfl) :
    PI X (.Tuple elts kk tpos) (.Call (.Name "zip" p) [e, e2, e3] [] pos) (iZip3 X.K ta) := by
  refine ⟨fun pins s σ H R I h => ?_⟩
  refine Call_ (ld_blt I hg hm PyProof.Rows.boot_zip (PyProof.Rows.callWith_type1 (thn (ha.run pos pins s σ H _ I h) fun us s1 ⟨vs, H1, I1, r1, q1⟩ => ?_) hs hpl))
  obtain ⟨x, y, u, f, g, k, xs, ys, zs, ex, hx, hy, hu, q⟩ := q1
  subst ex
  cases r1 with
  | cons r rr =>
    cases rr with
    | cons r' rr =>
      cases rr with
      | cons r2 rr =>
      cases rr
      obtain ⟨t, o1, a1⟩ := hx.of r
      obtain ⟨t', o2, a2⟩ := hy.of r'
      obtain ⟨t2, o3, a3⟩ := hu.of r2
      obtain ⟨H1q, B1, b1, l1⟩ := o1.begins I1 a1
      obtain ⟨H2q, B2, b2, l2⟩ := o2.begins I1 a2
      obtain ⟨H3q, B3, b3, l3⟩ := o3.begins I1 a3
      have fresh5 : ∀ c, c ∈ [s1.heap.objs.size + 5, s1.heap.objs.size + 3, s1.heap.objs.size + 4, s1.heap.objs.size, s1.heap.objs.size + 1, s1.heap.objs.size + 2] → FpOk X pins H1 c := fun c hcm => by
        have e' : c = s1.heap.objs.size + 5 ∨ c = s1.heap.objs.size + 3 ∨ c = s1.heap.objs.size + 4 ∨ c = s1.heap.objs.size ∨ c = s1.heap.objs.size + 1 ∨ c = s1.heap.objs.size + 2 := by simpa using hcm
        have hle : s1.heap.objs.size ≤ c := by omega
        exact I1.fpOk hle (I1.hok.fresh hle)
      refine zip_begins3 B1 B2 B3 b1 b2 b3 fun h' hz hTI hTO h1 h2 h3 hsz hk => wpAny_pyIter_zip hz ?_
      have I2 : Inv X pins σ H1 { s1 with heap := h' } := I1.kept (t' := s1.toks) hk
      have m1 : s1.heap.objs.size ∈ (f t).fp s1.heap.objs.size := by cases f t <;> simp [Sd.fp]
      have m2 : s1.heap.objs.size + 1 ∈ (g t').fp (s1.heap.objs.size + 1) := by cases g t' <;> simp [Sd.fp]
      have m3 : s1.heap.objs.size + 2 ∈ (k t2).fp (s1.heap.objs.size + 2) := by cases k t2 <;> simp [Sd.fp]
      have lt0 : ∀ (sd : Sd) (xs : List V), sd.At X.K H1 xs → ∀ a, sd = .lst a ∨ sd = .tup a → a < s1.heap.objs.size := fun sd xs a1 a ha => by
        rcases ha with ha | ha
        · rw [ha] at a1; obtain ⟨its, rv, p, hz⟩ := I1.list a1; exact p.lt
        · rw [ha] at a1; obtain ⟨its, rv, p, hz⟩ := I1.tuple a1; obtain ⟨o1, ho1, _⟩ := id p; exact Heap.lt_size ho1
      have lt1 := lt0 _ _ a1
      have lt2 := lt0 _ _ a2
      have lt3 := lt0 _ _ a3
      have fpb : ∀ (sd : Sd) (n : Addr), (∀ a, sd = .lst a ∨ sd = .tup a → a < s1.heap.objs.size) → ∀ b ∈ sd.fp n, b = n ∨ b < s1.heap.objs.size := fun sd n hl b hb => by
        cases sd with
        | lst a =>
          have e : b = n ∨ b = a := by simpa [Sd.fp] using hb
          rcases e with e | e
          · exact .inl e
          · exact .inr (by rw [e]; exact hl a (.inl rfl))
        | tup a =>
          have e : b = n ∨ b = a := by simpa [Sd.fp] using hb
          rcases e with e | e
          · exact .inl e
          · exact .inr (by rw [e]; exact hl a (.inr rfl))
        | txt z t => exact .inl (by simpa [Sd.fp] using hb)
      have S := zsep3 s1.heap.objs.size _ _ _ m1 m2 m3 (fpb _ _ lt1) (fpb _ _ lt2) (fpb _ _ lt3)
      exact ⟨s1.heap.objs.size + 5, [s1.heap.objs.size + 5, s1.heap.objs.size + 3, s1.heap.objs.size + 4, s1.heap.objs.size, s1.heap.objs.size + 1, s1.heap.objs.size + 2], _, _, H1, rfl, I2,
        turn_zipB S (fun a ha => Nat.ne_of_lt (lt1 a ha)) (fun a ha => Nat.ne_of_lt (Nat.lt_succ_of_lt (lt2 a ha))) (fun a ha => Nat.ne_of_lt (Nat.lt_succ_of_lt (Nat.lt_succ_of_lt (lt3 a ha)))), ⟨hz, hTI, ⟨_, _, _, hTO⟩, sdO_on h1, sdO_on h2, sdO_on h3⟩, fresh5, q t t' t2⟩
def zip3D : List D → List D → List D → List D
  | a :: as, b :: bs, c :: cs => .tup [a, b, c] :: zip3D as bs cs
  | _, _, _ => []
theorem zip3D_get : ∀ (as bs cs : List D) (i : Nat) (d : D), (zip3D as bs cs)[i]? = some d → ∃ a b c, as[i]? = some a ∧ bs[i]? = some b ∧ cs[i]? = some c ∧ d = .tup [a, b, c]
  | [], _, _, _, _, h => by simp [zip3D] at h
  | _ :: _, [], _, _, _, h => by simp [zip3D] at h
  | _ :: _, _ :: _, [], _, _, h => by simp [zip3D] at h
  | a :: as, b :: bs, c :: cs, 0, d, h => by
    simp only [zip3D, List.getElem?_cons_zero, Option.some.injEq] at h
    exact ⟨a, b, c, rfl, rfl, rfl, h.symm⟩
  | a :: as, b :: bs, c :: cs, i + 1, d, h => zip3D_get as bs cs i d (by simpa [zip3D] using h)
theorem zip3D_len : ∀ (as bs cs : List D), (zip3D as bs cs).length = min as.length (min bs.length cs.length)
  | [], _, _ => by simp [zip3D]
  | _ :: _, [], _ => by simp [zip3D]
  | _ :: _, _ :: _, [] => by simp [zip3D]
  | a :: as, b :: bs, c :: cs => by simp only [zip3D, List.length_cons, zip3D_len as bs cs]; omega
theorem walk_zipB {c : Cc} {K : PySem.W.Frag} {p q r : Sd} {ds es fs : List D} {P : Hp → Hp → Prop} (h : ∀ H Hs, P H Hs → Same Hs H → ∃ vs, p.At K H vs ∧ RepL c Hs ds vs) (h' : ∀ H Hs, P H Hs → Same Hs H → ∃ vs, q.At K H vs ∧ RepL c Hs es vs) (h2 : ∀ H Hs, P H Hs → Same Hs H → ∃ vs, r.At K H vs ∧ RepL c Hs fs vs) : Walk c (ItzB K p q r) (zip3D ds es fs) P := by
  refine ⟨fun i d H Hs e p s => ?_, fun H Hs p s => ?_⟩
  · obtain ⟨vs, h1, l1⟩ := h H Hs p s
    obtain ⟨us, g1, l2⟩ := h' H Hs p s
    obtain ⟨ws, k1, l3⟩ := h2 H Hs p s
    obtain ⟨d1, d2, d3, e1, e2, e3, rfl⟩ := zip3D_get _ _ _ _ _ e
    obtain ⟨v, e3', r1⟩ := l1.get e1
    obtain ⟨u, e4, r2⟩ := l2.get e2
    obtain ⟨t, e5, r3⟩ := l3.get e3
    refine ⟨⟨vs, us, ws, v, u, t, h1, g1, k1, e3', e4, e5⟩, fun x H' ⟨T, x0, y0, z0, y1, y2, y3, y4, y5, y6⟩ => .inr ⟨T, _, _, y2, y3, y1, rfl, ?_⟩⟩
    have z1 := (y4 vs h1).symm.trans e3'
    have z2 := (y5 us g1).symm.trans e4
    have z3 := (y6 ws k1).symm.trans e5
    cases z1
    cases z2
    cases z3
    exact ⟨_, _, rfl, r1, _, _, rfl, r2, _, _, rfl, r3, rfl⟩
  · obtain ⟨vs, h1, l1⟩ := h H Hs p s
    obtain ⟨us, g1, l2⟩ := h' H Hs p s
    obtain ⟨ws, k1, l3⟩ := h2 H Hs p s
    refine ⟨vs, us, ws, h1, g1, k1, ?_⟩
    rw [l1.length, l2.length, l3.length, zip3D_len]
def fZip3 (ds : List D) : Option (List D) := match ds with
  | [a, b, c] => (match items a, items b, items c with
    | some xs, some ys, some zs => some (zip3D xs ys zs)
    | _, _, _ => none)
  | _ => none
def mZip3 (m : ME (List D)) : ME (List D) := fun sd w => (m sd w).bind fun ds w1 => match fZip3 ds with
  | some xs => .ok xs w1
  | none => .bad
section
variable {X : Cx} {G : Gh} {Wx : WX} {w w' w1 w2 : List D} {H Hs H' Hs' H1 Hs1 H2 Hs2 : Hp} {sd : SD} {σ : L2.St}
variable {tg e e2 e3 : Expr} {te : TE} {p p2 pos tpos : Pos} {elts : List Expr} {kk : Nat}
theorem ji_zip3 {t : TA} {m : ME (List D)} (hm : X.mg "zip" = none) (ha : JA X G Wx [e, e2, e3] t m) (hg : Gl X "zip" := by rfl)
    (hs : starEach [e, e2, e3] X.env = (false, eval e X.env) :: starEach [e2, e3] X.env := by rfl) (hpl : (backTo pos (starEach [e2, e3] X.env)).any (·.1) = false := by rfl) (hK : X.K = G.c.K := by rfl) :
    JI X G Wx (.Tuple elts kk tpos) (.Call (.Name "zip" p) [e, e2, e3] [] pos) (iZip3 G.c.K t) (mZip3 m) := by
  refine ⟨by rw [← hK]; exact pi_zip3 hg hm ha.pe hs hpl, fun sd w σ H Hs Q rs post => ?_⟩
  refine ha.si sd w σ H Hs _ rs ?_
  unfold mZip3 at post
  cases e : m sd w with
  | ok ds w' =>
    rw [e] at post
    intro v H' Hs' b q
    have rs' := rs.step b
    have post' : PostI G Wx σ H Hs PM Q (match fZip3 ds with
      | some xs => .ok xs w'
      | none => .bad) := post
    cases ef : fZip3 ds with
    | none => rw [ef] at post'; exact post'.elim
    | some xs =>
    rw [ef] at post'
    unfold fZip3 at ef
    split at ef
    · rename_i da db dc
      split at ef
      · rename_i ys zs us e1 e2 e3
        cases ef
        obtain ⟨v1, r1, rfl, q1, v2, r2, rfl, q2, v3, r3, rfl, q3, g4⟩ := q
        rw [show r3 = [] from g4]
        obtain ⟨f1, xs1, a1, a2⟩ := sideI q1 e1 rs'.b.sub
        obtain ⟨f2, xs2, b1, b2⟩ := sideI q2 e2 rs'.b.sub
        obtain ⟨f3, xs3, c1, c2⟩ := sideI q3 e3 rs'.b.sub
        exact ⟨v1, v2, v3, f1, f2, f3, xs1, xs2, xs3, rfl, a1, b1, c1, fun t t' t2 => post' _ H' Hs' b (walk_zipB (fun H2 Hs2 p s => a2 t H2 Hs2 p s) (fun H2 Hs2 p s => b2 t' H2 Hs2 p s) (fun H2 Hs2 p s => c2 t2 H2 Hs2 p s))⟩
      · cases ef
    · cases ef
  | exc c ns ds w' => rw [e] at post; exact post
  | bad => rw [e] at post; exact post
end
end FT
end
section
set_option Elab.async false
set_option linter.all false
set_option maxRecDepth 100000
set_option maxHeartbeats 4000000
namespace FT
open PySem PySem.Spec PyProof.Rows L2
section
variable {X : Cx} {G : Gh} {Wx : WX} {w w' w1 w2 : List D} {H Hs H' Hs' H1 Hs1 H2 Hs2 : Hp} {sd : SD} {σ : L2.St}
variable {e : Expr} {te : TE} {m : ME D} {pos ap2 cp ap3 cp3 : Pos}
/-! ### xs.pop(i), and ys.append(xs.pop(i)) -/
def mPopS (i : Nat) (m : ME D) : MS := fun sd w => match sd[i]? with
  | some (.own ds) => eb (m sd w) sd fun d w1 => (match d with
    | .int n => (match ixN ds.length n with
      | some k => if ds.length ≤ 16777216 then .nx (sd.set i (.own (ds.eraseIdx k))) w1 else .bad
      | none => .bad)
    | _ => .bad)
  | _ => .bad
theorem js_popS (i : Nat) {x : Str} {px : Pos} (he : JE X G Wx e te m) (hN : X.N[i]? = some x := by rfl) (hv : Vis X.env.scope x := by first | exact Or.inl rfl | exact Or.inr (Or.inl rfl) | exact Or.inr (Or.inr rfl)) (hd : (x == ("__debug__" : Str)) = false := by decide)
    (hcd : (x == ("__classdict__" : Str)) = false := by decide) (hs : swapsWith (.Call (.Attribute (.Name x px) "pop" ap2) [e] [] cp) none pos.line X.env = pure false := by rfl)
    (hbase : attributeBase (.Name x px) "pop" X.env (eval (.Name x px) X.env) = eval (.Name x px) X.env := by rfl)
    (hfew : ((backTo cp (starEach [e] X.env)).all (fun x => !x.1) && (backToKw cp (keywordEach [] X.env)).all (fun x => x.1.isSome)
      && decide ([e].length + ([] : List Keyword).length + (if ([] : List Keyword).isEmpty then 0 else 1) < 30)) = true := by rfl)
    (hline : (ap2.endLine == cp.line) = true := by rfl) (he1 : starEach [e] X.env = (false, eval e X.env) :: starEach [] X.env := by rfl) (hK : X.K = G.c.K := by rfl) :
    JS X G Wx (.Expr (.Call (.Attribute (.Name x px) "pop" ap2) [e] [] cp) pos) (tDrop (tBM G.c.K "list" rPopAt (tVar i) (tCons te tNil))) (mPopS i m) := by
  refine ⟨ps_expr (by rw [← hK]; exact pe_bm PySem.F.plainAttrs_list PySem.F.slot_list_pop PySem.F.type_list_pop mt_popAt (pe_var hN hv hd hcd) (pa_cons he.pe pa_nil he1) hbase hfew hline he1 rfl) hs, fun sd w σ H Hs De rs post => ?_⟩
  unfold mPopS at post
  split at post
  · rename_i ds0 hi
    obtain ⟨a, vs, h1, h2, h3, h4, h5, h6⟩ := rs.s.own i ds0 hi
    refine ⟨.ref a, h1, .inl ⟨rfl, vs, .inl (.inl h2)⟩, ?_⟩
    refine he.si.bindS rs post fun d w1 v H1 Hs1 rs1 b1 q1 post1 => ?_
    split at post1
    · rename_i n
      split at post1
      · rename_i k hk
        split at post1
        · rename_i hl
          obtain ⟨a', vs', g1, g2, g3, g4, g5, g6⟩ := rs1.s.own i ds0 hi
          rw [h1] at g1
          cases g1
          obtain ⟨k1, k2, k3, k4⟩ := ixN_seq hk
          have hv' : v = .int n := q1
          subst hv'
          have hvl := g3.length
          refine ⟨a, vs', n, k, vs'[k]'(by rw [hvl]; exact k2), rfl, rfl, g2, by omega, by omega, by rw [hvl]; exact k1, List.getElem?_eq_getElem _, ?_⟩
          exact post1 σ _ Hs1 ⟨rs1.b.writeOwn g2 g4 g5 g6, rs1.s.writeOwn hi h1 (g3.eraseIdx k)⟩ (Same.refl _)
        · exact post1.elim
      · exact post1.elim
    · exact post1.elim
  · exact post.elim
def mAppPop (i j : Nat) (m : ME D) : MS := fun sd w => match sd[i]?, sd[j]? with
  | some (.own es), some (.own ds) => eb (m sd w) sd fun d w1 => (match d with
    | .int n => (match ixN ds.length n with
      | some k => (match ds[k]? with
        | some y => if ds.length ≤ 16777216 then (if es.length < 16777216 then .nx ((sd.set j (.own (ds.eraseIdx k))).set i (.own (es ++ [y]))) w1 else .bad) else .bad
        | none => .bad)
      | none => .bad)
    | _ => .bad)
  | _, _ => .bad
theorem js_appPop (i j : Nat) {x y : Str} {px py : Pos} (hij : i ≠ j) (he : JE X G Wx e te m) (hN : X.N[i]? = some x := by rfl) (hNy : X.N[j]? = some y := by rfl) (hv : Vis X.env.scope x := by first | exact Or.inl rfl | exact Or.inr (Or.inl rfl) | exact Or.inr (Or.inr rfl)) (hvy : Vis X.env.scope y := by first | exact Or.inl rfl | exact Or.inr (Or.inl rfl) | exact Or.inr (Or.inr rfl))
    (hd : (x == ("__debug__" : Str)) = false := by decide) (hcd : (x == ("__classdict__" : Str)) = false := by decide) (hdy : (y == ("__debug__" : Str)) = false := by decide) (hcdy : (y == ("__classdict__" : Str)) = false := by decide)
    (hs : swapsWith (.Call (.Attribute (.Name x px) "append" ap2) [.Call (.Attribute (.Name y py) "pop" ap3) [e] [] cp3] [] cp) none pos.line X.env = pure false := by rfl)
    (hbase : attributeBase (.Name x px) "append" X.env (eval (.Name x px) X.env) = eval (.Name x px) X.env := by rfl)
    (hfew : ((backTo cp (starEach [.Call (.Attribute (.Name y py) "pop" ap3) [e] [] cp3] X.env)).all (fun x => !x.1) && (backToKw cp (keywordEach [] X.env)).all (fun x => x.1.isSome)
      && decide ([Expr.Call (.Attribute (.Name y py) "pop" ap3) [e] [] cp3].length + ([] : List Keyword).length + (if ([] : List Keyword).isEmpty then 0 else 1) < 30)) = true := by rfl)
    (hline : (ap2.endLine == cp.line) = true := by rfl) (he1 : starEach [.Call (.Attribute (.Name y py) "pop" ap3) [e] [] cp3] X.env = (false, eval (.Call (.Attribute (.Name y py) "pop" ap3) [e] [] cp3) X.env) :: starEach [] X.env := by rfl)
    (hbasey : attributeBase (.Name y py) "pop" X.env (eval (.Name y py) X.env) = eval (.Name y py) X.env := by rfl)
    (hfewy : ((backTo cp3 (starEach [e] X.env)).all (fun x => !x.1) && (backToKw cp3 (keywordEach [] X.env)).all (fun x => x.1.isSome)
      && decide ([e].length + ([] : List Keyword).length + (if ([] : List Keyword).isEmpty then 0 else 1) < 30)) = true := by rfl)
    (hliney : (ap3.endLine == cp3.line) = true := by rfl) (he2 : starEach [e] X.env = (false, eval e X.env) :: starEach [] X.env := by rfl) (hK : X.K = G.c.K := by rfl) :
    JS X G Wx (.Expr (.Call (.Attribute (.Name x px) "append" ap2) [.Call (.Attribute (.Name y py) "pop" ap3) [e] [] cp3] [] cp) pos) (tDrop (tBM G.c.K "list" rAppend (tVar i) (tCons (tBM G.c.K "list" rPopAt (tVar j) (tCons te tNil)) tNil))) (mAppPop i j m) := by
  refine ⟨ps_expr (by rw [← hK]; exact pe_bm PySem.F.plainAttrs_list PySem.F.slot_list_append PySem.F.type_list_append mt_append (pe_var hN hv hd hcd) (pa_cons (pe_bm PySem.F.plainAttrs_list PySem.F.slot_list_pop PySem.F.type_list_pop mt_popAt (pe_var hNy hvy hdy hcdy) (pa_cons he.pe pa_nil he2) hbasey hfewy hliney he2 rfl) pa_nil he1) hbase hfew hline he1 rfl) hs, fun sd w σ H Hs De rs post => ?_⟩
  unfold mAppPop at post
  split at post
  · rename_i es0 ds0 hi hj
    obtain ⟨a, vs, h1, h2, h3, h4, h5, h6⟩ := rs.s.own i es0 hi
    obtain ⟨b, us, y1, y2, y3, y4, y5, y6⟩ := rs.s.own j ds0 hj
    refine ⟨.ref a, h1, .inl ⟨rfl, vs, .inl (.inl h2)⟩, ?_⟩
    refine ⟨.ref b, y1, .inl ⟨rfl, us, .inl (.inl y2)⟩, ?_⟩
    refine he.si.bindS rs post fun d w1 v H1 Hs1 rs1 b1 q1 post1 => ?_
    split at post1
    · rename_i n
      split at post1
      · rename_i k hk
        split at post1
        · rename_i yd hyd
          split at post1
          · rename_i hl
            split at post1
            · rename_i hl2
              obtain ⟨a', vs', g1, g2, g3, g4, g5, g6⟩ := rs1.s.own i es0 hi
              rw [h1] at g1
              cases g1
              obtain ⟨b', us', f1, f2, f3, f4, f5, f6⟩ := rs1.s.own j ds0 hj
              rw [y1] at f1
              cases f1
              have hab : a ≠ b := fun z => hij (rs.s.sep i j _ _ a hi hj h1 (by rw [z]; exact y1))
              obtain ⟨k1, k2, k3, k4⟩ := ixN_seq hk
              have hv' : v = .int n := q1
              subst hv'
              have hul := f3.length
              obtain ⟨yv, yv1, yv2⟩ := f3.get hyd
              refine ⟨b, us', n, k, yv, rfl, rfl, f2, by omega, by omega, by rw [hul]; exact k1, yv1, ?_⟩
              have rs2 : RS G (sd.set j (.own (ds0.eraseIdx k))) w1 σ (upd H1 b (.lst (us'.eraseIdx k))) Hs1 := ⟨rs1.b.writeOwn f2 f4 f5 f6, rs1.s.writeOwn hj y1 (f3.eraseIdx k)⟩
              have hi2 : (sd.set j (.own (ds0.eraseIdx k)))[i]? = some (SV.own es0) := by rw [List.getElem?_set_ne (Ne.symm hij)]; exact hi
              have g2' : upd H1 b (.lst (us'.eraseIdx k)) a = some (.lst vs') := by rw [upd_ne hab]; exact g2
              refine ⟨a, vs', yv, rfl, rfl, g2', ?_, ?_⟩
              · rw [g3.length, sizeLine_eq]; exact hl2
              · exact post1 σ _ Hs1 ⟨rs2.b.writeOwn g2' g4 g5 g6, rs2.s.writeOwn hi2 h1 (g3.append (RepL.one yv2))⟩ (Same.refl _)
            · exact post1.elim
          · exact post1.elim
        · exact post1.elim
      · exact post1.elim
    · exact post1.elim
  · exact post.elim
/-! ### (a, b), xs, ys = e, [..], [..] and xs, a, b = [..], e, f -/
theorem notOwn_fresh {d : Addr} (s : SL G sd σ H Hs) (hd : ∀ o', H d = some o' → ¬ NoT o') : NotOwn d sd σ := by
  refine ⟨fun i ds h e => ?_, fun i p h e => ?_⟩
  · obtain ⟨b, vs, h4, h5, _⟩ := s.own i ds h
    rw [e] at h4
    cases h4
    exact hd _ h5 lst_noT
  · obtain ⟨v, h4, a, ft, rfl, h5, h6⟩ := s.prv i p h
    rw [e] at h4
    cases h4
    cases p with
    | ins n ns ds =>
      obtain ⟨h0, dx, fs, rfl, _⟩ := h5
      exact hd _ (h6 _ List.mem_cons_self).at_ fun _ z => by cases z
    | dK ks ds =>
      obtain ⟨kvs, rfl, _⟩ := h5
      exact hd _ (h6 _ List.mem_cons_self).at_ fun _ z => by cases z
    | dT ks ds =>
      obtain ⟨kvs, rfl, _⟩ := h5
      exact hd _ (h6 _ List.mem_cons_self).at_ fun _ z => by cases z
def mAsgVFF (g : D → SD → Option SD) (j l : Nat) (ma : ME D) (mb mc : ME (List D)) : MS := fun sd w => eb (ma sd w) sd fun d w1 => eb (mb sd w1) sd fun ds w2 => eb (mc sd w2) sd fun es w3 => match g d sd with
  | some sd1 => .nx ((sd1.set j (.own ds)).set l (.own es)) w3
  | none => .bad
theorem js_asgVFF {tgA a b c : Expr} {tA : TG} {g : D → SD → Option SD} {js : List Nat} {j l : Nat} {y z : Str} {py pz pt pos2 : Pos} {kt k2 : Nat} {ta tb tc : TE} {ma : ME D} {mb mc : ME (List D)} (hN : X.N.Nodup)
    (ha : JE X G Wx a ta ma) (hb : JF X G Wx b tb mb) (hc' : JF X G Wx c tc mc) (hg : JG X G tgA tA g js) (hj : X.N[j]? = some y := by rfl) (hl : X.N[l]? = some z := by rfl) (hjl : j ≠ l := by decide)
    (hy : X.env.scope.names.lookup y = some .local := by rfl) (hz : X.env.scope.names.lookup z = some .local := by rfl) (hc : X.calm = true := by rfl)
    (hs : swapsWithSole [.Tuple [tgA, .Name y py, .Name z pz] kt pt] (.Tuple [a, b, c] k2 pos2) pos.line X.env = pure false := by rfl) (hw : swappedStores [.Tuple [tgA, .Name y py, .Name z pz] kt pt] (.Tuple [a, b, c] k2 pos2) X.env = pure none := by rfl)
    (h1 : (assignEach [.Tuple [tgA, .Name y py, .Name z pz] kt pt] X.env).map (·.2) = [assign (.Tuple [tgA, .Name y py, .Name z pz] kt pt) X.env] := by rfl)
    (hn : (assignEach [tgA, .Name y py, .Name z pz] X.env).length = 3 := by rfl) (hst : (assignEach [tgA, .Name y py, .Name z pz] X.env).findIdx? (·.1) = none := by rfl)
    (ht1 : (assignEach [tgA, .Name y py, .Name z pz] X.env).map (·.2) = assign tgA X.env :: (assignEach [.Name y py, .Name z pz] X.env).map (·.2) := by rfl)
    (ht2 : (assignEach [.Name y py, .Name z pz] X.env).map (·.2) = assign (.Name y py) X.env :: (assignEach [.Name z pz] X.env).map (·.2) := by rfl)
    (ht3 : (assignEach [.Name z pz] X.env).map (·.2) = assign (.Name z pz) X.env :: (assignEach [] X.env).map (·.2) := by rfl)
    (e1 : starEach [a, b, c] X.env = (false, eval a X.env) :: starEach [b, c] X.env := by rfl) (e2 : starEach [b, c] X.env = (false, eval b X.env) :: starEach [c] X.env := by rfl) (e3 : starEach [c] X.env = (false, eval c X.env) :: starEach [] X.env := by rfl) (hK : X.K = G.c.K := by rfl) :
    JS X G Wx (.Assign [.Tuple [tgA, .Name y py, .Name z pz] kt pt] (.Tuple [a, b, c] k2 pos2) pos) (tAsg (tTup (tCons ta (tCons tb (tCons tc tNil)))) (gTup G.c.K 3 (gCons tA (gCons (gName j) (gCons (gName l) gNil))))) (mAsgVFF g j l ma mb mc) := by
  refine ⟨ps_asg (pe_tup (pa_cons ha.pe (pa_cons hb.pe (pa_cons hc'.pe pa_nil e3) e2) e1)) (by rw [← hK]; exact pg_tup hc (pgs_cons hg.pe (pgs_cons (pg_name hN hj (.inl hy) (.inr hy)) (pgs_cons (pg_name hN hl (.inl hz) (.inr hz)) pgs_nil ht3) ht2) ht1) hn hst) hs hw h1, fun sd w σ H Hs De rs post => ?_⟩
  refine ha.si.bindS rs post fun d w1 v H1 Hs1 rs1 b1 q1 post1 => ?_
  refine hb.si sd w1 σ H1 Hs1 _ rs1 ?_
  cases eb' : mb sd w1 with
  | exc cx ns ds w' =>
    rw [eb'] at post1
    exact fun dd H' Hs' b q => post1 dd σ H' Hs' (rs1.step b) q
  | bad => rw [eb'] at post1; exact post1
  | ok ds w2 =>
  rw [eb'] at post1
  have post2 : PostS G Wx Hs1 De (eb (mc sd w2) sd fun es w3 => match g d sd with
    | some sd1 => .nx ((sd1.set j (.own ds)).set l (.own es)) w3
    | none => .bad) := post1
  intro p vs H2 Hs2 b2 p1 p2 p3 p4 p5
  have rs2 := rs1.step b2
  have no2 : NotOwn p sd σ := notOwn_fresh rs1.s p4
  refine hc'.si sd w2 σ H2 Hs2 _ rs2 ?_
  cases ec' : mc sd w2 with
  | exc cx ns es w' =>
    rw [ec'] at post2
    exact fun dd H' Hs' b q => post2 dd σ H' Hs' (rs2.step b) q
  | bad => rw [ec'] at post2; exact post2
  | ok es w3 =>
  rw [ec'] at post2
  have post3 : PostS G Wx Hs1 De (match g d sd with
    | some sd1 => .nx ((sd1.set j (.own ds)).set l (.own es)) w3
    | none => .bad) := post2
  intro q us H3 Hs3 b3 q1' q2 q3 q4 q5
  have rs3 := rs2.step b3
  have no3 : NotOwn q sd σ := notOwn_fresh rs2.s q4
  have hpq : q ≠ p := fun z => by
    rw [z] at q4
    exact q4 _ p1 lst_noT
  have pH3 : H3 p = some (.lst vs) := b3.keep p _ p5 lst_noT p1
  have pHs3 : Hs3 p = none := none_stay b3 p1 lst_noT p3
  refine ⟨by simp [sizeLine_eq], fun T hT => ?_⟩
  have rs4 : RS G sd w3 σ (upd H3 T (.tup [v, .ref p, .ref q])) Hs3 := rs3.step (rs3.b.allocOwn hT)
  have hTp : p ≠ T := fun z => by rw [z, hT] at pH3; cases pH3
  have hTq : q ≠ T := fun z => by rw [z, hT] at q1'; cases q1'
  refine ⟨T, [v, .ref p, .ref q], rfl, .inl (.inl upd_same), rfl, ?_⟩
  refine ⟨v, [.ref p, .ref q], rfl, ?_⟩
  have hq1 : Rep G.c Hs3 d v := q1.mono (b2.sub0.trans b3.sub0)
  cases eg : g d sd with
  | none => rw [eg] at post3; exact post3.elim
  | some sd1 =>
  rw [eg] at post3
  refine hg.si d v sd w3 σ _ Hs3 _ rs4 hq1 (fun sd' e σ' rs' tch => ?_) (by rw [eg]; rfl)
  rw [eg] at e
  cases e
  refine ⟨.ref p, [.ref q], rfl, ?_⟩
  refine ⟨.ref q, [], rfl, ?_⟩
  refine ⟨rfl, ?_⟩
  have r1 := rs'.setOwn (i := j) (ds := ds) (a := p) (vs := vs) (by rw [upd_ne hTp]; exact pH3) (p2.mono b3.sub0) pHs3 (fun o' e hn => p4 o' (rs1.b.keep p o' p5 hn e) hn) p5 (tch.no p no2).1
  have no4 := tch.no q no3
  have r2 := r1.setOwn (i := l) (ds := es) (a := q) (vs := us) (by rw [upd_ne hTq]; exact q1') q2 q3 (fun o' e hn => q4 o' (rs2.b.keep q o' q5 hn e) hn) q5 (fun k fs hk hσ => by
    rcases get_set hk with ⟨rfl, h7, h8⟩ | ⟨hn', h7⟩
    · rw [List.getElem?_set_self (by rw [rs'.s.len]; exact h8)] at hσ
      cases hσ
      exact hpq rfl
    · rw [List.getElem?_set_ne hn'] at hσ
      exact no4.1 k fs h7 hσ)
  exact post3 _ _ Hs3 r2 (b2.sub0.trans b3.sub0)
def mPar3F (i j l : Nat) (ma : ME (List D)) (mb mc : ME D) : MS := fun sd w => eb (ma sd w) sd fun ds w1 => eb (mb sd w1) sd fun d w2 => eb (mc sd w2) sd fun e w3 => .nx (((sd.set i (.own ds)).set j (.val d)).set l (.val e)) w3
theorem js_par3F {i j l : Nat} {x y z : Str} {a b c : Expr} {ta tb tc : TE} {ma : ME (List D)} {mb mc : ME D} {px py pz pt : Pos} {kt k2 pt2} (hN : X.N.Nodup) (ha : JF X G Wx a ta ma) (hb : JE X G Wx b tb mb) (hc' : JE X G Wx c tc mc)
    (hi : X.N[i]? = some x := by rfl) (hj : X.N[j]? = some y := by rfl) (hl : X.N[l]? = some z := by rfl) (hij : i ≠ j := by decide) (hil : i ≠ l := by decide) (hjl : j ≠ l := by decide)
    (hx : X.env.scope.names.lookup x = some .local := by rfl) (hy : X.env.scope.names.lookup y = some .local := by rfl) (hz : X.env.scope.names.lookup z = some .local := by rfl)
    (hw : swappedStores [.Tuple [.Name x px, .Name y py, .Name z pz] kt pt] (.Tuple [a, b, c] k2 pt2) X.env = pure (some [x, y, z]) := by rfl) (hc : X.calm = true := by rfl)
    (hs : swapsWithSole [.Tuple [.Name x px, .Name y py, .Name z pz] kt pt] (.Tuple [a, b, c] k2 pt2) pos.line X.env = pure false := by rfl)
    (e1 : starEach [a, b, c] X.env = (false, eval a X.env) :: starEach [b, c] X.env := by rfl) (e2 : starEach [b, c] X.env = (false, eval b X.env) :: starEach [c] X.env := by rfl) (e3 : starEach [c] X.env = (false, eval c X.env) :: starEach [] X.env := by rfl) :
    JS X G Wx (.Assign [.Tuple [.Name x px, .Name y py, .Name z pz] kt pt] (.Tuple [a, b, c] k2 pt2) pos) (tPar3 i j l (tCons ta (tCons tb (tCons tc tNil)))) (mPar3F i j l ma mb mc) := by
  refine ⟨ps_par3 hc hN hi hj hl hij hil hjl hx hy hz (pa_cons ha.pe (pa_cons hb.pe (pa_cons hc'.pe pa_nil e3) e2) e1) hw hs, fun sd w σ H Hs De rs post => ?_⟩
  refine ha.si sd w σ H Hs _ rs ?_
  unfold mPar3F at post
  cases e : ma sd w with
  | exc cx ns ds w' =>
    rw [e] at post
    exact fun dd H' Hs' b q => post dd σ H' Hs' (rs.step b) q
  | bad => rw [e] at post; exact post
  | ok ds w1 =>
    rw [e] at post
    have post1 : PostS G Wx Hs De (eb (mb sd w1) sd fun d w2 => eb (mc sd w2) sd fun e w3 => .nx (((sd.set i (.own ds)).set j (.val d)).set l (.val e)) w3) := post
    intro p vs H1 Hs1 b1 h1 h2 h3 h4 h5
    have rs1 := rs.step b1
    have no := notOwn_fresh rs.s h4
    refine hb.si.bindS rs1 (post1.shift b1.sub0) fun d w2 v H2 Hs2 rs2 b2 q2 post2 => ?_
    refine hc'.si.bindS rs2 post2 fun f w3 u H3 Hs3 rs3 b3 q3 post3 => ?_
    refine ⟨.ref p, v, u, rfl, ?_⟩
    have hH2 := b2.keep p _ h5 lst_noT h1
    have hs2 := none_stay b2 h1 lst_noT h3
    have hH3 := b3.keep p _ h5 lst_noT hH2
    have hs3 := none_stay b3 hH2 lst_noT hs2
    have rs4 := rs3.setOwn (i := i) hH3 (h2.mono (b2.sub0.trans b3.sub0)) hs3 (fun o' e hn => h4 o' (rs.b.keep p o' h5 hn e) hn) h5 no.1
    exact post3 _ H3 Hs3 ((rs4.setVal (q2.mono b3.sub0)).setVal q3) (Same.refl _)
end
end FT
end
section
set_option Elab.async false
set_option linter.all false
set_option maxRecDepth 100000
set_option maxHeartbeats 4000000
namespace FT
open PySem PySem.Spec
/-! ### what runs, runs one way -/
theorem runs_one {M : Model} {Γ : PySem.Ctx} {p : Pos} {t : Sem Fin} {fs : List Frame} {s s1 : Shared} {e1 : End} (h1 : Runs M Γ p t fs s e1 s1) : ∀ {s2 : Shared} {e2 : End}, Runs M Γ p t fs s e2 s2 → e1 = e2 ∧ s1 = s2 := by
  induction h1 with
  | done => intro s2 e2 h2; cases h2; exact ⟨rfl, rfl⟩
  | raise => intro s2 e2 h2; cases h2; exact ⟨rfl, rfl⟩
  | again _ _ ih => intro s2 e2 h2; cases h2 with | again _ h => exact ih h
  | rule _ ih => intro s2 e2 h2; cases h2 with | rule h => exact ih h
  | «at» _ ih => intro s2 e2 h2; cases h2 with | «at» h => exact ih h
  | load ho _ ih => intro s2 e2 h2; cases h2 with | load ho' h => rw [ho] at ho'; cases ho'; exact ih h
  | update _ _ ih => intro s2 e2 h2; cases h2 with | update _ h => exact ih h
  | loadIfAlive _ ih => intro s2 e2 h2; cases h2 with | loadIfAlive h => exact ih h
  | point _ ih => intro s2 e2 h2; cases h2 with | point h => exact ih h
  | alloc _ ih => intro s2 e2 h2; cases h2 with | alloc h => exact ih h
  | fresh _ ih => intro s2 e2 h2; cases h2 with | fresh h => exact ih h
  | ask _ ih => intro s2 e2 h2; cases h2 with | ask h => exact ih h
  | choose _ _ ih => intro s2 e2 h2; cases h2 with | choose _ h => exact ih h
  | os _ ih => intro s2 e2 h2; cases h2 with | os h => exact ih h
  | handled _ ih => intro s2 e2 h2; cases h2 with | handled h => exact ih h
  | genState hg _ ih => intro s2 e2 h2; cases h2 with | genState hg' h => rw [hg] at hg'; cases hg'; exact ih h
  | stack _ ih => intro s2 e2 h2; cases h2 with | stack h => exact ih h
  | thread _ ih => intro s2 e2 h2; cases h2 with | thread h => exact ih h
  | newGen _ ih => intro s2 e2 h2; cases h2 with | newGen h => exact ih h
  | call _ _ ih1 ih2 =>
    intro s2 e2 h2
    cases h2 with
    | call a b =>
      obtain ⟨q1, q2⟩ := ih1 a
      cases q1
      subst q2
      exact ih2 b
    | callSusp a =>
      obtain ⟨q1, q2⟩ := ih1 a
      cases q1
  | callSusp _ ih =>
    intro s2 e2 h2
    cases h2 with
    | call a b =>
      obtain ⟨q1, q2⟩ := ih a
      cases q1
    | callSusp a =>
      obtain ⟨q1, q2⟩ := ih a
      cases q1
      exact ⟨rfl, q2⟩
  | yield => intro s2 e2 h2; cases h2; exact ⟨rfl, rfl⟩
  | resumeFresh hg _ hq _ ih1 ih2 =>
    intro s2 e2 h2
    cases h2 with
    | resumeFresh hg' a _ b =>
      rw [hg] at hg'; cases hg'
      obtain ⟨q1, q2⟩ := ih1 a
      subst q1 q2
      exact ih2 b
    | resumeSuspended hg' => rw [hg] at hg'; cases hg'
    | resumeJustStarted hg' hv => exact absurd rfl hv
    | resumeRunning hg' => rw [hg] at hg'; cases hg'
    | resumeFinished hg' => rw [hg] at hg'; cases hg'
  | resumeSuspended hg _ hq _ ih1 ih2 =>
    intro s2 e2 h2
    cases h2 with
    | resumeFresh hg' => rw [hg] at hg'; cases hg'
    | resumeSuspended hg' a _ b =>
      rw [hg] at hg'; cases hg'
      obtain ⟨q1, q2⟩ := ih1 a
      subst q1 q2
      exact ih2 b
    | resumeJustStarted hg' => rw [hg] at hg'; cases hg'
    | resumeThrowFresh hg' => rw [hg] at hg'; cases hg'
    | resumeRunning hg' => rw [hg] at hg'; cases hg'
    | resumeFinished hg' => rw [hg] at hg'; cases hg'
  | resumeJustStarted hg hv _ ih =>
    intro s2 e2 h2
    cases h2 with
    | resumeFresh hg' => exact absurd rfl hv
    | resumeSuspended hg' => rw [hg] at hg'; cases hg'
    | resumeJustStarted hg' _ b => exact ih b
    | resumeRunning hg' => rw [hg] at hg'; cases hg'
    | resumeFinished hg' => rw [hg] at hg'; cases hg'
  | resumeThrowFresh hg _ ih =>
    intro s2 e2 h2
    cases h2 with
    | resumeSuspended hg' => rw [hg] at hg'; cases hg'
    | resumeThrowFresh hg' b => exact ih b
    | resumeRunning hg' => rw [hg] at hg'; cases hg'
    | resumeFinished hg' => rw [hg] at hg'; cases hg'
  | resumeRunning hg _ ih =>
    intro s2 e2 h2
    cases h2 with
    | resumeFresh hg' => rw [hg] at hg'; cases hg'
    | resumeSuspended hg' => rw [hg] at hg'; cases hg'
    | resumeJustStarted hg' => rw [hg] at hg'; cases hg'
    | resumeThrowFresh hg' => rw [hg] at hg'; cases hg'
    | resumeRunning hg' b => exact ih b
    | resumeFinished hg' => rw [hg] at hg'; cases hg'
  | resumeFinished hg _ ih =>
    intro s2 e2 h2
    cases h2 with
    | resumeFresh hg' => rw [hg] at hg'; cases hg'
    | resumeSuspended hg' => rw [hg] at hg'; cases hg'
    | resumeJustStarted hg' => rw [hg] at hg'; cases hg'
    | resumeThrowFresh hg' => rw [hg] at hg'; cases hg'
    | resumeRunning hg' => rw [hg] at hg'; cases hg'
    | resumeFinished hg' b => exact ih b
  | segRet _ _ ih1 ih2 =>
    intro s2 e2 h2
    cases h2 with
    | segRet a b =>
      obtain ⟨q1, q2⟩ := ih1 a
      cases q1
      subst q2
      exact ih2 b
    | segSuspOut _ a => obtain ⟨q1, _⟩ := ih1 a; cases q1
    | segSuspGen _ a => obtain ⟨q1, _⟩ := ih1 a; cases q1
  | segGen _ _ ih1 ih2 =>
    intro s2 e2 h2
    cases h2 with
    | segGen a b =>
      obtain ⟨q1, q2⟩ := ih1 a
      cases q1
      subst q2
      exact ih2 b
    | segSuspOut _ a => obtain ⟨q1, _⟩ := ih1 a; cases q1
    | segSuspGen _ a => obtain ⟨q1, _⟩ := ih1 a; cases q1
  | segSuspOut hsp _ ih =>
    intro s2 e2 h2
    cases h2 with
    | segRet a b => obtain ⟨q1, _⟩ := ih a; cases q1
    | segGen a b => obtain ⟨q1, _⟩ := ih a; cases q1
    | segSuspOut _ a =>
      obtain ⟨q1, q2⟩ := ih a
      cases q1
      exact ⟨rfl, q2⟩
    | segSuspGen hsp' a => rw [hsp] at hsp'; cases hsp'
  | segSuspGen hsp _ hq _ ih1 ih2 =>
    intro s2 e2 h2
    cases h2 with
    | segRet a b => obtain ⟨q1, _⟩ := ih1 a; cases q1
    | segGen a b => obtain ⟨q1, _⟩ := ih1 a; cases q1
    | segSuspOut hsp' a => rw [hsp] at hsp'; cases hsp'
    | segSuspGen hsp' a _ b =>
      rw [hsp] at hsp'
      cases hsp'
      obtain ⟨q1, q2⟩ := ih1 a
      cases q1
      subst q2
      exact ih2 b
theorem wakes_one {M : Model} {Γ : PySem.Ctx} {p : Pos} {g : Nat} {r : Resume} {s s1 s2 : Shared} {r1 r2 : GenResult} (h1 : Wakes M Γ p g r s r1 s1) (h2 : Wakes M Γ p g r s r2 s2) : r1 = r2 ∧ s1 = s2 := by
  unfold Wakes at h1 h2
  split at h1
  · exact h1.elim
  · rename_i c hg
    rw [hg] at h2
    cases r with
    | send v =>
      by_cases hv : v = Value.none
      · subst hv
        obtain ⟨e, t, a1, a2, rfl, rfl⟩ := h1
        obtain ⟨e', t', b1, b2, rfl, rfl⟩ := h2
        obtain ⟨rfl, rfl⟩ := runs_one a1 b1
        exact ⟨rfl, rfl⟩
      · cases v <;> first
          | exact absurd rfl hv
          | exact ⟨h1.1.trans h2.1.symm, h1.2.trans h2.2.symm⟩
    | throw x => exact ⟨h1.1.trans h2.1.symm, h1.2.trans h2.2.symm⟩
  · rename_i k0 l0 c0 p0 fs cl hg
    rw [hg] at h2
    obtain ⟨e, t, a1, a2, rfl, rfl⟩ := h1
    obtain ⟨e', t', b1, b2, rfl, rfl⟩ := h2
    obtain ⟨rfl, rfl⟩ := runs_one a1 b1
    exact ⟨rfl, rfl⟩
  · rename_i hg
    rw [hg] at h2
    exact ⟨h1.1.trans h2.1.symm, h1.2.trans h2.2.symm⟩
  · rename_i hg
    rw [hg] at h2
    exact ⟨h1.1.trans h2.1.symm, h1.2.trans h2.2.symm⟩
/-- two readings of one run -/
theorem wp_both {α : Type} {M : Model} {Γ : PySem.Ctx} (t : Sem α) : ∀ {Q1 Q2 : α → Pos → Shared → Prop} {E1 E2 : Value → Pos → Shared → Prop} {p : Pos} {s : Shared}, Sem.wp M Γ t Q1 E1 p s → Sem.wp M Γ t Q2 E2 p s →
    Sem.wp M Γ t (fun a p s => Q1 a p s ∧ Q2 a p s) (fun e p s => E1 e p s ∧ E2 e p s) p s := by
  induction t with
  | pure a => intro _ _ _ _ _ _ h1 h2; exact ⟨h1, h2⟩
  | raise e => intro _ _ _ _ _ _ h1 h2; exact ⟨h1, h2⟩
  | unsupported _ => intro _ _ _ _ _ _ h1 h2; exact h1
  | finish _ => intro _ _ _ _ _ _ h1 h2; exact h1
  | rule _ k ih => intro _ _ _ _ _ _ h1 h2; exact ih () h1 h2
  | «at» p' k ih => intro _ _ _ _ _ _ h1 h2; exact ih () h1 h2
  | load a _ k ih =>
    intro _ _ _ _ _ _ h1 h2
    obtain ⟨o, ho, h1⟩ := h1
    obtain ⟨o', ho', h2⟩ := h2
    rw [ho] at ho'
    cases ho'
    exact ⟨o, ho, ih o h1 h2⟩
  | update a _ f k ih => intro _ _ _ _ _ _ h1 h2; exact ⟨h1.1, ih () h1.2 h2.2⟩
  | loadIfAlive a k ih => intro _ _ _ _ _ _ h1 h2; exact ih _ h1 h2
  | point _ k ih => intro _ _ _ _ _ _ h1 h2; exact ih () h1 h2
  | register _ _ => intro _ _ _ _ _ _ h1 h2; exact h1
  | alloc o k ih => intro _ _ _ _ _ _ h1 h2; exact ih _ h1 h2
  | fresh k ih => intro _ _ _ _ _ _ h1 h2; exact ih _ h1 h2
  | ask k ih => intro _ _ _ _ _ _ h1 h2; exact ih _ h1 h2
  | choose src m k ih => intro _ _ _ _ _ _ h1 h2; exact ⟨h1.1, ih _ h1.2 h2.2⟩
  | os q _ k ih => intro _ _ _ _ _ _ h1 h2; exact ih _ h1 h2
  | call c hd _ _ k ih =>
    intro _ _ _ _ _ _ h1 h2
    obtain ⟨r, s', hr, h1⟩ := h1
    obtain ⟨r', s'', hr', h2⟩ := h2
    obtain ⟨q1, q2⟩ := runs_one hr hr'
    cases q1
    subst q2
    exact ⟨r, s', hr, ih r h1 h2⟩
  | handled own k ih => intro _ _ _ _ _ _ h1 h2; exact ih _ h1 h2
  | genState g k ih =>
    intro _ _ _ _ _ _ h1 h2
    obtain ⟨st, hs, h1⟩ := h1
    obtain ⟨st', hs', h2⟩ := h2
    rw [hs] at hs'
    cases hs'
    exact ⟨st, hs, ih _ h1 h2⟩
  | newGen c k ih => intro _ _ _ _ _ _ h1 h2; exact ih _ h1 h2
  | resume g r _ k ih =>
    intro _ _ _ _ _ _ h1 h2
    obtain ⟨res, s', hw, h1⟩ := h1
    obtain ⟨res', s'', hw', h2⟩ := h2
    obtain ⟨rfl, rfl⟩ := wakes_one hw hw'
    exact ⟨res, s', hw, ih res h1 h2⟩
  | yield _ _ _ _ => intro _ _ _ _ _ _ h1 h2; exact h1
  | stack k ih => intro _ _ _ _ _ _ h1 h2; exact ih _ h1 h2
  | fork _ _ => intro _ _ _ _ _ _ h1 h2; exact h1
  | thread k ih => intro _ _ _ _ _ _ h1 h2; exact ih _ h1 h2
  | await _ _ _ _ _ => intro _ _ _ _ _ _ h1 h2; exact h1
theorem both {α : Type} {M : Model} {A : Around} {s : Shared} {t : Sem α} {Q1 Q2 : α → Shared → Prop} {E1 E2 : Value → Shared → Prop} (h1 : wpAny M A t Q1 E1 s) (h2 : wpAny M A t Q2 E2 s) : wpAny M A t (fun a s => Q1 a s ∧ Q2 a s) (fun e s => E1 e s ∧ E2 e s) s :=
  fun Γ p hΓ => wp_both t (h1 Γ p hΓ) (h2 Γ p hΓ)
end FT
end
section
set_option Elab.async false
set_option linter.all false
set_option maxRecDepth 100000
set_option maxHeartbeats 4000000
namespace FT
open PySem PySem.Spec PyProof.Rows L2
section
variable {X : Cx} {G : Gh} {Wx : WX} {pins : List (Addr × Obj)} {σ : L2.St} {H : Hp} {s : Shared}
/-! ### what is stored stands there as it is -/
def Stands (X : Cx) (h : Heap) (x : Str) (u : Value) : Prop :=
  (X.env.scope.names.lookup x = some .local ∧ ∃ m, h.Ns X.env.locals m ∧ m x = some u) ∨ (X.env.scope.names.lookup x = some .cell ∧ ∃ c, X.env.cells.lookup x = some c ∧ h.IsCell c (some u))
theorem raw_store {M : Model} {A : Around} {E : Value → Shared → Prop} {x : Str} {u : Value} (I : Inv X pins σ H s) (hx : Loc X.env.scope x) :
    wpAny M A (storeName X.env x u) (fun _ t => Stands X t.heap x u ∧ s.toks ≤ t.toks ∧ (X.env.scope.names.lookup x = some .local → 1 ≤ t.toks)) E s := by
  obtain ⟨m, hn, _⟩ := I.loc
  have hcls : (X.env.scope.kind == .class || (X.env.scope.kind == .module && X.env.locals != X.env.globals)) = false := by rw [I.ok.kind]; rfl
  rcases hx with hk | hk
  · exact wpAny_storeName_local hk hn (fun h' hn' _ => ⟨.inl ⟨hk, _, hn', by simp⟩, Nat.le_succ _, fun _ => Nat.succ_le_succ (Nat.zero_le _)⟩) hcls
  · obtain ⟨c, hc⟩ := I.ok.has x (.inl hk)
    obtain ⟨v, hv⟩ := I.cell x c hc
    exact wpAny_storeName_cell I.ok.kind hk hc hv fun h' hc' _ => ⟨.inr ⟨hk, c, hc, hc'⟩, Nat.le_refl _, fun z => by rw [hk] at z; cases z⟩
theorem raw_load {E : Value → Shared → Prop} {x : Str} {u : Value} {pos : Pos} {Q : Value → Shared → Prop} (I : Inv X pins σ H s) (hst : Stands X s.heap x u) (fin : Q u s) (hd : (x == ("__debug__" : Str)) = false := by decide) : wpAny (model X.prog X.w) X.A (eval (.Name x pos) X.env) Q E s := by
  rcases hst with ⟨hk, m, hn, hm⟩ | ⟨hk, c, hc, hv⟩
  · exact wpAny_Name (wpAny_loadName_local I.ok.kind hk hn hm fin) hd
  · exact wpAny_Name (wpAny_loadName_cell I.ok.kind hk hc hv fin) hd
/-! ### behind two names stored at once a token is out -/
theorem par_toks {x y : Str} {a b : Expr} {ta : TA} {px py pt : Pos} {kt k2 pt2} {i j : Nat} {D : Ends} {pos : Pos} (hc : X.calm = true)
    (hx : X.env.scope.names.lookup x = some .local) (hy : X.env.scope.names.lookup y = some .local) (ha : PA X [a, b] ta)
    (hw : swappedStores [.Tuple [.Name x px, .Name y py] kt pt] (.Tuple [a, b] k2 pt2) X.env = pure (some [x, y]))
    (hs : swapsWithSole [.Tuple [.Name x px, .Name y py] kt pt] (.Tuple [a, b] k2 pt2) pos.line X.env = pure false) (I : Inv X pins σ H s) (h : tPar i j ta D σ H) :
    wpAny (model X.prog X.w) X.A (exec (.Assign [.Tuple [.Name x px, .Name y py] kt pt] (.Tuple [a, b] k2 pt2) pos) X.env) (fun _ t => 1 ≤ t.toks) X.xe s := by
  rw [exec_Assign_arm, hs]
  refine wpAny_bind (wpAny_standAt (wpAny_bind (wpAny_pure ?_)))
  rw [if_neg Bool.false_ne_true, hw]
  refine wpAny_bind (Tuple_ (wpAny_mono (ha.run _ pins s σ H _ I h) (fun us t1 q => ?_) fun _ _ z => z))
  obtain ⟨vs, G1, J1, rr, v, z, rfl, _⟩ := q
  match us, rr with
  | [u1, u2], .cons _ (.cons _ .nil) =>
    refine wpAny_newObj_type (wpAny_bind (wpAny_pure ?_)) (by show 2 ≤ sizeLine; decide)
    have J2 : Inv X pins σ G1 { t1 with heap := t1.heap.push { cls := .type "tuple", data := .seq [u1, u2].toArray } } := J1.kept (t' := t1.toks) fun b o e => Heap.get?_push_of_some _ e
    show wpAny _ _ (do rule "assign.swapped-stores"; let items ← unpackItems (.ref t1.heap.objs.size) 2 none; assignInOrder [fun v => bindName X.env y v, fun v => bindName X.env x v] items.reverse; pure Flow.next) _ _ _
    refine wpAny_bind (wpAny_rule (wpAny_bind (unpackItems_tuple (items := #[u1, u2]) (J1.ok.hd hc) (IsTup.new t1.heap _) fun h1 k1 => ?_)))
    have J3 := J2.kept (h' := h1) (t' := t1.toks) fun b o e => k1 b o (Nat.ne_of_lt (Heap.lt_size e)) e
    show wpAny _ _ (assignInOrder [fun v => bindName X.env y v, fun v => bindName X.env x v] [u2, u1] >>= fun _ => pure Flow.next) _ _ _
    obtain ⟨m, hn, _⟩ := J3.loc
    have hcls : (X.env.scope.kind == .class || (X.env.scope.kind == .module && X.env.locals != X.env.globals)) = false := by rw [J3.ok.kind]; rfl
    refine wpAny_bind (assignInOrder_cons (wpAny_bindName (wpAny_storeName_local hy hn (fun h2 hn2 _ => ?_) hcls)))
    exact assignInOrder_cons (wpAny_bindName (wpAny_storeName_local hx hn2 (fun h3 _ _ => assignInOrder_nil (wpAny_pure (Nat.succ_le_succ (Nat.zero_le _)))) hcls))
theorem pss_parT {i j : Nat} {x y : Str} {a b : Expr} {ta : TA} {px py pt : Pos} {kt k2 pt2} {pos : Pos} {rest : List Stmt} {u : TS} (hc : X.calm = true) (hN : X.N.Nodup) (hi : X.N[i]? = some x) (hj : X.N[j]? = some y) (hij : i ≠ j)
    (hx : X.env.scope.names.lookup x = some .local) (hy : X.env.scope.names.lookup y = some .local) (ha : PA X [a, b] ta)
    (hw : swappedStores [.Tuple [.Name x px, .Name y py] kt pt] (.Tuple [a, b] k2 pt2) X.env = pure (some [x, y]))
    (hs : swapsWithSole [.Tuple [.Name x px, .Name y py] kt pt] (.Tuple [a, b] k2 pt2) pos.line X.env = pure false) (h2 : PSsT X rest u) :
    PSs X (.Assign [.Tuple [.Name x px, .Name y py] kt pt] (.Tuple [a, b] k2 pt2) pos :: rest) (tSeq (tPar i j ta) u) := by
  refine ⟨fun pins s σ H D I h => wpAny_execs_cons ?_⟩
  refine wpAny_mono (both ((ps_par hc hN hi hj hij hx hy ha hw hs).run pins s σ H { D with nx := u D } I h) (par_toks hc hx hy ha hw hs I h)) (fun f t q => ?_) fun _ _ z => z.1
  obtain ⟨q, ht⟩ := q
  cases f with
  | next =>
    obtain ⟨σ', H', I', q⟩ := q
    exact h2 pins t σ' H' D ht I' q
  | ret v => exact q
  | brk => exact q
  | cont => exact q
/-! ### for x in e: y = o.replace(x, ".."); rest -/
def tRepl (q i : Nat) (z : Str) : TE := fun σ H Q => ∃ x y, σ[q]? = some (some (.str x)) ∧ σ[i]? = some (some (.str y)) ∧ (y == z) = false ∧ x.length + (x.length + 1) * z.length ≤ 16777216 ∧ Q (.str (Txt.replace x y z)) H
def iStrA (te : TE) : TI := fun σ H R => te σ H fun v H1 => ∃ x, v = .str x ∧ x.cps.all (· < 128) = true ∧ R (Its x) H1
section
variable {e : Expr} {te : TE} {xn on yn : Str} {i q j : Nat} {z : Str} {rest : List Stmt} {tb : TS} {p0 po px py ap cz cp sp pos : Pos} {kz : Nat}
theorem rep_body {c : Nat} {u0 : Tok} {D : Ends} (hN : X.N.Nodup) (hi : X.N[i]? = some xn) (hq : X.N[q]? = some on) (hvq : Vis X.env.scope on) (hj : X.N[j]? = some yn) (hyl : Loc X.env.scope yn)
    (hfy : X.fn yn = true ∨ X.env.scope.names.lookup yn = some .local) (hb : PSs X rest tb)
    (hs2 : swapsWith (.Call (.Attribute (.Name on po) "replace" ap) [.Name xn px, .Constant (.str z) kz cz] [] cp) (some (.Name yn py)) sp.line X.env = pure false)
    (hst : starEach [.Name xn px, .Constant (.str z) kz cz] X.env = [(false, eval (.Name xn px) X.env), (false, eval (.Constant (.str z) kz cz) X.env)])
    (hbase : attributeBase (.Name on po) "replace" X.env (eval (.Name on po) X.env) = eval (.Name on po) X.env) (hline : (ap.endLine == cp.line) = true)
    (hdx : (xn == ("__debug__" : Str)) = false) (hdq : (on == ("__debug__" : Str)) = false) (hcq : (on == ("__classdict__" : Str)) = false)
    (I : Inv X pins σ H s) (hx : σ[i]? = some (some (.str ⟨#[c]⟩))) (hS : Stands X s.heap xn (.str ⟨#[c]⟩ u0)) (hu : u0 ≠ 0) (hlt : u0 < s.toks) (h : tSeq (tAsg (tRepl q i z) (gName j)) tb D σ H) :
    wpAny (model X.prog X.w) X.A (execs (.Assign [.Name yn py] (.Call (.Attribute (.Name on po) "replace" ap) [.Name xn px, .Constant (.str z) kz cz] [] cp) sp :: rest) X.env) (SP X pins D) X.xe s := by
  obtain ⟨xs, ys, h1, h2, h3, h4, h5⟩ := h
  rw [hx] at h2
  cases h2
  refine wpAny_execs_cons (wpAny_Assign_Name (PySem.Call_method2 hbase hst hline (raw_name hq hvq I h1 (fun v rv => ?_) hdq hcq)) hs2)
  obtain ⟨tx, rfl⟩ := rv
  refine ⟨"str", _, PySem.F.plainAttrs_str, PySem.F.slot_str_replace, PySem.F.type_str_replace, typeIs_str _ _ _, (fun _ e => nomatch e), ?_⟩
  refine Calls.callWith_builtin rfl (Calls.evalArgs_plain (Calls.spliced_cons (raw_load I hS (Calls.spliced_cons (Calls.Constant_str (Calls.spliced_nil ?_))) hdx)))
  refine PySem.SC.replace hu (Nat.ne_of_gt (Nat.lt_of_le_of_lt (Nat.zero_le _) hlt)) (Nat.ne_of_lt hlt) h3 h4 fun t' k => ?_
  exact store_ok (v := .str (Txt.replace xs ⟨#[c]⟩ z)) (u := .str (Txt.replace xs ⟨#[c]⟩ z) t') (I.tok k) hN hj hyl ⟨t', rfl⟩ (fun s2 I2 => hb.run _ s2 _ _ D I2 h5) hfy
theorem pst_forRep (hp : PassesOwn (model X.prog X.w) X.A X.env X.xe) (hc : X.calm = true) (he : PE X e te) (hN : X.N.Nodup) (hi : X.N[i]? = some xn) (hx : Loc X.env.scope xn) (hfx : X.fn xn = true ∨ X.env.scope.names.lookup xn = some .local)
    (hq : X.N[q]? = some on) (hvq : Vis X.env.scope on) (hj : X.N[j]? = some yn) (hyl : Loc X.env.scope yn) (hfy : X.fn yn = true ∨ X.env.scope.names.lookup yn = some .local) (hb : PSs X rest tb)
    (hs : ∀ x, foldedSetIterable e X.env x = pure x)
    (hs2 : swapsWith (.Call (.Attribute (.Name on po) "replace" ap) [.Name xn px, .Constant (.str z) kz cz] [] cp) (some (.Name yn py)) sp.line X.env = pure false)
    (hst : starEach [.Name xn px, .Constant (.str z) kz cz] X.env = [(false, eval (.Name xn px) X.env), (false, eval (.Constant (.str z) kz cz) X.env)])
    (hbase : attributeBase (.Name on po) "replace" X.env (eval (.Name on po) X.env) = eval (.Name on po) X.env) (hline : (ap.endLine == cp.line) = true)
    (hdx : (xn == ("__debug__" : Str)) = false) (hdq : (on == ("__debug__" : Str)) = false) (hcq : (on == ("__classdict__" : Str)) = false) :
    PST X (.For (.Name xn p0) e (.Assign [.Name yn py] (.Call (.Attribute (.Name on po) "replace" ap) [.Name xn px, .Constant (.str z) kz cz] [] cp) sp :: rest) [] pos) (tFor (iStrA te) (gName i) (tSeq (tAsg (tRepl q i z) (gName j)) tb)) := by
  intro pins s σ H D h0 I h
  refine wpAny_For (wpAny_mono (wpAny_toks (he.run pins s σ H _ I h)) (fun v s1 q => ?_) fun _ _ z => z.2) hs
  obtain ⟨hk1, y0, H1, I1, r1, x, rfl, hasc, W, ⟨m0, w0⟩, turn⟩ := q
  obtain ⟨t, rfl⟩ := r1
  refine wpAny_pyIter_ascii hasc ?_
  have I2 : Inv X pins σ H1 { s1 with heap := s1.heap.push { cls := .type "str_ascii_iterator", data := .fields #[.str x t, .int 0 0] } } := I1.kept (t' := s1.toks) fun b o e => Heap.get?_push_of_some _ e
  have st2 : (s1.heap.push { cls := .type "str_ascii_iterator", data := .fields #[.str x t, .int 0 0] }).IsStrIter s1.heap.objs.size "str_ascii_iterator" x t 0 := ⟨_, Heap.get?_push_size _ rfl, rfl, rfl⟩
  have fp : FpOk X pins H1 s1.heap.objs.size := I1.fpOk (Nat.le_refl _) (I1.hok.fresh (Nat.le_refl _))
  generalize s1.heap.objs.size = it at st2 fp ⊢
  have stat : ∀ {H' : Hp}, H' it = none → FpOk X pins H' it := fun hn => ⟨hn, fp.2⟩
  refine codeAny_forLoop_any (fun n s' => ∃ k σ' H', Inv X pins σ' H' s' ∧ s'.heap.IsStrIter it "str_ascii_iterator" x t k ∧ H' it = none ∧ W k n σ' H' ∧ 1 ≤ s'.toks) ?_ m0 ⟨0, σ, H1, I2, st2, fp.1, w0, Nat.le_trans h0 hk1⟩
  rintro n s3 ⟨k, σ3, H3, I3, st3, fr3, w3, tk3⟩
  obtain ⟨f0, f1, f2, f3, f4, f5⟩ := stat fr3
  rcases turn k n σ3 H3 w3 with ⟨stop, qn⟩ | ⟨go, N, hN', step⟩
  · refine wpAny_passesOwn hp (wpAny_pyNext_ascii_end (I3.ok.hd hc) st3 (Array.getElem?_eq_none stop) fun h' eb => ?_)
    exact wpAny_execs_nil ⟨σ3, H3, I3.turned (t' := s3.toks) (fun b o hb e => eb b o hb e) f0 f1 f3 f4 f5, qn⟩
  · have go' : k < x.cps.size := go
    refine wpAny_passesOwn hp (wpAny_pyNext_ascii_item st3 (Array.getElem?_eq_getElem go') fun h' it' sb => ?_)
    have I4 : Inv X pins σ3 H3 { s3 with heap := h', toks := s3.toks + 1 } := I3.turned (fun b o hb e => sb.extBut b o hb e) f0 f1 f3 f4 f5
    obtain ⟨oi, eo, ec, ed⟩ := id it'
    refine wpAny_passesOwn hp (go_of (s := { s3 with heap := h', toks := s3.toks + 1 }) eo ec ed (by decide) ?_)
    have I5 := I4.pinned (fp := [it]) (fun b hb => by rw [List.mem_singleton.mp hb]; exact stat fr3) (fun b hb => by rw [List.mem_singleton.mp hb]; exact ⟨oi, eo, fun v z => by rw [ed] at z; cases z⟩)
    refine wpAny_passesOwn hp (wpAny_assign_Name (wpAny_mono (both (store_ok (v := .str ⟨#[x.cps[k]]⟩) (Q := fun _ s' => Inv X (pins ++ pinsAt [it] h') (σ3.set i (some (.str ⟨#[x.cps[k]]⟩))) H3 s') I5 hN hi hx ⟨s3.toks, rfl⟩ (fun s' I' => I') hfx) (raw_store (E := X.xe) I5 hx)) (fun _ s6 q => ?_) fun _ _ z => z.1))
    obtain ⟨I6, hS, tk6, _⟩ := q
    have hil : i < σ3.length := by rw [I3.len]; exact (List.getElem?_eq_some_iff.mp hi).1
    have body := step (.str ⟨#[x.cps[k]]⟩) H3 ⟨rfl, _, Array.getElem?_eq_getElem go', rfl⟩
    have tk6' : s3.toks + 1 ≤ s6.toks := tk6
    refine wpAny_passesOwn hp (wpAny_mono (wpAny_toks (rep_body hN hi hq hvq hj hyl hfy hb hs2 hst hbase hline hdx hdq hcq I6 (by rw [List.getElem?_set_self hil]) hS (Nat.ne_of_gt (Nat.lt_of_lt_of_le Nat.zero_lt_one tk3)) (Nat.lt_of_lt_of_le (Nat.lt_succ_self _) tk6') body)) (fun f s7 q7 => ?_) fun _ _ z => z.2)
    obtain ⟨tk7, q7⟩ := q7
    have again : ∀ {σ7 : L2.St} {H7 : Hp}, Inv X (pins ++ pinsAt [it] h') σ7 H7 s7 → N σ7 H7 → ∃ m, m < n ∧ ∃ k σ' H', Inv X pins σ' H' s7 ∧ s7.heap.IsStrIter it "str_ascii_iterator" x t k ∧ H' it = none ∧ W k m σ' H' ∧ 1 ≤ s7.toks := fun {σ7 H7} I7 n7 => by
      obtain ⟨m', hm, w7⟩ := hN' σ7 H7 n7
      have pin := I7.pin (it, oi) (List.mem_append_right _ (List.mem_append_right _ (mem_pinsAt (List.mem_singleton.mpr rfl) eo)))
      exact ⟨m', hm, k + 1, σ7, H7, I7.unpinned, ⟨oi, pin.1, ec, ed⟩, pin.2.1, w7, by omega⟩
    cases f with
    | next => obtain ⟨σ7, H7, I7, n7⟩ := q7; exact again I7 n7
    | cont => obtain ⟨σ7, H7, I7, n7⟩ := q7; exact again I7 n7
    | brk => obtain ⟨σ7, H7, I7, d7⟩ := q7; exact ⟨σ7, H7, I7.unpinned, d7⟩
    | ret v => obtain ⟨x7, σ7, H7, I7, r7, d7⟩ := q7; exact ⟨x7, σ7, H7, I7.unpinned, r7, d7⟩
end
end
end FT
end
section
set_option Elab.async false
set_option linter.all false
set_option maxRecDepth 100000
set_option maxHeartbeats 4000000
namespace FT
open PySem PySem.Spec PyProof.Rows L2 PySem.StrLaws
section
variable {X : Cx} {G : Gh} {Wx : WX}
/-! ### statements behind which a token is out -/
structure JST (X : Cx) (G : Gh) (Wx : WX) (st : Stmt) (t : TS) (m : MS) : Prop where
  pe : PST X st t
  si : SimS G Wx t m
structure JSsT (X : Cx) (G : Gh) (Wx : WX) (st : List Stmt) (t : TS) (m : MS) : Prop where
  pe : PSsT X st t
  si : SimS G Wx t m
variable {st : Stmt} {sts rest : List Stmt} {t1 t2 : TS} {m1 m2 : MS}
theorem jsst_of (h : JSs X G Wx sts t1 m1) : JSsT X G Wx sts t1 m1 := ⟨PSsT.of h.pe, h.si⟩
theorem jsst_cons (h1 : JS X G Wx st t1 m1) (h2 : JSsT X G Wx sts t2 m2) : JSsT X G Wx (st :: sts) (tSeq t1 t2) (mSeq m1 m2) := ⟨psst_cons (PST.of h1.pe) h2.pe, sim_seq h1.si h2.si⟩
theorem jsst_consT (h1 : JST X G Wx st t1 m1) (h2 : JSsT X G Wx sts t2 m2) : JSsT X G Wx (st :: sts) (tSeq t1 t2) (mSeq m1 m2) := ⟨psst_cons h1.pe h2.pe, sim_seq h1.si h2.si⟩
theorem jss_parT {i j : Nat} {x y : Str} {a b : Expr} {t : TA} {ma : ME (List D)} {px py pt pos : Pos} {kt k2 pt2} (hN : X.N.Nodup) (ha : JA X G Wx [a, b] t ma) (h2 : JSsT X G Wx sts t2 m2) (hi : X.N[i]? = some x := by rfl) (hj : X.N[j]? = some y := by rfl) (hij : i ≠ j := by decide)
    (hx : X.env.scope.names.lookup x = some .local := by rfl) (hy : X.env.scope.names.lookup y = some .local := by rfl)
    (hw : swappedStores [.Tuple [.Name x px, .Name y py] kt pt] (.Tuple [a, b] k2 pt2) X.env = pure (some [x, y]) := by rfl) (hc : X.calm = true := by rfl)
    (hs : swapsWithSole [.Tuple [.Name x px, .Name y py] kt pt] (.Tuple [a, b] k2 pt2) pos.line X.env = pure false := by rfl) :
    JSs X G Wx (.Assign [.Tuple [.Name x px, .Name y py] kt pt] (.Tuple [a, b] k2 pt2) pos :: sts) (tSeq (tPar i j t) t2) (mSeq (mPar i j ma) m2) :=
  ⟨pss_parT hc hN hi hj hij hx hy ha.pe hw hs h2.pe, sim_seq (js_par (pos := pos) hN ha hi hj hij hx hy hw hc hs).si h2.si⟩
/-! ### the loop over a text whose signs are struck out -/
theorem replL_one (c : Nat) : ∀ s : List Nat, replL [c] [] s = s.filter fun k => decide (k ≠ c)
  | [] => replL_nil
  | a :: s => by
    have ih := replL_one c s
    by_cases h : a = c
    · subst h
      rw [replL_hit (by simp) (by simp)]
      simpa using ih
    · rw [replL_miss (by simp; exact h), ih]
      simp [h]
theorem repl_one (c : Nat) (s : List Nat) : Txt.replace ⟨s.toArray⟩ ⟨[c].toArray⟩ ⟨([] : List Nat).toArray⟩ = ⟨(s.filter fun k => decide (k ≠ c)).toArray⟩ := by
  have e := replace_list (x := ⟨s.toArray⟩) (y := ⟨[c].toArray⟩) (z := ⟨([] : List Nat).toArray⟩) (Nat.le_refl 1)
  have e2 : (Txt.replace ⟨s.toArray⟩ ⟨[c].toArray⟩ ⟨([] : List Nat).toArray⟩).cps.toList = s.filter fun k => decide (k ≠ c) := by
    rw [e]
    exact replL_one c s
  generalize Txt.replace ⟨s.toArray⟩ ⟨[c].toArray⟩ ⟨([] : List Nat).toArray⟩ = r at e2
  obtain ⟨r⟩ := r
  rw [← e2]
def mRepl (q i : Nat) : ME D := fun sd w => match sd[q]?, sd[i]? with
  | some (.val (.str x)), some (.val (.str [c])) => if x.length ≤ 1000 then .ok (.str (x.filter fun k => decide (k ≠ c))) w else .bad
  | _, _ => .bad
theorem sim_repl {q i : Nat} : Sim G Wx (ρE G) (tRepl q i ⟨([] : List Nat).toArray⟩) (mRepl q i) := by
  intro sd w σ H Hs Q rs post
  unfold mRepl at post
  split at post
  · rename_i x c hq hi
    split at post
    · rename_i hl
      obtain ⟨v, h1, h2⟩ := rs.s.val q _ hq
      obtain ⟨u, g1, g2⟩ := rs.s.val i _ hi
      obtain ⟨rfl, o1⟩ := h2
      obtain ⟨rfl, o2⟩ := g2
      refine ⟨_, _, h1, g1, rfl, ?_, ?_⟩
      · show x.toArray.size + (x.toArray.size + 1) * 0 ≤ 16777216
        rw [List.size_toArray]
        omega
      · rw [repl_one]
        refine post _ H Hs rs.b.refl_at ⟨rfl, ?_, fun k hk => o1.2 k (List.mem_filter.mp hk).1⟩
        have := List.length_filter_le (fun k => decide (k ≠ c)) x
        rw [sizeLine_eq]
        omega
    · exact post.elim
  · exact post.elim
def mSeqA (m : ME D) : ME (List D) := fun sd w => (m sd w).bind fun d w1 => match d with
  | .str s => if (s.all fun c => decide (c < 128)) = true then .ok (s.map fun c => D.str [c]) w1 else .bad
  | _ => .bad
/-- a context that is never entered -/
def cxNo (X : Cx) : Cx := { X with env := { X.env with scope := { X.env.scope with kind := .module } }, xe := fun _ _ => False, calm := true }
theorem cxNo_no {pins : List (Addr × Obj)} {σ : L2.St} {H : Hp} {s : Shared} (I : Inv (cxNo X) pins σ H s) : False := by
  have := I.ok.kind
  cases this
theorem sim_for (X : Cx) {ti : TI} {mi : ME (List D)} {tgt : TG} {g : D → SD → Option SD} {js : List Nat} {tb : TS} {mb : MS} (hi : SimI G Wx PM ti mi) (hg : SimG G tgt g js) (hb : SimS G Wx tb mb) : SimS G Wx (tFor ti tgt tb) (mFor g mi mb) :=
  (js_for (X := cxNo X) (tg := .Name "a" default) (it := .Name "a" default) (bs := []) (pos := default) PassesOwn.never ⟨⟨fun _ _ _ _ _ I => (cxNo_no I).elim⟩, hi⟩ ⟨⟨fun _ _ _ _ _ _ _ I => (cxNo_no I).elim⟩, hg⟩ ⟨⟨fun _ _ _ _ _ I => (cxNo_no I).elim⟩, hb⟩ rfl).si
theorem si_strA {te : TE} {m : ME D} (he : Sim G Wx (ρE G) te m) : SimI G Wx PM (iStrA te) (mSeqA m) := by
  intro sd w σ H Hs Q rs post
  refine he sd w σ H Hs _ rs ?_
  unfold mSeqA at post
  cases e : m sd w with
  | exc c ns ds w' => rw [e] at post; exact post
  | bad => rw [e] at post; exact post
  | ok d w' =>
    rw [e] at post
    intro v H' Hs' b q
    cases d with
    | str s =>
      have post' : PostI G Wx σ H Hs PM Q (if (s.all fun c => decide (c < 128)) = true then .ok (s.map fun c => D.str [c]) w' else .bad) := post
      split at post'
      · rename_i ha
        obtain ⟨rfl, o⟩ := q
        refine ⟨_, rfl, ?_, post' _ H' Hs' b (walk_str o)⟩
        show s.toArray.all (fun x => decide (x < 128)) = true
        rw [List.all_toArray]
        exact ha
      · exact post'.elim
    | _ => exact post.elim
theorem jst_forRep (q i j : Nat) {xn on yn : Str} {e : Expr} {te : TE} {me : ME D} {tb : TS} {mb : MS} {p0 po px py ap cz cp sp pos : Pos} {kz : Nat} (hp : PassesOwn (model X.prog X.w) X.A X.env X.xe) (hN : X.N.Nodup) (he : JE X G Wx e te me) (hb : JSs X G Wx rest tb mb)
    (hi : X.N[i]? = some xn := by rfl) (hq : X.N[q]? = some on := by rfl) (hj : X.N[j]? = some yn := by rfl) (hx : Loc X.env.scope xn := by first | exact Or.inl rfl | exact Or.inr rfl) (hfx : X.fn xn = true ∨ X.env.scope.names.lookup xn = some .local := by first | exact .inl rfl | exact .inr rfl)
    (hvq : Vis X.env.scope on := by first | exact Or.inl rfl | exact Or.inr (Or.inl rfl) | exact Or.inr (Or.inr rfl)) (hyl : Loc X.env.scope yn := by first | exact Or.inl rfl | exact Or.inr rfl) (hfy : X.fn yn = true ∨ X.env.scope.names.lookup yn = some .local := by first | exact .inl rfl | exact .inr rfl)
    (hc : X.calm = true := by rfl) (hs : ∀ x, foldedSetIterable e X.env x = pure x := by intro _; rfl)
    (hs2 : swapsWith (.Call (.Attribute (.Name on po) "replace" ap) [.Name xn px, .Constant (.str ⟨([] : List Nat).toArray⟩) kz cz] [] cp) (some (.Name yn py)) sp.line X.env = pure false := by rfl)
    (hst : starEach [.Name xn px, .Constant (.str ⟨([] : List Nat).toArray⟩) kz cz] X.env = [(false, eval (.Name xn px) X.env), (false, eval (.Constant (.str ⟨([] : List Nat).toArray⟩) kz cz) X.env)] := by rfl)
    (hbase : attributeBase (.Name on po) "replace" X.env (eval (.Name on po) X.env) = eval (.Name on po) X.env := by rfl) (hline : (ap.endLine == cp.line) = true := by rfl)
    (hdx : (xn == ("__debug__" : Str)) = false := by decide) (hdq : (on == ("__debug__" : Str)) = false := by decide) (hcq : (on == ("__classdict__" : Str)) = false := by decide) :
    JST X G Wx (.For (.Name xn p0) e (.Assign [.Name yn py] (.Call (.Attribute (.Name on po) "replace" ap) [.Name xn px, .Constant (.str ⟨([] : List Nat).toArray⟩) kz cz] [] cp) sp :: rest) [] pos)
      (tFor (iStrA te) (gName i) (tSeq (tAsg (tRepl q i ⟨([] : List Nat).toArray⟩) (gName j)) tb)) (mFor (gN i) (mSeqA me) (mSeq (mAsg (gN j) (mRepl q i)) mb)) :=
  ⟨pst_forRep hp hc he.pe hN hi hx hfx hq hvq hj hyl hfy hb.pe hs hs2 hst hbase hline hdx hdq hcq,
    sim_for X (si_strA he.si) (jg_name (X := X) (pos := p0) hN hi hx hfx).si (sim_seq (sim_asg sim_repl (jg_name (X := X) (pos := py) hN hj hyl hfy).si) hb.si)⟩
end
end FT
end
section
set_option Elab.async false
set_option linter.all false
set_option maxRecDepth 100000
set_option maxHeartbeats 4000000
namespace FT
open PySem PySem.Spec PyProof.Rows L2
/-! ### mirrors: loops and comprehensions that leave the pen alone -/
theorem compL_pure {g : D → SD → Option SD} {mt : ME Bool} {me : ME D} {sd0 : SD} {w : List D} (p : D → Bool) (h : D → D) : ∀ ds : List D,
    (∀ d ∈ ds, ∃ sd1, g d sd0 = some sd1 ∧ mt sd1 w = .ok (p d) w ∧ (p d = true → me sd1 w = .ok (h d) w)) → compL g mt me sd0 ds w = some ((ds.filter p).map h, w)
  | [], _ => rfl
  | d :: ds, H => by
    obtain ⟨sd1, h1, h2, h3⟩ := H d List.mem_cons_self
    have ih := compL_pure p h ds fun x hx => H x (List.mem_cons_of_mem _ hx)
    cases e : p d with
    | true =>
      rw [e] at h2
      simp only [compL, h1, h2, h3 e, ih, List.filter_cons, e, if_true, List.map_cons]
    | false =>
      rw [e] at h2
      simp only [compL, h1, h2, ih, List.filter_cons, e, Bool.false_eq_true, if_false]
theorem compL_map {g : D → SD → Option SD} {me : ME D} {sd0 : SD} {w : List D} (h : D → D) (ds : List D)
    (H : ∀ d ∈ ds, ∃ sd1, g d sd0 = some sd1 ∧ me sd1 w = .ok (h d) w) : compL g mYes me sd0 ds w = some (ds.map h, w) := by
  have := compL_pure (g := g) (mt := mYes) (me := me) (sd0 := sd0) (w := w) (fun _ => true) h ds fun d hd => by
    obtain ⟨sd1, h1, h2⟩ := H d hd
    exact ⟨sd1, h1, rfl, fun _ => h2⟩
  rw [this, List.filter_eq_self.mpr fun _ _ => rfl]
theorem forL_fold {α : Type} {g : D → SD → Option SD} {body : MS} {w : List D} (S : α → SD) (step : α → D → α) : ∀ (ds : List D) (a : α),
    (∀ d ∈ ds, ∀ a, ∃ sd1, g d (S a) = some sd1 ∧ body sd1 w = .nx (S (step a d)) w) → forL g body ds (S a) w = .nx (S (ds.foldl step a)) w
  | [], a, _ => rfl
  | d :: ds, a, H => by
    obtain ⟨sd1, h1, h2⟩ := H d List.mem_cons_self a
    have ih := forL_fold S step ds (step a d) fun x hx => H x (List.mem_cons_of_mem _ hx)
    simp only [forL, h1, h2, ih, List.foldl_cons]
/-- a loop with a promise along the way: it may hand back at once -/
theorem forL_inv {g : D → SD → Option SD} {body : MS} (J : Nat → SD → List D → Prop) (Rt : D → List D → Prop) : ∀ (ds : List D) (i : Nat) (sd : SD) (w : List D), J i sd w →
    (∀ j d sd w, ds[j]? = some d → J (i + j) sd w → ∃ sd1, g d sd = some sd1 ∧ ((∃ sd2 w2, body sd1 w = .nx sd2 w2 ∧ J (i + j + 1) sd2 w2) ∨ ∃ r w2, body sd1 w = .ret r w2 ∧ Rt r w2)) →
    (∃ sd2 w2, forL g body ds sd w = .nx sd2 w2 ∧ J (i + ds.length) sd2 w2) ∨ ∃ r w2, forL g body ds sd w = .ret r w2 ∧ Rt r w2
  | [], i, sd, w, h, _ => .inl ⟨sd, w, rfl, h⟩
  | d :: ds, i, sd, w, h, H => by
    obtain ⟨sd1, h1, h2⟩ := H 0 d sd w rfl h
    rcases h2 with ⟨sd2, w2, h2, h3⟩ | ⟨r, w2, h2, h3⟩
    · have ih := forL_inv J Rt ds (i + 1) sd2 w2 h3 fun j d' sd' w' e hj => by
        have := H (j + 1) d' sd' w' (by simpa using e) (by rw [show i + (j + 1) = i + 1 + j by omega]; exact hj)
        rw [show i + (j + 1) + 1 = i + 1 + j + 1 by omega] at this
        exact this
      rcases ih with ⟨sd3, w3, h4, h5⟩ | ⟨r, w3, h4, h5⟩
      · exact .inl ⟨sd3, w3, by simp only [forL, h1, h2, h4], by rw [List.length_cons, show i + (ds.length + 1) = i + 1 + ds.length by omega]; exact h5⟩
      · exact .inr ⟨r, w3, by simp only [forL, h1, h2, h4], h5⟩
    · exact .inr ⟨r, w2, by simp only [forL, h1, h2], h3⟩
/-- a comprehension with the pen used along the way -/
theorem compL_inv {g : D → SD → Option SD} {mt : ME Bool} {me : ME D} {sd0 : SD} (J : Nat → List D → Prop) (Pd : D → Prop) : ∀ (ds : List D) (i : Nat) (w : List D), J i w →
    (∀ j d w, ds[j]? = some d → J (i + j) w → ∃ sd1, g d sd0 = some sd1 ∧ mt sd1 w = .ok true w ∧ ∃ y w2, me sd1 w = .ok y w2 ∧ Pd y ∧ J (i + j + 1) w2) →
    ∃ ys w2, compL g mt me sd0 ds w = some (ys, w2) ∧ ys.length = ds.length ∧ (∀ y ∈ ys, Pd y) ∧ J (i + ds.length) w2
  | [], i, w, h, _ => ⟨[], w, rfl, rfl, fun _ h => absurd h (by simp), h⟩
  | d :: ds, i, w, h, H => by
    obtain ⟨sd1, h1, h2, y, w2, h3, h4, h5⟩ := H 0 d w rfl h
    obtain ⟨ys, w3, e1, e2, e3, e4⟩ := compL_inv J Pd ds (i + 1) w2 h5 fun j d' w' e hj => by
      have := H (j + 1) d' w' (by simpa using e) (by rw [show i + (j + 1) = i + 1 + j by omega]; exact hj)
      rw [show i + (j + 1) + 1 = i + 1 + j + 1 by omega] at this
      exact this
    refine ⟨y :: ys, w3, by simp only [compL, h1, h2, h3, e1], by simp [e2], fun z hz => ?_, by rw [List.length_cons, show i + (ds.length + 1) = i + 1 + ds.length by omega]; exact e4⟩
    rcases List.mem_cons.mp hz with rfl | hz
    · exact h4
    · exact e3 z hz
@[simp] theorem s_mV (i : Nat) (sd : SD) (w : List D) : mV i sd w = (match sd[i]? with
  | some (SV.val d) => .ok d w
  | _ => .bad) := (rfl)
@[simp] theorem s_mVB (i : Nat) (sd : SD) (w : List D) : mVB i sd w = (match sd[i]? with
  | some (SV.val d) => .ok d w
  | some (SV.own ds) => .ok (.lst ds) w
  | _ => .bad) := (rfl)
@[simp] theorem s_mC (d : D) (sd : SD) (w : List D) : mC d sd w = (.ok d w) := (rfl)
@[simp] theorem s_mBin (f : D → D → Option D) (ma mb : ME D) (sd : SD) (w : List D) : mBin f ma mb sd w = ((ma sd w).bind fun a w1 => (mb sd w1).bind fun b w2 => match f a b with
  | some d => .ok d w2
  | none => .bad) := (rfl)
@[simp] theorem s_mUn (f : D → Option D) (m : ME D) (sd : SD) (w : List D) : mUn f m sd w = ((m sd w).bind fun a w1 => match f a with
  | some d => .ok d w1
  | none => .bad) := (rfl)
@[simp] theorem s_mTst (m : ME D) (sd : SD) (w : List D) : mTst m sd w = ((m sd w).bind fun d w1 => match d with
  | .bl k => .ok k w1
  | _ => .bad) := (rfl)
@[simp] theorem s_mTru (m : ME D) (sd : SD) (w : List D) : mTru m sd w = ((m sd w).bind fun d w1 => match truthD d with
  | some b => .ok b w1
  | none => .bad) := (rfl)
@[simp] theorem s_mNotT (m : ME Bool) (sd : SD) (w : List D) : mNotT m sd w = ((m sd w).bind fun b w1 => .ok (!b) w1) := (rfl)
@[simp] theorem s_mAnd (m1 m2 : ME Bool) (sd : SD) (w : List D) : mAnd m1 m2 sd w = ((m1 sd w).bind fun b w1 => if b = true then m2 sd w1 else .ok false w1) := (rfl)
@[simp] theorem s_mOr (m1 m2 : ME Bool) (sd : SD) (w : List D) : mOr m1 m2 sd w = ((m1 sd w).bind fun b w1 => if b = true then .ok true w1 else m2 sd w1) := (rfl)
@[simp] theorem s_mAndV (m1 m2 : ME D) (sd : SD) (w : List D) : mAndV m1 m2 sd w = ((m1 sd w).bind fun d w1 => match d with
  | .bl true => m2 sd w1
  | .bl false => .ok (.bl false) w1
  | _ => .bad) := (rfl)
@[simp] theorem s_mOrV (m1 m2 : ME D) (sd : SD) (w : List D) : mOrV m1 m2 sd w = ((m1 sd w).bind fun d w1 => match d with
  | .bl true => .ok (.bl true) w1
  | .bl false => m2 sd w1
  | _ => .bad) := (rfl)
@[simp] theorem s_mNotV (m1 : ME D) (sd : SD) (w : List D) : mNotV m1 sd w = ((m1 sd w).bind fun d w1 => match d with
  | .bl c => .ok (.bl !c) w1
  | _ => .bad) := (rfl)
@[simp] theorem s_mIfE (mt : ME Bool) (m1 m2 : ME D) (sd : SD) (w : List D) : mIfE mt m1 m2 sd w = ((mt sd w).bind fun b w1 => if b = true then m1 sd w1 else m2 sd w1) := (rfl)
@[simp] theorem s_mChain (f g : D → D → Option D) (ma mb mc : ME D) (sd : SD) (w : List D) : mChain f g ma mb mc sd w = ((ma sd w).bind fun a w1 => (mb sd w1).bind fun b w2 => match f a b with
  | some (.bl true) => (mc sd w2).bind fun c w3 => match g b c with
    | some d => .ok d w3
    | none => .bad
  | some (.bl false) => .ok (.bl false) w2
  | _ => .bad) := (rfl)
@[simp] theorem s_mIsi (Ts : List String) (m : ME D) (sd : SD) (w : List D) : mIsi Ts m sd w = ((m sd w).bind fun d w1 => match tyN d with
  | some t => .ok (.bl (Ts.any fun T => isiB t T)) w1
  | none => .bad) := (rfl)
@[simp] theorem s_mCall (f : List D → List D → R D) (m : ME (List D)) (sd : SD) (w : List D) : mCall f m sd w = ((m sd w).bind fun ds w1 => f ds w1) := (rfl)
@[simp] theorem s_mCB (f : List D → List D → Option D) (m : ME (List D)) (sd : SD) (w : List D) : mCB f m sd w = ((m sd w).bind fun ds w1 => match f w1 ds with
  | some d => .ok d w1
  | none => .bad) := (rfl)
@[simp] theorem s_mMt (f : List Nat → List D → Option D) (mo : ME D) (m : ME (List D)) (sd : SD) (w : List D) : mMt f mo m sd w = ((mo sd w).bind fun o w1 => match o with
  | .str s => (m sd w1).bind fun ds w2 => (match f s ds with
    | some d => .ok d w2
    | none => .bad)
  | _ => .bad) := (rfl)
@[simp] theorem s_mNil  (sd : SD) (w : List D) : mNil  sd w = (.ok [] w) := (rfl)
@[simp] theorem s_mCons (m : ME D) (r : ME (List D)) (sd : SD) (w : List D) : mCons m r sd w = ((m sd w).bind fun d w1 => (r sd w1).bind fun ds w2 => .ok (d :: ds) w2) := (rfl)
@[simp] theorem s_mTup (m : ME (List D)) (sd : SD) (w : List D) : mTup m sd w = ((m sd w).bind fun ds w1 => if ds.length ≤ 1000 then .ok (.tup ds) w1 else .bad) := (rfl)
@[simp] theorem s_mLst (m : ME (List D)) (sd : SD) (w : List D) : mLst m sd w = ((m sd w).bind fun ds w1 => if ds.length ≤ 1000 then .ok (.lst ds) w1 else .bad) := (rfl)
@[simp] theorem s_mLstF (m : ME (List D)) (sd : SD) (w : List D) : mLstF m sd w = ((m sd w).bind fun ds w1 => if ds.length ≤ 1000 then .ok ds w1 else .bad) := (rfl)
@[simp] theorem s_mF (m : ME (List D)) (sd : SD) (w : List D) : mF m sd w = ((m sd w).bind fun ds w1 => .ok (.lst ds) w1) := (rfl)
@[simp] theorem s_mIx (ma mb : ME D) (sd : SD) (w : List D) : mIx ma mb sd w = ((ma sd w).bind fun a w1 => (mb sd w1).bind fun b w2 => match oIx w2 a b with
  | some d => .ok d w2
  | none => .bad) := (rfl)
@[simp] theorem s_mSl (ma : ME D) (ml mu : ME (Option Int)) (sd : SD) (w : List D) : mSl ma ml mu sd w = ((ma sd w).bind fun a w1 => (ml sd w1).bind fun l w2 => (mu sd w2).bind fun u w3 => match oSl a l u with
  | some d => .ok d w3
  | none => .bad) := (rfl)
@[simp] theorem s_mSeq (m1 m2 : MS) (sd : SD) (w : List D) : mSeq m1 m2 sd w = (match m1 sd w with
  | .nx sd' w' => m2 sd' w'
  | r => r) := (rfl)
@[simp] theorem s_mIf (mt : ME Bool) (m1 m2 : MS) (sd : SD) (w : List D) : mIf mt m1 m2 sd w = (eb (mt sd w) sd fun b w1 => if b = true then m1 sd w1 else m2 sd w1) := (rfl)
@[simp] theorem s_mRet (m : ME D) (sd : SD) (w : List D) : mRet m sd w = (eb (m sd w) sd fun d w1 => .ret d w1) := (rfl)
@[simp] theorem s_mRetN  (sd : SD) (w : List D) : mRetN  sd w = (.ret .non w) := (rfl)
@[simp] theorem s_mSkip  (sd : SD) (w : List D) : mSkip  sd w = (.nx sd w) := (rfl)
@[simp] theorem s_mBrk  (sd : SD) (w : List D) : mBrk  sd w = (.brk sd w) := (rfl)
@[simp] theorem s_mCnt  (sd : SD) (w : List D) : mCnt  sd w = (.cnt sd w) := (rfl)
@[simp] theorem s_mAsg (g : D → SD → Option SD) (m : ME D) (sd : SD) (w : List D) : mAsg g m sd w = (eb (m sd w) sd fun d w1 => match g d sd with
  | some sd' => .nx sd' w1
  | none => .bad) := (rfl)
@[simp] theorem s_mPar (i j : Nat) (m : ME (List D)) (sd : SD) (w : List D) : mPar i j m sd w = (eb (m sd w) sd fun ds w1 => match ds with
  | [d, e] => .nx ((sd.set i (.val d)).set j (.val e)) w1
  | _ => .bad) := (rfl)
@[simp] theorem s_mPar3 (i j l : Nat) (m : ME (List D)) (sd : SD) (w : List D) : mPar3 i j l m sd w = (eb (m sd w) sd fun ds w1 => match ds with
  | [d, e, f] => .nx (((sd.set i (.val d)).set j (.val e)).set l (.val f)) w1
  | _ => .bad) := (rfl)
@[simp] theorem s_mParFE (i j : Nat) (ma : ME (List D)) (mb : ME D) (sd : SD) (w : List D) : mParFE i j ma mb sd w = (eb (ma sd w) sd fun ds w1 => eb (mb sd w1) sd fun d w2 => .nx ((sd.set i (.own ds)).set j (.val d)) w2) := (rfl)
@[simp] theorem s_mSetO (i : Nat) (m : ME (List D)) (sd : SD) (w : List D) : mSetO i m sd w = (eb (m sd w) sd fun ds w1 => .nx (sd.set i (.own ds)) w1) := (rfl)
@[simp] theorem s_mApp (i : Nat) (m : ME D) (sd : SD) (w : List D) : mApp i m sd w = (match sd[i]? with
  | some (.own ds) => eb (m sd w) sd fun d w1 => if ds.length < 16777216 then .nx (sd.set i (.own (ds ++ [d]))) w1 else .bad
  | _ => .bad) := (rfl)
@[simp] theorem s_mExt (i : Nat) (m : ME D) (sd : SD) (w : List D) : mExt i m sd w = (match sd[i]? with
  | some (.own ds) => eb (m sd w) sd fun d w1 => (match d with
    | .lst es => if ds.length + es.length ≤ 16777216 then .nx (sd.set i (.own (ds ++ es))) w1 else .bad
    | _ => .bad)
  | _ => .bad) := (rfl)
@[simp] theorem s_mSetI (i : Nat) (mi m : ME D) (sd : SD) (w : List D) : mSetI i mi m sd w = (match sd[i]? with
  | some (.val .pen) => eb (m sd w) sd fun d w1 => eb (mi sd w1) sd fun k w2 => (match k with
    | .int k => (match ixN w2.length k with
      | some j => if flat d = true then .nx sd (w2.set j d) else .bad
      | none => .bad)
    | _ => .bad)
  | some (.own ds) => eb (m sd w) sd fun d w1 => eb (mi sd w1) sd fun k w2 => (match k with
    | .int k => (match ixN ds.length k with
      | some j => .nx (sd.set i (.own (ds.set j d))) w2
      | none => .bad)
    | _ => .bad)
  | _ => .bad) := (rfl)
@[simp] theorem s_mDrop (m : ME D) (sd : SD) (w : List D) : mDrop m sd w = (eb (m sd w) sd fun _ w1 => .nx sd w1) := (rfl)
@[simp] theorem s_mFr (i : Nat) (m : MS) (sd : SD) (w : List D) : mFr i m sd w = (match sd[i]? with
  | some (.own ds) => m (sd.set i (.val (.lst ds))) w
  | _ => .bad) := (rfl)
@[simp] theorem s_mYes  (sd : SD) (w : List D) : mYes  sd w = (.ok true w) := (rfl)
@[simp] theorem s_mListX (m : ME D) (sd : SD) (w : List D) : mListX m sd w = ((m sd w).bind fun d w1 => match items d with
  | some ds => .ok ds w1
  | none => .bad) := (rfl)
@[simp] theorem s_mSeqI (m : ME D) (sd : SD) (w : List D) : mSeqI m sd w = ((m sd w).bind fun d w1 => match items d with
  | some ds => .ok ds w1
  | none => .bad) := (rfl)
@[simp] theorem s_mZipX (m : ME (List D)) (sd : SD) (w : List D) : mZipX m sd w = ((m sd w).bind fun ds w1 => match fZipX ds with
  | some xs => .ok xs w1
  | none => .bad) := (rfl)
@[simp] theorem s_mEnum (m : ME D) (sd : SD) (w : List D) : mEnum m sd w = ((m sd w).bind fun d w1 => match d with
  | .lst ds => .ok (enumD 0 ds) w1
  | _ => .bad) := (rfl)
@[simp] theorem s_mRng1 (m : ME D) (sd : SD) (w : List D) : mRng1 m sd w = ((m sd w).bind fun d w1 => match d with
  | .int j => if -4611686018427387904 ≤ j ∧ j < 4611686018427387904 then .ok (rngD 0 j) w1 else .bad
  | _ => .bad) := (rfl)
@[simp] theorem s_mRng2 (m m2 : ME D) (sd : SD) (w : List D) : mRng2 m m2 sd w = ((m sd w).bind fun d w1 => (m2 sd w1).bind fun d2 w2 => match fRng2 d d2 with
  | some ds => .ok ds w2
  | none => .bad) := (rfl)
@[simp] theorem s_mComp (mi : ME (List D)) (g : D → SD → Option SD) (mt : ME Bool) (me : ME D) (vs : List Nat) (sd : SD) (w : List D) : mComp mi g mt me vs sd w = ((mi sd w).bind fun ds w1 => if ds.length ≤ 16777216 then (match compL g mt me (wipeD sd vs) ds w1 with
  | some (ys, w2) => .ok ys w2
  | none => .bad) else .bad) := (rfl)
@[simp] theorem s_mComp2 (mi : ME (List D)) (g : D → SD → Option SD) (mt : ME Bool) (mi1 : ME (List D)) (g1 : D → SD → Option SD) (mt1 : ME Bool) (me : ME D) (vs vs1 : List Nat) (sd : SD) (w : List D) : mComp2 mi g mt mi1 g1 mt1 me vs vs1 sd w = ((mi sd w).bind fun ds w1 => (match comp2L g mt mi1 g1 mt1 me vs1 (wipeD sd vs) ds w1 with
  | some (ys, w2) => if ys.length ≤ 1000000 then .ok ys w2 else .bad
  | none => .bad)) := (rfl)
@[simp] theorem s_mFor (g : D → SD → Option SD) (mi : ME (List D)) (body : MS) (sd : SD) (w : List D) : mFor g mi body sd w = (eb (mi sd w) sd fun ds w1 => forL g body ds sd w1) := (rfl)
@[simp] theorem s_mSortF (m : ME D) (sd : SD) (w : List D) : mSortF m sd w = ((m sd w).bind fun d w1 => match (match d with
  | .lst ds => fSort ds
  | _ => none) with
  | some es => .ok es w1
  | none => .bad) := (rfl)
@[simp] theorem s_mCallK (n m : Nat) (idx : List Nat) (f : List D → List D → R D) (ma mk : ME (List D)) (sd : SD) (w : List D) : mCallK n m idx f ma mk sd w = ((ma sd w).bind fun ds w1 => (mk sd w1).bind fun es w2 => if ds.length = n ∧ es.length = m then f (pick idx (ds ++ es)) w2 else .bad) := (rfl)
@[simp] theorem s_mHeard (nC : Nat) (xm : Nat → Nat → Bool) (hs : Hds) (m : ME D) (sd : SD) (w : List D) : mHeard nC xm hs m sd w = (match m sd w with
  | .ok _ w' => .ok .non w'
  | .exc c ns ds w' => if c < nC then (match hdsD xm c ns ds hs with
    | some d => .ok d w'
    | none => .bad) else .bad
  | .bad => .bad) := (rfl)
@[simp] theorem s_mRaise1 (n : Nat) (f : Str) (m : ME (List D)) (sd : SD) (w : List D) : mRaise1 n f m sd w = (eb (m sd w) sd fun ds w1 => match ds with
  | [d] => .exc sd n [f] [d] w1
  | _ => .bad) := (rfl)
@[simp] theorem s_mRaise2 (n : Nat) (f g : Str) (m : ME (List D)) (sd : SD) (w : List D) : mRaise2 n f g m sd w = (eb (m sd w) sd fun ds w1 => match ds with
  | [d, e] => .exc sd n [g, f] [e, d] w1
  | _ => .bad) := (rfl)
@[simp] theorem s_mNoP  (sd : SD) (w : List D) : mNoP  sd w = (.ok none w) := (rfl)
@[simp] theorem s_mPart (m : ME D) (sd : SD) (w : List D) : mPart m sd w = ((m sd w).bind fun d w1 => match d with
  | .int i => .ok (some i) w1
  | _ => .bad) := (rfl)
@[simp] theorem s_bind_ok {α β : Type} (a : α) (w : List D) (k : α → List D → R β) : R.bind (.ok a w) k = k a w := (rfl)
@[simp] theorem s_bind_exc {α β : Type} (c : Nat) (ns : List Str) (ds w : List D) (k : α → List D → R β) : R.bind (.exc c ns ds w) k = .exc c ns ds w := (rfl)
@[simp] theorem s_bind_bad {α β : Type} (k : α → List D → R β) : R.bind .bad k = .bad := (rfl)
@[simp] theorem s_eb_ok {α : Type} (a : α) (w : List D) (sd : SD) (k : α → List D → Out) : eb (.ok a w) sd k = k a w := (rfl)
@[simp] theorem s_eb_exc {α : Type} (c : Nat) (ns : List Str) (ds w : List D) (sd : SD) (k : α → List D → Out) : eb (.exc c ns ds w) sd k = .exc sd c ns ds w := (rfl)
@[simp] theorem s_eb_bad {α : Type} (sd : SD) (k : α → List D → Out) : eb .bad sd k = .bad := (rfl)
@[simp] theorem s_nArg (n : Nat) (f : List D → List D → R D) (ds w : List D) : nArg n f ds w = if ds.length = n then f ds w else .bad := (rfl)
@[simp] theorem s_gN (i : Nat) (d : D) (sd : SD) : gN i d sd = some (sd.set i (.val d)) := (rfl)
@[simp] theorem s_gsNil (sd : SD) : gsNil [] sd = some sd := (rfl)
@[simp] theorem s_gsCons (g : D → SD → Option SD) (r : List D → SD → Option SD) (d : D) (ds : List D) (sd : SD) : gsCons g r (d :: ds) sd = (g d sd).bind fun sd' => r ds sd' := (rfl)
@[simp] theorem s_gTu (n : Nat) (g : List D → SD → Option SD) (ds : List D) (sd : SD) : gTu n g (.tup ds) sd = if ds.length = n then g ds sd else none := (rfl)
@[simp] theorem s_wipe0 (sd : SD) : wipeD sd [] = sd := (rfl)
@[simp] theorem s_wipe1 (sd : SD) (v : Nat) (vs : List Nat) : wipeD sd (v :: vs) = (wipeD sd vs).set v .no := (rfl)
@[simp] theorem s_pick0 {α : Type} (xs : List α) : pick [] xs = [] := (rfl)
@[simp] theorem s_outR_nx (sd : SD) (w : List D) : outR (.nx sd w) = .ok .non w := (rfl)
@[simp] theorem s_outR_ret (d : D) (w : List D) : outR (.ret d w) = .ok d w := (rfl)
@[simp] theorem s_outR_exc (sd : SD) (c : Nat) (ns : List Str) (ds w : List D) : outR (.exc sd c ns ds w) = .exc c ns ds w := (rfl)
theorem s_runB (n : Nat) (m : MS) (ds w : List D) : runB n m ds w = outR (m (sd0 n ds) w) := rfl
end FT
end
section
set_option Elab.async false
set_option linter.all false
set_option maxRecDepth 100000
set_option maxHeartbeats 4000000
namespace FT
open PySem PySem.Spec PyProof.Rows L2
abbrev LET : List Nat := [97, 98, 99, 100, 101, 102, 103, 104, 105, 106, 107, 108, 109, 110, 111, 112, 113, 114, 115, 116, 117, 118, 119, 120, 121, 122]
theorem let_at : ∀ j < 26, LET[j]? = some (97 + j) := by decide
theorem dInts_str {ns : List (List Nat)} (h : ns ≠ []) : dInts (ns.map D.str) = none := by
  cases ns with
  | nil => exact absurd rfl h
  | cons a r => rfl
theorem dStrs_map : ∀ ns : List (List Nat), dStrs (ns.map D.str) = some ns
  | [] => rfl
  | a :: r => by
    have := dStrs_map r
    simp only [List.map_cons, dStrs, this, Option.map_some]
theorem joinD_nil : ∀ xs : List (List Nat), joinD [] xs = xs.flatten
  | [] => rfl
  | [x] => by simp [joinD]
  | x :: y :: r => by simp [joinD, joinD_nil (y :: r)]
theorem singles {ns : List (List Nat)} (h : ∀ x ∈ ns, ∃ c, x = [c]) : ∃ cs : List Nat, ns = cs.map fun c => [c] := by
  induction ns with
  | nil => exact ⟨[], rfl⟩
  | cons a r ih =>
    obtain ⟨c, rfl⟩ := h a List.mem_cons_self
    obtain ⟨cs, rfl⟩ := ih fun x hx => h x (List.mem_cons_of_mem _ hx)
    exact ⟨c :: cs, rfl⟩
theorem flat_single : ∀ cs : List Nat, (cs.map fun c => [c]).flatten = cs
  | [] => rfl
  | c :: cs => by simp [flat_single cs]
theorem sum_single : ∀ cs : List Nat, ((cs.map fun c => [c]).map List.length).sum = cs.length
  | [] => rfl
  | c :: cs => by
    have := sum_single cs
    simp only [List.map_cons, List.sum_cons, List.length_cons, this, List.length_nil]
    omega
/-- the letters, sorted -/
theorem sorted_of {cs : List Nat} (hn : cs.Nodup) (hne : cs ≠ []) : ∃ st : List Nat, st.Perm cs ∧ st.Pairwise (· < ·) ∧ fSort ((cs.map fun c => [c]).map D.str) = some ((st.map fun c => [c]).map D.str) := by
  have hp := List.mergeSort_perm cs (fun a b : Nat => decide (a ≤ b))
  have hs : (cs.mergeSort (fun a b : Nat => decide (a ≤ b))).Pairwise (· ≤ ·) := by
    have := List.pairwise_mergeSort (le := fun a b : Nat => decide (a ≤ b)) (fun a b c h1 h2 => decide_eq_true (Nat.le_trans (of_decide_eq_true h1) (of_decide_eq_true h2))) (fun a b => by
      rcases Nat.le_total a b with h | h
      · simp [h]
      · simp [h]) cs
    exact this.imp fun h => of_decide_eq_true h
  generalize cs.mergeSort (fun a b : Nat => decide (a ≤ b)) = st at hp hs
  have hn' : st.Nodup := hp.nodup_iff.mpr hn
  have hlt : st.Pairwise (· < ·) := (hs.and hn').imp fun h => Nat.lt_of_le_of_ne h.1 h.2
  refine ⟨st, hp, hlt, ?_⟩
  have e := sortS_of (ns := cs.map fun c => [c]) (ms := st.map fun c => [c]) (hp.map _) (List.pairwise_map.mpr (hlt.imp fun {a b} h => List.not_lt.mp fun q => by
    cases q with
    | rel h2 => omega
    | cons h2 => cases h2))
  unfold fSort
  rw [dInts_str (by simpa using hne), dStrs_map]
  show some ((sortS _).map D.str) = _
  rw [← e]
theorem mul_small (a b : Int) (h1 : -100000000000 < a) (h2 : a < 100000000000) : oMul (.int a) (.int b) = some (.int (a * b)) := by
  have g1 : -18446744073709551616 < a := by omega
  have g2 : a < 18446744073709551616 := by omega
  simp [oMul, g1, g2]
theorem mul_small2 (a b : Int) (h1 : -100000000000 < b) (h2 : b < 100000000000) : oMul (.int a) (.int b) = some (.int (a * b)) := by
  have g1 : -18446744073709551616 < b := by omega
  have g2 : b < 18446744073709551616 := by omega
  simp [oMul, g1, g2]
theorem bools_map : ∀ bs : List Bool, bools (bs.map D.bl) = some bs
  | [] => rfl
  | b :: bs => by
    have := bools_map bs
    simp only [List.map_cons, bools, this, Option.map_some]
/-- all([c in t for c in s]) -/
theorem comp_in {i : Nat} {t : ME D} {sdv : SD} {w : List D} (tt : List Nat) (s : List Nat) (hi : i < sdv.length) (ht : ∀ d, t (sdv.set i (.val d)) w = .ok (.str tt) w) :
    compL (gN i) mYes (mBin (oIn false) (mVB i) t) sdv (s.map fun c => D.str [c]) w = some ((s.map fun c => decide (c ∈ tt)).map D.bl, w) := by
  rw [compL_map (fun d => match d with | .str [c] => .bl (decide (c ∈ tt)) | _ => .non) _ fun d hd => ?_]
  · simp [List.map_map, Function.comp_def]
  · obtain ⟨c, _, rfl⟩ := List.mem_map.mp hd
    refine ⟨_, rfl, ?_⟩
    simp [hi, ht, oIn]
theorem all_map_id {α : Type} (f : α → Bool) : ∀ l : List α, (l.map f).all id = l.all f
  | [] => rfl
  | a :: l => by simp [all_map_id f l]
theorem snoc_ind {P : List Nat → Prop} (nil : P []) (append_singleton : ∀ s c, P s → P (s ++ [c])) (s : List Nat) : P s := by
  rw [← List.reverse_reverse s]
  generalize s.reverse = r
  induction r with
  | nil => exact nil
  | cons a r ih => rw [List.reverse_cons]; exact append_singleton _ _ ih
@[simp] theorem s_outR_bad : outR .bad = .bad := (rfl)
theorem oEq_ss (neg : Bool) (x y : List Nat) : oEq neg (.str x) (.str y) = some (.bl (if neg then !(x == y) else x == y)) := (rfl)
theorem oEq_ii (neg : Bool) (x y : Int) : oEq neg (.int x) (.int y) = some (.bl (if neg then !(x == y) else x == y)) := (rfl)
theorem oEq_ns (neg : Bool) (x : List Nat) : oEq neg .non (.str x) = some (.bl (if neg then true else false)) := by cases neg <;> exact (rfl)
theorem oEq_sn (neg : Bool) (x : List Nat) : oEq neg (.str x) .non = some (.bl (if neg then true else false)) := by cases neg <;> exact (rfl)
theorem oEq_nn (neg : Bool) : oEq neg .non .non = some (.bl (if neg then false else true)) := by cases neg <;> exact (rfl)
theorem wh_step {mt : ME Bool} {body : MS} {n : Nat} {sd sd2 : SD} {w : List D} (h1 : mt sd w = .ok true w) (h2 : body sd w = .nx sd2 w) : whileL mt body (n + 1) sd w = whileL mt body n sd2 w := by
  simp only [whileL, h1, s_eb_ok, if_true, h2]
theorem wh_end {mt : ME Bool} {body : MS} {n : Nat} {sd : SD} {w : List D} (h1 : mt sd w = .ok false w) : whileL mt body (n + 1) sd w = .nx sd w := by
  simp only [whileL, h1, s_eb_ok, Bool.false_eq_true, if_false]
theorem at_nat (st : List Nat) (i c : Nat) (h : st[i]? = some c) : atI st ((i : Nat) : Int) = some c := by
  obtain ⟨hi, _⟩ := List.getElem?_eq_some_iff.mp h
  unfold atI ixN
  rw [if_pos (by omega), if_pos (by omega)]
  exact h
theorem forL_run {g : D → SD → Option SD} {body : MS} {w : List D} (J : Nat → SD → Prop) : ∀ (ds : List D) (i : Nat) (sd : SD), J i sd →
    (∀ j d sd, ds[j]? = some d → J (i + j) sd → ∃ sd1 sd2, g d sd = some sd1 ∧ body sd1 w = .nx sd2 w ∧ J (i + j + 1) sd2) → ∃ sd2, forL g body ds sd w = .nx sd2 w ∧ J (i + ds.length) sd2
  | [], i, sd, h, _ => ⟨sd, rfl, h⟩
  | d :: ds, i, sd, h, H => by
    obtain ⟨sd1, sd2, h1, h2, h3⟩ := H 0 d sd rfl h
    obtain ⟨sd3, h4, h5⟩ := forL_run J ds (i + 1) sd2 h3 fun j d' sd' e hj => by
      have := H (j + 1) d' sd' (by simpa using e) (by rw [show i + (j + 1) = i + 1 + j by omega]; exact hj)
      rw [show i + (j + 1) + 1 = i + 1 + j + 1 by omega] at this
      exact this
    exact ⟨sd3, by simp only [forL, h1, h2, h4], by rw [List.length_cons, show i + (ds.length + 1) = i + 1 + ds.length by omega]; exact h5⟩
theorem rng_len (m : Nat) : (rngD 0 (m : Int)).length = m := by unfold rngD; simp
theorem set_mid {α : Type} (z y : α) : ∀ (xs ys : List α), (xs ++ y :: ys).set xs.length z = xs ++ z :: ys
  | [], _ => rfl
  | x :: xs, ys => by simp [set_mid z y xs ys]
theorem get_mid {α : Type} (y : α) : ∀ (xs ys : List α), (xs ++ y :: ys)[xs.length]? = some y
  | [], _ => rfl
  | x :: xs, ys => by simp
abbrev S1 (s : List Nat) : List D := s.map fun c => D.str [c]
theorem atI_nat {α : Type} (xs : List α) (i : Nat) (x : α) (h : xs[i]? = some x) : atI xs ((i : Nat) : Int) = some x := by
  obtain ⟨hi, _⟩ := List.getElem?_eq_some_iff.mp h
  unfold atI ixN
  rw [if_pos (by omega), if_pos (by omega)]
  exact h
theorem ixN_nat {n i : Nat} (h : i < n) : ixN n ((i : Nat) : Int) = some i := by
  unfold ixN
  rw [if_pos (by omega), if_pos (by omega)]; rfl
theorem join1 (s : List Nat) (hs : s.length ≤ 16777216) : fJoin [] [.lst (S1 s)] = some (.str s) := by
  have h0 : S1 s = (s.map fun c => [c]).map D.str := by simp [S1, Function.comp_def]
  have hj : dStrs ((s.map fun c => [c]).map D.str) = some (s.map fun c => [c]) := dStrs_map _
  have hsum' : ((s.map fun c => [c]).map List.length).sum + (s.map fun c => [c]).length * ([] : List Nat).length ≤ 16777216 := by
    rw [sum_single]; simp; omega
  rw [h0]
  unfold fJoin
  simp only [hj]
  rw [if_pos hsum', joinD_nil, flat_single]
theorem pick01 {α : Type} (a b : α) : pick [0, 1] [a, b] = [a, b] := (rfl)
theorem eqL_strs : ∀ ws : List (List Nat), eqL (ws.map D.str) (ws.map D.str) = true
  | [] => (rfl)
  | x :: ws => by
    show (eqD (.str x) (.str x) && eqL (ws.map D.str) (ws.map D.str)) = true
    rw [eqL_strs ws, Bool.and_true]
    show (x == x) = true
    simp
theorem dep_strs (ws : List (List Nat)) : dep 8 (.lst (ws.map D.str)) = true := by
  show (ws.map D.str).all (dep 7) = true
  rw [List.all_eq_true]
  intro d hd
  obtain ⟨x, _, rfl⟩ := List.mem_map.mp hd
  rfl
theorem oEq_strs (neg : Bool) (ws : List (List Nat)) : oEq neg (.lst (ws.map D.str)) (.lst (ws.map D.str)) = some (.bl (if neg then false else true)) := by
  unfold oEq
  rw [dep_strs ws]
  have : eqD (.lst (ws.map D.str)) (.lst (ws.map D.str)) = true := eqL_strs ws
  rw [this]
  cases neg <;> rfl
theorem oEq_e (neg : Bool) : oEq neg (.lst []) (.lst []) = some (.bl (if neg then false else true)) := by cases neg <;> exact (rfl)
theorem fList_tup (ds : List D) : items (.tup ds) = some ds := (rfl)
theorem fewer : ∀ {l st : List Nat}, l.Nodup → (∀ x ∈ l, x ∈ st) → l.length ≤ st.length
  | [], _, _, _ => by simp
  | a :: l, st, hn, h => by
    obtain ⟨h1, h2⟩ := List.nodup_cons.mp hn
    have := fewer (l := l) (st := st.erase a) h2 fun x hx => (List.mem_erase_of_ne (fun e : x = a => h1 (by rw [← e]; exact hx))).mpr (h x (List.mem_cons_of_mem _ hx))
    have hm := h a List.mem_cons_self
    rw [List.length_erase_of_mem hm] at this
    have := List.length_pos_of_mem hm
    rw [List.length_cons]; omega
theorem singles2 {st : List Nat} : ∀ {ys : List D}, (∀ y ∈ ys, ∃ c ∈ st, y = .str [c]) → ∃ s : List Nat, ys = S1 s ∧ ∀ c ∈ s, c ∈ st
  | [], _ => ⟨[], rfl, by simp⟩
  | y :: ys, h => by
    obtain ⟨c, hc, rfl⟩ := h y List.mem_cons_self
    obtain ⟨s, rfl, hs⟩ := singles2 fun z hz => h z (List.mem_cons_of_mem _ hz)
    exact ⟨c :: s, rfl, fun x hx => by
      rcases List.mem_cons.mp hx with rfl | hx
      · exact hc
      · exact hs x hx⟩
theorem flat_repS (l : Nat) : ∀ k, (List.replicate k [l]).flatten = List.replicate k l
  | 0 => rfl
  | k + 1 => by rw [List.replicate_succ, List.flatten_cons, flat_repS l k]; rfl
theorem cut_take1 {α : Type} (s : List α) : FT.cutD s none (some 1) = s.take 1 := by
  show (s.drop 0).take (min 1 s.length - 0) = _
  rw [List.drop_zero]
  cases s with
  | nil => rfl
  | cons a r => rw [show min 1 (a :: r).length - 0 = 1 by simp]
theorem cut_drop1 {α : Type} (s : List α) : FT.cutD s (some 1) none = s.drop 1 := by
  show (s.drop (min 1 s.length)).take (s.length - min 1 s.length) = _
  rw [List.take_of_length_le (by rw [List.length_drop]; omega)]
  cases s with
  | nil => rfl
  | cons a r => rw [show min 1 (a :: r).length = 1 by simp]
theorem cut_init {α : Type} (s : List α) : FT.cutD s none (some (-1)) = s.take (s.length - 1) := by
  show (s.drop 0).take (((-1 : Int) + s.length).toNat - 0) = _
  rw [List.drop_zero, show ((-1 : Int) + s.length).toNat - 0 = s.length - 1 by omega]
theorem zip_S1 : ∀ (a b : List Nat), zipD (S1 a) (S1 b) = (a.zip b).map fun p => D.tup [.str [p.1], .str [p.2]]
  | [], _ => by simp [zipD, S1]
  | _ :: _, [] => by simp [zipD, S1]
  | x :: a, y :: b => by
    have := zip_S1 a b
    simp only [S1] at this
    simp [zipD, S1, this]
end FT
end
section
set_option Elab.async false
set_option linter.all false
set_option maxRecDepth 100000
set_option maxHeartbeats 4000000
namespace FT
open PySem PySem.Spec PyProof.Rows L2
@[simp] theorem s_mParEF (i j : Nat) (ma : ME D) (mb : ME (List D)) (sd : SD) (w : List D) : mParEF i j ma mb sd w = (eb (ma sd w) sd fun d w1 => eb (mb sd w1) sd fun ds w2 => .nx ((sd.set j (.own ds)).set i (.val d)) w2) := (rfl)
@[simp] theorem s_mDc (mi : ME (List D)) (g : D → SD → Option SD) (mt : ME Bool) (mk mv : ME D) (vs : List Nat) (sd : SD) (w : List D) : mDc mi g mt mk mv vs sd w = ((mi sd w).bind fun ds w1 => if ds.length ≤ 1000000 then (match dcompL g mt mk mv (wipeD sd vs) ds [] [] w1 with
  | some (r, w2) => .ok (.dct r.1 r.2) w2
  | none => .bad) else .bad) := (rfl)
@[simp] theorem s_mGet2 (mo mk md : ME D) (sd : SD) (w : List D) : mGet2 mo mk md sd w = ((mo sd w).bind fun o w1 => match o with
  | .dct ks ds => (mk sd w1).bind fun a w2 => (md sd w2).bind fun d w3 => (match keyD a with
    | some k => (match lookD k ks ds with
      | some e => .ok e w3
      | none => .ok d w3)
    | none => .bad)
  | _ => .bad) := (rfl)
@[simp] theorem s_mPNil (sd : SD) (w : List D) : mPNil sd w = .ok [] w := (rfl)
@[simp] theorem s_mPCons (mk mv : ME D) (r : ME (List (D × D))) (sd : SD) (w : List D) : mPCons mk mv r sd w = ((mk sd w).bind fun a w1 => (mv sd w1).bind fun d w2 => (r sd w2).bind fun ps w3 => .ok ((a, d) :: ps) w3) := (rfl)
@[simp] theorem s_mDisp (m : ME (List (D × D))) (sd : SD) (w : List D) : mDisp m sd w = ((m sd w).bind fun ps w1 => if ps.length ≤ 15 then (match dispD ps [] [] with
  | some r => .ok (.dct r.1 r.2) w1
  | none => .bad) else .bad) := (rfl)
@[simp] theorem s_mRev (m : ME D) (sd : SD) (w : List D) : mRev m sd w = ((m sd w).bind fun d w1 => match d with
  | .lst ds => .ok (.lst ds.reverse) w1
  | .frz ds => .ok (.lst ds.reverse) w1
  | .str s => .ok (.str s.reverse) w1
  | _ => .bad) := (rfl)
theorem meth_run {c n m : Nat} {mn : Str} {idx : List Nat} {dv : List D} {f : List D → List D → R D} {mo : ME D} {ma mk : ME (List D)} {sd : SD} {w w0 w1 w2 : List D} {ns : List Str} {ds0 ds es : List D}
    (h0 : mo sd w = .ok (.obj c ns ds0) w0) (hn : ns.contains mn = false) (h1 : ma sd w0 = .ok ds w1) (h2 : mk sd w1 = .ok es w2) (hl : ds.length = n) (hm : es.length = m) :
    mMethG c mn n m idx dv f mo ma mk sd w = f (.obj c ns ds0 :: pick idx (ds ++ es ++ dv)) w2 := by
  unfold mMethG
  rw [h0, s_bind_ok]
  simp only [hn, and_self, if_true, h1, h2, s_bind_ok, hl, hm]
theorem make_run {c n m : Nat} {idx : List Nat} {dv : List D} {f : Nat → List D → List D → R (List Str × List D)} {ma mk : ME (List D)} {sd : SD} {w w1 w2 w3 : List D} {ns : List Str} {vs ds es : List D}
    (h1 : ma sd w = .ok ds w1) (h2 : mk sd w1 = .ok es w2) (hl : ds.length = n) (hm : es.length = m) (hf : f c (pick idx (ds ++ es ++ dv)) w2 = .ok (ns, vs) w3) :
    mMakeG c n m idx dv f ma mk sd w = .ok (.obj c ns vs) w3 := by
  unfold mMakeG
  rw [h1, s_bind_ok, h2, s_bind_ok]
  simp only [hl, hm, and_self, if_true, hf]
  rfl
theorem joinS (ns : List (List Nat)) (h : (ns.map List.length).sum ≤ 16777216) : fJoin [] [.lst (ns.map D.str)] = some (.str ns.flatten) := by
  have hj : dStrs (ns.map D.str) = some ns := dStrs_map _
  unfold fJoin
  simp only [hj]
  rw [if_pos (by simpa using h), joinD_nil]
theorem lookD_put (k a : KD) : ∀ (ks : List KD) (ds : List D) (d : D), ks.length = ds.length → (lookD k (putKs a ks) (putDs a d ks ds)).isSome = (decide (a = k) || (lookD k ks ds).isSome)
  | ks, ds, d, hl => by
    have h1 : ∀ (ks : List KD) (ds : List D), ks.length = ds.length → (lookD k ks ds).isSome = ks.any (fun b => decide (b = k)) := by
      intro ks
      induction ks with
      | nil => intro ds _; rfl
      | cons b ks ih =>
        intro ds hl
        cases ds with
        | nil => cases hl
        | cons e ds =>
          simp only [lookD, List.any_cons]
          by_cases hb : b = k
          · simp [hb]
          · simp [hb, ih ds (by simpa using hl)]
    by_cases ha : ks.any (fun b => decide (b = a)) = true
    · have e1 : putKs a ks = ks := by unfold putKs; rw [if_pos ha]
      have e2 : (putDs a d ks ds).length = ks.length := by unfold putDs; rw [if_pos ha, List.length_zipWith]; omega
      rw [e1, h1 _ _ e2.symm, h1 _ _ hl]
      by_cases hk : a = k
      · subst hk; rw [ha]; simp
      · simp [hk]
    · have e1 : putKs a ks = ks ++ [a] := by unfold putKs; rw [if_neg ha]
      have e2 : putDs a d ks ds = ds ++ [d] := by unfold putDs; rw [if_neg ha]
      rw [e1, e2, h1 _ _ (by simp [hl]), h1 _ _ hl, List.any_append]
      simp [Bool.or_comm]
theorem put_len (a : KD) (d : D) (ks : List KD) (ds : List D) (hl : ks.length = ds.length) : (putKs a ks).length = (putDs a d ks ds).length := by
  by_cases ha : ks.any (fun b => decide (b = a)) = true
  · unfold putKs putDs; rw [if_pos ha, if_pos ha, List.length_zipWith]; omega
  · unfold putKs putDs; rw [if_neg ha, if_neg ha]; simp [hl]
/-- {x: v for x in xs} with whole numbers as keys -/
theorem dcomp_ints {g : D → SD → Option SD} {mk mv : ME D} {sd0 : SD} {w : List D} {v : D} : ∀ (is : List Nat) (ks : List KD) (ds : List D), ks.length = ds.length →
    (∀ i ∈ is, ∃ sd1, g (.int (i : Nat)) sd0 = some sd1 ∧ mk sd1 w = .ok (.int (i : Nat)) w ∧ mv sd1 w = .ok v w) →
    ∃ ks2 ds2, dcompL g mYes mk mv sd0 (is.map fun i => D.int (i : Nat)) ks ds w = some ((ks2, ds2), w) ∧ ks2.length = ds2.length ∧ ∀ k, (lookD k ks2 ds2).isSome = ((lookD k ks ds).isSome || is.any fun i => decide (Sum.inl (i : Int) = k))
  | [], ks, ds, hl, _ => ⟨ks, ds, rfl, hl, fun k => by simp⟩
  | i :: is, ks, ds, hl, H => by
    obtain ⟨sd1, h1, h2, h3⟩ := H i List.mem_cons_self
    obtain ⟨ks2, ds2, e1, e2, e3⟩ := dcomp_ints (v := v) is (putKs (.inl (i : Int)) ks) (putDs (.inl (i : Int)) v ks ds) (put_len _ _ _ _ hl) fun j hj => H j (List.mem_cons_of_mem _ hj)
    refine ⟨ks2, ds2, ?_, e2, fun k => ?_⟩
    · simp only [List.map_cons, dcompL, h1, s_mYes, h2, h3, keyD, e1]
    · rw [e3, lookD_put _ _ _ _ _ hl, List.any_cons]
      cases decide (Sum.inl (i : Int) = k) <;> cases (lookD k ks ds).isSome <;> rfl
end FT
end
section
set_option Elab.async false
set_option linter.all false
set_option maxRecDepth 100000
set_option maxHeartbeats 4000000
namespace K16
open PySem PySem.Spec PyProof.Rows L2 LamX FT
def topS (i : Nat) : Stmt := PySem.Challenge.pw_foretongue_k16_words_sent_back.main.body.getD i (.Pass ⟨0, 0, 0, 0⟩)
def clsBody (s : Stmt) : List Stmt := match s with
  | .ClassDef _ _ _ b _ _ _ _ _ _ _ => b
  | _ => []
def topC (i j : Nat) : Stmt := (clsBody (topS i)).getD j (.Pass ⟨0, 0, 0, 0⟩)
abbrev s__law_pen : Stmt := topS 62
abbrev s__law_draw : Stmt := topS 63
abbrev s__law_pick : Stmt := topS 64
abbrev s__law_side : Stmt := topS 65
abbrev s__law_world : Stmt := topS 66
abbrev s__law_word : Stmt := topS 70
abbrev s_sounds_in_shifts : Stmt := topS 34
abbrev s_Course_init : Stmt := topC 48 0
abbrev s_is_sound : Stmt := topS 8
abbrev s_is_new : Stmt := topS 30
abbrev s_is_side : Stmt := topS 29
abbrev s_Shift_init : Stmt := topC 40 0
abbrev s__law_made : Stmt := topS 69
abbrev s_need_course : Stmt := topS 44
abbrev s_is_stock : Stmt := topS 10
abbrev s_need_stock : Stmt := topS 25
abbrev s_is_word : Stmt := topS 9
abbrev s_need_word : Stmt := topS 24
abbrev s_need_standing : Stmt := topS 51
abbrev s_most_sounds : Stmt := topS 52
abbrev s_room_with : Stmt := topS 55
abbrev s_sounds_in_rooms : Stmt := topS 53
abbrev s_is_beside : Stmt := topS 31
abbrev s_places_in : Stmt := topS 32
abbrev s_done_by : Stmt := topS 33
abbrev s_steps_of : Stmt := topS 45
abbrev s_outcome_of : Stmt := topS 46
abbrev s_step_in : Stmt := topS 56
abbrev s_rest_in : Stmt := topS 57
abbrev s_mothers_of : Stmt := topS 60
abbrev s__law_long : Stmt := topS 68
abbrev s__law_done : Stmt := topS 67
abbrev s_Course_done : Stmt := topC 48 2
abbrev s__law_sent_right : Stmt := topS 71
abbrev s_law : Stmt := topS 72
abbrev s_i_BadWord : Stmt := topC 13 0
abbrev s_i_BadStock : Stmt := topC 14 0
abbrev s_i_BadCourse : Stmt := topC 16 0
abbrev s_i_TooMany : Stmt := topC 19 0
abbrev s_i_BadText : Stmt := topC 20 0
abbrev s_i_BadShift : Stmt := topC 15 0
abbrev s_i_Missing : Stmt := topC 17 0
/-- where all stands -/
structure A where
  d__law_pen : Addr
  fd__law_pen : FuncData
  d__law_draw : Addr
  fd__law_draw : FuncData
  d__law_pick : Addr
  fd__law_pick : FuncData
  d__law_side : Addr
  fd__law_side : FuncData
  d__law_world : Addr
  fd__law_world : FuncData
  d__law_word : Addr
  fd__law_word : FuncData
  d_sounds_in_shifts : Addr
  fd_sounds_in_shifts : FuncData
  d_Course_init : Addr
  fd_Course_init : FuncData
  d_is_sound : Addr
  fd_is_sound : FuncData
  d_is_new : Addr
  fd_is_new : FuncData
  d_is_side : Addr
  fd_is_side : FuncData
  d_Shift_init : Addr
  fd_Shift_init : FuncData
  d__law_made : Addr
  fd__law_made : FuncData
  d_need_course : Addr
  fd_need_course : FuncData
  d_is_stock : Addr
  fd_is_stock : FuncData
  d_need_stock : Addr
  fd_need_stock : FuncData
  d_is_word : Addr
  fd_is_word : FuncData
  d_need_word : Addr
  fd_need_word : FuncData
  d_need_standing : Addr
  fd_need_standing : FuncData
  d_most_sounds : Addr
  fd_most_sounds : FuncData
  d_room_with : Addr
  fd_room_with : FuncData
  d_sounds_in_rooms : Addr
  fd_sounds_in_rooms : FuncData
  d_is_beside : Addr
  fd_is_beside : FuncData
  d_places_in : Addr
  fd_places_in : FuncData
  d_done_by : Addr
  fd_done_by : FuncData
  d_steps_of : Addr
  fd_steps_of : FuncData
  d_outcome_of : Addr
  fd_outcome_of : FuncData
  d_step_in : Addr
  fd_step_in : FuncData
  d_rest_in : Addr
  fd_rest_in : FuncData
  d_mothers_of : Addr
  fd_mothers_of : FuncData
  d__law_long : Addr
  fd__law_long : FuncData
  d__law_done : Addr
  fd__law_done : FuncData
  d_Course_done : Addr
  fd_Course_done : FuncData
  d__law_sent_right : Addr
  fd__law_sent_right : FuncData
  d_law : Addr
  fd_law : FuncData
  C_BadWord : Addr
  C_BadStock : Addr
  C_BadCourse : Addr
  C_TooMany : Addr
  C_BadText : Addr
  C_BadShift : Addr
  C_NoShift : Addr
  C_Course : Addr
  C_Shift : Addr
  i_BadWord : Addr
  fi_BadWord : FuncData
  i_BadStock : Addr
  fi_BadStock : FuncData
  i_BadCourse : Addr
  fi_BadCourse : FuncData
  i_TooMany : Addr
  fi_TooMany : FuncData
  i_BadText : Addr
  fi_BadText : FuncData
  i_BadShift : Addr
  fi_BadShift : FuncData
  i_Missing : Addr
  fi_Missing : FuncData
def A.cl (a : A) : Nat → Addr
  | 0 => a.C_BadWord
  | 1 => a.C_BadStock
  | 2 => a.C_BadCourse
  | 3 => a.C_TooMany
  | 4 => a.C_BadText
  | 5 => a.C_BadShift
  | 6 => a.C_NoShift
  | 7 => a.C_Course
  | 8 => a.C_Shift
  | _ => 0
def okc (c : Nat) : Bool := c == 7 || c == 8
def A.T (a : A) : List (Addr × Str) := []
abbrev nC : Nat := 7
def xm (c j : Nat) : Bool := ([[true, false, false, false, false, false, false], [false, true, false, false, false, false, false], [false, false, true, false, false, false, false], [false, false, false, true, false, false, false], [false, false, false, false, true, false, false], [false, false, false, false, false, true, false], [false, false, false, false, false, false, true]].getD c []).getD j false
/-- the facts -/
structure Txt (K : PySem.W.Frag) (mg : Str → Option Value) (base : Heap) (a : A) : Prop where
  F__law_pen : Fun K "_law_pen" "_law_pen" s__law_pen a.d__law_pen a.fd__law_pen
  g__law_pen : mg "_law_pen" = some (.ref a.d__law_pen)
  F__law_draw : Fun K "_law_draw" "_law_draw" s__law_draw a.d__law_draw a.fd__law_draw
  g__law_draw : mg "_law_draw" = some (.ref a.d__law_draw)
  F__law_pick : Fun K "_law_pick" "_law_pick" s__law_pick a.d__law_pick a.fd__law_pick
  g__law_pick : mg "_law_pick" = some (.ref a.d__law_pick)
  F__law_side : Fun K "_law_side" "_law_side" s__law_side a.d__law_side a.fd__law_side
  g__law_side : mg "_law_side" = some (.ref a.d__law_side)
  F__law_world : Fun K "_law_world" "_law_world" s__law_world a.d__law_world a.fd__law_world
  g__law_world : mg "_law_world" = some (.ref a.d__law_world)
  F__law_word : Fun K "_law_word" "_law_word" s__law_word a.d__law_word a.fd__law_word
  g__law_word : mg "_law_word" = some (.ref a.d__law_word)
  F_sounds_in_shifts : Fun K "sounds_in" "sounds_in" s_sounds_in_shifts a.d_sounds_in_shifts a.fd_sounds_in_shifts
  g_sounds_in_shifts : mg "sounds_in_shifts" = some (.ref a.d_sounds_in_shifts)
  F_Course_init : Fun K "__init__" "Course.__init__" s_Course_init a.d_Course_init a.fd_Course_init
  F_is_sound : Fun K "is_sound" "is_sound" s_is_sound a.d_is_sound a.fd_is_sound
  g_is_sound : mg "is_sound" = some (.ref a.d_is_sound)
  F_is_new : Fun K "is_new" "is_new" s_is_new a.d_is_new a.fd_is_new
  g_is_new : mg "is_new" = some (.ref a.d_is_new)
  F_is_side : Fun K "is_side" "is_side" s_is_side a.d_is_side a.fd_is_side
  g_is_side : mg "is_side" = some (.ref a.d_is_side)
  F_Shift_init : FunD K "__init__" "Shift.__init__" (defArgs s_Shift_init) (defBody s_Shift_init) (defScope s_Shift_init) [.non, .non] [] a.d_Shift_init a.fd_Shift_init
  F__law_made : Fun K "_law_made" "_law_made" s__law_made a.d__law_made a.fd__law_made
  g__law_made : mg "_law_made" = some (.ref a.d__law_made)
  F_need_course : Fun K "need_course" "need_course" s_need_course a.d_need_course a.fd_need_course
  g_need_course : mg "need_course" = some (.ref a.d_need_course)
  F_is_stock : Fun K "is_stock" "is_stock" s_is_stock a.d_is_stock a.fd_is_stock
  g_is_stock : mg "is_stock" = some (.ref a.d_is_stock)
  F_need_stock : Fun K "need_stock" "need_stock" s_need_stock a.d_need_stock a.fd_need_stock
  g_need_stock : mg "need_stock" = some (.ref a.d_need_stock)
  F_is_word : Fun K "is_word" "is_word" s_is_word a.d_is_word a.fd_is_word
  g_is_word : mg "is_word" = some (.ref a.d_is_word)
  F_need_word : Fun K "need_word" "need_word" s_need_word a.d_need_word a.fd_need_word
  g_need_word : mg "need_word" = some (.ref a.d_need_word)
  F_need_standing : Fun K "need_standing" "need_standing" s_need_standing a.d_need_standing a.fd_need_standing
  g_need_standing : mg "need_standing" = some (.ref a.d_need_standing)
  F_most_sounds : Fun K "most_sounds" "most_sounds" s_most_sounds a.d_most_sounds a.fd_most_sounds
  g_most_sounds : mg "most_sounds" = some (.ref a.d_most_sounds)
  F_room_with : Fun K "room_with" "room_with" s_room_with a.d_room_with a.fd_room_with
  g_room_with : mg "room_with" = some (.ref a.d_room_with)
  F_sounds_in_rooms : Fun K "sounds_in" "sounds_in" s_sounds_in_rooms a.d_sounds_in_rooms a.fd_sounds_in_rooms
  g_sounds_in_rooms : mg "sounds_in_rooms" = some (.ref a.d_sounds_in_rooms)
  F_is_beside : Fun K "is_beside" "is_beside" s_is_beside a.d_is_beside a.fd_is_beside
  g_is_beside : mg "is_beside" = some (.ref a.d_is_beside)
  F_places_in : Fun K "places_in" "places_in" s_places_in a.d_places_in a.fd_places_in
  g_places_in : mg "places_in" = some (.ref a.d_places_in)
  F_done_by : Fun K "done_by" "done_by" s_done_by a.d_done_by a.fd_done_by
  g_done_by : mg "done_by" = some (.ref a.d_done_by)
  F_steps_of : Fun K "steps_of" "steps_of" s_steps_of a.d_steps_of a.fd_steps_of
  g_steps_of : mg "steps_of" = some (.ref a.d_steps_of)
  F_outcome_of : Fun K "outcome_of" "outcome_of" s_outcome_of a.d_outcome_of a.fd_outcome_of
  g_outcome_of : mg "outcome_of" = some (.ref a.d_outcome_of)
  F_step_in : Fun K "step_in" "step_in" s_step_in a.d_step_in a.fd_step_in
  g_step_in : mg "step_in" = some (.ref a.d_step_in)
  F_rest_in : Fun K "rest_in" "rest_in" s_rest_in a.d_rest_in a.fd_rest_in
  g_rest_in : mg "rest_in" = some (.ref a.d_rest_in)
  F_mothers_of : Fun K "mothers_of" "mothers_of" s_mothers_of a.d_mothers_of a.fd_mothers_of
  g_mothers_of : mg "mothers_of" = some (.ref a.d_mothers_of)
  F__law_long : Fun K "_law_long" "_law_long" s__law_long a.d__law_long a.fd__law_long
  g__law_long : mg "_law_long" = some (.ref a.d__law_long)
  F__law_done : Fun K "_law_done" "_law_done" s__law_done a.d__law_done a.fd__law_done
  g__law_done : mg "_law_done" = some (.ref a.d__law_done)
  F_Course_done : Fun K "done" "Course.done" s_Course_done a.d_Course_done a.fd_Course_done
  F__law_sent_right : Fun K "_law_sent_right" "_law_sent_right" s__law_sent_right a.d__law_sent_right a.fd__law_sent_right
  g__law_sent_right : mg "_law_sent_right" = some (.ref a.d__law_sent_right)
  F_law : Fun K "law" "law" s_law a.d_law a.fd_law
  g_law : mg "law" = some (.ref a.d_law)
  g_Course : mg "Course" = some (.ref a.C_Course)
  o_Course : ObjC K a.C_Course
  mk_Course : Mk K a.C_Course a.d_Course_init
  me_Course_done : Meth K a.C_Course "done" a.d_Course_done
  na_Course_shifts : NoAttr K a.C_Course "shifts"
  na_Course_falls : NoAttr K a.C_Course "falls"
  na_Course_sounds : NoAttr K a.C_Course "sounds"
  g_Shift : mg "Shift" = some (.ref a.C_Shift)
  o_Shift : ObjC K a.C_Shift
  mk_Shift : Mk K a.C_Shift a.d_Shift_init
  na_Shift_falls : NoAttr K a.C_Shift "falls"
  na_Shift_sounds : NoAttr K a.C_Shift "sounds"
  na_Shift_old : NoAttr K a.C_Shift "old"
  na_Shift_new : NoAttr K a.C_Shift "new"
  na_Shift_left : NoAttr K a.C_Shift "left"
  na_Shift_right : NoAttr K a.C_Shift "right"
  kn : PySem.W.specialIn K (.builtin "object.__class__") "__get__" = some (some (.builtin "getset_descriptor.__get__"))
  kt : PySem.W.takesIn K (.builtin "object.__class__") = some true
  ki_Shift_Course : PySem.W.kitOne K (.ref a.C_Course) (.ref a.C_Shift) = some false
  ki_Shift_Shift : PySem.W.kitOne K (.ref a.C_Shift) (.ref a.C_Shift) = some true
  kb_Shift : ∀ t ∈ tyNs, PySem.W.kitOne K (.type t) (.ref a.C_Shift) = some false
  ki_Course_Course : PySem.W.kitOne K (.ref a.C_Course) (.ref a.C_Course) = some true
  ki_Course_Shift : PySem.W.kitOne K (.ref a.C_Shift) (.ref a.C_Course) = some false
  kb_Course : ∀ t ∈ tyNs, PySem.W.kitOne K (.type t) (.ref a.C_Course) = some false
  z_abs : mg "abs" = none
  z_all : mg "all" = none
  z_any : mg "any" = none
  z_enumerate : mg "enumerate" = none
  z_int : mg "int" = none
  z_isinstance : mg "isinstance" = none
  z_len : mg "len" = none
  z_list : mg "list" = none
  z_max : mg "max" = none
  z_range : mg "range" = none
  z_sorted : mg "sorted" = none
  z_str : mg "str" = none
  z_tuple : mg "tuple" = none
  z_zip : mg "zip" = none
  k_BEGIN : ∃ t, mg "BEGIN" = some (.str ⟨([35] : List Nat).toArray⟩ t)
  k_EDGE : ∃ t, mg "EDGE" = some (.str ⟨([35] : List Nat).toArray⟩ t)
  k_LETTERS : ∃ t, mg "LETTERS" = some (.str ⟨([97, 98, 99, 100, 101, 102, 103, 104, 105, 106, 107, 108, 109, 110, 111, 112, 113, 114, 115, 116, 117, 118, 119, 120, 121, 122] : List Nat).toArray⟩ t)
  k_MOST_SHIFTS : ∃ t, mg "MOST_SHIFTS" = some (.int 6 t)
  k_MOST_SOUNDS_checks : ∃ t, mg "MOST_SOUNDS_checks" = some (.int 12 t)
  k_MOST_SOUNDS_fallen : ∃ t, mg "MOST_SOUNDS_fallen" = some (.int 6 t)
  k_MOST_STOCK : ∃ t, mg "MOST_STOCK" = some (.int 5 t)
  x_BadWord : ClsF K mg "BadWord" a.C_BadWord a.i_BadWord
  xn_BadWord_part : PySem.W.findIn K (.ref a.C_BadWord) "part" = some none
  x_BadStock : ClsF K mg "BadStock" a.C_BadStock a.i_BadStock
  xn_BadStock_part : PySem.W.findIn K (.ref a.C_BadStock) "part" = some none
  x_BadCourse : ClsF K mg "BadCourse" a.C_BadCourse a.i_BadCourse
  xn_BadCourse_part : PySem.W.findIn K (.ref a.C_BadCourse) "part" = some none
  x_TooMany : ClsF K mg "TooMany" a.C_TooMany a.i_TooMany
  xn_TooMany_what : PySem.W.findIn K (.ref a.C_TooMany) "what" = some none
  xn_TooMany_most : PySem.W.findIn K (.ref a.C_TooMany) "most" = some none
  x_BadText : ClsF K mg "BadText" a.C_BadText a.i_BadText
  xn_BadText_line : PySem.W.findIn K (.ref a.C_BadText) "line" = some none
  xn_BadText_item : PySem.W.findIn K (.ref a.C_BadText) "item" = some none
  x_BadShift : ClsF K mg "BadShift" a.C_BadShift a.i_BadShift
  xn_BadShift_part : PySem.W.findIn K (.ref a.C_BadShift) "part" = some none
  x_NoShift : ClsF K mg "NoShift" a.C_NoShift a.i_Missing
  xn_NoShift_value : PySem.W.findIn K (.ref a.C_NoShift) "value" = some none
  F_i_BadWord : Fun K "__init__" "BadWord.__init__" s_i_BadWord a.i_BadWord a.fi_BadWord
  F_i_BadStock : Fun K "__init__" "BadStock.__init__" s_i_BadStock a.i_BadStock a.fi_BadStock
  F_i_BadCourse : Fun K "__init__" "BadCourse.__init__" s_i_BadCourse a.i_BadCourse a.fi_BadCourse
  F_i_TooMany : Fun K "__init__" "TooMany.__init__" s_i_TooMany a.i_TooMany a.fi_TooMany
  F_i_BadText : Fun K "__init__" "BadText.__init__" s_i_BadText a.i_BadText a.fi_BadText
  F_i_BadShift : Fun K "__init__" "BadShift.__init__" s_i_BadShift a.i_BadShift a.fi_BadShift
  F_i_Missing : Fun K "__init__" "Missing.__init__" s_i_Missing a.i_Missing a.fi_Missing
  hx : ∀ c < nC, ∀ j < nC, PySem.W.exmOne K (.ref (a.cl c)) (.ref (a.cl j)) = some (xm c j)
section
variable {P : Program} {w0 : World} {K : PySem.W.Frag} {mg : Str → Option Value} {base : Heap} {a : A}
def okf_shifts (c : Nat) : Bool := c == 7
theorem fl_shifts (T : Txt K mg base a) : FldC K a.cl okf_shifts "shifts" := by
  intro c h
  simp only [okf_shifts, Bool.or_eq_true, beq_iff_eq] at h
  rcases h with rfl
  · exact ⟨T.o_Course.cls, T.na_Course_shifts⟩
def okf_falls (c : Nat) : Bool := c == 7 || c == 8
theorem fl_falls (T : Txt K mg base a) : FldC K a.cl okf_falls "falls" := by
  intro c h
  simp only [okf_falls, Bool.or_eq_true, beq_iff_eq] at h
  rcases h with (rfl | rfl)
  · exact ⟨T.o_Course.cls, T.na_Course_falls⟩
  · exact ⟨T.o_Shift.cls, T.na_Shift_falls⟩
def okf_sounds (c : Nat) : Bool := c == 7 || c == 8
theorem fl_sounds (T : Txt K mg base a) : FldC K a.cl okf_sounds "sounds" := by
  intro c h
  simp only [okf_sounds, Bool.or_eq_true, beq_iff_eq] at h
  rcases h with (rfl | rfl)
  · exact ⟨T.o_Course.cls, T.na_Course_sounds⟩
  · exact ⟨T.o_Shift.cls, T.na_Shift_sounds⟩
def okf_old (c : Nat) : Bool := c == 8
theorem fl_old (T : Txt K mg base a) : FldC K a.cl okf_old "old" := by
  intro c h
  simp only [okf_old, Bool.or_eq_true, beq_iff_eq] at h
  rcases h with rfl
  · exact ⟨T.o_Shift.cls, T.na_Shift_old⟩
def okf_new (c : Nat) : Bool := c == 8
theorem fl_new (T : Txt K mg base a) : FldC K a.cl okf_new "new" := by
  intro c h
  simp only [okf_new, Bool.or_eq_true, beq_iff_eq] at h
  rcases h with rfl
  · exact ⟨T.o_Shift.cls, T.na_Shift_new⟩
def okf_left (c : Nat) : Bool := c == 8
theorem fl_left (T : Txt K mg base a) : FldC K a.cl okf_left "left" := by
  intro c h
  simp only [okf_left, Bool.or_eq_true, beq_iff_eq] at h
  rcases h with rfl
  · exact ⟨T.o_Shift.cls, T.na_Shift_left⟩
def okf_right (c : Nat) : Bool := c == 8
theorem fl_right (T : Txt K mg base a) : FldC K a.cl okf_right "right" := by
  intro c h
  simp only [okf_right, Bool.or_eq_true, beq_iff_eq] at h
  rcases h with rfl
  · exact ⟨T.o_Shift.cls, T.na_Shift_right⟩
def tb_Shift (c : Nat) : Bool := c == 8
theorem kit_Shift (T : Txt K mg base a) : KitC K a.cl okc tb_Shift a.C_Shift := by
  refine ⟨T.kn, T.kt, fun c h => ?_, T.kb_Shift⟩
  simp only [okc, Bool.or_eq_true, beq_iff_eq] at h
  rcases h with (rfl | rfl)
  · exact ⟨T.o_Course, T.ki_Shift_Course⟩
  · exact ⟨T.o_Shift, T.ki_Shift_Shift⟩
def tb_Course (c : Nat) : Bool := c == 7
theorem kit_Course (T : Txt K mg base a) : KitC K a.cl okc tb_Course a.C_Course := by
  refine ⟨T.kn, T.kt, fun c h => ?_, T.kb_Course⟩
  simp only [okc, Bool.or_eq_true, beq_iff_eq] at h
  rcases h with (rfl | rfl)
  · exact ⟨T.o_Course, T.ki_Course_Course⟩
  · exact ⟨T.o_Shift, T.ki_Course_Shift⟩
theorem sc__law_pen : FnScope ["_law_script", "_law_cell"] ["_law_script"] (defScope s__law_pen) := ⟨rfl, rfl, rfl, by decide +kernel, rfl, by decide +kernel, by decide +kernel⟩
theorem b__law_pen (T : Txt K mg base a) : L2.Binds K a.fd__law_pen ["_law_script"] [] := T.F__law_pen.binds fun _ _ _ _ _ _ us hl => match us, hl with
  | [_], _ => rfl
theorem sc__law_draw : FnScope ["_law_pen_here", "_law_many", "_law_rest", "_law_spot", "_law_cell", "_law_mixed"] ["_law_pen_here", "_law_many"] (defScope s__law_draw) := ⟨rfl, rfl, rfl, by decide +kernel, rfl, by decide +kernel, by decide +kernel⟩
theorem b__law_draw (T : Txt K mg base a) : L2.Binds K a.fd__law_draw ["_law_pen_here", "_law_many"] [] := T.F__law_draw.binds fun _ _ _ _ _ _ us hl => match us, hl with
  | [_, _], _ => rfl
theorem sc__law_pick : FnScope ["_law_pen_here", "_law_some"] ["_law_pen_here", "_law_some"] (defScope s__law_pick) := ⟨rfl, rfl, rfl, by decide +kernel, rfl, by decide +kernel, by decide +kernel⟩
theorem b__law_pick (T : Txt K mg base a) : L2.Binds K a.fd__law_pick ["_law_pen_here", "_law_some"] [] := T.F__law_pick.binds fun _ _ _ _ _ _ us hl => match us, hl with
  | [_, _], _ => rfl
theorem sc__law_side : FnScope ["_law_pen_here", "_law_sounds", "_law_signs", "_law_sign"] ["_law_pen_here", "_law_sounds"] (defScope s__law_side) := ⟨rfl, rfl, rfl, by decide +kernel, rfl, by decide +kernel, by decide +kernel⟩
theorem b__law_side (T : Txt K mg base a) : L2.Binds K a.fd__law_side ["_law_pen_here", "_law_sounds"] [] := T.F__law_side.binds fun _ _ _ _ _ _ us hl => match us, hl with
  | [_, _], _ => rfl
theorem sc__law_world : FnScope ["_law_pen_here", "_law_sizes", "_law_many", "_law_size", "_law_left", "_law_sounds", "_law_turn", "_law_stock", "_law_rules", "_law_known", "_law_likely", "_law_old", "_law_new", "_law_sign"] ["_law_pen_here", "_law_sizes"] (defScope s__law_world) := ⟨rfl, rfl, rfl, by decide +kernel, rfl, by decide +kernel, by decide +kernel⟩
theorem b__law_world (T : Txt K mg base a) : L2.Binds K a.fd__law_world ["_law_pen_here", "_law_sizes"] [] := T.F__law_world.binds fun _ _ _ _ _ _ us hl => match us, hl with
  | [_, _], _ => rfl
theorem sc__law_word : FnScope ["_law_pen_here", "_law_sounds", "_law_size", "_law_turn"] ["_law_pen_here", "_law_sounds", "_law_size"] (defScope s__law_word) := ⟨rfl, rfl, rfl, by decide +kernel, rfl, by decide +kernel, by decide +kernel⟩
theorem b__law_word (T : Txt K mg base a) : L2.Binds K a.fd__law_word ["_law_pen_here", "_law_sounds", "_law_size"] [] := T.F__law_word.binds fun _ _ _ _ _ _ us hl => match us, hl with
  | [_, _, _], _ => rfl
theorem sc_sounds_in_shifts : FnScope ["texts", "sound", "text"] ["texts"] (defScope s_sounds_in_shifts) := ⟨rfl, rfl, rfl, by decide +kernel, rfl, by decide +kernel, by decide +kernel⟩
theorem b_sounds_in_shifts (T : Txt K mg base a) : L2.Binds K a.fd_sounds_in_shifts ["texts"] [] := T.F_sounds_in_shifts.binds fun _ _ _ _ _ _ us hl => match us, hl with
  | [_], _ => rfl
theorem sc_Course_init : FnScope ["self", "shifts", "rule"] ["self", "shifts"] (defScope s_Course_init) := ⟨rfl, rfl, rfl, by decide +kernel, rfl, by decide +kernel, by decide +kernel⟩
theorem sc_is_sound : FnScope ["value"] ["value"] (defScope s_is_sound) := ⟨rfl, rfl, rfl, by decide +kernel, rfl, by decide +kernel, by decide +kernel⟩
theorem b_is_sound (T : Txt K mg base a) : L2.Binds K a.fd_is_sound ["value"] [] := T.F_is_sound.binds fun _ _ _ _ _ _ us hl => match us, hl with
  | [_], _ => rfl
theorem sc_is_new : FnScope ["value", "old"] ["value", "old"] (defScope s_is_new) := ⟨rfl, rfl, rfl, by decide +kernel, rfl, by decide +kernel, by decide +kernel⟩
theorem b_is_new (T : Txt K mg base a) : L2.Binds K a.fd_is_new ["value", "old"] [] := T.F_is_new.binds fun _ _ _ _ _ _ us hl => match us, hl with
  | [_, _], _ => rfl
theorem sc_is_side : FnScope ["value", "sign", "one", "other"] ["value"] (defScope s_is_side) := ⟨rfl, rfl, rfl, by decide +kernel, rfl, by decide +kernel, by decide +kernel⟩
theorem b_is_side (T : Txt K mg base a) : L2.Binds K a.fd_is_side ["value"] [] := T.F_is_side.binds fun _ _ _ _ _ _ us hl => match us, hl with
  | [_], _ => rfl
theorem sc_Shift_init : FnScope ["self", "old", "new", "left", "right"] ["self", "old", "new", "left", "right"] (defScope s_Shift_init) := ⟨rfl, rfl, rfl, by decide +kernel, rfl, by decide +kernel, by decide +kernel⟩
theorem sc__law_made : FnScope ["_law_rules", "_law_old", "_law_new", "_law_left", "_law_right"] ["_law_rules"] (defScope s__law_made) := ⟨rfl, rfl, rfl, by decide +kernel, rfl, by decide +kernel, by decide +kernel⟩
theorem b__law_made (T : Txt K mg base a) : L2.Binds K a.fd__law_made ["_law_rules"] [] := T.F__law_made.binds fun _ _ _ _ _ _ us hl => match us, hl with
  | [_], _ => rfl
theorem sc_need_course : FnScope ["value", "part"] ["value", "part"] (defScope s_need_course) := ⟨rfl, rfl, rfl, by decide +kernel, rfl, by decide +kernel, by decide +kernel⟩
theorem b_need_course (T : Txt K mg base a) : L2.Binds K a.fd_need_course ["value", "part"] [] := T.F_need_course.binds fun _ _ _ _ _ _ us hl => match us, hl with
  | [_, _], _ => rfl
theorem sc_is_stock : FnScope ["value", "sign", "one", "other"] ["value"] (defScope s_is_stock) := ⟨rfl, rfl, rfl, by decide +kernel, rfl, by decide +kernel, by decide +kernel⟩
theorem b_is_stock (T : Txt K mg base a) : L2.Binds K a.fd_is_stock ["value"] [] := T.F_is_stock.binds fun _ _ _ _ _ _ us hl => match us, hl with
  | [_], _ => rfl
theorem sc_need_stock : FnScope ["value", "part"] ["value", "part"] (defScope s_need_stock) := ⟨rfl, rfl, rfl, by decide +kernel, rfl, by decide +kernel, by decide +kernel⟩
theorem b_need_stock (T : Txt K mg base a) : L2.Binds K a.fd_need_stock ["value", "part"] [] := T.F_need_stock.binds fun _ _ _ _ _ _ us hl => match us, hl with
  | [_, _], _ => rfl
theorem sc_is_word : FnScope ["value", "sign"] ["value"] (defScope s_is_word) := ⟨rfl, rfl, rfl, by decide +kernel, rfl, by decide +kernel, by decide +kernel⟩
theorem b_is_word (T : Txt K mg base a) : L2.Binds K a.fd_is_word ["value"] [] := T.F_is_word.binds fun _ _ _ _ _ _ us hl => match us, hl with
  | [_], _ => rfl
theorem sc_need_word : FnScope ["value", "part"] ["value", "part"] (defScope s_need_word) := ⟨rfl, rfl, rfl, by decide +kernel, rfl, by decide +kernel, by decide +kernel⟩
theorem b_need_word (T : Txt K mg base a) : L2.Binds K a.fd_need_word ["value", "part"] [] := T.F_need_word.binds fun _ _ _ _ _ _ us hl => match us, hl with
  | [_, _], _ => rfl
theorem sc_need_standing : FnScope ["course"] ["course"] (defScope s_need_standing) := ⟨rfl, rfl, rfl, by decide +kernel, rfl, by decide +kernel, by decide +kernel⟩
theorem b_need_standing (T : Txt K mg base a) : L2.Binds K a.fd_need_standing ["course"] [] := T.F_need_standing.binds fun _ _ _ _ _ _ us hl => match us, hl with
  | [_], _ => rfl
theorem sc_most_sounds : FnScope ["course"] ["course"] (defScope s_most_sounds) := ⟨rfl, rfl, rfl, by decide +kernel, rfl, by decide +kernel, by decide +kernel⟩
theorem b_most_sounds (T : Txt K mg base a) : L2.Binds K a.fd_most_sounds ["course"] [] := T.F_most_sounds.binds fun _ _ _ _ _ _ us hl => match us, hl with
  | [_], _ => rfl
theorem sc_room_with : FnScope ["course", "word", "ahead"] ["course", "word"] (defScope s_room_with) := ⟨rfl, rfl, rfl, by decide +kernel, rfl, by decide +kernel, by decide +kernel⟩
theorem b_room_with (T : Txt K mg base a) : L2.Binds K a.fd_room_with ["course", "word"] [] := T.F_room_with.binds fun _ _ _ _ _ _ us hl => match us, hl with
  | [_, _], _ => rfl
theorem sc_sounds_in_rooms : FnScope ["room"] ["room"] (defScope s_sounds_in_rooms) := ⟨rfl, rfl, rfl, by decide +kernel, rfl, by decide +kernel, by decide +kernel⟩
theorem b_sounds_in_rooms (T : Txt K mg base a) : L2.Binds K a.fd_sounds_in_rooms ["room"] [] := T.F_sounds_in_rooms.binds fun _ _ _ _ _ _ us hl => match us, hl with
  | [_], _ => rfl
theorem sc_is_beside : FnScope ["side", "sign"] ["side", "sign"] (defScope s_is_beside) := ⟨rfl, rfl, rfl, by decide +kernel, rfl, by decide +kernel, by decide +kernel⟩
theorem b_is_beside (T : Txt K mg base a) : L2.Binds K a.fd_is_beside ["side", "sign"] [] := T.F_is_beside.binds fun _ _ _ _ _ _ us hl => match us, hl with
  | [_, _], _ => rfl
theorem sc_places_in : FnScope ["rule", "word", "framed", "found", "place", "sound"] ["rule", "word"] (defScope s_places_in) := ⟨rfl, rfl, rfl, by decide +kernel, rfl, by decide +kernel, by decide +kernel⟩
theorem b_places_in (T : Txt K mg base a) : L2.Binds K a.fd_places_in ["rule", "word"] [] := T.F_places_in.binds fun _ _ _ _ _ _ us hl => match us, hl with
  | [_, _], _ => rfl
theorem sc_done_by : FnScope ["rule", "word", "changed", "place", "sound"] ["rule", "word"] (defScope s_done_by) := ⟨rfl, rfl, rfl, by decide +kernel, rfl, by decide +kernel, by decide +kernel⟩
theorem b_done_by (T : Txt K mg base a) : L2.Binds K a.fd_done_by ["rule", "word"] [] := T.F_done_by.binds fun _ _ _ _ _ _ us hl => match us, hl with
  | [_, _], _ => rfl
theorem sc_steps_of : FnScope ["shifts", "word", "found", "here", "rule"] ["shifts", "word"] (defScope s_steps_of) := ⟨rfl, rfl, rfl, by decide +kernel, rfl, by decide +kernel, by decide +kernel⟩
theorem b_steps_of (T : Txt K mg base a) : L2.Binds K a.fd_steps_of ["shifts", "word"] [] := T.F_steps_of.binds fun _ _ _ _ _ _ us hl => match us, hl with
  | [_, _], _ => rfl
theorem sc_outcome_of : FnScope ["course", "word"] ["course", "word"] (defScope s_outcome_of) := ⟨rfl, rfl, rfl, by decide +kernel, rfl, by decide +kernel, by decide +kernel⟩
theorem b_outcome_of (T : Txt K mg base a) : L2.Binds K a.fd_outcome_of ["course", "word"] [] := T.F_outcome_of.binds fun _ _ _ _ _ _ us hl => match us, hl with
  | [_, _], _ => rfl
theorem sc_step_in : FnScope ["course", "room", "sound", "word", "place", "settled"] ["course", "room", "sound"] (defScope s_step_in) := ⟨rfl, rfl, rfl, by decide +kernel, rfl, by decide +kernel, by decide +kernel⟩
theorem b_step_in (T : Txt K mg base a) : L2.Binds K a.fd_step_in ["course", "room", "sound"] [] := T.F_step_in.binds fun _ _ _ _ _ _ us hl => match us, hl with
  | [_, _, _], _ => rfl
theorem sc_rest_in : FnScope ["course", "room", "outcome"] ["course", "room"] (defScope s_rest_in) := ⟨rfl, rfl, rfl, by decide +kernel, rfl, by decide +kernel, by decide +kernel⟩
theorem b_rest_in (T : Txt K mg base a) : L2.Binds K a.fd_rest_in ["course", "room"] [] := T.F_rest_in.binds fun _ _ _ _ _ _ us hl => match us, hl with
  | [_, _], _ => rfl
theorem sc_mothers_of : FnScope ["course", "stock", "outcome", "found", "read", "place", "longer", "word", "room", "sound", "later", "settled", "rest"] ["course", "stock", "outcome"] (defScope s_mothers_of) := ⟨rfl, rfl, rfl, by decide +kernel, rfl, by decide +kernel, by decide +kernel⟩
theorem b_mothers_of (T : Txt K mg base a) : L2.Binds K a.fd_mothers_of ["course", "stock", "outcome"] [] := T.F_mothers_of.binds fun _ _ _ _ _ _ us hl => match us, hl with
  | [_, _, _], _ => rfl
theorem sc__law_long : FnScope ["_law_stock", "_law_size", "_law_found", "_law_turn", "_law_longer", "_law_word_here", "_law_sound"] ["_law_stock", "_law_size"] (defScope s__law_long) := ⟨rfl, rfl, rfl, by decide +kernel, rfl, by decide +kernel, by decide +kernel⟩
theorem b__law_long (T : Txt K mg base a) : L2.Binds K a.fd__law_long ["_law_stock", "_law_size"] [] := T.F__law_long.binds fun _ _ _ _ _ _ us hl => match us, hl with
  | [_, _], _ => rfl
theorem sc__law_done : FnScope ["_law_rules", "_law_word_here", "_law_old", "_law_new", "_law_left", "_law_right", "_law_signs", "_law_found", "_law_at", "_law_sound", "_law_fits"] ["_law_rules", "_law_word_here"] (defScope s__law_done) := ⟨rfl, rfl, rfl, by decide +kernel, rfl, by decide +kernel, by decide +kernel⟩
theorem b__law_done (T : Txt K mg base a) : L2.Binds K a.fd__law_done ["_law_rules", "_law_word_here"] [] := T.F__law_done.binds fun _ _ _ _ _ _ us hl => match us, hl with
  | [_, _], _ => rfl
theorem sc_Course_done : FnScope ["self", "word"] ["self", "word"] (defScope s_Course_done) := ⟨rfl, rfl, rfl, by decide +kernel, rfl, by decide +kernel, by decide +kernel⟩
theorem b_Course_done (T : Txt K mg base a) : L2.Binds K a.fd_Course_done ["self", "word"] [] := T.F_Course_done.binds fun _ _ _ _ _ _ us hl => match us, hl with
  | [_, _], _ => rfl
theorem sc__law_sent_right : FnScope ["_law_course", "_law_rules", "_law_stock", "_law_words", "_law_outcome", "_law_due", "_law_found", "_law_word_here", "_law_sound", "_law_less"] ["_law_course", "_law_rules", "_law_stock", "_law_words", "_law_outcome"] (defScope s__law_sent_right) := ⟨rfl, rfl, rfl, by decide +kernel, rfl, by decide +kernel, by decide +kernel⟩
theorem b__law_sent_right (T : Txt K mg base a) : L2.Binds K a.fd__law_sent_right ["_law_course", "_law_rules", "_law_stock", "_law_words", "_law_outcome"] [] := T.F__law_sent_right.binds fun _ _ _ _ _ _ us hl => match us, hl with
  | [_, _, _, _, _], _ => rfl
theorem sc_law : FnScope ["_law_script", "_law_pen_here", "_law_rules", "_law_stock", "_law_sounds", "_law_course", "_law_most", "_law_turn", "_law_size", "_law_words", "_law_word_here", "_law_other", "_law_outcome", "_law_old", "_law_more", "_law_sign"] ["_law_script"] (defScope s_law) := ⟨rfl, rfl, rfl, by decide +kernel, rfl, by decide +kernel, by decide +kernel⟩
theorem b_law (T : Txt K mg base a) : L2.Binds K a.fd_law ["_law_script"] [] := T.F_law.binds fun _ _ _ _ _ _ us hl => match us, hl with
  | [_], _ => rfl
theorem sc_i_BadWord : FnScope ["self", "part"] ["self", "part"] (defScope s_i_BadWord) := ⟨rfl, rfl, rfl, by decide +kernel, rfl, by decide +kernel, by decide +kernel⟩
theorem b_i_BadWord (T : Txt K mg base a) : L2.Binds K a.fi_BadWord ["self", "part"] [] := T.F_i_BadWord.binds fun _ _ _ _ _ _ us hl => match us, hl with
  | [_, _], _ => rfl
theorem ok_i_BadWord (T : Txt K mg base a) : FnOk P w0 K mg base (L2.CX P w0) 1 a.i_BadWord a.fi_BadWord ["self", "part"] (spI1 K "part") := ok_init1 (ps := []) T.F_i_BadWord sc_i_BadWord rfl (by decide) (by decide) (Or.inl rfl) (Or.inl rfl) (fun _ => rfl)
theorem sc_i_BadStock : FnScope ["self", "part"] ["self", "part"] (defScope s_i_BadStock) := ⟨rfl, rfl, rfl, by decide +kernel, rfl, by decide +kernel, by decide +kernel⟩
theorem b_i_BadStock (T : Txt K mg base a) : L2.Binds K a.fi_BadStock ["self", "part"] [] := T.F_i_BadStock.binds fun _ _ _ _ _ _ us hl => match us, hl with
  | [_, _], _ => rfl
theorem ok_i_BadStock (T : Txt K mg base a) : FnOk P w0 K mg base (L2.CX P w0) 1 a.i_BadStock a.fi_BadStock ["self", "part"] (spI1 K "part") := ok_init1 (ps := []) T.F_i_BadStock sc_i_BadStock rfl (by decide) (by decide) (Or.inl rfl) (Or.inl rfl) (fun _ => rfl)
theorem sc_i_BadCourse : FnScope ["self", "part"] ["self", "part"] (defScope s_i_BadCourse) := ⟨rfl, rfl, rfl, by decide +kernel, rfl, by decide +kernel, by decide +kernel⟩
theorem b_i_BadCourse (T : Txt K mg base a) : L2.Binds K a.fi_BadCourse ["self", "part"] [] := T.F_i_BadCourse.binds fun _ _ _ _ _ _ us hl => match us, hl with
  | [_, _], _ => rfl
theorem ok_i_BadCourse (T : Txt K mg base a) : FnOk P w0 K mg base (L2.CX P w0) 1 a.i_BadCourse a.fi_BadCourse ["self", "part"] (spI1 K "part") := ok_init1 (ps := []) T.F_i_BadCourse sc_i_BadCourse rfl (by decide) (by decide) (Or.inl rfl) (Or.inl rfl) (fun _ => rfl)
theorem sc_i_TooMany : FnScope ["self", "what", "most"] ["self", "what", "most"] (defScope s_i_TooMany) := ⟨rfl, rfl, rfl, by decide +kernel, rfl, by decide +kernel, by decide +kernel⟩
theorem b_i_TooMany (T : Txt K mg base a) : L2.Binds K a.fi_TooMany ["self", "what", "most"] [] := T.F_i_TooMany.binds fun _ _ _ _ _ _ us hl => match us, hl with
  | [_, _, _], _ => rfl
theorem ok_i_TooMany (T : Txt K mg base a) : FnOk P w0 K mg base (L2.CX P w0) 1 a.i_TooMany a.fi_TooMany ["self", "what", "most"] (spI2 K "what" "most") := ok_init2 (ps := []) T.F_i_TooMany sc_i_TooMany rfl (by decide) (by decide) (by decide) (by decide) (Or.inl rfl) (Or.inl rfl) (Or.inl rfl) (fun _ => rfl) (fun _ => rfl)
theorem sc_i_BadText : FnScope ["self", "line", "item"] ["self", "line", "item"] (defScope s_i_BadText) := ⟨rfl, rfl, rfl, by decide +kernel, rfl, by decide +kernel, by decide +kernel⟩
theorem b_i_BadText (T : Txt K mg base a) : L2.Binds K a.fi_BadText ["self", "line", "item"] [] := T.F_i_BadText.binds fun _ _ _ _ _ _ us hl => match us, hl with
  | [_, _, _], _ => rfl
theorem ok_i_BadText (T : Txt K mg base a) : FnOk P w0 K mg base (L2.CX P w0) 1 a.i_BadText a.fi_BadText ["self", "line", "item"] (spI2 K "line" "item") := ok_init2 (ps := []) T.F_i_BadText sc_i_BadText rfl (by decide) (by decide) (by decide) (by decide) (Or.inl rfl) (Or.inl rfl) (Or.inl rfl) (fun _ => rfl) (fun _ => rfl)
theorem sc_i_BadShift : FnScope ["self", "part"] ["self", "part"] (defScope s_i_BadShift) := ⟨rfl, rfl, rfl, by decide +kernel, rfl, by decide +kernel, by decide +kernel⟩
theorem b_i_BadShift (T : Txt K mg base a) : L2.Binds K a.fi_BadShift ["self", "part"] [] := T.F_i_BadShift.binds fun _ _ _ _ _ _ us hl => match us, hl with
  | [_, _], _ => rfl
theorem ok_i_BadShift (T : Txt K mg base a) : FnOk P w0 K mg base (L2.CX P w0) 1 a.i_BadShift a.fi_BadShift ["self", "part"] (spI1 K "part") := ok_init1 (ps := []) T.F_i_BadShift sc_i_BadShift rfl (by decide) (by decide) (Or.inl rfl) (Or.inl rfl) (fun _ => rfl)
theorem sc_i_Missing : FnScope ["self", "value"] ["self", "value"] (defScope s_i_Missing) := ⟨rfl, rfl, rfl, by decide +kernel, rfl, by decide +kernel, by decide +kernel⟩
theorem b_i_Missing (T : Txt K mg base a) : L2.Binds K a.fi_Missing ["self", "value"] [] := T.F_i_Missing.binds fun _ _ _ _ _ _ us hl => match us, hl with
  | [_, _], _ => rfl
theorem ok_i_Missing (T : Txt K mg base a) : FnOk P w0 K mg base (L2.CX P w0) 1 a.i_Missing a.fi_Missing ["self", "value"] (spI1 K "value") := ok_init1 (ps := []) T.F_i_Missing sc_i_Missing rfl (by decide) (by decide) (Or.inl rfl) (Or.inl rfl) (fun _ => rfl)
theorem kb_0_Course_init (T : Txt K mg base a) : KBd K a.fd_Course_init ["self", "shifts"] 2 [] (0 :: ([0] : List Nat).map (· + 1)) [] :=
  kbd_of0 T.F_Course_init fun _ _ _ _ _ _ us ws h1 h2 => match us, ws, h1, h2 with
  | [_, _], [], _, _ => rfl
theorem kb_1_Shift_init (T : Txt K mg base a) : KBd K a.fd_Shift_init ["self", "old", "new", "left", "right"] 5 [] (0 :: ([0, 1, 2, 3] : List Nat).map (· + 1)) [.non, .non] :=
  kbd_of T.F_Shift_init (by simp) fun _ _ _ _ _ _ _ us ws its h1 h2 h3 => match us, ws, its, h1, h2, h3 with
  | [_, _, _, _, _], [], [_, _], _, _, _ => ⟨_, rfl, rfl⟩
theorem kb_2_mothers_of (T : Txt K mg base a) : KBp K a.fd_mothers_of ["course", "stock", "outcome"] 0 ["outcome", "stock", "course"] [2, 1, 0] :=
  kb_of T.F_mothers_of fun _ _ _ _ _ _ us ws h1 h2 => match us, ws, h1, h2 with
  | [], [_, _, _], _, _ => rfl
theorem kb_3_Course_done (T : Txt K mg base a) : KBd K a.fd_Course_done ["self", "word"] 2 [] (0 :: ([0] : List Nat).map (· + 1)) [] :=
  kbd_of0 T.F_Course_done fun _ _ _ _ _ _ us ws h1 h2 => match us, ws, h1, h2 with
  | [_, _], [], _, _ => rfl
theorem kb_4_Shift_init (T : Txt K mg base a) : KBd K a.fd_Shift_init ["self", "old", "new", "left", "right"] 3 [] (0 :: ([0, 1, 2, 3] : List Nat).map (· + 1)) [.non, .non] :=
  kbd_of T.F_Shift_init (by simp) fun _ _ _ _ _ _ _ us ws its h1 h2 h3 => match us, ws, its, h1, h2, h3 with
  | [_, _, _], [], [_, _], _, _, _ => ⟨_, rfl, rfl⟩
def m__law_pen : SD → List D → R (List D) :=
  (mLstF (mCons (mF (mComp (mSeqI (mSl (mVB 0) mNoP (mPart (mC (.int 60))))) (gN 1) mYes (mCB fInt (mCons (mVB 1) mNil)) [1])) (mCons (mC (.int 0)) (mCons (mC (.int 0)) mNil))))
def f__law_pen : List D → List D → R (List D) := fun ds w => m__law_pen (sd0 2 ds) w
theorem ok__law_pen (T : Txt K mg base a) : FnOk P w0 K mg base (L2.CX P w0) 1 a.d__law_pen a.fd__law_pen ["_law_script"] (spPF K a.cl a.T 1 f__law_pen) :=
  ok_penN (m := m__law_pen) T.F__law_pen sc__law_pen rfl rfl (by decide) rfl fun cdv Ax outer s H E ap HP Hs hr => ⟨_, (jsf_ret (jf_lst (ja_cons (je_f (jf_comp (own := [("_law_cell", 1)]) sc__law_pen.nd (jib_seq (jb (je_sl (jb_v 0) jo_none (jo_some je_int)))) (blkOk_by (N := ["_law_script", "_law_cell"]) (sc := defScope s__law_pen) (own := [("_law_cell", 1)]) (by decide +kernel)) (fun _ _ _ _ _ => (jg_name (i := 1) sc__law_pen.nd)) (fun _ _ _ _ _ => jts_nil) (fun _ _ _ _ _ => (je_int1 T.z_int (jab_cons (jb_v 1) jab_nil))))) (ja_cons je_int (ja_cons je_int ja_nil)))))⟩
def b_f__law_draw : MS :=
    (mSeq (mIf (mTst (mBin (oCmp fGt sGt) (mIx (mVB 0) (mC (.int 2))) (mC (.int 0))))
    (mSeq (mAsg (gN 2) (mCB fInt (mCons (mIx (mVB 0) (mC (.int 2))) mNil)))
    (mSeq (mSetI 0 (mC (.int 2)) (mBin oDiv (mVB 2) (mVB 1)))
    (mRet (mBin oMod (mVB 2) (mVB 1)))))
    mSkip)
    (mSeq (mAsg (gN 3) (mIx (mVB 0) (mC (.int 1))))
    (mSeq (mSetI 0 (mC (.int 1)) (mBin oAdd (mVB 3) (mC (.int 1))))
    (mSeq (mAsg (gN 4) (mBin oAdd (mBin oMul (mC (.int 62191)) (mVB 3)) (mC (.int 4831))))
    (mSeq (mIf (mTst (mBin (oEq true) (mIx (mVB 0) (mC (.int 0))) (mLst mNil)))
    (mAsg (gN 4) (mIx (mIx (mVB 0) (mC (.int 0))) (mBin oMod (mCB fInt (mCons (mVB 3) mNil)) (mCB fLen (mCons (mIx (mVB 0) (mC (.int 0))) mNil)))))
    mSkip)
    (mSeq (mIf (mAnd (mTst (mBin (oCmp fLt sLt) (mVB 3) (mCB fLen (mCons (mIx (mVB 0) (mC (.int 0))) mNil)))) (mTst (mBin (oCmp fGe sGe) (mCB fAbs (mCons (mVB 4) mNil)) (mBin oPow (mC (.int 10)) (mC (.int 18))))))
    (mSeq (mAsg (gN 2) (mBin oAdd (mBin oMul (mC (.int 2)) (mBin oSub (mCB fAbs (mCons (mCB fInt (mCons (mVB 4) mNil)) mNil)) (mBin oPow (mC (.int 10)) (mC (.int 18))))) (mCB fInt (mCons (mBin (oCmp fLt sLt) (mVB 4) (mC (.int 0))) mNil))))
    (mSeq (mSetI 0 (mC (.int 2)) (mBin oDiv (mVB 2) (mVB 1)))
    (mRet (mBin oMod (mCB fInt (mCons (mVB 2) mNil)) (mVB 1)))))
    mSkip)
    (mSeq (mAsg (gN 5) (mBin oMod (mCB fInt (mCons (mBin oPow (mBin oAdd (mBin oAdd (mBin oMod (mCB fInt (mCons (mVB 4) mNil)) (mC (.int 2147483587))) (mBin oMul (mC (.int 62191)) (mVB 3))) (mC (.int 4831))) (mC (.int 5))) mNil)) (mC (.int 2147483563))))
    (mSeq (mAsg (gN 5) (mBin oMod (mCB fInt (mCons (mBin oPow (mBin oAdd (mBin oAdd (mBin oMul (mVB 5) (mBin oAdd (mBin oMul (mC (.int 2)) (mVB 3)) (mC (.int 2381)))) (mBin oMul (mBin oMul (mC (.int 50291)) (mVB 3)) (mVB 3))) (mC (.int 4831))) (mC (.int 3))) mNil)) (mC (.int 2147483549))))
    (mRet (mBin oMod (mCB fInt (mCons (mBin oDiv (mVB 5) (mC (.int 64))) mNil)) (mVB 1)))))))))))
def f__law_draw : List D → List D → R D := runB 6 b_f__law_draw
theorem ok__law_draw (T : Txt K mg base a) : FnOk P w0 K mg base (L2.CX P w0) 1 a.d__law_draw a.fd__law_draw ["_law_pen_here", "_law_many"] (spF K a.cl a.T 2 f__law_draw) :=
  ok_fnN (m := b_f__law_draw) T.F__law_draw sc__law_draw rfl rfl (by decide) fun cdv Ax outer s H E ap HP Hs hr => ⟨_, (jss_cons (js_if (jt_c (jc_gt (jb (je_ix (jb_v 0) (jb je_int))) (jb je_int)))
    (jss_cons (js_set (i := 2) sc__law_draw.nd (je_int1 T.z_int (jab_cons (jb (je_ix (jb_v 0) (jb je_int))) jab_nil)))
    (jss_cons (js_setI 0 (je_div (jb_v 2) (jb_v 1)) je_int)
    (jss_one (js_ret (je_mod (jb_v 2) (jb_v 1))))))
    jss_nil)
    (jss_cons (js_set (i := 3) sc__law_draw.nd (je_ix (jb_v 0) (jb je_int)))
    (jss_cons (js_setI 0 (je_add (jb_v 3) (jb je_int)) je_int)
    (jss_cons (js_set (i := 4) sc__law_draw.nd (je_add (jb (je_mul (jb je_int) (jb_v 3))) (jb je_int)))
    (jss_cons (js_if (jt_c (jc_ne hr (jb (je_ix (jb_v 0) (jb je_int))) (jb (je_lst ja_nil))))
    (jss_one (js_set (i := 4) sc__law_draw.nd (je_ix (jb (je_ix (jb_v 0) (jb je_int))) (jb (je_mod (jb (je_int1 T.z_int (jab_cons (jb_v 3) jab_nil))) (jb (je_len T.z_len (jab_cons (jb (je_ix (jb_v 0) (jb je_int))) jab_nil))))))))
    jss_nil)
    (jss_cons (js_if (jt_w (jw_and (jt_c (jc_lt (jb_v 3) (jb (je_len T.z_len (jab_cons (jb (je_ix (jb_v 0) (jb je_int))) jab_nil))))) (jw_and1 (jt_c (jc_ge (jb (je_abs T.z_abs (jab_cons (jb_v 4) jab_nil))) (jb (je_pow (jb je_int) (jb je_int))))))))
    (jss_cons (js_set (i := 2) sc__law_draw.nd (je_add (jb (je_mul (jb je_int) (jb (je_sub (jb (je_abs T.z_abs (jab_cons (jb (je_int1 T.z_int (jab_cons (jb_v 4) jab_nil))) jab_nil))) (jb (je_pow (jb je_int) (jb je_int))))))) (jb (je_int1 T.z_int (jab_cons (jb (je_lt (jb_v 4) (jb je_int))) jab_nil)))))
    (jss_cons (js_setI 0 (je_div (jb_v 2) (jb_v 1)) je_int)
    (jss_one (js_ret (je_mod (jb (je_int1 T.z_int (jab_cons (jb_v 2) jab_nil))) (jb_v 1))))))
    jss_nil)
    (jss_cons (js_set (i := 5) sc__law_draw.nd (je_mod (jb (je_int1 T.z_int (jab_cons (jb (je_pow (jb (je_add (jb (je_add (jb (je_mod (jb (je_int1 T.z_int (jab_cons (jb_v 4) jab_nil))) (jb je_int))) (jb (je_mul (jb je_int) (jb_v 3))))) (jb je_int))) (jb je_int))) jab_nil))) (jb je_int)))
    (jss_cons (js_set (i := 5) sc__law_draw.nd (je_mod (jb (je_int1 T.z_int (jab_cons (jb (je_pow (jb (je_add (jb (je_add (jb (je_mul (jb_v 5) (jb (je_add (jb (je_mul (jb je_int) (jb_v 3))) (jb je_int))))) (jb (je_mul (jb (je_mul (jb je_int) (jb_v 3))) (jb_v 3))))) (jb je_int))) (jb je_int))) jab_nil))) (jb je_int)))
    (jss_one (js_ret (je_mod (jb (je_int1 T.z_int (jab_cons (jb (je_div (jb_v 5) (jb je_int))) jab_nil))) (jb_v 1))))))))))))⟩
def b_f__law_pick : MS :=
    (mRet (mIx (mVB 1) (mCall (nArg 2 f__law_draw) (mCons (mV 0) (mCons (mCB fLen (mCons (mVB 1) mNil)) mNil)))))
def f__law_pick : List D → List D → R D := runB 2 b_f__law_pick
theorem ok__law_pick (T : Txt K mg base a) : FnOk P w0 K mg base (L2.CX P w0) 2 a.d__law_pick a.fd__law_pick ["_law_pen_here", "_law_some"] (spF K a.cl a.T 2 f__law_pick) :=
  ok_fnN (m := b_f__law_pick) T.F__law_pick sc__law_pick rfl rfl (by decide) fun cdv Ax outer s H E ap HP Hs hr => ⟨_, (jss_one (js_ret (je_ix (jb_v 1) (jb (je_call (ok__law_draw T) (hr.mono (by decide)) T.g__law_draw T.F__law_draw.kp (b__law_draw T) (takes_of rfl rfl rfl rfl) (ja_cons (je_v 0) (ja_cons (je_len T.z_len (jab_cons (jb_v 1) jab_nil)) ja_nil)))))))⟩
def b_f__law_side : MS :=
    (mSeq (mIf (mTst (mBin (oCmp fLt sLt) (mCall (nArg 2 f__law_draw) (mCons (mV 0) (mCons (mC (.int 5)) mNil))) (mC (.int 3))))
    (mRet (mC .non))
    mSkip)
    (mSeq (mAsg (gN 2) (mF (mComp (mSeqI (mBin oAdd (mC (.str [35])) (mVB 1))) (gN 3) (mTst (mBin (oEq false) (mCall (nArg 2 f__law_draw) (mCons (mV 0) (mCons (mC (.int 2)) mNil))) (mC (.int 0)))) (mV 3) [3])))
    (mRet (mIfE (mTst (mBin (oEq true) (mVB 2) (mLst mNil))) (mMt fJoin (mC (.str [])) (mCons (mVB 2) mNil)) (mCall (nArg 2 f__law_pick) (mCons (mV 0) (mCons (mBin oAdd (mC (.str [35])) (mVB 1)) mNil)))))))
def f__law_side : List D → List D → R D := runB 4 b_f__law_side
theorem ok__law_side (T : Txt K mg base a) : FnOk P w0 K mg base (L2.CX P w0) 3 a.d__law_side a.fd__law_side ["_law_pen_here", "_law_sounds"] (spF K a.cl a.T 2 f__law_side) :=
  ok_fnN (m := b_f__law_side) T.F__law_side sc__law_side rfl rfl (by decide) fun cdv Ax outer s H E ap HP Hs hr => ⟨_, (jss_cons (js_if (jt_c (jc_lt (jb (je_call (ok__law_draw T) (hr.mono (by decide)) T.g__law_draw T.F__law_draw.kp (b__law_draw T) (takes_of rfl rfl rfl rfl) (ja_cons (je_v 0) (ja_cons je_int ja_nil)))) (jb je_int)))
    (jss_one (js_ret je_non))
    jss_nil)
    (jss_cons (js_setLc (i := 2) (own := [("_law_sign", 3)]) sc__law_side.nd (jib_seq (jb (je_add (jb (je_str [35])) (jb_v 1)))) (blkOk_by (N := ["_law_pen_here", "_law_sounds", "_law_signs", "_law_sign"]) (sc := defScope s__law_side) (own := [("_law_sign", 3)]) (by decide +kernel)) (fun _ _ _ _ _ => (jg_name (i := 3) sc__law_side.nd)) (fun _ _ _ _ _ => (jts_one (jt_c (jc_eq hr (jb (je_call (ok__law_draw T) (hr.mono (by decide)) T.g__law_draw T.F__law_draw.kp (b__law_draw T) L2.takes0 (ja_cons (je_v 0) (ja_cons je_int ja_nil)))) (jb je_int))))) (fun _ _ _ _ _ => (je_v 3)))
    (jss_one (js_ret (je_if (jt_c (jc_ne hr (jb_v 2) (jb (je_lst ja_nil)))) (je_join (jb (je_str [])) (jab_cons (jb_v 2) jab_nil)) (je_call (ok__law_pick T) (hr.mono (by decide)) T.g__law_pick T.F__law_pick.kp (b__law_pick T) (takes_of rfl rfl rfl rfl) (ja_cons (je_v 0) (ja_cons (je_add (jb (je_str [35])) (jb_v 1)) ja_nil))))))))⟩
def b_f__law_world : MS :=
    (mSeq (mAsgVFF (gTu 2 (gsCons (gN 2) (gsCons (gN 3) gsNil))) 4 5 (mCall (nArg 2 f__law_pick) (mCons (mV 0) (mCons (mV 1) mNil))) (mListX (mC (.str [97, 98, 99, 100, 101, 102, 103, 104, 105, 106, 107, 108, 109, 110, 111, 112, 113, 114, 115, 116, 117, 118, 119, 120, 121, 122]))) (mLstF mNil))
    (mSeq (mFor (gN 6) (mRng1 (mBin oAdd (mBin oAdd (mVB 3) (mC (.int 1))) (mCall (nArg 2 f__law_draw) (mCons (mV 0) (mCons (mC (.int 2)) mNil)))))
    (mAppPop 5 4 (mCall (nArg 2 f__law_draw) (mCons (mV 0) (mCons (mCB fLen (mCons (mVB 4) mNil)) mNil)))))
    (mSeq (mSetO 7 (mSortF (mVB 5)))
    (mSeq (whileL (mTst (mBin (oCmp fGt sGt) (mCB fLen (mCons (mVB 7) mNil)) (mVB 3)))
    (mPopS 7 (mCall (nArg 2 f__law_draw) (mCons (mV 0) (mCons (mCB fLen (mCons (mVB 7) mNil)) mNil)))) 1000)
    (mSeq (mPar3F 8 9 10 (mLstF mNil) (mMt fJoin (mC (.str [])) (mCons (mF (mSortF (mVB 5))) mNil)) (mMt fJoin (mC (.str [])) (mCons (mVB 7) mNil)))
    (mSeq (mFor (gN 6) (mRng1 (mV 2))
    (mSeq (mAsg (gN 11) (mCall (nArg 2 f__law_pick) (mCons (mV 0) (mCons (mIfE (mTst (mBin (oCmp fGt sGt) (mCall (nArg 2 f__law_draw) (mCons (mV 0) (mCons (mC (.int 4)) mNil))) (mC (.int 0)))) (mV 10) (mV 9)) mNil))))
    (mSeq (mAsg (gN 12) (mCall (nArg 2 f__law_pick) (mCons (mV 0) (mCons (mF (mComp (mSeqI (mVB 9)) (gN 13) (mTst (mBin (oEq true) (mVB 13) (mVB 11))) (mV 13) [13])) mNil))))
    (mSeq (mApp 8 (mTup (mCons (mV 11) (mCons (mV 12) (mCons (mCall (nArg 2 f__law_side) (mCons (mV 0) (mCons (mV 9) mNil))) (mCons (mCall (nArg 2 f__law_side) (mCons (mV 0) (mCons (mV 9) mNil))) mNil))))))
    (mAsg (gN 10) (mBin oAdd (mVB 10) (mVB 12)))))))
    (mFr 8 (mRet (mTup (mCons (mV 8) (mCons (mMt fJoin (mC (.str [])) (mCons (mVB 7) mNil)) (mCons (mV 9) mNil))))))))))))
def f__law_world : List D → List D → R D := runB 14 b_f__law_world
theorem ok__law_world (T : Txt K mg base a) : FnOk P w0 K mg base (L2.CX P w0) 4 a.d__law_world a.fd__law_world ["_law_pen_here", "_law_sizes"] (spF K a.cl a.T 2 f__law_world) :=
  ok_fnN (m := b_f__law_world) T.F__law_world sc__law_world rfl rfl (by decide) fun cdv Ax outer s H E ap HP Hs hr => ⟨_, (jss_cons (js_asgVFF (j := 4) (l := 5) sc__law_world.nd (je_call (ok__law_pick T) (hr.mono (by decide)) T.g__law_pick T.F__law_pick.kp (b__law_pick T) (takes_of rfl rfl rfl rfl) (ja_cons (je_v 0) (ja_cons (je_v 1) ja_nil))) (jf_listX T.z_list (jb (je_str [97, 98, 99, 100, 101, 102, 103, 104, 105, 106, 107, 108, 109, 110, 111, 112, 113, 114, 115, 116, 117, 118, 119, 120, 121, 122]))) (jf_lst ja_nil) (jg_tup (n := 2) (jgs_cons (jg_name (i := 2) sc__law_world.nd) (jgs_cons (jg_name (i := 3) sc__law_world.nd) jgs_nil))))
    (jss_cons (js_for (passes_of rfl) (ji_rng1 T.z_range (je_add (jb (je_add (jb_v 3) (jb je_int))) (jb (je_call (ok__law_draw T) (hr.mono (by decide)) T.g__law_draw T.F__law_draw.kp (b__law_draw T) (takes_of rfl rfl rfl rfl) (ja_cons (je_v 0) (ja_cons je_int ja_nil)))))) (jg_name (i := 6) sc__law_world.nd)
    (jss_one (js_appPop 5 4 (by decide) (je_call (ok__law_draw T) (hr.mono (by decide)) T.g__law_draw T.F__law_draw.kp (b__law_draw T) (takes_of rfl rfl rfl rfl) (ja_cons (je_v 0) (ja_cons (je_len T.z_len (jab_cons (jb_v 4) jab_nil)) ja_nil))))))
    (jss_cons (js_setO (i := 7) sc__law_world.nd (jf_sorted T.z_sorted (jb_v 5)))
    (jss_cons (js_while 1000 (passes_of rfl) (jt_c (jc_gt (jb (je_len T.z_len (jab_cons (jb_v 7) jab_nil))) (jb_v 3)))
    (jss_one (js_popS 7 (je_call (ok__law_draw T) (hr.mono (by decide)) T.g__law_draw T.F__law_draw.kp (b__law_draw T) (takes_of rfl rfl rfl rfl) (ja_cons (je_v 0) (ja_cons (je_len T.z_len (jab_cons (jb_v 7) jab_nil)) ja_nil))))))
    (jss_cons (js_par3F (i := 8) (j := 9) (l := 10) sc__law_world.nd (jf_lst ja_nil) (je_join (jb (je_str [])) (jab_cons (jb (je_f (jf_sorted T.z_sorted (jb_v 5)))) jab_nil)) (je_join (jb (je_str [])) (jab_cons (jb_v 7) jab_nil)))
    (jss_cons (js_for (passes_of rfl) (ji_rng1 T.z_range (je_v 2)) (jg_name (i := 6) sc__law_world.nd)
    (jss_cons (js_set (i := 11) sc__law_world.nd (je_call (ok__law_pick T) (hr.mono (by decide)) T.g__law_pick T.F__law_pick.kp (b__law_pick T) (takes_of rfl rfl rfl rfl) (ja_cons (je_v 0) (ja_cons (je_if (jt_c (jc_gt (jb (je_call (ok__law_draw T) (hr.mono (by decide)) T.g__law_draw T.F__law_draw.kp (b__law_draw T) (takes_of rfl rfl rfl rfl) (ja_cons (je_v 0) (ja_cons je_int ja_nil)))) (jb je_int))) (je_v 10) (je_v 9)) ja_nil))))
    (jss_cons (js_set (i := 12) sc__law_world.nd (je_call (ok__law_pick T) (hr.mono (by decide)) T.g__law_pick T.F__law_pick.kp (b__law_pick T) (takes_of rfl rfl rfl rfl) (ja_cons (je_v 0) (ja_cons (je_f (jf_comp (own := [("_law_sign", 13)]) sc__law_world.nd (jib_seq (jb_v 9)) (blkOk_by (N := ["_law_pen_here", "_law_sizes", "_law_many", "_law_size", "_law_left", "_law_sounds", "_law_turn", "_law_stock", "_law_rules", "_law_known", "_law_likely", "_law_old", "_law_new", "_law_sign"]) (sc := defScope s__law_world) (own := [("_law_sign", 13)]) (by decide +kernel)) (fun _ _ _ _ _ => (jg_name (i := 13) sc__law_world.nd)) (fun _ _ _ _ _ => (jts_one (jt_c (jc_ne hr (jb_v 13) (jb_v 11))))) (fun _ _ _ _ _ => (je_v 13)))) ja_nil))))
    (jss_cons (js_app 8 (je_tup (ja_cons (je_v 11) (ja_cons (je_v 12) (ja_cons (je_call (ok__law_side T) (hr.mono (by decide)) T.g__law_side T.F__law_side.kp (b__law_side T) (takes_of rfl rfl rfl rfl) (ja_cons (je_v 0) (ja_cons (je_v 9) ja_nil))) (ja_cons (je_call (ok__law_side T) (hr.mono (by decide)) T.g__law_side T.F__law_side.kp (b__law_side T) (takes_of rfl rfl rfl rfl) (ja_cons (je_v 0) (ja_cons (je_v 9) ja_nil))) ja_nil))))))
    (jss_one (js_set (i := 10) sc__law_world.nd (je_add (jb_v 10) (jb_v 12))))))))
    (jss_one (js_fr 8 (js_ret (je_tup (ja_cons (je_v 8) (ja_cons (je_join (jb (je_str [])) (jab_cons (jb_v 7) jab_nil)) (ja_cons (je_v 9) ja_nil)))))))))))))⟩
def b_f__law_word : MS :=
    (mRet (mMt fJoin (mC (.str [])) (mCons (mF (mComp (mRng1 (mV 2)) (gN 3) mYes (mCall (nArg 2 f__law_pick) (mCons (mV 0) (mCons (mV 1) mNil))) [3])) mNil)))
def f__law_word : List D → List D → R D := runB 4 b_f__law_word
theorem ok__law_word (T : Txt K mg base a) : FnOk P w0 K mg base (L2.CX P w0) 3 a.d__law_word a.fd__law_word ["_law_pen_here", "_law_sounds", "_law_size"] (spF K a.cl a.T 3 f__law_word) :=
  ok_fnN (m := b_f__law_word) T.F__law_word sc__law_word rfl rfl (by decide) fun cdv Ax outer s H E ap HP Hs hr => ⟨_, (jss_one (js_ret (je_join (jb (je_str [])) (jab_cons (jb (je_f (jf_comp (own := [("_law_turn", 3)]) sc__law_word.nd (jib (ji_rng1 T.z_range (je_v 2))) (blkOk_by (N := ["_law_pen_here", "_law_sounds", "_law_size", "_law_turn"]) (sc := defScope s__law_word) (own := [("_law_turn", 3)]) (by decide +kernel)) (fun _ _ _ _ _ => (jg_name (i := 3) sc__law_word.nd)) (fun _ _ _ _ _ => jts_nil) (fun _ _ _ _ _ => (je_call (ok__law_pick T) (hr.mono (by decide)) T.g__law_pick T.F__law_pick.kp (b__law_pick T) L2.takes0 (ja_cons (je_v 0) (ja_cons (je_v 1) ja_nil))))))) jab_nil))))⟩
def b_f_sounds_in_shifts : MS :=
    (mRet (mMt fJoin (mC (.str [])) (mCons (mF (mComp (mSeqI (mC (.str [97, 98, 99, 100, 101, 102, 103, 104, 105, 106, 107, 108, 109, 110, 111, 112, 113, 114, 115, 116, 117, 118, 119, 120, 121, 122]))) (gN 1) (mTru (mCB fAny (mCons (mF (mComp (mSeqI (mVB 0)) (gN 2) mYes (mBin (oIn false) (mVB 1) (mVB 2)) [2])) mNil))) (mV 1) [1])) mNil)))
def f_sounds_in_shifts : List D → List D → R D := runB 3 b_f_sounds_in_shifts
theorem ok_sounds_in_shifts (T : Txt K mg base a) : FnOk P w0 K mg base (L2.CX P w0) 1 a.d_sounds_in_shifts a.fd_sounds_in_shifts ["texts"] (spF K a.cl a.T 1 f_sounds_in_shifts) :=
  ok_fnN (m := b_f_sounds_in_shifts) T.F_sounds_in_shifts sc_sounds_in_shifts rfl rfl (by decide) fun cdv Ax outer s H E ap HP Hs hr => ⟨_, (jss_one (js_ret (je_join (jb (je_str [])) (jab_cons (jb (je_f (jf_comp (own := [("sound", 1)]) sc_sounds_in_shifts.nd (jib_seq (jb (je_globS [97, 98, 99, 100, 101, 102, 103, 104, 105, 106, 107, 108, 109, 110, 111, 112, 113, 114, 115, 116, 117, 118, 119, 120, 121, 122] T.k_LETTERS))) (blkOk_by (N := ["texts", "sound", "text"]) (sc := defScope s_sounds_in_shifts) (own := [("sound", 1)]) (by decide +kernel)) (fun _ _ _ _ _ => (jg_name (i := 1) sc_sounds_in_shifts.nd)) (fun _ _ _ _ _ => (jts_one (jt_tru (jb (je_any T.z_any (jab_cons (jb (je_f (jf_comp (own := [("text", 2)]) sc_sounds_in_shifts.nd (jib_seq (jb_v 0)) (blkOk_by2 (N := ["texts", "sound", "text"]) (sc := (relSc (scAt s_sounds_in_shifts [0] [0, 1]) (defScope s_sounds_in_shifts))) (own := [("text", 2)]) (by decide +kernel)) (fun _ _ _ _ _ => (jg_name (i := 2) sc_sounds_in_shifts.nd)) (fun _ _ _ _ _ => jts_nil) (fun _ _ _ _ _ => (je_in hr (jb_v 1) (jb_v 2)))))) jab_nil)))))) (fun _ _ _ _ _ => (je_v 1))))) jab_nil))))⟩
def b_f_Course_init : MS :=
    (mSeq (mIf (mOr (mNotT (mTru (mIsi ["list", "tuple"] (mVB 1)))) (mNotT (mTru (mCB fAll (mCons (mF (mComp (mSeqI (mVB 1)) (gN 2) mYes (mIsiC okc tb_Shift (mVB 2)) [2])) mNil)))))
    (mRaise1 2 "part" (mCons (mC (.str [115, 104, 105, 102, 116, 115])) mNil))
    mSkip)
    (mSeq (mIf (mTst (mBin (oCmp fGt sGt) (mCB fLen (mCons (mVB 1) mNil)) (mC (.int 6))))
    (mRaise2 3 "what" "most" (mCons (mC (.str [115, 104, 105, 102, 116, 115])) (mCons (mC (.int 6)) mNil)))
    mSkip)
    (mSeq (mFldP okf_shifts "shifts" 0 (mCB fTuple (mCons (mVB 1) mNil)))
    (mSeq (mFldP okf_falls "falls" 0 (mCB fAny (mCons (mF (mComp (mSeqI (mVB 1)) (gN 2) mYes (mFld okf_falls "falls" (mVB 2)) [2])) mNil)))
    (mFldP okf_sounds "sounds" 0 (mCall (nArg 1 f_sounds_in_shifts) (mCons (mF (mComp (mSeqI (mVB 1)) (gN 2) mYes (mFld okf_sounds "sounds" (mVB 2)) [2])) mNil)))))))
def f_Course_init : Nat → List D → List D → R (List Str × List D) := runN 2 b_f_Course_init
theorem ok_Course_init (T : Txt K mg base a) : FnOk P w0 K mg base (L2.CX P w0) 3 a.d_Course_init a.fd_Course_init ["self", "shifts"] (spN K a.cl a.T 1 f_Course_init) :=
  ok_initN (N := ["shifts", "rule"]) (m := b_f_Course_init) T.F_Course_init sc_Course_init rfl (by decide) fun cdv Ax outer s H E ap HP H0 Hs ad hr => ⟨_, (jss_cons (js_if (jt_w (jw_or (jt_not (jt_tru (jb (je_isi2 "list" "tuple" "list" "tuple" (by decide) (by decide) T.z_isinstance T.z_list T.z_tuple (by decide +kernel) (by decide +kernel) (jb_v 1))))) (jw_or1 (jt_not (jt_tru (jb (je_all T.z_all (jab_cons (jb (je_f (jf_comp (own := [("rule", 2)]) sc_Course_init.nd (jib_seq (jb_v 1)) (blkOk_by (N := ["self", "shifts", "rule"]) (sc := defScope s_Course_init) (own := [("rule", 2)]) (by decide +kernel)) (fun _ _ _ _ _ => (jg_name (i := 2) sc_Course_init.nd)) (fun _ _ _ _ _ => jts_nil) (fun _ _ _ _ _ => (je_isiC (kit_Shift T) T.z_isinstance T.g_Shift (jb_v 2)))))) jab_nil))))))))
    (jss_one (js_raise1 (ClsF.xc (n := 2) T.x_BadCourse) (ok_i_BadCourse T) (hr.mono (by decide)) (b_i_BadCourse T) T.xn_BadCourse_part (takes_of rfl rfl rfl rfl) (ja_cons (je_str [115, 104, 105, 102, 116, 115]) ja_nil)))
    jss_nil)
    (jss_cons (js_if (jt_c (jc_gt (jb (je_len T.z_len (jab_cons (jb_v 1) jab_nil))) (jb (je_globI T.k_MOST_SHIFTS))))
    (jss_one (js_raise2 (ClsF.xc (n := 3) T.x_TooMany) (ok_i_TooMany T) (hr.mono (by decide)) (b_i_TooMany T) T.xn_TooMany_what T.xn_TooMany_most (takes_of rfl rfl rfl rfl) (ja_cons (je_str [115, 104, 105, 102, 116, 115]) (ja_cons (je_globI T.k_MOST_SHIFTS) ja_nil))))
    jss_nil)
    (jss_cons (js_fldP 0 (fl_shifts T) (je_tuple T.z_tuple (jab_cons (jb_v 1) jab_nil)))
    (jss_cons (js_fldP 0 (fl_falls T) (je_any T.z_any (jab_cons (jb (je_f (jf_comp (own := [("rule", 2)]) sc_Course_init.nd (jib_seq (jb_v 1)) (blkOk_by (N := ["self", "shifts", "rule"]) (sc := defScope s_Course_init) (own := [("rule", 2)]) (by decide +kernel)) (fun _ _ _ _ _ => (jg_name (i := 2) sc_Course_init.nd)) (fun _ _ _ _ _ => jts_nil) (fun _ _ _ _ _ => (je_fld (fl_falls T) (jb_v 2)))))) jab_nil)))
    (jss_one (js_fldP 0 (fl_sounds T) (je_call (ok_sounds_in_shifts T) (hr.mono (by decide)) T.g_sounds_in_shifts T.F_sounds_in_shifts.kp (b_sounds_in_shifts T) (takes_of rfl rfl rfl rfl) (ja_cons (je_f (jf_comp (own := [("rule", 2)]) sc_Course_init.nd (jib_seq (jb_v 1)) (blkOk_by (N := ["self", "shifts", "rule"]) (sc := defScope s_Course_init) (own := [("rule", 2)]) (by decide +kernel)) (fun _ _ _ _ _ => (jg_name (i := 2) sc_Course_init.nd)) (fun _ _ _ _ _ => jts_nil) (fun _ _ _ _ _ => (je_fld (fl_sounds T) (jb_v 2))))) ja_nil))))))))⟩
def b_f_is_sound : MS :=
    (mRet (mAndV (mIsi ["str"] (mVB 0)) (mAndV (mBin (oEq false) (mCB fLen (mCons (mVB 0) mNil)) (mC (.int 1))) (mBin (oIn false) (mVB 0) (mC (.str [97, 98, 99, 100, 101, 102, 103, 104, 105, 106, 107, 108, 109, 110, 111, 112, 113, 114, 115, 116, 117, 118, 119, 120, 121, 122]))))))
def f_is_sound : List D → List D → R D := runB 1 b_f_is_sound
theorem ok_is_sound (T : Txt K mg base a) : FnOk P w0 K mg base (L2.CX P w0) 1 a.d_is_sound a.fd_is_sound ["value"] (spF K a.cl a.T 1 f_is_sound) :=
  ok_fnN (m := b_f_is_sound) T.F_is_sound sc_is_sound rfl rfl (by decide) fun cdv Ax outer s H E ap HP Hs hr => ⟨_, (jss_one (js_ret (je_and (je_isi "str" "str" (by decide) T.z_isinstance T.z_str (by decide +kernel) (jb_v 0)) (je_and (je_eq hr (jb (je_len T.z_len (jab_cons (jb_v 0) jab_nil))) (jb je_int)) (je_one (je_in hr (jb_v 0) (jb (je_globS [97, 98, 99, 100, 101, 102, 103, 104, 105, 106, 107, 108, 109, 110, 111, 112, 113, 114, 115, 116, 117, 118, 119, 120, 121, 122] T.k_LETTERS))))))))⟩
def b_f_is_new : MS :=
    (mRet (mAndV (mIsi ["str"] (mVB 0)) (mAndV (mBin (oEq true) (mVB 0) (mVB 1)) (mOrV (mBin (oEq false) (mVB 0) (mC (.str []))) (mCall (nArg 1 f_is_sound) (mCons (mV 0) mNil))))))
def f_is_new : List D → List D → R D := runB 2 b_f_is_new
theorem ok_is_new (T : Txt K mg base a) : FnOk P w0 K mg base (L2.CX P w0) 2 a.d_is_new a.fd_is_new ["value", "old"] (spF K a.cl a.T 2 f_is_new) :=
  ok_fnN (m := b_f_is_new) T.F_is_new sc_is_new rfl rfl (by decide) fun cdv Ax outer s H E ap HP Hs hr => ⟨_, (jss_one (js_ret (je_and (je_isi "str" "str" (by decide) T.z_isinstance T.z_str (by decide +kernel) (jb_v 0)) (je_and (je_ne hr (jb_v 0) (jb_v 1)) (je_one (je_or (je_eq hr (jb_v 0) (jb (je_str []))) (je_one (je_call (ok_is_sound T) (hr.mono (by decide)) T.g_is_sound T.F_is_sound.kp (b_is_sound T) (takes_of rfl rfl rfl rfl) (ja_cons (je_v 0) ja_nil)))))))))⟩
def b_f_is_side : MS :=
    (mSeq (mIf (mTst (mBin (oIs false) (mVB 0) (mC .non)))
    (mRet (mC (.bl true)))
    mSkip)
    (mSeq (mIf (mOr (mNotT (mTru (mIsi ["str"] (mVB 0)))) (mOr (mTst (mBin (oEq false) (mVB 0) (mC (.str [])))) (mNotT (mTru (mCB fAll (mCons (mF (mComp (mSeqI (mVB 0)) (gN 1) mYes (mOrV (mBin (oEq false) (mVB 1) (mC (.str [35]))) (mBin (oIn false) (mVB 1) (mC (.str [97, 98, 99, 100, 101, 102, 103, 104, 105, 106, 107, 108, 109, 110, 111, 112, 113, 114, 115, 116, 117, 118, 119, 120, 121, 122])))) [1])) mNil))))))
    (mRet (mC (.bl false)))
    mSkip)
    (mRet (mCB fAll (mCons (mF (mComp (mZipX (mCons (mSl (mVB 0) mNoP (mPart (mUn oNeg (mC (.int 1))))) (mCons (mSl (mVB 0) (mPart (mC (.int 1))) mNoP) mNil))) (gTu 2 (gsCons (gN 2) (gsCons (gN 3) gsNil))) mYes (mBin (oCmp fLt sLt) (mVB 2) (mVB 3)) [2, 3])) mNil)))))
def f_is_side : List D → List D → R D := runB 4 b_f_is_side
theorem ok_is_side (T : Txt K mg base a) : FnOk P w0 K mg base (L2.CX P w0) 1 a.d_is_side a.fd_is_side ["value"] (spF K a.cl a.T 1 f_is_side) :=
  ok_fnN (m := b_f_is_side) T.F_is_side sc_is_side rfl rfl (by decide) fun cdv Ax outer s H E ap HP Hs hr => ⟨_, (jss_cons (js_if (jt_c (jc_is (jb_v 0) (jb je_non)))
    (jss_one (js_ret je_bl))
    jss_nil)
    (jss_cons (js_if (jt_w (jw_or (jt_not (jt_tru (jb (je_isi "str" "str" (by decide) T.z_isinstance T.z_str (by decide +kernel) (jb_v 0))))) (jw_or (jt_c (jc_eq hr (jb_v 0) (jb (je_str [])))) (jw_or1 (jt_not (jt_tru (jb (je_all T.z_all (jab_cons (jb (je_f (jf_comp (own := [("sign", 1)]) sc_is_side.nd (jib_seq (jb_v 0)) (blkOk_by (N := ["value", "sign", "one", "other"]) (sc := defScope s_is_side) (own := [("sign", 1)]) (by decide +kernel)) (fun _ _ _ _ _ => (jg_name (i := 1) sc_is_side.nd)) (fun _ _ _ _ _ => jts_nil) (fun _ _ _ _ _ => (je_or (je_eq hr (jb_v 1) (jb (je_globS [35] T.k_EDGE))) (je_one (je_in hr (jb_v 1) (jb (je_globS [97, 98, 99, 100, 101, 102, 103, 104, 105, 106, 107, 108, 109, 110, 111, 112, 113, 114, 115, 116, 117, 118, 119, 120, 121, 122] T.k_LETTERS))))))))) jab_nil)))))))))
    (jss_one (js_ret je_bl))
    jss_nil)
    (jss_one (js_ret (je_all T.z_all (jab_cons (jb (je_f (jf_comp (own := [("one", 2), ("other", 3)]) sc_is_side.nd (jib_zipX T.z_zip (jab_cons (jb (je_sl (jb_v 0) jo_none (jo_some (je_neg je_int)))) (jab_cons (jb (je_sl (jb_v 0) (jo_some je_int) jo_none)) jab_nil))) (blkOk_by (N := ["value", "sign", "one", "other"]) (sc := defScope s_is_side) (own := [("one", 2), ("other", 3)]) (by decide +kernel)) (fun _ _ _ _ _ => (jg_tup (n := 2) (jgs_cons (jg_name (i := 2) sc_is_side.nd) (jgs_cons (jg_name (i := 3) sc_is_side.nd) jgs_nil)))) (fun _ _ _ _ _ => jts_nil) (fun _ _ _ _ _ => (je_lt (jb_v 2) (jb_v 3)))))) jab_nil))))))⟩
def b_f_Shift_init : MS :=
    (mSeq (mIf (mNotT (mTru (mCall (nArg 1 f_is_sound) (mCons (mV 1) mNil))))
    (mRaise1 5 "part" (mCons (mC (.str [111, 108, 100])) mNil))
    mSkip)
    (mSeq (mIf (mNotT (mTru (mCall (nArg 2 f_is_new) (mCons (mV 2) (mCons (mV 1) mNil)))))
    (mRaise1 5 "part" (mCons (mC (.str [110, 101, 119])) mNil))
    mSkip)
    (mSeq (mIf (mNotT (mTru (mCall (nArg 1 f_is_side) (mCons (mV 3) mNil))))
    (mRaise1 5 "part" (mCons (mC (.str [108, 101, 102, 116])) mNil))
    mSkip)
    (mSeq (mIf (mNotT (mTru (mCall (nArg 1 f_is_side) (mCons (mV 4) mNil))))
    (mRaise1 5 "part" (mCons (mC (.str [114, 105, 103, 104, 116])) mNil))
    mSkip)
    (mSeq (mFldP okf_old "old" 0 (mV 1))
    (mSeq (mFldP okf_new "new" 0 (mV 2))
    (mSeq (mFldP okf_left "left" 0 (mV 3))
    (mSeq (mFldP okf_right "right" 0 (mV 4))
    (mSeq (mFldP okf_falls "falls" 0 (mBin (oEq false) (mVB 2) (mC (.str []))))
    (mFldP okf_sounds "sounds" 0 (mCall (nArg 1 f_sounds_in_shifts) (mCons (mLst (mCons (mV 1) (mCons (mV 2) (mCons (mOrT (mV 3) (mC (.str []))) (mCons (mOrT (mV 4) (mC (.str []))) mNil))))) mNil))))))))))))
def f_Shift_init : Nat → List D → List D → R (List Str × List D) := runN 4 b_f_Shift_init
theorem ok_Shift_init (T : Txt K mg base a) : FnOk P w0 K mg base (L2.CX P w0) 3 a.d_Shift_init a.fd_Shift_init ["self", "old", "new", "left", "right"] (spN K a.cl a.T 4 f_Shift_init) :=
  ok_initD (N := ["old", "new", "left", "right"]) (m := b_f_Shift_init) T.F_Shift_init sc_Shift_init rfl (by decide) fun cdv Ax outer s H E ap HP H0 Hs ad hr => ⟨_, (jss_cons (js_if (jt_not (jt_tru (jb (je_call (ok_is_sound T) (hr.mono (by decide)) T.g_is_sound T.F_is_sound.kp (b_is_sound T) (takes_of rfl rfl rfl rfl) (ja_cons (je_v 1) ja_nil)))))
    (jss_one (js_raise1 (ClsF.xc (n := 5) T.x_BadShift) (ok_i_BadShift T) (hr.mono (by decide)) (b_i_BadShift T) T.xn_BadShift_part (takes_of rfl rfl rfl rfl) (ja_cons (je_str [111, 108, 100]) ja_nil)))
    jss_nil)
    (jss_cons (js_if (jt_not (jt_tru (jb (je_call (ok_is_new T) (hr.mono (by decide)) T.g_is_new T.F_is_new.kp (b_is_new T) (takes_of rfl rfl rfl rfl) (ja_cons (je_v 2) (ja_cons (je_v 1) ja_nil))))))
    (jss_one (js_raise1 (ClsF.xc (n := 5) T.x_BadShift) (ok_i_BadShift T) (hr.mono (by decide)) (b_i_BadShift T) T.xn_BadShift_part (takes_of rfl rfl rfl rfl) (ja_cons (je_str [110, 101, 119]) ja_nil)))
    jss_nil)
    (jss_cons (js_if (jt_not (jt_tru (jb (je_call (ok_is_side T) (hr.mono (by decide)) T.g_is_side T.F_is_side.kp (b_is_side T) (takes_of rfl rfl rfl rfl) (ja_cons (je_v 3) ja_nil)))))
    (jss_one (js_raise1 (ClsF.xc (n := 5) T.x_BadShift) (ok_i_BadShift T) (hr.mono (by decide)) (b_i_BadShift T) T.xn_BadShift_part (takes_of rfl rfl rfl rfl) (ja_cons (je_str [108, 101, 102, 116]) ja_nil)))
    jss_nil)
    (jss_cons (js_if (jt_not (jt_tru (jb (je_call (ok_is_side T) (hr.mono (by decide)) T.g_is_side T.F_is_side.kp (b_is_side T) (takes_of rfl rfl rfl rfl) (ja_cons (je_v 4) ja_nil)))))
    (jss_one (js_raise1 (ClsF.xc (n := 5) T.x_BadShift) (ok_i_BadShift T) (hr.mono (by decide)) (b_i_BadShift T) T.xn_BadShift_part (takes_of rfl rfl rfl rfl) (ja_cons (je_str [114, 105, 103, 104, 116]) ja_nil)))
    jss_nil)
    (jss_cons (js_fldP 0 (fl_old T) (je_v 1))
    (jss_cons (js_fldP 0 (fl_new T) (je_v 2))
    (jss_cons (js_fldP 0 (fl_left T) (je_v 3))
    (jss_cons (js_fldP 0 (fl_right T) (je_v 4))
    (jss_cons (js_fldP 0 (fl_falls T) (je_eq hr (jb_v 2) (jb (je_str []))))
    (jss_one (js_fldP 0 (fl_sounds T) (je_call (ok_sounds_in_shifts T) (hr.mono (by decide)) T.g_sounds_in_shifts T.F_sounds_in_shifts.kp (b_sounds_in_shifts T) (takes_of rfl rfl rfl rfl) (ja_cons (je_lst (ja_cons (je_v 1) (ja_cons (je_v 2) (ja_cons (je_orT (je_v 3) (je_one (je_str []))) (ja_cons (je_orT (je_v 4) (je_one (je_str []))) ja_nil))))) ja_nil)))))))))))))⟩
def b_f__law_made : MS :=
    (mRet (mMakeG 7 1 0 [0] [] (nArgN 1 f_Course_init) (mCons (mF (mComp (mSeqI (mVB 0)) (gTu 4 (gsCons (gN 1) (gsCons (gN 2) (gsCons (gN 3) (gsCons (gN 4) gsNil))))) mYes (mMakeG 8 4 0 [0, 1, 2, 3] [.non, .non] (nArgN 4 f_Shift_init) (mCons (mV 1) (mCons (mV 2) (mCons (mV 3) (mCons (mV 4) mNil)))) mNil) [1, 2, 3, 4])) mNil) mNil))
def f__law_made : List D → List D → R D := runB 5 b_f__law_made
theorem ok__law_made (T : Txt K mg base a) : FnOk P w0 K mg base (L2.CX P w0) 5 a.d__law_made a.fd__law_made ["_law_rules"] (spF K a.cl a.T 1 f__law_made) :=
  ok_fnN (m := b_f__law_made) T.F__law_made sc__law_made rfl rfl (by decide) fun cdv Ax outer s H E ap HP Hs hr => ⟨_, (jss_one (js_ret (je_makeG (c := 7) (idx := [0]) (dv := []) T.mk_Course (ok_Course_init T) (hr.mono (by decide)) T.g_Course (kb_0_Course_init T) rfl (takes_of rfl rfl rfl rfl) (ja_cons (je_f (jf_comp (own := [("_law_old", 1), ("_law_new", 2), ("_law_left", 3), ("_law_right", 4)]) sc__law_made.nd (jib_seq (jb_v 0)) (blkOk_by (N := ["_law_rules", "_law_old", "_law_new", "_law_left", "_law_right"]) (sc := defScope s__law_made) (own := [("_law_old", 1), ("_law_new", 2), ("_law_left", 3), ("_law_right", 4)]) (by decide +kernel)) (fun _ _ _ _ _ => (jg_tup (n := 4) (jgs_cons (jg_name (i := 1) sc__law_made.nd) (jgs_cons (jg_name (i := 2) sc__law_made.nd) (jgs_cons (jg_name (i := 3) sc__law_made.nd) (jgs_cons (jg_name (i := 4) sc__law_made.nd) jgs_nil)))))) (fun _ _ _ _ _ => jts_nil) (fun _ _ _ _ _ => (je_makeG (c := 8) (idx := [0, 1, 2, 3]) (dv := [.non, .non]) T.mk_Shift (ok_Shift_init T) (hr.mono (by decide)) T.g_Shift (kb_1_Shift_init T) rfl L2.takes0 (ja_cons (je_v 1) (ja_cons (je_v 2) (ja_cons (je_v 3) (ja_cons (je_v 4) ja_nil)))) jk_nil)))) ja_nil) jk_nil)))⟩
def b_f_need_course : MS :=
    (mIf (mNotT (mTru (mIsiC okc tb_Course (mVB 0))))
    (mRaise1 2 "part" (mCons (mV 1) mNil))
    mSkip)
def f_need_course : List D → List D → R D := runB 2 b_f_need_course
theorem ok_need_course (T : Txt K mg base a) : FnOk P w0 K mg base (L2.CX P w0) 3 a.d_need_course a.fd_need_course ["value", "part"] (spF K a.cl a.T 2 f_need_course) :=
  ok_fnN (m := b_f_need_course) T.F_need_course sc_need_course rfl rfl (by decide) fun cdv Ax outer s H E ap HP Hs hr => ⟨_, (jss_one (js_if (jt_not (jt_tru (jb (je_isiC (kit_Course T) T.z_isinstance T.g_Course (jb_v 0)))))
    (jss_one (js_raise1 (ClsF.xc (n := 2) T.x_BadCourse) (ok_i_BadCourse T) (hr.mono (by decide)) (b_i_BadCourse T) T.xn_BadCourse_part (takes_of rfl rfl rfl rfl) (ja_cons (je_v 1) ja_nil)))
    jss_nil))⟩
def b_f_is_stock : MS :=
    (mSeq (mIf (mOr (mNotT (mTru (mIsi ["str"] (mVB 0)))) (mOr (mNotT (mTst (mChain oLe oLe (mC (.int 1)) (mCB fLen (mCons (mVB 0) mNil)) (mC (.int 5))))) (mNotT (mTru (mCB fAll (mCons (mF (mComp (mSeqI (mVB 0)) (gN 1) mYes (mBin (oIn false) (mVB 1) (mC (.str [97, 98, 99, 100, 101, 102, 103, 104, 105, 106, 107, 108, 109, 110, 111, 112, 113, 114, 115, 116, 117, 118, 119, 120, 121, 122]))) [1])) mNil))))))
    (mRet (mC (.bl false)))
    mSkip)
    (mRet (mCB fAll (mCons (mF (mComp (mZipX (mCons (mSl (mVB 0) mNoP (mPart (mUn oNeg (mC (.int 1))))) (mCons (mSl (mVB 0) (mPart (mC (.int 1))) mNoP) mNil))) (gTu 2 (gsCons (gN 2) (gsCons (gN 3) gsNil))) mYes (mBin (oCmp fLt sLt) (mVB 2) (mVB 3)) [2, 3])) mNil))))
def f_is_stock : List D → List D → R D := runB 4 b_f_is_stock
theorem ok_is_stock (T : Txt K mg base a) : FnOk P w0 K mg base (L2.CX P w0) 1 a.d_is_stock a.fd_is_stock ["value"] (spF K a.cl a.T 1 f_is_stock) :=
  ok_fnN (m := b_f_is_stock) T.F_is_stock sc_is_stock rfl rfl (by decide) fun cdv Ax outer s H E ap HP Hs hr => ⟨_, (jss_cons (js_if (jt_w (jw_or (jt_not (jt_tru (jb (je_isi "str" "str" (by decide) T.z_isinstance T.z_str (by decide +kernel) (jb_v 0))))) (jw_or (jt_not (jt_c (jc_chain op_leA op_leA opd_cmp opd_cmp (jb je_int) (jb (je_len T.z_len (jab_cons (jb_v 0) jab_nil))) (jb (je_globI T.k_MOST_STOCK))))) (jw_or1 (jt_not (jt_tru (jb (je_all T.z_all (jab_cons (jb (je_f (jf_comp (own := [("sign", 1)]) sc_is_stock.nd (jib_seq (jb_v 0)) (blkOk_by (N := ["value", "sign", "one", "other"]) (sc := defScope s_is_stock) (own := [("sign", 1)]) (by decide +kernel)) (fun _ _ _ _ _ => (jg_name (i := 1) sc_is_stock.nd)) (fun _ _ _ _ _ => jts_nil) (fun _ _ _ _ _ => (je_in hr (jb_v 1) (jb (je_globS [97, 98, 99, 100, 101, 102, 103, 104, 105, 106, 107, 108, 109, 110, 111, 112, 113, 114, 115, 116, 117, 118, 119, 120, 121, 122] T.k_LETTERS))))))) jab_nil)))))))))
    (jss_one (js_ret je_bl))
    jss_nil)
    (jss_one (js_ret (je_all T.z_all (jab_cons (jb (je_f (jf_comp (own := [("one", 2), ("other", 3)]) sc_is_stock.nd (jib_zipX T.z_zip (jab_cons (jb (je_sl (jb_v 0) jo_none (jo_some (je_neg je_int)))) (jab_cons (jb (je_sl (jb_v 0) (jo_some je_int) jo_none)) jab_nil))) (blkOk_by (N := ["value", "sign", "one", "other"]) (sc := defScope s_is_stock) (own := [("one", 2), ("other", 3)]) (by decide +kernel)) (fun _ _ _ _ _ => (jg_tup (n := 2) (jgs_cons (jg_name (i := 2) sc_is_stock.nd) (jgs_cons (jg_name (i := 3) sc_is_stock.nd) jgs_nil)))) (fun _ _ _ _ _ => jts_nil) (fun _ _ _ _ _ => (je_lt (jb_v 2) (jb_v 3)))))) jab_nil)))))⟩
def b_f_need_stock : MS :=
    (mIf (mNotT (mTru (mCall (nArg 1 f_is_stock) (mCons (mV 0) mNil))))
    (mRaise1 1 "part" (mCons (mV 1) mNil))
    mSkip)
def f_need_stock : List D → List D → R D := runB 2 b_f_need_stock
theorem ok_need_stock (T : Txt K mg base a) : FnOk P w0 K mg base (L2.CX P w0) 3 a.d_need_stock a.fd_need_stock ["value", "part"] (spF K a.cl a.T 2 f_need_stock) :=
  ok_fnN (m := b_f_need_stock) T.F_need_stock sc_need_stock rfl rfl (by decide) fun cdv Ax outer s H E ap HP Hs hr => ⟨_, (jss_one (js_if (jt_not (jt_tru (jb (je_call (ok_is_stock T) (hr.mono (by decide)) T.g_is_stock T.F_is_stock.kp (b_is_stock T) (takes_of rfl rfl rfl rfl) (ja_cons (je_v 0) ja_nil)))))
    (jss_one (js_raise1 (ClsF.xc (n := 1) T.x_BadStock) (ok_i_BadStock T) (hr.mono (by decide)) (b_i_BadStock T) T.xn_BadStock_part (takes_of rfl rfl rfl rfl) (ja_cons (je_v 1) ja_nil)))
    jss_nil))⟩
def b_f_is_word : MS :=
    (mRet (mAndV (mIsi ["str"] (mVB 0)) (mAndV (mBin (oCmp fLe sLe) (mCB fLen (mCons (mVB 0) mNil)) (mC (.int 12))) (mCB fAll (mCons (mF (mComp (mSeqI (mVB 0)) (gN 1) mYes (mBin (oIn false) (mVB 1) (mC (.str [97, 98, 99, 100, 101, 102, 103, 104, 105, 106, 107, 108, 109, 110, 111, 112, 113, 114, 115, 116, 117, 118, 119, 120, 121, 122]))) [1])) mNil)))))
def f_is_word : List D → List D → R D := runB 2 b_f_is_word
theorem ok_is_word (T : Txt K mg base a) : FnOk P w0 K mg base (L2.CX P w0) 1 a.d_is_word a.fd_is_word ["value"] (spF K a.cl a.T 1 f_is_word) :=
  ok_fnN (m := b_f_is_word) T.F_is_word sc_is_word rfl rfl (by decide) fun cdv Ax outer s H E ap HP Hs hr => ⟨_, (jss_one (js_ret (je_and (je_isi "str" "str" (by decide) T.z_isinstance T.z_str (by decide +kernel) (jb_v 0)) (je_and (je_le (jb (je_len T.z_len (jab_cons (jb_v 0) jab_nil))) (jb (je_globI T.k_MOST_SOUNDS_checks))) (je_one (je_all T.z_all (jab_cons (jb (je_f (jf_comp (own := [("sign", 1)]) sc_is_word.nd (jib_seq (jb_v 0)) (blkOk_by (N := ["value", "sign"]) (sc := defScope s_is_word) (own := [("sign", 1)]) (by decide +kernel)) (fun _ _ _ _ _ => (jg_name (i := 1) sc_is_word.nd)) (fun _ _ _ _ _ => jts_nil) (fun _ _ _ _ _ => (je_in hr (jb_v 1) (jb (je_globS [97, 98, 99, 100, 101, 102, 103, 104, 105, 106, 107, 108, 109, 110, 111, 112, 113, 114, 115, 116, 117, 118, 119, 120, 121, 122] T.k_LETTERS))))))) jab_nil)))))))⟩
def b_f_need_word : MS :=
    (mIf (mNotT (mTru (mCall (nArg 1 f_is_word) (mCons (mV 0) mNil))))
    (mRaise1 0 "part" (mCons (mV 1) mNil))
    mSkip)
def f_need_word : List D → List D → R D := runB 2 b_f_need_word
theorem ok_need_word (T : Txt K mg base a) : FnOk P w0 K mg base (L2.CX P w0) 3 a.d_need_word a.fd_need_word ["value", "part"] (spF K a.cl a.T 2 f_need_word) :=
  ok_fnN (m := b_f_need_word) T.F_need_word sc_need_word rfl rfl (by decide) fun cdv Ax outer s H E ap HP Hs hr => ⟨_, (jss_one (js_if (jt_not (jt_tru (jb (je_call (ok_is_word T) (hr.mono (by decide)) T.g_is_word T.F_is_word.kp (b_is_word T) (takes_of rfl rfl rfl rfl) (ja_cons (je_v 0) ja_nil)))))
    (jss_one (js_raise1 (ClsF.xc (n := 0) T.x_BadWord) (ok_i_BadWord T) (hr.mono (by decide)) (b_i_BadWord T) T.xn_BadWord_part (takes_of rfl rfl rfl rfl) (ja_cons (je_v 1) ja_nil)))
    jss_nil))⟩
def b_f_need_standing : MS :=
    (mIf (mTru (mFld okf_falls "falls" (mVB 0)))
    (mRaise1 2 "part" (mCons (mC (.str [102, 97, 108, 108, 115])) mNil))
    mSkip)
def f_need_standing : List D → List D → R D := runB 1 b_f_need_standing
theorem ok_need_standing (T : Txt K mg base a) : FnOk P w0 K mg base (L2.CX P w0) 3 a.d_need_standing a.fd_need_standing ["course"] (spF K a.cl a.T 1 f_need_standing) :=
  ok_fnN (m := b_f_need_standing) T.F_need_standing sc_need_standing rfl rfl (by decide) fun cdv Ax outer s H E ap HP Hs hr => ⟨_, (jss_one (js_if (jt_tru (jb (je_fld (fl_falls T) (jb_v 0))))
    (jss_one (js_raise1 (ClsF.xc (n := 2) T.x_BadCourse) (ok_i_BadCourse T) (hr.mono (by decide)) (b_i_BadCourse T) T.xn_BadCourse_part (takes_of rfl rfl rfl rfl) (ja_cons (je_str [102, 97, 108, 108, 115]) ja_nil)))
    jss_nil))⟩
def b_f_most_sounds : MS :=
    (mRet (mBin oMul (mC (.int 2)) (mCB fLen (mCons (mFld okf_shifts "shifts" (mVB 0)) mNil))))
def f_most_sounds : List D → List D → R D := runB 1 b_f_most_sounds
theorem ok_most_sounds (T : Txt K mg base a) : FnOk P w0 K mg base (L2.CX P w0) 1 a.d_most_sounds a.fd_most_sounds ["course"] (spF K a.cl a.T 1 f_most_sounds) :=
  ok_fnN (m := b_f_most_sounds) T.F_most_sounds sc_most_sounds rfl rfl (by decide) fun cdv Ax outer s H E ap HP Hs hr => ⟨_, (jss_one (js_ret (je_mul (jb je_int) (jb (je_len T.z_len (jab_cons (jb (je_fld (fl_shifts T) (jb_v 0))) jab_nil))))))⟩
def b_f_room_with : MS :=
    (mSeq (mAsg (gN 2) (mBin oSub (mCB fLen (mCons (mVB 1) mNil)) (mCall (nArg 1 f_most_sounds) (mCons (mV 0) mNil))))
    (mRet (mIfE (mTst (mBin (oCmp fLt sLt) (mVB 2) (mC (.int 0)))) (mBin oAdd (mC (.str [35])) (mVB 1)) (mSl (mVB 1) (mPart (mV 2)) mNoP))))
def f_room_with : List D → List D → R D := runB 3 b_f_room_with
theorem ok_room_with (T : Txt K mg base a) : FnOk P w0 K mg base (L2.CX P w0) 2 a.d_room_with a.fd_room_with ["course", "word"] (spF K a.cl a.T 2 f_room_with) :=
  ok_fnN (m := b_f_room_with) T.F_room_with sc_room_with rfl rfl (by decide) fun cdv Ax outer s H E ap HP Hs hr => ⟨_, (jss_cons (js_set (i := 2) sc_room_with.nd (je_sub (jb (je_len T.z_len (jab_cons (jb_v 1) jab_nil))) (jb (je_call (ok_most_sounds T) (hr.mono (by decide)) T.g_most_sounds T.F_most_sounds.kp (b_most_sounds T) (takes_of rfl rfl rfl rfl) (ja_cons (je_v 0) ja_nil)))))
    (jss_one (js_ret (je_if (jt_c (jc_lt (jb_v 2) (jb je_int))) (je_add (jb (je_globS [35] T.k_BEGIN)) (jb_v 1)) (je_sl (jb_v 1) (jo_some (je_v 2)) jo_none)))))⟩
def b_f_sounds_in_rooms : MS :=
    (mRet (mIfE (mTst (mBin (oEq false) (mSl (mVB 0) mNoP (mPart (mC (.int 1)))) (mC (.str [35])))) (mSl (mVB 0) (mPart (mC (.int 1))) mNoP) (mV 0)))
def f_sounds_in_rooms : List D → List D → R D := runB 1 b_f_sounds_in_rooms
theorem ok_sounds_in_rooms (T : Txt K mg base a) : FnOk P w0 K mg base (L2.CX P w0) 1 a.d_sounds_in_rooms a.fd_sounds_in_rooms ["room"] (spF K a.cl a.T 1 f_sounds_in_rooms) :=
  ok_fnN (m := b_f_sounds_in_rooms) T.F_sounds_in_rooms sc_sounds_in_rooms rfl rfl (by decide) fun cdv Ax outer s H E ap HP Hs hr => ⟨_, (jss_one (js_ret (je_if (jt_c (jc_eq hr (jb (je_sl (jb_v 0) jo_none (jo_some je_int))) (jb (je_globS [35] T.k_BEGIN)))) (je_sl (jb_v 0) (jo_some je_int) jo_none) (je_v 0))))⟩
def b_f_is_beside : MS :=
    (mRet (mOrV (mBin (oIs false) (mVB 0) (mC .non)) (mBin (oIn false) (mVB 1) (mVB 0))))
def f_is_beside : List D → List D → R D := runB 2 b_f_is_beside
theorem ok_is_beside (T : Txt K mg base a) : FnOk P w0 K mg base (L2.CX P w0) 1 a.d_is_beside a.fd_is_beside ["side", "sign"] (spF K a.cl a.T 2 f_is_beside) :=
  ok_fnN (m := b_f_is_beside) T.F_is_beside sc_is_beside rfl rfl (by decide) fun cdv Ax outer s H E ap HP Hs hr => ⟨_, (jss_one (js_ret (je_or (je_is (jb_v 0) (jb je_non)) (je_one (je_in hr (jb_v 1) (jb_v 0))))))⟩
def b_f_places_in : MS :=
    (mSeq (mParEF 2 3 (mBin oAdd (mBin oAdd (mC (.str [35])) (mVB 1)) (mC (.str [35]))) (mLstF mNil))
    (mSeq (mFor (gTu 2 (gsCons (gN 4) (gsCons (gN 5) gsNil))) (mEnumX (mV 1))
    (mIf (mAnd (mTst (mBin (oEq false) (mVB 5) (mFld okf_old "old" (mVB 0)))) (mAnd (mTru (mCall (nArg 2 f_is_beside) (mCons (mFld okf_left "left" (mVB 0)) (mCons (mIx (mVB 2) (mVB 4)) mNil)))) (mTru (mCall (nArg 2 f_is_beside) (mCons (mFld okf_right "right" (mVB 0)) (mCons (mIx (mVB 2) (mBin oAdd (mVB 4) (mC (.int 2)))) mNil))))))
    (mApp 3 (mV 4))
    mSkip))
    (mRet (mCB fTuple (mCons (mVB 3) mNil)))))
def f_places_in : List D → List D → R D := runB 6 b_f_places_in
theorem ok_places_in (T : Txt K mg base a) : FnOk P w0 K mg base (L2.CX P w0) 2 a.d_places_in a.fd_places_in ["rule", "word"] (spF K a.cl a.T 2 f_places_in) :=
  ok_fnN (m := b_f_places_in) T.F_places_in sc_places_in rfl rfl (by decide) fun cdv Ax outer s H E ap HP Hs hr => ⟨_, (jss_cons (js_parEF (i := 2) (j := 3) sc_places_in.nd (je_add (jb (je_add (jb (je_globS [35] T.k_EDGE)) (jb_v 1))) (jb (je_globS [35] T.k_EDGE))) (jf_lst ja_nil))
    (jss_cons (js_for (passes_of rfl) (ji_enumX T.z_enumerate (je_v 1)) (jg_tup (n := 2) (jgs_cons (jg_name (i := 4) sc_places_in.nd) (jgs_cons (jg_name (i := 5) sc_places_in.nd) jgs_nil)))
    (jss_one (js_if (jt_w (jw_and (jt_c (jc_eq hr (jb_v 5) (jb (je_fld (fl_old T) (jb_v 0))))) (jw_and (jt_tru (jb (je_call (ok_is_beside T) (hr.mono (by decide)) T.g_is_beside T.F_is_beside.kp (b_is_beside T) (takes_of rfl rfl rfl rfl) (ja_cons (je_fld (fl_left T) (jb_v 0)) (ja_cons (je_ix (jb_v 2) (jb_v 4)) ja_nil))))) (jw_and1 (jt_tru (jb (je_call (ok_is_beside T) (hr.mono (by decide)) T.g_is_beside T.F_is_beside.kp (b_is_beside T) (takes_of rfl rfl rfl rfl) (ja_cons (je_fld (fl_right T) (jb_v 0)) (ja_cons (je_ix (jb_v 2) (jb (je_add (jb_v 4) (jb je_int)))) ja_nil)))))))))
    (jss_one (js_app 3 (je_v 4)))
    jss_nil)))
    (jss_one (js_ret (je_tuple T.z_tuple (jab_cons (jb_v 3) jab_nil))))))⟩
def b_f_done_by : MS :=
    (mSeq (mAsg (gN 2) (mDc (mSeqI (mCall (nArg 2 f_places_in) (mCons (mV 0) (mCons (mV 1) mNil)))) (gN 3) mYes (mV 3) (mC (.bl true)) [3]))
    (mRet (mMt fJoin (mC (.str [])) (mCons (mF (mComp (mEnumX (mVB 1)) (gTu 2 (gsCons (gN 3) (gsCons (gN 4) gsNil))) mYes (mIfE (mTst (mBin (oInK false) (mVB 3) (mVB 2))) (mFld okf_new "new" (mVB 0)) (mV 4)) [3, 4])) mNil))))
def f_done_by : List D → List D → R D := runB 5 b_f_done_by
theorem ok_done_by (T : Txt K mg base a) : FnOk P w0 K mg base (L2.CX P w0) 3 a.d_done_by a.fd_done_by ["rule", "word"] (spF K a.cl a.T 2 f_done_by) :=
  ok_fnN (m := b_f_done_by) T.F_done_by sc_done_by rfl rfl (by decide) fun cdv Ax outer s H E ap HP Hs hr => ⟨_, (jss_cons (js_set (i := 2) sc_done_by.nd (je_dc (own := [("place", 3)]) sc_done_by.nd (jib_seq (jb (je_call (ok_places_in T) (hr.mono (by decide)) T.g_places_in T.F_places_in.kp (b_places_in T) (takes_of rfl rfl rfl rfl) (ja_cons (je_v 0) (ja_cons (je_v 1) ja_nil))))) (blkOk_by (N := ["rule", "word", "changed", "place", "sound"]) (sc := defScope s_done_by) (own := [("place", 3)]) (by decide +kernel)) (fun _ _ _ _ _ => (jg_name (i := 3) sc_done_by.nd)) (fun _ _ _ _ _ => jts_nil) (fun _ _ _ _ _ => (je_v 3)) (fun _ _ _ _ _ => je_bl)))
    (jss_one (js_ret (je_join (jb (je_str [])) (jab_cons (jb (je_f (jf_comp (own := [("place", 3), ("sound", 4)]) sc_done_by.nd (jib_enumX T.z_enumerate (jb_v 1)) (blkOk_by (N := ["rule", "word", "changed", "place", "sound"]) (sc := defScope s_done_by) (own := [("place", 3), ("sound", 4)]) (by decide +kernel)) (fun _ _ _ _ _ => (jg_tup (n := 2) (jgs_cons (jg_name (i := 3) sc_done_by.nd) (jgs_cons (jg_name (i := 4) sc_done_by.nd) jgs_nil)))) (fun _ _ _ _ _ => jts_nil) (fun _ _ _ _ _ => (je_if (jt_c (jc_inK hr (jb_v 3) (jb_v 2))) (je_fld (fl_new T) (jb_v 0)) (je_v 4)))))) jab_nil)))))⟩
def b_f_steps_of : MS :=
    (mSeq (mParFE 2 3 (mLstF mNil) (mV 1))
    (mSeq (mFor (gN 4) (mSeqI (mV 0))
    (mSeq (mAsg (gN 3) (mCall (nArg 2 f_done_by) (mCons (mV 4) (mCons (mV 3) mNil))))
    (mApp 2 (mV 3))))
    (mRet (mCB fTuple (mCons (mVB 2) mNil)))))
def f_steps_of : List D → List D → R D := runB 5 b_f_steps_of
theorem ok_steps_of (T : Txt K mg base a) : FnOk P w0 K mg base (L2.CX P w0) 4 a.d_steps_of a.fd_steps_of ["shifts", "word"] (spF K a.cl a.T 2 f_steps_of) :=
  ok_fnN (m := b_f_steps_of) T.F_steps_of sc_steps_of rfl rfl (by decide) fun cdv Ax outer s H E ap HP Hs hr => ⟨_, (jss_cons (js_parFE (i := 2) (j := 3) sc_steps_of.nd (jf_lst ja_nil) (je_v 1))
    (jss_cons (js_for (passes_of rfl) (ji_seq (je_v 0)) (jg_name (i := 4) sc_steps_of.nd)
    (jss_cons (js_set (i := 3) sc_steps_of.nd (je_call (ok_done_by T) (hr.mono (by decide)) T.g_done_by T.F_done_by.kp (b_done_by T) (takes_of rfl rfl rfl rfl) (ja_cons (je_v 4) (ja_cons (je_v 3) ja_nil))))
    (jss_one (js_app 2 (je_v 3)))))
    (jss_one (js_ret (je_tuple T.z_tuple (jab_cons (jb_v 2) jab_nil))))))⟩
def b_f_outcome_of : MS :=
    (mRet (mIfE (mTst (mBin oEqE (mFld okf_shifts "shifts" (mVB 0)) (mTup mNil))) (mV 1) (mIx (mCall (nArg 2 f_steps_of) (mCons (mFld okf_shifts "shifts" (mVB 0)) (mCons (mV 1) mNil))) (mUn oNeg (mC (.int 1))))))
def f_outcome_of : List D → List D → R D := runB 2 b_f_outcome_of
theorem ok_outcome_of (T : Txt K mg base a) : FnOk P w0 K mg base (L2.CX P w0) 5 a.d_outcome_of a.fd_outcome_of ["course", "word"] (spF K a.cl a.T 2 f_outcome_of) :=
  ok_fnN (m := b_f_outcome_of) T.F_outcome_of sc_outcome_of rfl rfl (by decide) fun cdv Ax outer s H E ap HP Hs hr => ⟨_, (jss_one (js_ret (je_if (jt_c (jc_eqE hr (jb (je_fld (fl_shifts T) (jb_v 0))) (jb (je_tup ja_nil)))) (je_v 1) (je_ix (jb (je_call (ok_steps_of T) (hr.mono (by decide)) T.g_steps_of T.F_steps_of.kp (b_steps_of T) (takes_of rfl rfl rfl rfl) (ja_cons (je_fld (fl_shifts T) (jb_v 0)) (ja_cons (je_v 1) ja_nil)))) (jb (je_neg je_int))))))⟩
def b_f_step_in : MS :=
    (mSeq (mAsg (gN 3) (mBin oAdd (mCall (nArg 1 f_sounds_in_rooms) (mCons (mV 1) mNil)) (mVB 2)))
    (mSeq (mAsg (gN 4) (mBin oSub (mBin oSub (mCB fLen (mCons (mVB 3) mNil)) (mC (.int 1))) (mCB fLen (mCons (mFld okf_shifts "shifts" (mVB 0)) mNil))))
    (mSeq (mAsg (gN 5) (mIfE (mTst (mBin (oCmp fGe sGe) (mVB 4) (mC (.int 0)))) (mIx (mCall (nArg 2 f_outcome_of) (mCons (mV 0) (mCons (mV 3) mNil))) (mVB 4)) (mC (.str []))))
    (mRet (mTup (mCons (mCall (nArg 2 f_room_with) (mCons (mV 0) (mCons (mV 3) mNil))) (mCons (mV 5) mNil)))))))
def f_step_in : List D → List D → R D := runB 6 b_f_step_in
theorem ok_step_in (T : Txt K mg base a) : FnOk P w0 K mg base (L2.CX P w0) 6 a.d_step_in a.fd_step_in ["course", "room", "sound"] (spF K a.cl a.T 3 f_step_in) :=
  ok_fnN (m := b_f_step_in) T.F_step_in sc_step_in rfl rfl (by decide) fun cdv Ax outer s H E ap HP Hs hr => ⟨_, (jss_cons (js_set (i := 3) sc_step_in.nd (je_add (jb (je_call (ok_sounds_in_rooms T) (hr.mono (by decide)) T.g_sounds_in_rooms T.F_sounds_in_rooms.kp (b_sounds_in_rooms T) (takes_of rfl rfl rfl rfl) (ja_cons (je_v 1) ja_nil))) (jb_v 2)))
    (jss_cons (js_set (i := 4) sc_step_in.nd (je_sub (jb (je_sub (jb (je_len T.z_len (jab_cons (jb_v 3) jab_nil))) (jb je_int))) (jb (je_len T.z_len (jab_cons (jb (je_fld (fl_shifts T) (jb_v 0))) jab_nil)))))
    (jss_cons (js_set (i := 5) sc_step_in.nd (je_if (jt_c (jc_ge (jb_v 4) (jb je_int))) (je_ix (jb (je_call (ok_outcome_of T) (hr.mono (by decide)) T.g_outcome_of T.F_outcome_of.kp (b_outcome_of T) (takes_of rfl rfl rfl rfl) (ja_cons (je_v 0) (ja_cons (je_v 3) ja_nil)))) (jb_v 4)) (je_str [])))
    (jss_one (js_ret (je_tup (ja_cons (je_call (ok_room_with T) (hr.mono (by decide)) T.g_room_with T.F_room_with.kp (b_room_with T) (takes_of rfl rfl rfl rfl) (ja_cons (je_v 0) (ja_cons (je_v 3) ja_nil))) (ja_cons (je_v 5) ja_nil))))))))⟩
def b_f_rest_in : MS :=
    (mSeq (mAsg (gN 2) (mCall (nArg 2 f_outcome_of) (mCons (mV 0) (mCons (mCall (nArg 1 f_sounds_in_rooms) (mCons (mV 1) mNil)) mNil))))
    (mRet (mSl (mVB 2) (mPart (mCB fMax2 (mCons (mC (.int 0)) (mCons (mBin oSub (mCB fLen (mCons (mVB 2) mNil)) (mCB fLen (mCons (mFld okf_shifts "shifts" (mVB 0)) mNil))) mNil)))) mNoP)))
def f_rest_in : List D → List D → R D := runB 3 b_f_rest_in
theorem ok_rest_in (T : Txt K mg base a) : FnOk P w0 K mg base (L2.CX P w0) 6 a.d_rest_in a.fd_rest_in ["course", "room"] (spF K a.cl a.T 2 f_rest_in) :=
  ok_fnN (m := b_f_rest_in) T.F_rest_in sc_rest_in rfl rfl (by decide) fun cdv Ax outer s H E ap HP Hs hr => ⟨_, (jss_cons (js_set (i := 2) sc_rest_in.nd (je_call (ok_outcome_of T) (hr.mono (by decide)) T.g_outcome_of T.F_outcome_of.kp (b_outcome_of T) (takes_of rfl rfl rfl rfl) (ja_cons (je_v 0) (ja_cons (je_call (ok_sounds_in_rooms T) (hr.mono (by decide)) T.g_sounds_in_rooms T.F_sounds_in_rooms.kp (b_sounds_in_rooms T) (takes_of rfl rfl rfl rfl) (ja_cons (je_v 1) ja_nil)) ja_nil))))
    (jss_one (js_ret (je_sl (jb_v 2) (jo_some (je_max2 T.z_max (jab_cons (jb je_int) (jab_cons (jb (je_sub (jb (je_len T.z_len (jab_cons (jb_v 2) jab_nil))) (jb (je_len T.z_len (jab_cons (jb (je_fld (fl_shifts T) (jb_v 0))) jab_nil))))) jab_nil)))) jo_none))))⟩
def b_f_mothers_of : MS :=
    (mSeq (mDrop (mCall (nArg 2 f_need_course) (mCons (mV 0) (mCons (mC (.str [99, 111, 117, 114, 115, 101])) mNil))))
    (mSeq (mDrop (mCall (nArg 2 f_need_stock) (mCons (mV 1) (mCons (mC (.str [115, 116, 111, 99, 107])) mNil))))
    (mSeq (mDrop (mCall (nArg 2 f_need_word) (mCons (mV 2) (mCons (mC (.str [111, 117, 116, 99, 111, 109, 101])) mNil))))
    (mSeq (mDrop (mCall (nArg 1 f_need_standing) (mCons (mV 0) mNil)))
    (mSeq (mIf (mTst (mBin (oCmp fGt sGt) (mCB fLen (mCons (mVB 2) mNil)) (mC (.int 6))))
    (mRaise2 3 "what" "most" (mCons (mC (.str [115, 111, 117, 110, 100, 115])) (mCons (mC (.int 6)) mNil)))
    mSkip)
    (mSeq (mAsg (gN 3) (mLst (mCons (mTup (mCons (mC (.str [])) (mCons (mCall (nArg 2 f_room_with) (mCons (mV 0) (mCons (mC (.str [])) mNil))) mNil))) mNil)))
    (mSeq (mFor (gN 4) (mRng1 (mCB fLen (mCons (mVB 2) mNil)))
    (mSeq (mParEF 5 6 (mBin oSub (mVB 4) (mCB fLen (mCons (mFld okf_shifts "shifts" (mVB 0)) mNil))) (mLstF mNil))
    (mSeq (mFor (gTu 2 (gsCons (gN 7) (gsCons (gN 8) gsNil))) (mSeqI (mV 3))
    (mFor (gN 9) (mSeqI (mV 1))
    (mSeq (mAsg (gTu 2 (gsCons (gN 10) (gsCons (gN 11) gsNil))) (mCall (nArg 3 f_step_in) (mCons (mV 0) (mCons (mV 8) (mCons (mV 9) mNil)))))
    (mIf (mOr (mTst (mBin (oCmp fLt sLt) (mVB 5) (mC (.int 0)))) (mTst (mBin (oEq false) (mVB 11) (mIx (mVB 2) (mVB 5)))))
    (mApp 6 (mTup (mCons (mBin oAdd (mVB 7) (mVB 9)) (mCons (mV 10) mNil))))
    mSkip))))
    (mFr 6 (mAsg (gN 3) (mV 6))))))
    (mSeq (mAsg (gN 12) (mSl (mVB 2) (mPart (mCB fMax2 (mCons (mC (.int 0)) (mCons (mBin oSub (mCB fLen (mCons (mVB 2) mNil)) (mCB fLen (mCons (mFld okf_shifts "shifts" (mVB 0)) mNil))) mNil)))) mNoP))
    (mRet (mCB fTuple (mCons (mF (mComp (mSeqI (mVB 3)) (gTu 2 (gsCons (gN 7) (gsCons (gN 8) gsNil))) (mTst (mBin (oEq false) (mCall (nArg 2 f_rest_in) (mCons (mV 0) (mCons (mV 8) mNil))) (mVB 12))) (mV 7) [7, 8])) mNil)))))))))))
def f_mothers_of : List D → List D → R D := runB 13 b_f_mothers_of
theorem ok_mothers_of (T : Txt K mg base a) : FnOk P w0 K mg base (L2.CX P w0) 7 a.d_mothers_of a.fd_mothers_of ["course", "stock", "outcome"] (spF K a.cl a.T 3 f_mothers_of) :=
  ok_fnN (m := b_f_mothers_of) T.F_mothers_of sc_mothers_of rfl rfl (by decide) fun cdv Ax outer s H E ap HP Hs hr => ⟨_, (jss_cons (js_drop (je_call (ok_need_course T) (hr.mono (by decide)) T.g_need_course T.F_need_course.kp (b_need_course T) (takes_of rfl rfl rfl rfl) (ja_cons (je_v 0) (ja_cons (je_str [99, 111, 117, 114, 115, 101]) ja_nil))))
    (jss_cons (js_drop (je_call (ok_need_stock T) (hr.mono (by decide)) T.g_need_stock T.F_need_stock.kp (b_need_stock T) (takes_of rfl rfl rfl rfl) (ja_cons (je_v 1) (ja_cons (je_str [115, 116, 111, 99, 107]) ja_nil))))
    (jss_cons (js_drop (je_call (ok_need_word T) (hr.mono (by decide)) T.g_need_word T.F_need_word.kp (b_need_word T) (takes_of rfl rfl rfl rfl) (ja_cons (je_v 2) (ja_cons (je_str [111, 117, 116, 99, 111, 109, 101]) ja_nil))))
    (jss_cons (js_drop (je_call (ok_need_standing T) (hr.mono (by decide)) T.g_need_standing T.F_need_standing.kp (b_need_standing T) (takes_of rfl rfl rfl rfl) (ja_cons (je_v 0) ja_nil)))
    (jss_cons (js_if (jt_c (jc_gt (jb (je_len T.z_len (jab_cons (jb_v 2) jab_nil))) (jb (je_globI T.k_MOST_SOUNDS_fallen))))
    (jss_one (js_raise2 (ClsF.xc (n := 3) T.x_TooMany) (ok_i_TooMany T) (hr.mono (by decide)) (b_i_TooMany T) T.xn_TooMany_what T.xn_TooMany_most (takes_of rfl rfl rfl rfl) (ja_cons (je_str [115, 111, 117, 110, 100, 115]) (ja_cons (je_globI T.k_MOST_SOUNDS_fallen) ja_nil))))
    jss_nil)
    (jss_cons (js_set (i := 3) sc_mothers_of.nd (je_lst (ja_cons (je_tup (ja_cons (je_str []) (ja_cons (je_call (ok_room_with T) (hr.mono (by decide)) T.g_room_with T.F_room_with.kp (b_room_with T) (takes_of rfl rfl rfl rfl) (ja_cons (je_v 0) (ja_cons (je_str []) ja_nil))) ja_nil))) ja_nil)))
    (jss_cons (js_for (passes_of rfl) (ji_rng1 T.z_range (je_len T.z_len (jab_cons (jb_v 2) jab_nil))) (jg_name (i := 4) sc_mothers_of.nd)
    (jss_cons (js_parEF (i := 5) (j := 6) sc_mothers_of.nd (je_sub (jb_v 4) (jb (je_len T.z_len (jab_cons (jb (je_fld (fl_shifts T) (jb_v 0))) jab_nil)))) (jf_lst ja_nil))
    (jss_cons (js_for (passes_of rfl) (ji_seq (je_v 3)) (jg_tup (n := 2) (jgs_cons (jg_name (i := 7) sc_mothers_of.nd) (jgs_cons (jg_name (i := 8) sc_mothers_of.nd) jgs_nil)))
    (jss_one (js_for (passes_of rfl) (ji_seq (je_v 1)) (jg_name (i := 9) sc_mothers_of.nd)
    (jss_cons (js_asg (je_call (ok_step_in T) (hr.mono (by decide)) T.g_step_in T.F_step_in.kp (b_step_in T) (takes_of rfl rfl rfl rfl) (ja_cons (je_v 0) (ja_cons (je_v 8) (ja_cons (je_v 9) ja_nil)))) (jg_tup (n := 2) (jgs_cons (jg_name (i := 10) sc_mothers_of.nd) (jgs_cons (jg_name (i := 11) sc_mothers_of.nd) jgs_nil))))
    (jss_one (js_if (jt_w (jw_or (jt_c (jc_lt (jb_v 5) (jb je_int))) (jw_or1 (jt_c (jc_eq hr (jb_v 11) (jb (je_ix (jb_v 2) (jb_v 5))))))))
    (jss_one (js_app 6 (je_tup (ja_cons (je_add (jb_v 7) (jb_v 9)) (ja_cons (je_v 10) ja_nil)))))
    jss_nil))))))
    (jss_one (js_fr 6 (js_set (i := 3) sc_mothers_of.nd (je_v 6)))))))
    (jss_cons (js_set (i := 12) sc_mothers_of.nd (je_sl (jb_v 2) (jo_some (je_max2 T.z_max (jab_cons (jb je_int) (jab_cons (jb (je_sub (jb (je_len T.z_len (jab_cons (jb_v 2) jab_nil))) (jb (je_len T.z_len (jab_cons (jb (je_fld (fl_shifts T) (jb_v 0))) jab_nil))))) jab_nil)))) jo_none))
    (jss_one (js_ret (je_tuple T.z_tuple (jab_cons (jb (je_f (jf_comp (own := [("word", 7), ("room", 8)]) sc_mothers_of.nd (jib_seq (jb_v 3)) (blkOk_by (N := ["course", "stock", "outcome", "found", "read", "place", "longer", "word", "room", "sound", "later", "settled", "rest"]) (sc := defScope s_mothers_of) (own := [("word", 7), ("room", 8)]) (by decide +kernel)) (fun _ _ _ _ _ => (jg_tup (n := 2) (jgs_cons (jg_name (i := 7) sc_mothers_of.nd) (jgs_cons (jg_name (i := 8) sc_mothers_of.nd) jgs_nil)))) (fun _ _ _ _ _ => (jts_one (jt_c (jc_eq hr (jb (je_call (ok_rest_in T) (hr.mono (by decide)) T.g_rest_in T.F_rest_in.kp (b_rest_in T) L2.takes0 (ja_cons (je_v 0) (ja_cons (je_v 8) ja_nil)))) (jb_v 12))))) (fun _ _ _ _ _ => (je_v 7))))) jab_nil))))))))))))⟩
def b_f__law_long : MS :=
    (mSeq (mAsg (gN 2) (mLst (mCons (mC (.str [])) mNil)))
    (mSeq (mFor (gN 3) (mRng1 (mV 1))
    (mSeq (mSetO 4 (mLstF mNil))
    (mSeq (mFor (gN 5) (mSeqI (mV 2))
    (mExt 4 (mF (mComp (mSeqI (mVB 0)) (gN 6) mYes (mBin oAdd (mVB 5) (mVB 6)) [6]))))
    (mFr 4 (mAsg (gN 2) (mV 4))))))
    (mRet (mV 2))))
def f__law_long : List D → List D → R D := runB 7 b_f__law_long
theorem ok__law_long (T : Txt K mg base a) : FnOk P w0 K mg base (L2.CX P w0) 1 a.d__law_long a.fd__law_long ["_law_stock", "_law_size"] (spF K a.cl a.T 2 f__law_long) :=
  ok_fnN (m := b_f__law_long) T.F__law_long sc__law_long rfl rfl (by decide) fun cdv Ax outer s H E ap HP Hs hr => ⟨_, (jss_cons (js_set (i := 2) sc__law_long.nd (je_lst (ja_cons (je_str []) ja_nil)))
    (jss_cons (js_for (passes_of rfl) (ji_rng1 T.z_range (je_v 1)) (jg_name (i := 3) sc__law_long.nd)
    (jss_cons (js_setO (i := 4) sc__law_long.nd (jf_lst ja_nil))
    (jss_cons (js_for (passes_of rfl) (ji_seq (je_v 2)) (jg_name (i := 5) sc__law_long.nd)
    (jss_one (js_ext 4 (jb (je_f (jf_comp (own := [("_law_sound", 6)]) sc__law_long.nd (jib_seq (jb_v 0)) (blkOk_by (N := ["_law_stock", "_law_size", "_law_found", "_law_turn", "_law_longer", "_law_word_here", "_law_sound"]) (sc := defScope s__law_long) (own := [("_law_sound", 6)]) (by decide +kernel)) (fun _ _ _ _ _ => (jg_name (i := 6) sc__law_long.nd)) (fun _ _ _ _ _ => jts_nil) (fun _ _ _ _ _ => (je_add (jb_v 5) (jb_v 6)))))))))
    (jss_one (js_fr 4 (js_set (i := 2) sc__law_long.nd (je_v 4)))))))
    (jss_one (js_ret (je_v 2)))))⟩
def b_f__law_done : MS :=
    (mSeq (mFor (gTu 4 (gsCons (gN 2) (gsCons (gN 3) (gsCons (gN 4) (gsCons (gN 5) gsNil))))) (mSeqI (mV 0))
    (mSeq (mPar 6 7 (mCons (mBin oAdd (mBin oAdd (mC (.str [35])) (mVB 1)) (mC (.str [35]))) (mCons (mC (.str [])) mNil)))
    (mSeq (mFor (gTu 2 (gsCons (gN 8) (gsCons (gN 9) gsNil))) (mEnumX (mV 1))
    (mSeq (mAsg (gN 10) (mAndV (mBin (oEq false) (mVB 9) (mVB 2)) (mAndV (mOrV (mBin (oIs false) (mVB 4) (mC .non)) (mBin (oIn false) (mIx (mVB 6) (mVB 8)) (mVB 4))) (mOrV (mBin (oIs false) (mVB 5) (mC .non)) (mBin (oIn false) (mIx (mVB 6) (mBin oAdd (mVB 8) (mC (.int 2)))) (mVB 5))))))
    (mAsg (gN 7) (mBin oAdd (mVB 7) (mIfE (mTru (mVB 10)) (mV 3) (mV 9))))))
    (mAsg (gN 1) (mV 7)))))
    (mRet (mV 1)))
def f__law_done : List D → List D → R D := runB 11 b_f__law_done
theorem ok__law_done (T : Txt K mg base a) : FnOk P w0 K mg base (L2.CX P w0) 1 a.d__law_done a.fd__law_done ["_law_rules", "_law_word_here"] (spF K a.cl a.T 2 f__law_done) :=
  ok_fnN (m := b_f__law_done) T.F__law_done sc__law_done rfl rfl (by decide) fun cdv Ax outer s H E ap HP Hs hr => ⟨_, (jss_cons (js_for (passes_of rfl) (ji_seq (je_v 0)) (jg_tup (n := 4) (jgs_cons (jg_name (i := 2) sc__law_done.nd) (jgs_cons (jg_name (i := 3) sc__law_done.nd) (jgs_cons (jg_name (i := 4) sc__law_done.nd) (jgs_cons (jg_name (i := 5) sc__law_done.nd) jgs_nil)))))
    (jss_cons (js_par (i := 6) (j := 7) sc__law_done.nd (ja_cons (je_add (jb (je_add (jb (je_str [35])) (jb_v 1))) (jb (je_str [35]))) (ja_cons (je_str []) ja_nil)))
    (jss_cons (js_for (passes_of rfl) (ji_enumX T.z_enumerate (je_v 1)) (jg_tup (n := 2) (jgs_cons (jg_name (i := 8) sc__law_done.nd) (jgs_cons (jg_name (i := 9) sc__law_done.nd) jgs_nil)))
    (jss_cons (js_set (i := 10) sc__law_done.nd (je_and (je_eq hr (jb_v 9) (jb_v 2)) (je_and (je_or (je_is (jb_v 4) (jb je_non)) (je_one (je_in hr (jb (je_ix (jb_v 6) (jb_v 8))) (jb_v 4)))) (je_one (je_or (je_is (jb_v 5) (jb je_non)) (je_one (je_in hr (jb (je_ix (jb_v 6) (jb (je_add (jb_v 8) (jb je_int))))) (jb_v 5))))))))
    (jss_one (js_set (i := 7) sc__law_done.nd (je_add (jb_v 7) (jb (je_if (jt_tru (jb_v 10)) (je_v 3) (je_v 9))))))))
    (jss_one (js_set (i := 1) sc__law_done.nd (je_v 7))))))
    (jss_one (js_ret (je_v 1))))⟩
def b_f_Course_done : MS :=
    (mSeq (mDrop (mCall (nArg 2 f_need_word) (mCons (mV 1) (mCons (mC (.str [119, 111, 114, 100])) mNil))))
    (mRet (mCall (nArg 2 f_outcome_of) (mCons (mV 0) (mCons (mV 1) mNil)))))
def f_Course_done : List D → List D → R D := runB 2 b_f_Course_done
theorem ok_Course_done (T : Txt K mg base a) : FnOk P w0 K mg base (L2.CX P w0) 6 a.d_Course_done a.fd_Course_done ["self", "word"] (spF K a.cl a.T 2 f_Course_done) :=
  ok_fnN (m := b_f_Course_done) T.F_Course_done sc_Course_done rfl rfl (by decide) fun cdv Ax outer s H E ap HP Hs hr => ⟨_, (jss_cons (js_drop (je_call (ok_need_word T) (hr.mono (by decide)) T.g_need_word T.F_need_word.kp (b_need_word T) (takes_of rfl rfl rfl rfl) (ja_cons (je_v 1) (ja_cons (je_str [119, 111, 114, 100]) ja_nil))))
    (jss_one (js_ret (je_call (ok_outcome_of T) (hr.mono (by decide)) T.g_outcome_of T.F_outcome_of.kp (b_outcome_of T) (takes_of rfl rfl rfl rfl) (ja_cons (je_v 0) (ja_cons (je_v 1) ja_nil))))))⟩
def b_f__law_sent_right : MS :=
    (mSeq (mPar 5 6 (mCons (mCB fTuple (mCons (mF (mComp (mSeqI (mVB 3)) (gN 7) (mTst (mBin (oEq false) (mCall (nArg 2 f__law_done) (mCons (mV 1) (mCons (mV 7) mNil))) (mVB 4))) (mV 7) [7])) mNil)) (mCons (mCall (nArg 3 f_mothers_of) (mCons (mV 0) (mCons (mV 2) (mCons (mV 4) mNil)))) mNil)))
    (mSeq (mIf (mOr (mTst (mBin (oEq true) (mVB 6) (mVB 5))) (mOr (mNotT (mTru (mIsi ["tuple"] (mVB 6)))) (mTst (mBin (oEq true) (mCallK 0 3 [2, 1, 0] (nArg 3 f_mothers_of) mNil (mCons (mV 4) (mCons (mV 2) (mCons (mV 0) mNil)))) (mVB 5)))))
    (mRet (mC (.bl false)))
    mSkip)
    (mSeq (mIf (mTst (mBin (oEq true) (mF (mComp (mSeqI (mVB 6)) (gN 7) (mTst (mBin (oEq true) (mMethG 7 "done" 1 0 [0] [] (nArg 2 f_Course_done) (mVB 0) (mCons (mV 7) mNil) mNil) (mVB 4))) (mV 7) [7])) (mLst mNil)))
    (mRet (mC (.bl false)))
    mSkip)
    (mSeq (mFor (gN 8) (mSeqA (mV 2))
    (mSeq (mAsg (gN 9) (mRepl 2 8))
    (mIf (mAnd (mTst (mBin (oEq true) (mVB 9) (mC (.str [])))) (mTst (mBin (oEq true) (mCall (nArg 3 f_mothers_of) (mCons (mV 0) (mCons (mV 9) (mCons (mV 4) mNil)))) (mCB fTuple (mCons (mF (mComp (mSeqI (mVB 5)) (gN 7) (mTst (mBin (oIn true) (mVB 8) (mVB 7))) (mV 7) [7])) mNil)))))
    (mRet (mC (.bl false)))
    mSkip)))
    (mRet (mC (.bl true)))))))
def f__law_sent_right : List D → List D → R D := runB 10 b_f__law_sent_right
theorem ok__law_sent_right (T : Txt K mg base a) : FnOk P w0 K mg base (L2.CX P w0) 8 a.d__law_sent_right a.fd__law_sent_right ["_law_course", "_law_rules", "_law_stock", "_law_words", "_law_outcome"] (spF K a.cl a.T 5 f__law_sent_right) :=
  ok_fnN (m := b_f__law_sent_right) T.F__law_sent_right sc__law_sent_right rfl rfl (by decide) fun cdv Ax outer s H E ap HP Hs hr => ⟨_, (jss_parT (i := 5) (j := 6) sc__law_sent_right.nd (ja_cons (je_tuple T.z_tuple (jab_cons (jb (je_f (jf_comp (own := [("_law_word_here", 7)]) sc__law_sent_right.nd (jib_seq (jb_v 3)) (blkOk_by (N := ["_law_course", "_law_rules", "_law_stock", "_law_words", "_law_outcome", "_law_due", "_law_found", "_law_word_here", "_law_sound", "_law_less"]) (sc := defScope s__law_sent_right) (own := [("_law_word_here", 7)]) (by decide +kernel)) (fun _ _ _ _ _ => (jg_name (i := 7) sc__law_sent_right.nd)) (fun _ _ _ _ _ => (jts_one (jt_c (jc_eq hr (jb (je_call (ok__law_done T) (hr.mono (by decide)) T.g__law_done T.F__law_done.kp (b__law_done T) L2.takes0 (ja_cons (je_v 1) (ja_cons (je_v 7) ja_nil)))) (jb_v 4))))) (fun _ _ _ _ _ => (je_v 7))))) jab_nil)) (ja_cons (je_call (ok_mothers_of T) (hr.mono (by decide)) T.g_mothers_of T.F_mothers_of.kp (b_mothers_of T) (takes_of rfl rfl rfl rfl) (ja_cons (je_v 0) (ja_cons (je_v 2) (ja_cons (je_v 4) ja_nil)))) ja_nil))
    (jsst_cons (js_if (jt_w (jw_or (jt_c (jc_ne hr (jb_v 6) (jb_v 5))) (jw_or (jt_not (jt_tru (jb (je_isi "tuple" "tuple" (by decide) T.z_isinstance T.z_tuple (by decide +kernel) (jb_v 6))))) (jw_or1 (jt_c (jc_ne hr (jb (je_callK0 (ok_mothers_of T) (hr.mono (by decide)) T.g_mothers_of T.F_mothers_of.kp (kb_2_mothers_of T) (takes_of rfl rfl rfl rfl) (jk_cons (je_v 4) (jk_cons (je_v 2) (jk_cons (je_v 0) jk_nil))))) (jb_v 5)))))))
    (jss_one (js_ret je_bl))
    jss_nil)
    (jsst_cons (js_if (jt_c (jc_ne hr (jb (je_f (jf_comp (own := [("_law_word_here", 7)]) sc__law_sent_right.nd (jib_seq (jb_v 6)) (blkOk_by (N := ["_law_course", "_law_rules", "_law_stock", "_law_words", "_law_outcome", "_law_due", "_law_found", "_law_word_here", "_law_sound", "_law_less"]) (sc := defScope s__law_sent_right) (own := [("_law_word_here", 7)]) (by decide +kernel)) (fun _ _ _ _ _ => (jg_name (i := 7) sc__law_sent_right.nd)) (fun _ _ _ _ _ => (jts_one (jt_c (jc_ne hr (jb (je_methG (c := 7) (idx := [0]) (dv := []) (jb_v 0) T.o_Course.cls T.me_Course_done (ok_Course_done T) (hr.mono (by decide)) (kb_3_Course_done T) rfl L2.takes0 (ja_cons (je_v 7) ja_nil) jk_nil)) (jb_v 4))))) (fun _ _ _ _ _ => (je_v 7))))) (jb (je_lst ja_nil))))
    (jss_one (js_ret je_bl))
    jss_nil)
    (jsst_consT (jst_forRep 2 8 9 (passes_of rfl) sc__law_sent_right.nd (je_v 2)
    (jss_one (js_if (jt_w (jw_and (jt_c (jc_ne hr (jb_v 9) (jb (je_str [])))) (jw_and1 (jt_c (jc_ne hr (jb (je_call (ok_mothers_of T) (hr.mono (by decide)) T.g_mothers_of T.F_mothers_of.kp (b_mothers_of T) (takes_of rfl rfl rfl rfl) (ja_cons (je_v 0) (ja_cons (je_v 9) (ja_cons (je_v 4) ja_nil))))) (jb (je_tuple T.z_tuple (jab_cons (jb (je_f (jf_comp (own := [("_law_word_here", 7)]) sc__law_sent_right.nd (jib_seq (jb_v 5)) (blkOk_by (N := ["_law_course", "_law_rules", "_law_stock", "_law_words", "_law_outcome", "_law_due", "_law_found", "_law_word_here", "_law_sound", "_law_less"]) (sc := defScope s__law_sent_right) (own := [("_law_word_here", 7)]) (by decide +kernel)) (fun _ _ _ _ _ => (jg_name (i := 7) sc__law_sent_right.nd)) (fun _ _ _ _ _ => (jts_one (jt_c (jc_notin hr (jb_v 8) (jb_v 7))))) (fun _ _ _ _ _ => (je_v 7))))) jab_nil))))))))
    (jss_one (js_ret je_bl))
    jss_nil)))
    (jsst_of (jss_one (js_ret je_bl)))))))⟩
def b_f_law : MS :=
    (mSeq (mAsg (gTu 3 (gsCons (gN 2) (gsCons (gN 3) (gsCons (gN 4) gsNil)))) (mCall (nArg 2 f__law_world) (mCons (mV 1) (mCons (mLst (mCons (mTup (mCons (mC (.int 1)) (mCons (mC (.int 2)) mNil))) (mCons (mTup (mCons (mC (.int 2)) (mCons (mC (.int 3)) mNil))) (mCons (mTup (mCons (mC (.int 2)) (mCons (mC (.int 2)) mNil))) (mCons (mTup (mCons (mC (.int 1)) (mCons (mC (.int 3)) mNil))) (mCons (mTup (mCons (mC (.int 3)) (mCons (mC (.int 2)) mNil))) (mCons (mTup (mCons (mC (.int 0)) (mCons (mC (.int 2)) mNil))) (mCons (mTup (mCons (mC (.int 5)) (mCons (mC (.int 2)) mNil))) (mCons (mTup (mCons (mC (.int 6)) (mCons (mC (.int 1)) mNil))) (mCons (mTup (mCons (mC (.int 4)) (mCons (mC (.int 2)) mNil))) (mCons (mTup (mCons (mC (.int 1)) (mCons (mC (.int 4)) mNil))) mNil))))))))))) mNil))))
    (mSeq (mPar 5 6 (mCons (mCall (nArg 1 f__law_made) (mCons (mV 2) mNil)) (mCons (mIx (mLst (mCons (mC (.int 7)) (mCons (mC (.int 6)) (mCons (mC (.int 5)) (mCons (mC (.int 4)) mNil))))) (mBin oSub (mCB fLen (mCons (mVB 3) mNil)) (mC (.int 1)))) mNil)))
    (mSeq (mFor (gN 7) (mRng1 (mC (.int 3)))
    (mSeq (mAsg (gN 8) (mCall (nArg 2 f__law_draw) (mCons (mV 1) (mCons (mV 6) mNil))))
    (mSeq (mPar 9 10 (mCons (mCall (nArg 2 f__law_long) (mCons (mV 3) (mCons (mV 8) mNil))) (mCons (mCall (nArg 3 f__law_word) (mCons (mV 1) (mCons (mV 3) (mCons (mV 8) mNil)))) mNil)))
    (mSeq (mAsg (gN 11) (mCall (nArg 3 f__law_word) (mCons (mV 1) (mCons (mV 4) (mCons (mV 8) mNil)))))
    (mSeq (mFor (gN 12) (mSeqI (mTup (mCons (mCall (nArg 2 f__law_done) (mCons (mV 2) (mCons (mV 10) mNil))) (mCons (mV 10) (mCons (mV 11) mNil)))))
    (mIf (mNotT (mTru (mCall (nArg 5 f__law_sent_right) (mCons (mV 5) (mCons (mV 2) (mCons (mV 3) (mCons (mV 9) (mCons (mV 12) mNil))))))))
    (mRet (mC (.bl false)))
    mSkip))
    (mSeq (mAsg (gN 13) (mCall (nArg 2 f__law_pick) (mCons (mV 1) (mCons (mV 4) mNil))))
    (mSeq (mAsg (gN 14) (mTup (mCons (mV 13) (mCons (mCall (nArg 2 f__law_pick) (mCons (mV 1) (mCons (mF (mComp (mSeqI (mVB 4)) (gN 15) (mTst (mBin (oEq true) (mVB 15) (mVB 13))) (mV 15) [15])) mNil))) (mCons (mCall (nArg 2 f__law_side) (mCons (mV 1) (mCons (mV 4) mNil))) (mCons (mCall (nArg 2 f__law_side) (mCons (mV 1) (mCons (mV 4) mNil))) mNil))))))
    (mIf (mAnd (mTst (mBin (oCmp fLt sLt) (mCB fLen (mCons (mVB 2) mNil)) (mC (.int 6)))) (mTst (mBin (oInT true) (mVB 10) (mCall (nArg 3 f_mothers_of) (mCons (mCall (nArg 1 f__law_made) (mCons (mBin oAdd (mVB 2) (mLst (mCons (mV 14) mNil))) mNil)) (mCons (mV 3) (mCons (mCall (nArg 2 f__law_done) (mCons (mBin oAdd (mVB 2) (mLst (mCons (mV 14) mNil))) (mCons (mV 10) mNil))) mNil)))))))
    (mRet (mC (.bl false)))
    mSkip))))))))
    (mSeq (mIf (mTst (mBin (oEq true) (mCall (nArg 3 f_mothers_of) (mCons (mMakeG 7 1 0 [0] [] (nArgN 1 f_Course_init) (mCons (mLst (mCons (mMakeG 8 2 0 [0, 1, 2, 3] [.non, .non] (nArgN 4 f_Shift_init) (mCons (mC (.str [97])) (mCons (mC (.str [98])) mNil)) mNil) mNil)) mNil) mNil) (mCons (mC (.str [97, 98])) (mCons (mBin oMul (mC (.str [98])) (mC (.int 6))) mNil)))) (mCB fTuple (mCons (mCall (nArg 2 f__law_long) (mCons (mC (.str [97, 98])) (mCons (mC (.int 6)) mNil))) mNil))))
    (mRet (mC (.bl false)))
    mSkip)
    (mSeq (mAsg (gN 10) (mCall (nArg 3 f__law_word) (mCons (mV 1) (mCons (mSl (mVB 3) mNoP (mPart (mC (.int 1)))) (mCons (mC (.int 6)) mNil)))))
    (mRet (mAndV (mBin (oInT false) (mVB 10) (mCall (nArg 3 f_mothers_of) (mCons (mV 5) (mCons (mSl (mVB 3) mNoP (mPart (mC (.int 2)))) (mCons (mCall (nArg 2 f__law_done) (mCons (mV 2) (mCons (mV 10) mNil))) mNil))))) (mBin (oEq false) (mCall (nArg 3 f_mothers_of) (mCons (mV 5) (mCons (mV 3) (mCons (mC (.str [])) mNil)))) (mTup (mCons (mC (.str [])) mNil))))))))))
theorem ok_law (T : Txt K mg base a) {Pre : List Int → Prop} (pure_law : ∀ ns, Pre ns → ∃ cells w', f__law_pen [.frz (ns.map D.int)] [] = .ok cells [] ∧ b_f_law (.val (.frz (ns.map D.int)) :: .val .pen :: List.replicate 14 .no) cells = .ret (.bl true) w') :
    FnOk P w0 K mg base (L2.CX P w0) 9 a.d_law a.fd_law ["_law_script"] (spLaw K a.T Pre) :=
  FT.ok_law (y := "") (kp := 0) (pm := f__law_pen) (mr := b_f_law) T.F_law sc_law (by decide) rfl
    (fun cdv Ax outer s H E hr => ps_set sc_law.nd rfl (by first | exact Or.inl rfl | exact Or.inr rfl) (by exact pe_callS (ok__law_pen T) (hr.mono (by decide)) rfl T.g__law_pen T.F__law_pen.kp (b__law_pen T) (fun σ => passAt (takes_of rfl rfl rfl rfl) σ) (pa_cons (pe_var rfl (by first | exact Or.inl rfl | exact Or.inr (Or.inl rfl))) pa_nil)))
    (fun cdv Ax outer s H E ap HP H1 Hs hr => ⟨_, (jss_cons (js_asg (je_call (ok__law_world T) (hr.mono (by decide)) T.g__law_world T.F__law_world.kp (b__law_world T) (takes_of rfl rfl rfl rfl) (ja_cons (je_v 1) (ja_cons (je_lst (ja_cons (je_tup (ja_cons je_int (ja_cons je_int ja_nil))) (ja_cons (je_tup (ja_cons je_int (ja_cons je_int ja_nil))) (ja_cons (je_tup (ja_cons je_int (ja_cons je_int ja_nil))) (ja_cons (je_tup (ja_cons je_int (ja_cons je_int ja_nil))) (ja_cons (je_tup (ja_cons je_int (ja_cons je_int ja_nil))) (ja_cons (je_tup (ja_cons je_int (ja_cons je_int ja_nil))) (ja_cons (je_tup (ja_cons je_int (ja_cons je_int ja_nil))) (ja_cons (je_tup (ja_cons je_int (ja_cons je_int ja_nil))) (ja_cons (je_tup (ja_cons je_int (ja_cons je_int ja_nil))) (ja_cons (je_tup (ja_cons je_int (ja_cons je_int ja_nil))) ja_nil))))))))))) ja_nil))) (jg_tup (n := 3) (jgs_cons (jg_name (i := 2) sc_law.nd) (jgs_cons (jg_name (i := 3) sc_law.nd) (jgs_cons (jg_name (i := 4) sc_law.nd) jgs_nil)))))
    (jss_cons (js_par (i := 5) (j := 6) sc_law.nd (ja_cons (je_call (ok__law_made T) (hr.mono (by decide)) T.g__law_made T.F__law_made.kp (b__law_made T) (takes_of rfl rfl rfl rfl) (ja_cons (je_v 2) ja_nil)) (ja_cons (je_ix (jb (je_lst (ja_cons je_int (ja_cons je_int (ja_cons je_int (ja_cons je_int ja_nil)))))) (jb (je_sub (jb (je_len T.z_len (jab_cons (jb_v 3) jab_nil))) (jb je_int)))) ja_nil)))
    (jss_cons (js_for (passes_of rfl) (ji_rng1 T.z_range je_int) (jg_name (i := 7) sc_law.nd)
    (jss_cons (js_set (i := 8) sc_law.nd (je_call (ok__law_draw T) (hr.mono (by decide)) T.g__law_draw T.F__law_draw.kp (b__law_draw T) (takes_of rfl rfl rfl rfl) (ja_cons (je_v 1) (ja_cons (je_v 6) ja_nil))))
    (jss_cons (js_par (i := 9) (j := 10) sc_law.nd (ja_cons (je_call (ok__law_long T) (hr.mono (by decide)) T.g__law_long T.F__law_long.kp (b__law_long T) (takes_of rfl rfl rfl rfl) (ja_cons (je_v 3) (ja_cons (je_v 8) ja_nil))) (ja_cons (je_call (ok__law_word T) (hr.mono (by decide)) T.g__law_word T.F__law_word.kp (b__law_word T) (takes_of rfl rfl rfl rfl) (ja_cons (je_v 1) (ja_cons (je_v 3) (ja_cons (je_v 8) ja_nil)))) ja_nil)))
    (jss_cons (js_set (i := 11) sc_law.nd (je_call (ok__law_word T) (hr.mono (by decide)) T.g__law_word T.F__law_word.kp (b__law_word T) (takes_of rfl rfl rfl rfl) (ja_cons (je_v 1) (ja_cons (je_v 4) (ja_cons (je_v 8) ja_nil)))))
    (jss_cons (js_for (passes_of rfl) (ji_seq (je_tup (ja_cons (je_call (ok__law_done T) (hr.mono (by decide)) T.g__law_done T.F__law_done.kp (b__law_done T) (takes_of rfl rfl rfl rfl) (ja_cons (je_v 2) (ja_cons (je_v 10) ja_nil))) (ja_cons (je_v 10) (ja_cons (je_v 11) ja_nil))))) (jg_name (i := 12) sc_law.nd)
    (jss_one (js_if (jt_not (jt_tru (jb (je_call (ok__law_sent_right T) (hr.mono (by decide)) T.g__law_sent_right T.F__law_sent_right.kp (b__law_sent_right T) (takes_of rfl rfl rfl rfl) (ja_cons (je_v 5) (ja_cons (je_v 2) (ja_cons (je_v 3) (ja_cons (je_v 9) (ja_cons (je_v 12) ja_nil)))))))))
    (jss_one (js_ret je_bl))
    jss_nil)))
    (jss_cons (js_set (i := 13) sc_law.nd (je_call (ok__law_pick T) (hr.mono (by decide)) T.g__law_pick T.F__law_pick.kp (b__law_pick T) (takes_of rfl rfl rfl rfl) (ja_cons (je_v 1) (ja_cons (je_v 4) ja_nil))))
    (jss_cons (js_set (i := 14) sc_law.nd (je_tup (ja_cons (je_v 13) (ja_cons (je_call (ok__law_pick T) (hr.mono (by decide)) T.g__law_pick T.F__law_pick.kp (b__law_pick T) (takes_of rfl rfl rfl rfl) (ja_cons (je_v 1) (ja_cons (je_f (jf_comp (own := [("_law_sign", 15)]) sc_law.nd (jib_seq (jb_v 4)) (blkOk_by (N := ["_law_script", "_law_pen_here", "_law_rules", "_law_stock", "_law_sounds", "_law_course", "_law_most", "_law_turn", "_law_size", "_law_words", "_law_word_here", "_law_other", "_law_outcome", "_law_old", "_law_more", "_law_sign"]) (sc := defScope s_law) (own := [("_law_sign", 15)]) (by decide +kernel)) (fun _ _ _ _ _ => (jg_name (i := 15) sc_law.nd)) (fun _ _ _ _ _ => (jts_one (jt_c (jc_ne hr (jb_v 15) (jb_v 13))))) (fun _ _ _ _ _ => (je_v 15)))) ja_nil))) (ja_cons (je_call (ok__law_side T) (hr.mono (by decide)) T.g__law_side T.F__law_side.kp (b__law_side T) (takes_of rfl rfl rfl rfl) (ja_cons (je_v 1) (ja_cons (je_v 4) ja_nil))) (ja_cons (je_call (ok__law_side T) (hr.mono (by decide)) T.g__law_side T.F__law_side.kp (b__law_side T) (takes_of rfl rfl rfl rfl) (ja_cons (je_v 1) (ja_cons (je_v 4) ja_nil))) ja_nil))))))
    (jss_one (js_if (jt_w (jw_and (jt_c (jc_lt (jb (je_len T.z_len (jab_cons (jb_v 2) jab_nil))) (jb je_int))) (jw_and1 (jt_c (jc_notinT (jb_v 10) (jb (je_call (ok_mothers_of T) (hr.mono (by decide)) T.g_mothers_of T.F_mothers_of.kp (b_mothers_of T) (takes_of rfl rfl rfl rfl) (ja_cons (je_call (ok__law_made T) (hr.mono (by decide)) T.g__law_made T.F__law_made.kp (b__law_made T) (takes_of rfl rfl rfl rfl) (ja_cons (je_add (jb_v 2) (jb (je_lst (ja_cons (je_v 14) ja_nil)))) ja_nil)) (ja_cons (je_v 3) (ja_cons (je_call (ok__law_done T) (hr.mono (by decide)) T.g__law_done T.F__law_done.kp (b__law_done T) (takes_of rfl rfl rfl rfl) (ja_cons (je_add (jb_v 2) (jb (je_lst (ja_cons (je_v 14) ja_nil)))) (ja_cons (je_v 10) ja_nil))) ja_nil))))))))))
    (jss_one (js_ret je_bl))
    jss_nil)))))))))
    (jss_cons (js_if (jt_c (jc_ne hr (jb (je_call (ok_mothers_of T) (hr.mono (by decide)) T.g_mothers_of T.F_mothers_of.kp (b_mothers_of T) (takes_of rfl rfl rfl rfl) (ja_cons (je_makeG (c := 7) (idx := [0]) (dv := []) T.mk_Course (ok_Course_init T) (hr.mono (by decide)) T.g_Course (kb_0_Course_init T) rfl (takes_of rfl rfl rfl rfl) (ja_cons (je_lst (ja_cons (je_makeG (c := 8) (idx := [0, 1, 2, 3]) (dv := [.non, .non]) T.mk_Shift (ok_Shift_init T) (hr.mono (by decide)) T.g_Shift (kb_4_Shift_init T) rfl (takes_of rfl rfl rfl rfl) (ja_cons (je_str [97]) (ja_cons (je_str [98]) ja_nil)) jk_nil) ja_nil)) ja_nil) jk_nil) (ja_cons (je_str [97, 98]) (ja_cons (je_mul (jb (je_str [98])) (jb je_int)) ja_nil))))) (jb (je_tuple T.z_tuple (jab_cons (jb (je_call (ok__law_long T) (hr.mono (by decide)) T.g__law_long T.F__law_long.kp (b__law_long T) (takes_of rfl rfl rfl rfl) (ja_cons (je_str [97, 98]) (ja_cons je_int ja_nil)))) jab_nil)))))
    (jss_one (js_ret je_bl))
    jss_nil)
    (jss_cons (js_set (i := 10) sc_law.nd (je_call (ok__law_word T) (hr.mono (by decide)) T.g__law_word T.F__law_word.kp (b__law_word T) (takes_of rfl rfl rfl rfl) (ja_cons (je_v 1) (ja_cons (je_sl (jb_v 3) jo_none (jo_some je_int)) (ja_cons je_int ja_nil)))))
    (jss_one (js_ret (je_and (je_inT (jb_v 10) (jb (je_call (ok_mothers_of T) (hr.mono (by decide)) T.g_mothers_of T.F_mothers_of.kp (b_mothers_of T) (takes_of rfl rfl rfl rfl) (ja_cons (je_v 5) (ja_cons (je_sl (jb_v 3) jo_none (jo_some je_int)) (ja_cons (je_call (ok__law_done T) (hr.mono (by decide)) T.g__law_done T.F__law_done.kp (b__law_done T) (takes_of rfl rfl rfl rfl) (ja_cons (je_v 2) (ja_cons (je_v 10) ja_nil))) ja_nil)))))) (je_one (je_eq hr (jb (je_call (ok_mothers_of T) (hr.mono (by decide)) T.g_mothers_of T.F_mothers_of.kp (b_mothers_of T) (takes_of rfl rfl rfl rfl) (ja_cons (je_v 5) (ja_cons (je_v 3) (ja_cons (je_str []) ja_nil))))) (jb (je_tup (ja_cons (je_str []) ja_nil)))))))))))))⟩) pure_law
end
end K16
end
section
set_option Elab.async false
set_option linter.all false
set_option maxRecDepth 100000
set_option maxHeartbeats 4000000
namespace K16
open PySem PySem.Spec PyProof.Rows L2 FT
def Well (n : Nat) (w : List D) : Prop := ∃ (cells : List Int) (k : Nat) (rest : Int), w = [.lst (cells.map D.int), .int k, .int rest] ∧ cells.length ≤ 60 ∧ k ≤ n ∧ 0 ≤ rest
def dipCell : MS := mIf (mTst (mBin (oEq true) (mIx (mVB 0) (mC (.int 0))) (mLst mNil)))
    (mAsg (gN 4) (mIx (mIx (mVB 0) (mC (.int 0))) (mBin oMod (mCB fInt (mCons (mVB 3) mNil)) (mCB fLen (mCons (mIx (mVB 0) (mC (.int 0))) mNil)))))
    mSkip
def dipMix : MS := mSeq (mAsg (gN 5) (mBin oMod (mCB fInt (mCons (mBin oPow (mBin oAdd (mBin oAdd (mBin oMod (mCB fInt (mCons (mVB 4) mNil)) (mC (.int 2147483587))) (mBin oMul (mC (.int 62191)) (mVB 3))) (mC (.int 4831))) (mC (.int 5))) mNil)) (mC (.int 2147483563))))
    (mSeq (mAsg (gN 5) (mBin oMod (mCB fInt (mCons (mBin oPow (mBin oAdd (mBin oAdd (mBin oMul (mVB 5) (mBin oAdd (mBin oMul (mC (.int 2)) (mVB 3)) (mC (.int 2381)))) (mBin oMul (mBin oMul (mC (.int 50291)) (mVB 3)) (mVB 3))) (mC (.int 4831))) (mC (.int 3))) mNil)) (mC (.int 2147483549))))
    (mRet (mBin oMod (mCB fInt (mCons (mBin oDiv (mVB 5) (mC (.int 64))) mNil)) (mVB 1))))
def dipBig : MS := mIf (mAnd (mTst (mBin (oCmp fLt sLt) (mVB 3) (mCB fLen (mCons (mIx (mVB 0) (mC (.int 0))) mNil)))) (mTst (mBin (oCmp fGe sGe) (mCB fAbs (mCons (mVB 4) mNil)) (mBin oPow (mC (.int 10)) (mC (.int 18))))))
    (mSeq (mAsg (gN 2) (mBin oAdd (mBin oMul (mC (.int 2)) (mBin oSub (mCB fAbs (mCons (mCB fInt (mCons (mVB 4) mNil)) mNil)) (mBin oPow (mC (.int 10)) (mC (.int 18))))) (mCB fInt (mCons (mBin (oCmp fLt sLt) (mVB 4) (mC (.int 0))) mNil))))
    (mSeq (mSetI 0 (mC (.int 2)) (mBin oDiv (mVB 2) (mVB 1)))
    (mRet (mBin oMod (mCB fInt (mCons (mVB 2) mNil)) (mVB 1)))))
    mSkip
def dipHead (r : MS) : MS := mSeq (mIf (mTst (mBin (oCmp fGt sGt) (mIx (mVB 0) (mC (.int 2))) (mC (.int 0))))
    (mSeq (mAsg (gN 2) (mCB fInt (mCons (mIx (mVB 0) (mC (.int 2))) mNil)))
    (mSeq (mSetI 0 (mC (.int 2)) (mBin oDiv (mVB 2) (mVB 1)))
    (mRet (mBin oMod (mVB 2) (mVB 1)))))
    mSkip)
    (mSeq (mAsg (gN 3) (mIx (mVB 0) (mC (.int 1))))
    (mSeq (mSetI 0 (mC (.int 1)) (mBin oAdd (mVB 3) (mC (.int 1))))
    (mSeq (mAsg (gN 4) (mBin oAdd (mBin oMul (mC (.int 62191)) (mVB 3)) (mC (.int 4831)))) r)))
theorem dip_split : b_f__law_draw = dipHead (mSeq dipCell (mSeq dipBig dipMix)) := rfl
theorem ev_cell (m k : Int) (kn : Nat) (hk : k = kn) (c0 : Int) (cells : List Int) (rest k1 : Int) : ∃ c : Int, dipCell [.val .pen, .val (.int m), .no, .val (.int k), .val (.int c0), .no] [.lst (cells.map D.int), .int k1, .int rest] = .nx [.val .pen, .val (.int m), .no, .val (.int k), .val (.int c), .no] [.lst (cells.map D.int), .int k1, .int rest] := by
  subst hk
  cases cells with
  | nil => exact ⟨c0, by simp [dipCell, oIx, atI, ixN, oEq, dep, eqD, eqL]⟩
  | cons z zs =>
    have hl : kn % (zs.length + 1) < (z :: zs).length := Nat.mod_lt _ (Nat.succ_pos _)
    refine ⟨(z :: zs)[kn % (zs.length + 1)], ?_⟩
    have e1 : ((kn : Int) % ((zs.length : Int) + 1)) = ((kn % (zs.length + 1) : Nat) : Int) := by simp
    have e2 : (D.int z :: zs.map D.int)[kn % (zs.length + 1)]? = some (D.int (z :: zs)[kn % (zs.length + 1)]) := by
      rw [← List.map_cons, List.getElem?_map, List.getElem?_eq_getElem hl]; rfl
    have e3 : (kn : Int) % ((zs.length : Int) + 1) < (zs.length : Int) + 1 := Int.emod_lt_of_pos _ (by omega)
    have e4 : (0 : Int) < (zs.length : Int) + 1 := by omega
    have e5 : (0 : Int) ≤ (kn : Int) % ((zs.length : Int) + 1) := Int.emod_nonneg _ (by omega)
    have e6 : ((kn : Int) % ((zs.length : Int) + 1)).toNat = kn % (zs.length + 1) := by rw [e1]; rfl
    simp [dipCell, oIx, atI, ixN, oEq, dep, eqD, eqL, fInt, fLen, oMod, oInt, e4, e2, e3, e5, e6]
theorem ev_mix (m k c : Int) (h0 : 0 < m) (hk0 : 0 ≤ k) (hk : k < 10000) (r2 : SV) (r5 : SV) (w : List D) : ∃ (r : Int), dipMix [.val .pen, .val (.int m), r2, .val (.int k), .val (.int c), r5] w = .ret (.int r) w ∧ 0 ≤ r ∧ r < m := by
  have b1 : 0 ≤ c % 2147483587 := Int.emod_nonneg _ (by omega)
  have b2 : c % 2147483587 < 2147483587 := Int.emod_lt_of_pos _ (by omega)
  have p1 : cPow (c % 2147483587 + 62191 * k + 4831) 5 = true := by
    unfold cPow
    simp only [Bool.and_eq_true, decide_eq_true_eq]
    omega
  generalize hx1 : (c % 2147483587 + 62191 * k + 4831) ^ 5 % 2147483563 = x1
  have b3 : 0 ≤ x1 := by rw [← hx1]; exact Int.emod_nonneg _ (by omega)
  have b4 : x1 < 2147483563 := by rw [← hx1]; exact Int.emod_lt_of_pos _ (by omega)
  have q1 : 0 ≤ x1 * (2 * k + 2381) := Int.mul_nonneg b3 (by omega)
  have q2 : x1 * (2 * k + 2381) ≤ 2147483563 * 30000 := Int.mul_le_mul (by omega) (by omega) (by omega) (by omega)
  have q3 : 0 ≤ 50291 * k * k := Int.mul_nonneg (by omega) hk0
  have q4 : 50291 * k * k ≤ 900000000 * 10000 := Int.mul_le_mul (by omega) (by omega) hk0 (by omega)
  have p2 : cPow (x1 * (2 * k + 2381) + 50291 * k * k + 4831) 3 = true := by
    unfold cPow
    simp only [Bool.and_eq_true, decide_eq_true_eq]
    omega
  refine ⟨((x1 * (2 * k + 2381) + 50291 * k * k + 4831) ^ 3 % 2147483549 / 64) % m, ?_, Int.emod_nonneg _ (by omega), Int.emod_lt_of_pos _ h0⟩
  have g1 : -18446744073709551616 < x1 := by omega
  have g2 : x1 < 18446744073709551616 := by omega
  have g3 : -18446744073709551616 < k := by omega
  have g4 : k < 18446744073709551616 := by omega
  have hx1' := hx1
  simp [dipMix, oMod, oInt, oPow, oAdd, oMul, fInt, p1, p2, hx1, g1, g2, g3, g4, oDiv, cDiv, h0]
theorem ev_big (m k c : Int) (h0 : 0 < m) (h1 : m < 1073741824) (cells : List Int) (rest k1 : Int) : dipBig [.val .pen, .val (.int m), .no, .val (.int k), .val (.int c), .no] [.lst (cells.map D.int), .int k1, .int rest] = .nx [.val .pen, .val (.int m), .no, .val (.int k), .val (.int c), .no] [.lst (cells.map D.int), .int k1, .int rest] ∨
    ∃ r rest', dipBig [.val .pen, .val (.int m), .no, .val (.int k), .val (.int c), .no] [.lst (cells.map D.int), .int k1, .int rest] = .ret (.int r) [.lst (cells.map D.int), .int k1, .int rest'] ∧ 0 ≤ r ∧ r < m ∧ 0 ≤ rest' := by
  by_cases hk : k < cells.length
  · generalize ha : (if c < 0 then -c else c) = a
    by_cases hb : 1000000000000000000 ≤ a
    · refine .inr ⟨(2 * (a - 1000000000000000000) + (if c < 0 then 1 else 0)) % m, (2 * (a - 1000000000000000000) + (if c < 0 then 1 else 0)) / m, ?_, Int.emod_nonneg _ (by omega), Int.emod_lt_of_pos _ h0, Int.ediv_nonneg (by split <;> omega) (by omega)⟩
      have e : ¬ a < 1000000000000000000 := by omega
      by_cases hc : c < 0
      · rw [if_pos hc] at ha
        subst ha
        simp [dipBig, oIx, atI, ixN, oCmp, fLt, fLen, hk, fAbs, oPow, oInt, cPow, oSub, oAdd, oMul, fInt, oDiv, cDiv, h0, h1, flat, oMod, hb, e, hc]
      · rw [if_neg hc] at ha
        subst ha
        simp [dipBig, oIx, atI, ixN, oCmp, fLt, fLen, hk, fAbs, oPow, oInt, cPow, oSub, oAdd, oMul, fInt, oDiv, cDiv, h0, h1, flat, oMod, hb, e, hc]
    · refine .inl ?_
      have e : a < 1000000000000000000 := by omega
      simp [dipBig, oIx, atI, ixN, oCmp, fLen, hk, fAbs, ha, oPow, oInt, cPow, oSub, fInt, oDiv, cDiv, h0, h1, flat, oMod, hb, e]
  · refine .inl ?_
    simp [dipBig, oIx, atI, ixN, oCmp, fLen, hk]
theorem ev_dip {n : Nat} {w : List D} {m : Int} (h : Well n w) (hn : n < 10000) (h0 : 0 < m) (h1 : m < 1073741824) : ∃ r w', f__law_draw [.pen, .int m] w = .ok (.int r) w' ∧ 0 ≤ r ∧ r < m ∧ Well (n + 1) w' := by
  obtain ⟨cells, k, rest, rfl, hc, hk, hr⟩ := h
  by_cases hp : rest > 0
  · refine ⟨rest % m, [.lst (cells.map D.int), .int k, .int (rest / m)], ?_, Int.emod_nonneg _ (by omega), Int.emod_lt_of_pos _ h0, ⟨cells, k, _, rfl, hc, by omega, Int.ediv_nonneg hr (by omega)⟩⟩
    simp [f__law_draw, dip_split, dipHead, s_runB, sd0, oIx, atI, ixN, oCmp, fGt, hp, fInt, oDiv, oInt, cDiv, h0, h1, flat, oMod]
  · obtain ⟨c, e1⟩ := ev_cell m k k rfl (62191 * k + 4831) cells rest (k + 1)
    rcases ev_big m k c h0 h1 cells rest (k + 1) with e2 | ⟨r, rest', e2, b1, b2, b3⟩
    · obtain ⟨r, e3, b1, b2⟩ := ev_mix m k c h0 (by omega) (by omega) .no .no [.lst (cells.map D.int), .int (k + 1), .int rest]
      refine ⟨r, _, ?_, b1, b2, ⟨cells, k + 1, rest, rfl, hc, by omega, hr⟩⟩
      simp [f__law_draw, dip_split, dipHead, s_runB, sd0, oIx, atI, ixN, oCmp, fGt, hp, oAdd, oMul, flat, e1, e2, e3]
    · refine ⟨r, _, ?_, b1, b2, ⟨cells, k + 1, rest', rfl, hc, by omega, b3⟩⟩
      simp [f__law_draw, dip_split, dipHead, s_runB, sd0, oIx, atI, ixN, oCmp, fGt, hp, oAdd, oMul, flat, e1, e2]
theorem ev_pick {n : Nat} {w : List D} {d : D} {ds : List D} (h : Well n w) (hn : n < 10000) (hd : d = .lst ds ∨ ∃ s : List Nat, d = .str s ∧ ds = s.map fun c => D.str [c]) (h0 : 0 < ds.length) (h1 : ds.length < 1073741824) : ∃ r w', f__law_pick [.pen, d] w = .ok r w' ∧ r ∈ ds ∧ Well (n + 1) w' := by
  obtain ⟨r, w', e, b1, b2, W⟩ := ev_dip (m := ds.length) h hn (by omega) (by omega)
  have hr : r.toNat < ds.length := by omega
  have e4 : r < (ds.length : Int) := b2
  rcases hd with rfl | ⟨s, rfl, rfl⟩
  · refine ⟨ds[r.toNat], w', ?_, List.getElem_mem _, W⟩
    simp [f__law_pick, b_f__law_pick, s_runB, sd0, fLen, e, oIx, atI, ixN, b1, e4, List.getElem?_eq_getElem hr]
  · rw [List.length_map] at *
    refine ⟨.str [s[r.toNat]], w', ?_, List.mem_map.mpr ⟨_, List.getElem_mem _, rfl⟩, W⟩
    simp [f__law_pick, b_f__law_pick, s_runB, sd0, fLen, e, oIx, atI, ixN, b1, e4, List.getElem?_eq_getElem hr]
end K16
end
section
set_option Elab.async false
set_option linter.all false
set_option maxRecDepth 100000
set_option maxHeartbeats 4000000
namespace K16
open PySem PySem.Spec PyProof.Rows L2 FT
def wordB (s : List Nat) : Bool := decide (s.length ≤ 12) && s.all fun c => decide (c ∈ LET)
theorem ev_is_word_str (s : List Nat) (hs : s.length ≤ 16777216) (w : List D) : f_is_word [.str s] w = .ok (.bl (wordB s)) w := by
  have hc := comp_in (i := 1) (t := mC (.str LET)) (sdv := [.val (.str s), .no]) (w := w) LET s (by simp) (fun d => rfl)
  have hfa : fAll w [.lst ((s.map fun c => decide (c ∈ LET)).map D.bl)] = some (.bl (s.all fun c => decide (c ∈ LET))) := by
    show Option.map _ (bools _) = _
    rw [bools_map, Option.map_some, all_map_id]
  unfold wordB
  generalize (s.map fun c => decide (c ∈ LET)).map D.bl = l at hc hfa
  generalize (s.all fun c => decide (c ∈ LET)) = b at hfa
  by_cases h : s.length ≤ 12
  · have h' : (s.length : Int) ≤ 12 := by omega
    simp [f_is_word, b_f_is_word, s_runB, sd0, tyN, isiB, fLen, oCmp, fLe, h', items, hs, hc, hfa, h]
  · have h' : ¬ (s.length : Int) ≤ 12 := by omega
    simp [f_is_word, b_f_is_word, s_runB, sd0, tyN, isiB, fLen, oCmp, fLe, h', h]
/-- what is no text -/
def noStr : D → Bool
  | .non => true
  | .bl _ => true
  | .int _ => true
  | .lst _ => true
  | .tup _ => true
  | _ => false
theorem ev_is_word_no (d : D) (hd : noStr d = true) (w : List D) : f_is_word [d] w = .ok (.bl false) w := by
  match d, hd with
  | .non, _ => simp [f_is_word, b_f_is_word, s_runB, sd0, tyN, isiB]
  | .bl _, _ => simp [f_is_word, b_f_is_word, s_runB, sd0, tyN, isiB]
  | .int _, _ => simp [f_is_word, b_f_is_word, s_runB, sd0, tyN, isiB]
  | .lst _, _ => simp [f_is_word, b_f_is_word, s_runB, sd0, tyN, isiB]
  | .tup _, _ => simp [f_is_word, b_f_is_word, s_runB, sd0, tyN, isiB]
def wordD : D → Bool
  | .str s => wordB s
  | _ => false
def okD : D → Bool
  | .str s => decide (s.length ≤ 16777216)
  | d => noStr d
theorem ev_is_word (d : D) (h : okD d = true) (w : List D) : f_is_word [d] w = .ok (.bl (wordD d)) w := by
  match d, h with
  | .str s, h => exact ev_is_word_str s (of_decide_eq_true h) w
  | .non, _ => exact ev_is_word_no .non rfl w
  | .bl x, _ => exact ev_is_word_no (.bl x) rfl w
  | .int x, _ => exact ev_is_word_no (.int x) rfl w
  | .lst x, _ => exact ev_is_word_no (.lst x) rfl w
  | .tup x, _ => exact ev_is_word_no (.tup x) rfl w
theorem ev_need_word (d p : D) (h : okD d = true) (w : List D) : f_need_word [d, p] w = if wordD d = true then .ok .non w else .exc 0 ["part"] [p] w := by
  have e := ev_is_word d h w
  cases hw : wordD d <;> rw [hw] at e <;> simp [f_need_word, b_f_need_word, s_runB, sd0, e, truthD]
theorem wb (s : List Nat) (h : s.length ≤ 12) (h2 : ∀ c ∈ s, c ∈ LET) : wordB s = true := by
  unfold wordB
  rw [decide_eq_true h, List.all_eq_true.mpr fun c hc => decide_eq_true (h2 c hc)]; rfl
theorem ev_is_sound (c : Nat) (w : List D) : f_is_sound [.str [c]] w = .ok (.bl (decide (c ∈ LET))) w := by
  simp only [f_is_sound, s_runB, sd0]
  simp [b_f_is_sound, tyN, isiB, fLen, oEq_ii, oIn]

/-- a side: None, or signs ascending -/
def sgnB (c : Nat) : Bool := decide (c = 35) || decide (c ∈ LET)
structure SideOk (s : List Nat) : Prop where
  ne : s ≠ []
  srt : s.Pairwise (· < ·)
  sg : ∀ c ∈ s, sgnB c = true
  few : s.length ≤ 1000
def optD : Option (List Nat) → D
  | none => .non
  | some s => .str s
def SideO : Option (List Nat) → Prop
  | none => True
  | some s => SideOk s
theorem adj_of_pw : ∀ {l : List Nat}, l.Pairwise (· < ·) → (l.zip (l.drop 1)).all (fun p => decide (p.1 < p.2)) = true
  | [], _ => rfl
  | [a], _ => rfl
  | a :: b :: r, h => by
    have h' := List.pairwise_cons.mp h
    have := adj_of_pw h'.2
    simp only [List.drop_succ_cons, List.drop_zero, List.zip_cons_cons, List.all_cons, Bool.and_eq_true, decide_eq_true_eq] at this ⊢
    exact ⟨h'.1 b List.mem_cons_self, this⟩
theorem zip_take (s : List Nat) : (s.take (s.length - 1)).zip (s.drop 1) = s.zip (s.drop 1) := by
  apply List.ext_getElem?
  intro i
  simp only [List.getElem?_zip_eq_some, List.zip, List.getElem?_zipWith, List.getElem?_take, List.getElem?_drop]
  by_cases h : i < s.length - 1
  · rw [if_pos h]
  · rw [if_neg h, show s[1 + i]? = none from List.getElem?_eq_none (by omega)]
    cases s[i]? <;> rfl
theorem ev_is_side (s : Option (List Nat)) (h : SideO s) (w : List D) : f_is_side [optD s] w = .ok (.bl true) w := by
  cases s with
  | none => simp [f_is_side, b_f_is_side, s_runB, sd0, optD, oIs, FT.isNon]
  | some s =>
    have hs : s.length ≤ 16777216 := by have := h.few; omega
    have hne : (s == []) = false := by
      have := h.ne
      cases s with
      | nil => exact absurd rfl this
      | cons a r => rfl
    have hc : compL (gN 1) mYes (mOrV (mBin (oEq false) (mVB 1) (mC (.str [35]))) (mBin (oIn false) (mVB 1) (mC (.str LET)))) [.val (.str s), .no, .no, .no] (S1 s) w = some ((s.map fun c => sgnB c).map D.bl, w) := by
      rw [compL_map (fun d => match d with | .str [c] => .bl (sgnB c) | _ => .non) _ fun d hd => ?_]
      · simp [S1, List.map_map, Function.comp_def]
      · obtain ⟨c, _, rfl⟩ := List.mem_map.mp hd
        refine ⟨_, rfl, ?_⟩
        by_cases h35 : c = 35
        · subst h35; simp [oEq_ss, sgnB]
        · have h1 : ([c] == [35]) = false := by simp [h35]
          have h2 : oIn false (.str [c]) (.str LET) = some (.bl (decide (c ∈ LET))) := rfl
          have h3 : sgnB c = decide (c ∈ LET) := by simp only [sgnB, h35, decide_false, Bool.false_or]
          have h4 : oEq false (.str [c]) (.str [35]) = some (.bl false) := by rw [oEq_ss, h1]; rfl
          show _ = R.ok (D.bl (sgnB c)) w
          rw [h3]
          generalize decide (c ∈ LET) = b at *
          generalize LET = L at *
          simp [h4, h2]
    have hfa : fAll w [.lst ((s.map fun c => sgnB c).map D.bl)] = some (.bl true) := by
      show Option.map _ (bools _) = _
      rw [bools_map, Option.map_some, all_map_id, List.all_eq_true.mpr h.sg]
    have hz : fZipX [.str (FT.cutD s none (some (-1))), .str (FT.cutD s (some 1) none)] = some ((s.zip (s.drop 1)).map fun p => D.tup [.str [p.1], .str [p.2]]) := by
      rw [cut_init, cut_drop1]
      show some (zipD (S1 _) (S1 _)) = _
      rw [zip_S1, zip_take]
    have hc2 : compL (gTu 2 (gsCons (gN 2) (gsCons (gN 3) gsNil))) mYes (mBin (oCmp fLt sLt) (mVB 2) (mVB 3)) [.val (.str s), .no, .no, .no] ((s.zip (s.drop 1)).map fun p => D.tup [.str [p.1], .str [p.2]]) w = some (((s.zip (s.drop 1)).map fun p => decide (p.1 < p.2)).map D.bl, w) := by
      rw [compL_map (fun d => match d with | .tup [.str [a], .str [b]] => .bl (decide (a < b)) | _ => .non) _ fun d hd => ?_]
      · simp [List.map_map, Function.comp_def]
      · obtain ⟨p, _, rfl⟩ := List.mem_map.mp hd
        refine ⟨_, rfl, ?_⟩
        have : decide ([p.1] < [p.2]) = decide (p.1 < p.2) := by
          congr 1
          simp [List.cons_lt_cons_iff]
        simp [oCmp, sLt, this]
    have hfa2 : fAll w [.lst (((s.zip (s.drop 1)).map fun p => decide (p.1 < p.2)).map D.bl)] = some (.bl true) := by
      show Option.map _ (bools _) = _
      rw [bools_map, Option.map_some, all_map_id, adj_of_pw h.srt]
    have hzl : ((s.zip (s.drop 1)).map fun p => D.tup [.str [p.1], .str [p.2]]).length ≤ 16777216 := by simp; omega
    have hi : items (.str s) = some (S1 s) := rfl
    have hl : (S1 s).length ≤ 16777216 := by simpa [S1] using hs
    generalize (s.map fun c => sgnB c).map D.bl = l at hc hfa
    generalize ((s.zip (s.drop 1)).map fun p => decide (p.1 < p.2)).map D.bl = l2 at hc2 hfa2
    generalize ((s.zip (s.drop 1)).map fun p => D.tup [.str [p.1], .str [p.2]]) = zz at hz hc2 hzl
    generalize S1 s = es at hc hi hl
    simp [f_is_side, b_f_is_side, s_runB, sd0, optD, oIs, FT.isNon, tyN, isiB, truthD, oEq_ss, hne, hi, hl, hc, hfa, oSl, oNeg, hz, hc2, hzl, hfa2]
theorem ev_is_new (n : List Nat) (o : Nat) (h : n = [] ∨ ∃ c, n = [c] ∧ c ∈ LET ∧ c ≠ o) (w : List D) : f_is_new [.str n, .str [o]] w = .ok (.bl true) w := by
  rcases h with rfl | ⟨c, rfl, hc, hne⟩
  · simp [f_is_new, b_f_is_new, s_runB, sd0, tyN, isiB, oEq_ss]
  · have e := ev_is_sound c w
    rw [decide_eq_true hc] at e
    have h1 : ([c] == [o]) = false := by simp [hne]
    simp [f_is_new, b_f_is_new, s_runB, sd0, tyN, isiB, oEq_ss, h1, e, hne]
end K16
end
section
set_option Elab.async false
set_option linter.all false
set_option maxRecDepth 100000
set_option maxHeartbeats 4000000
namespace K16
open PySem PySem.Spec PyProof.Rows L2 FT
/-! ### a shift made -/
structure Parts (o : Nat) (n : List Nat) (l r : Option (List Nat)) : Prop where
  o_ : o ∈ LET
  n_ : n = [] ∨ ∃ c, n = [c] ∧ c ∈ LET ∧ c ≠ o
  l_ : SideO l
  r_ : SideO r
def orE : Option (List Nat) → List Nat
  | none => []
  | some s => s
def soundsN (ts : List (List Nat)) : List Nat := LET.filter fun c => ts.any fun t => decide (c ∈ t)
theorem bools_any (f : List Nat → Bool) : ∀ ts : List (List Nat), ((ts.map f).any id) = ts.any f
  | [] => rfl
  | a :: ts => by simp [bools_any f ts]
theorem ev_sounds_in (ts : List (List Nat)) (h : ts.length ≤ 1000) (w : List D) : f_sounds_in_shifts [.lst (ts.map D.str)] w = .ok (.str (soundsN ts)) w := by
  have hin : ∀ (c : Nat), compL (gN 2) mYes (mBin (oIn false) (mVB 1) (mVB 2)) [.val (.lst (ts.map D.str)), .val (.str [c]), .no] (ts.map D.str) w = some ((ts.map fun t => decide (c ∈ t)).map D.bl, w) := by
    intro c
    rw [compL_map (fun d => match d with | .str t => .bl (decide (c ∈ t)) | _ => .non) _ fun d hd => ?_]
    · simp [List.map_map, Function.comp_def]
    · obtain ⟨t, _, rfl⟩ := List.mem_map.mp hd
      exact ⟨_, rfl, by simp [oIn]⟩
  have hany : ∀ (c : Nat), fAny w [.lst ((ts.map fun t => decide (c ∈ t)).map D.bl)] = some (.bl (ts.any fun t => decide (c ∈ t))) := by
    intro c
    show Option.map _ (bools _) = _
    rw [bools_map, Option.map_some, bools_any]
  have hl : (ts.map D.str).length ≤ 16777216 := by rw [List.length_map]; omega
  have hout : compL (gN 1) (mTru (mCB fAny (mCons (mF (mComp (mSeqI (mVB 0)) (gN 2) mYes (mBin (oIn false) (mVB 1) (mVB 2)) [2])) mNil))) (mV 1) [.val (.lst (ts.map D.str)), .no, .no] (S1 LET) w = some (S1 (soundsN ts), w) := by
    rw [compL_pure (fun d => match d with | .str [c] => ts.any fun t => decide (c ∈ t) | _ => false) id]
    · rw [List.map_id]
      unfold S1 soundsN
      rw [List.filter_map]
      rfl
    · intro d hd
      obtain ⟨c, _, rfl⟩ := List.mem_map.mp hd
      refine ⟨_, rfl, ?_, fun _ => by simp⟩
      have h1 := hin c
      have h2 := hany c
      generalize (ts.map fun t => decide (c ∈ t)).map D.bl = bs at h1 h2
      show _ = R.ok (ts.any fun t => decide (c ∈ t)) w
      generalize (ts.any fun t => decide (c ∈ t)) = b at h2
      generalize ts.map D.str = u at h1 hl
      simp [items, hl, h1, h2, truthD]
  have jn := join1 (soundsN ts) (by
    have := List.length_filter_le (fun c => ts.any fun t => decide (c ∈ t)) LET
    have h2 : LET.length = 26 := rfl
    unfold soundsN
    omega)
  have hi : items (.str [97, 98, 99, 100, 101, 102, 103, 104, 105, 106, 107, 108, 109, 110, 111, 112, 113, 114, 115, 116, 117, 118, 119, 120, 121, 122]) = some (S1 LET) := rfl
  have hl2 : (S1 LET).length ≤ 16777216 := by decide
  generalize S1 LET = es at hout hi hl2
  generalize S1 (soundsN ts) = u at hout jn
  simp only [f_sounds_in_shifts, s_runB, sd0, b_f_sounds_in_shifts]
  simp [hi, hl2, hout, jn]
abbrev NS : List Str := ["old", "new", "left", "right", "falls", "sounds"]
def shiftD (o : Nat) (n : List Nat) (l r : Option (List Nat)) : D := .obj 8 NS [.str [o], .str n, optD l, optD r, .bl (n == []), .str (soundsN [[o], n, orE l, orE r])]
theorem orT_opt (s : Option (List Nat)) (h : SideO s) (i : Nat) (sd : SD) (hi : sd[i]? = some (.val (optD s))) (w : List D) : mOrT (mV i) (mC (.str [])) sd w = .ok (.str (orE s)) w := by
  cases s with
  | none => simp [mOrT, hi, optD, truthD, orE]
  | some s =>
    have := h.ne
    have h2 : (s.length != 0) = true := by
      cases s with
      | nil => exact absurd rfl this
      | cons a r => rfl
    simp [mOrT, hi, optD, truthD, orE, h2]
theorem pn0 : putN "old" ([] : List Str) = (["old"] : List Str) := (rfl)
theorem pv0 (z : D) : putV "old" z ([] : List Str) [] = [z] := (rfl)
theorem pn1 : putN "new" (["old"] : List Str) = (["old", "new"] : List Str) := (rfl)
theorem pv1 (a z : D) : putV "new" z (["old"] : List Str) [a] = [a, z] := (rfl)
theorem pn2 : putN "left" (["old", "new"] : List Str) = (["old", "new", "left"] : List Str) := (rfl)
theorem pv2 (a b z : D) : putV "left" z (["old", "new"] : List Str) [a, b] = [a, b, z] := (rfl)
theorem pn3 : putN "right" (["old", "new", "left"] : List Str) = (["old", "new", "left", "right"] : List Str) := (rfl)
theorem pv3 (a b c z : D) : putV "right" z (["old", "new", "left"] : List Str) [a, b, c] = [a, b, c, z] := (rfl)
theorem pn4 : putN "falls" (["old", "new", "left", "right"] : List Str) = (["old", "new", "left", "right", "falls"] : List Str) := (rfl)
theorem pv4 (a b c d z : D) : putV "falls" z (["old", "new", "left", "right"] : List Str) [a, b, c, d] = [a, b, c, d, z] := (rfl)
theorem pn5 : putN "sounds" (["old", "new", "left", "right", "falls"] : List Str) = (["old", "new", "left", "right", "falls", "sounds"] : List Str) := (rfl)
theorem pv5 (a b c d e z : D) : putV "sounds" z (["old", "new", "left", "right", "falls"] : List Str) [a, b, c, d, e] = [a, b, c, d, e, z] := (rfl)
theorem ev_init {o : Nat} {n : List Nat} {l r : Option (List Nat)} (P : Parts o n l r) (w : List D) : f_Shift_init 8 [.str [o], .str n, optD l, optD r] w = .ok (NS, [.str [o], .str n, optD l, optD r, .bl (n == []), .str (soundsN [[o], n, orE l, orE r])]) w := by
  have e1 := ev_is_sound o w
  rw [decide_eq_true P.o_] at e1
  have e2 := ev_is_new n o P.n_ w
  have e3 := ev_is_side l P.l_ w
  have e4 := ev_is_side r P.r_ w
  have e5 := ev_sounds_in [[o], n, orE l, orE r] (by simp) w
  have o1 := orT_opt l P.l_ 3
  have o2 := orT_opt r P.r_ 4
  simp only [List.map_cons, List.map_nil] at e5
  generalize soundsN [[o], n, orE l, orE r] = sn at *
  generalize hl : optD l = dl at *
  generalize hr : optD r = dr at *
  have p1 : ∀ x y : SV, mOrT (mV 3) (mC (.str [])) [x, .val (.str [o]), .val (.str n), .val dl, .val dr] w = .ok (.str (orE l)) w := fun x y => o1 _ rfl w
  have p2 : ∀ x y : SV, mOrT (mV 4) (mC (.str [])) [x, .val (.str [o]), .val (.str n), .val dl, .val dr] w = .ok (.str (orE r)) w := fun x y => o2 _ rfl w
  simp only [f_Shift_init, FT.runN, sdN, sd0, b_f_Shift_init]
  simp [mFldP, okf_old, okf_new, okf_left, okf_right, okf_falls, okf_sounds, pn0, pv0, pn1, pv1, pn2, pv2, pn3, pv3, pn4, pv4, pn5, pv5, e1, e2, e3, e4, truthD, oEq_ss, p1 _ .no, p2 _ .no, e5, outN]
end K16
end
section
set_option Elab.async false
set_option linter.all false
set_option maxRecDepth 100000
set_option maxHeartbeats 4000000
namespace K16
open PySem PySem.Spec PyProof.Rows L2 FT
/-! ### where a shift works -/
def besB : Option (List Nat) → Nat → Bool
  | none, _ => true
  | some s, c => decide (c ∈ s)
def frm (s : List Nat) : List Nat := 35 :: (s ++ [35])
def fr (s : List Nat) (i : Nat) : Nat := (frm s).getD i 0
def hitB (o : Nat) (l r : Option (List Nat)) (s : List Nat) (i : Nat) : Bool := decide (s[i]? = some o) && besB l (fr s i) && besB r (fr s (i + 2))
def plN (o : Nat) (l r : Option (List Nat)) (s : List Nat) : List Nat := (List.range s.length).filter (hitB o l r s)
def intsD (ns : List Nat) : List D := ns.map fun i => D.int (i : Nat)
theorem fr_at (s : List Nat) {i : Nat} (h : i < s.length + 2) : (frm s)[i]? = some (fr s i) := by
  have hl : i < (frm s).length := by simp [frm]; omega
  unfold fr
  rw [List.getD_eq_getElem?_getD, List.getElem?_eq_getElem hl]; rfl
theorem ev_is_beside (s : Option (List Nat)) (c : Nat) (w : List D) : f_is_beside [optD s, .str [c]] w = .ok (.bl (besB s c)) w := by
  cases s with
  | none => simp [f_is_beside, b_f_is_beside, s_runB, sd0, optD, oIs, FT.isNon, besB]
  | some s => simp [f_is_beside, b_f_is_beside, s_runB, sd0, optD, oIs, FT.isNon, besB, oIn]
theorem lk_old (a b c d e f : D) : ((NS.zip [a, b, c, d, e, f]).lookup ("old" : Str)) = some a := (rfl)
theorem lk_new (a b c d e f : D) : ((NS.zip [a, b, c, d, e, f]).lookup ("new" : Str)) = some b := (rfl)
theorem lk_left (a b c d e f : D) : ((NS.zip [a, b, c, d, e, f]).lookup ("left" : Str)) = some c := (rfl)
theorem lk_right (a b c d e f : D) : ((NS.zip [a, b, c, d, e, f]).lookup ("right" : Str)) = some d := (rfl)
theorem fld_old {m : ME D} {sd : SD} {w w1 : List D} {a b c d e f : D} (h : m sd w = .ok (.obj 8 NS [a, b, c, d, e, f]) w1) : mFld okf_old "old" m sd w = .ok a w1 := by
  unfold mFld; rw [h, s_bind_ok]; simp only [okf_old, lk_old, beq_self_eq_true, if_true]
theorem fld_new {m : ME D} {sd : SD} {w w1 : List D} {a b c d e f : D} (h : m sd w = .ok (.obj 8 NS [a, b, c, d, e, f]) w1) : mFld okf_new "new" m sd w = .ok b w1 := by
  unfold mFld; rw [h, s_bind_ok]; simp only [okf_new, lk_new, beq_self_eq_true, if_true]
theorem fld_left {m : ME D} {sd : SD} {w w1 : List D} {a b c d e f : D} (h : m sd w = .ok (.obj 8 NS [a, b, c, d, e, f]) w1) : mFld okf_left "left" m sd w = .ok c w1 := by
  unfold mFld; rw [h, s_bind_ok]; simp only [okf_left, lk_left, beq_self_eq_true, if_true]
theorem fld_right {m : ME D} {sd : SD} {w w1 : List D} {a b c d e f : D} (h : m sd w = .ok (.obj 8 NS [a, b, c, d, e, f]) w1) : mFld okf_right "right" m sd w = .ok d w1 := by
  unfold mFld; rw [h, s_bind_ok]; simp only [okf_right, lk_right, beq_self_eq_true, if_true]
def bodyP : MS := (mIf (mAnd (mTst (mBin (oEq false) (mVB 5) (mFld okf_old "old" (mVB 0)))) (mAnd (mTru (mCall (nArg 2 f_is_beside) (mCons (mFld okf_left "left" (mVB 0)) (mCons (mIx (mVB 2) (mVB 4)) mNil)))) (mTru (mCall (nArg 2 f_is_beside) (mCons (mFld okf_right "right" (mVB 0)) (mCons (mIx (mVB 2) (mBin oAdd (mVB 4) (mC (.int 2)))) mNil))))))
    (mApp 3 (mV 4))
    mSkip)
theorem pl_split : b_f_places_in = (mSeq (mParEF 2 3 (mBin oAdd (mBin oAdd (mC (.str [35])) (mVB 1)) (mC (.str [35]))) (mLstF mNil))
    (mSeq (mFor (gTu 2 (gsCons (gN 4) (gsCons (gN 5) gsNil))) (mEnumX (mV 1)) bodyP)
    (mRet (mCB fTuple (mCons (mVB 3) mNil))))) := rfl
theorem bodyP_run {o : Nat} {n : List Nat} {l r : Option (List Nat)} (s : List Nat) {j c : Nat} (hc : s[j]? = some c) (hl : s.length ≤ 1000) (ns : List Nat) (hn : ns.length ≤ 1000) (w : List D) :
    bodyP [.val (shiftD o n l r), .val (.str s), .val (.str (frm s)), .own (intsD ns), .val (.int (j : Nat)), .val (.str [c])] w = .nx [.val (shiftD o n l r), .val (.str s), .val (.str (frm s)), .own (intsD (if hitB o l r s j = true then ns ++ [j] else ns)), .val (.int (j : Nat)), .val (.str [c])] w := by
  have hj := (List.getElem?_eq_some_iff.mp hc).1
  have a1 := atI_nat (frm s) j _ (fr_at s (i := j) (by omega))
  have a2 := atI_nat (frm s) (j + 2) _ (fr_at s (i := j + 2) (by omega))
  have e1 := ev_is_beside l (fr s j) w
  have e2 := ev_is_beside r (fr s (j + 2)) w
  have ad : oAdd (.int (j : Nat)) (.int 2) = some (.int ((j + 2 : Nat) : Int)) := rfl
  have hh : hitB o l r s j = (([c] == [o]) && besB l (fr s j) && besB r (fr s (j + 2))) := by
    unfold hitB
    rw [hc]
    have : decide (some c = some o) = ([c] == [o]) := by
      by_cases h : c = o
      · simp [h]
      · simp [h]
    rw [this]
  have hlen : (intsD ns).length < 16777216 := by unfold intsD; rw [List.length_map]; omega
  have hap : intsD (ns ++ [j]) = intsD ns ++ [.int (j : Nat)] := by simp [intsD]
  rw [hh]
  unfold shiftD
  have f1 : ∀ (x y z u v : SV), mFld okf_old "old" (mVB 0) [.val (.obj 8 NS [.str [o], .str n, optD l, optD r, .bl (n == []), .str (soundsN [[o], n, orE l, orE r])]), x, y, z, u, v] w = .ok (.str [o]) w := fun _ _ _ _ _ => fld_old rfl
  have f2 : ∀ (x y z u v : SV), mFld okf_left "left" (mVB 0) [.val (.obj 8 NS [.str [o], .str n, optD l, optD r, .bl (n == []), .str (soundsN [[o], n, orE l, orE r])]), x, y, z, u, v] w = .ok (optD l) w := fun _ _ _ _ _ => fld_left rfl
  have f3 : ∀ (x y z u v : SV), mFld okf_right "right" (mVB 0) [.val (.obj 8 NS [.str [o], .str n, optD l, optD r, .bl (n == []), .str (soundsN [[o], n, orE l, orE r])]), x, y, z, u, v] w = .ok (optD r) w := fun _ _ _ _ _ => fld_right rfl
  generalize D.obj 8 NS [.str [o], .str n, optD l, optD r, .bl (n == []), .str (soundsN [[o], n, orE l, orE r])] = SH at *
  generalize ((j + 2 : Nat) : Int) = j2 at *
  rw [show (if (([c] == [o]) && besB l (fr s j) && besB r (fr s (j + 2))) = true then ns ++ [j] else ns) = (if ([c] == [o]) = true then (if besB l (fr s j) = true then (if besB r (fr s (j + 2)) = true then ns ++ [j] else ns) else ns) else ns) by
    cases ([c] == [o]) <;> cases besB l (fr s j) <;> cases besB r (fr s (j + 2)) <;> rfl]
  have q : oEq false (.str [c]) (.str [o]) = some (.bl ([c] == [o])) := by rw [oEq_ss]; rfl
  generalize ([c] == [o]) = b1 at *
  generalize besB l (fr s j) = b2 at *
  generalize besB r (fr s (j + 2)) = b3 at *
  generalize optD l = dl at *
  generalize optD r = dr at *
  cases b1 with
  | false => simp [bodyP, q, f1]
  | true =>
    cases b2 with
    | false => simp [bodyP, q, f1, f2, oIx, a1, e1, truthD]
    | true =>
      cases b3 with
      | false => simp [bodyP, q, f1, f2, f3, oIx, a1, a2, ad, e1, e2, truthD]
      | true => simp [bodyP, q, f1, f2, f3, oIx, a1, a2, ad, e1, e2, truthD, hlen, hap]
theorem enumD_S1 (s : List Nat) {j : Nat} {d : D} (h : (enumD 0 (S1 s))[j]? = some d) : ∃ c, s[j]? = some c ∧ d = .tup [.int (j : Nat), .str [c]] := by
  rw [enumD_get, Nat.zero_add] at h
  unfold S1 at h
  rw [List.getElem?_map] at h
  cases hc : s[j]? with
  | none => rw [hc] at h; cases h
  | some c => rw [hc] at h; cases h; exact ⟨c, rfl, rfl⟩
theorem filter_range_succ (f : Nat → Bool) (j : Nat) : (List.range (j + 1)).filter f = if f j = true then (List.range j).filter f ++ [j] else (List.range j).filter f := by
  rw [List.range_succ, List.filter_append]
  cases h : f j <;> simp [h]
theorem ev_places_in {o : Nat} {n : List Nat} {l r : Option (List Nat)} (s : List Nat) (hl : s.length ≤ 1000) (w : List D) : f_places_in [shiftD o n l r, .str s] w = .ok (.tup (intsD (plN o l r s))) w := by
  obtain ⟨sd2, h1, h2⟩ := forL_run (g := gTu 2 (gsCons (gN 4) (gsCons (gN 5) gsNil))) (body := bodyP) (w := w) (fun j sd => ∃ t1 t2, sd = [.val (shiftD o n l r), .val (.str s), .val (.str (frm s)), .own (intsD ((List.range j).filter (hitB o l r s))), t1, t2]) (enumD 0 (S1 s)) 0 [.val (shiftD o n l r), .val (.str s), .val (.str (frm s)), .own [], .no, .no] ⟨.no, .no, rfl⟩
    (fun j d sd hd hj => by
      rw [Nat.zero_add] at hj ⊢
      obtain ⟨t1, t2, rfl⟩ := hj
      obtain ⟨c, hc, rfl⟩ := enumD_S1 s hd
      have hjl := (List.getElem?_eq_some_iff.mp hc).1
      have hn : ((List.range j).filter (hitB o l r s)).length ≤ 1000 := by
        have := List.length_filter_le (hitB o l r s) (List.range j)
        rw [List.length_range] at this
        omega
      refine ⟨_, _, rfl, bodyP_run s hc hl _ hn w, .val (.int (j : Nat)), .val (.str [c]), ?_⟩
      rw [filter_range_succ])
  obtain ⟨t1, t2, rfl⟩ := h2
  rw [Nat.zero_add, enumD_len] at h1
  have hl1 : (S1 s).length = s.length := by simp [S1]
  rw [hl1] at h1
  have hi : items (.str s) = some (S1 s) := rfl
  have g1 : 1 + s.length ≤ 16777216 := by omega
  have g2 : 1 + s.length + 1 ≤ 16777216 := by omega
  have hf : oAdd (.str [35]) (.str s) = some (.str (35 :: s)) := by
    show (if ([35] : List Nat).length + s.length ≤ 16777216 then some (D.str ([35] ++ s)) else none) = _
    rw [if_pos (by simp; omega)]; rfl
  have hf2 : oAdd (.str (35 :: s)) (.str [35]) = some (.str (frm s)) := by
    show (if (35 :: s).length + ([35] : List Nat).length ≤ 16777216 then some (D.str ((35 :: s) ++ [35])) else none) = _
    rw [if_pos (by simp; omega)]; rfl
  unfold plN
  generalize intsD ((List.range s.length).filter (hitB o l r s)) = u at *
  generalize shiftD o n l r = SH at *
  generalize frm s = fs at *
  generalize (35 :: s) = s2 at *
  simp only [f_places_in, pl_split, s_runB, sd0]
  simp [hf, hf2, hi, fTuple, h1]
end K16
end
section
set_option Elab.async false
set_option linter.all false
set_option maxRecDepth 100000
set_option maxHeartbeats 4000000
namespace K16
open PySem PySem.Spec PyProof.Rows L2 FT
/-! ### a shift done -/
def pcs (p : Nat → Bool) (n : List Nat) : Nat → List Nat → List (List Nat)
  | _, [] => []
  | i, c :: s => (if p i = true then n else [c]) :: pcs p n (i + 1) s
theorem pcs_get (p : Nat → Bool) (n : List Nat) : ∀ (s : List Nat) (i j : Nat), (pcs p n i s)[j]? = s[j]?.map fun c => if p (i + j) = true then n else [c]
  | [], i, j => by simp [pcs]
  | c :: s, i, 0 => by simp [pcs]
  | c :: s, i, j + 1 => by
    simp only [pcs, List.getElem?_cons_succ, pcs_get p n s (i + 1) j, show i + 1 + j = i + (j + 1) by omega]
theorem pcs_len (p : Nat → Bool) (n : List Nat) : ∀ (s : List Nat) (i : Nat), (pcs p n i s).length = s.length
  | [], _ => rfl
  | c :: s, i => by simp [pcs, pcs_len p n s]
theorem pcs_ext {p q : Nat → Bool} (n : List Nat) : ∀ (s : List Nat) (i : Nat), (∀ j, i ≤ j → j < i + s.length → p j = q j) → pcs p n i s = pcs q n i s
  | [], _, _ => rfl
  | c :: s, i, h => by
    rw [pcs, pcs, h i (Nat.le_refl _) (by simp), pcs_ext n s (i + 1) fun j h1 h2 => h j (by omega) (by simp at *; omega)]
def outN (o : Nat) (n : List Nat) (l r : Option (List Nat)) (s : List Nat) : List Nat := (pcs (hitB o l r s) n 0 s).flatten
theorem sum_pcs (p : Nat → Bool) (n : List Nat) (hn : n.length ≤ 1) : ∀ (s : List Nat) (i : Nat), ((pcs p n i s).map List.length).sum ≤ s.length
  | [], _ => Nat.le_refl _
  | c :: s, i => by
    have := sum_pcs p n hn s (i + 1)
    simp only [pcs, List.map_cons, List.sum_cons, List.length_cons]
    split
    · omega
    · simp; omega
theorem outN_len (o : Nat) (n : List Nat) (l r : Option (List Nat)) (s : List Nat) (hn : n.length ≤ 1) : (outN o n l r s).length ≤ s.length := by
  unfold outN
  rw [List.length_flatten]
  exact sum_pcs _ _ hn _ _
theorem pcs_mem {p : Nat → Bool} {n : List Nat} : ∀ {s : List Nat} {i : Nat} {c : Nat}, c ∈ (pcs p n i s).flatten → c ∈ n ∨ c ∈ s
  | [], _, c, h => by simp [pcs] at h
  | a :: s, i, c, h => by
    simp only [pcs, List.flatten_cons, List.mem_append] at h
    rcases h with h | h
    · split at h
      · exact .inl h
      · exact .inr (by rw [List.mem_singleton.mp h]; exact List.mem_cons_self)
    · rcases pcs_mem h with h | h
      · exact .inl h
      · exact .inr (List.mem_cons_of_mem _ h)
theorem enum_pcs (p : Nat → Bool) (n : List Nat) : ∀ (s : List Nat) (i : Nat), (enumD i (S1 s)).map (fun d => match d with | .tup [.int j, .str c] => if p j.toNat = true then D.str n else .str c | _ => .non) = (pcs p n i s).map D.str
  | [], _ => rfl
  | c :: s, i => by
    have := enum_pcs p n s (i + 1)
    simp only [S1] at this
    simp only [S1, List.map_cons, enumD, pcs, this]
    congr 1
    by_cases h : p i = true
    · simp [h]
    · simp [h]
theorem Parts.n1 {o : Nat} {n : List Nat} {l r : Option (List Nat)} (P : Parts o n l r) : n.length ≤ 1 := by
  rcases P.n_ with h | ⟨c, h, _⟩
  · rw [h]; simp
  · rw [h]; simp
theorem ev_done_by {o : Nat} {n : List Nat} {l r : Option (List Nat)} (P : Parts o n l r) (s : List Nat) (hl : s.length ≤ 1000) (w : List D) : f_done_by [shiftD o n l r, .str s] w = .ok (.str (outN o n l r s)) w := by
  have h1 := ev_places_in (o := o) (n := n) (l := l) (r := r) s hl w
  have hpl : (plN o l r s).length ≤ 1000 := by
    have := List.length_filter_le (hitB o l r s) (List.range s.length)
    rw [List.length_range] at this
    unfold plN; omega
  obtain ⟨ks, ds, e1, _, e3⟩ := dcomp_ints (g := gN 3) (mk := mV 3) (mv := mC (.bl true)) (sd0 := [.val (shiftD o n l r), .val (.str s), .no, .no, .no]) (w := w) (v := .bl true) (plN o l r s) [] [] rfl fun i _ => ⟨_, rfl, by simp, rfl⟩
  have hk : ∀ j < s.length, (lookD (.inl (j : Nat)) ks ds).isSome = hitB o l r s j := by
    intro j hj
    rw [e3, show (lookD (Sum.inl (j : Int)) [] []).isSome = false from rfl, Bool.false_or]
    unfold plN
    rw [Bool.eq_iff_iff, List.any_eq_true]
    constructor
    · rintro ⟨x, hx, e⟩
      have e' := of_decide_eq_true e
      injection e' with e''
      have : x = j := by omega
      subst this
      exact (List.mem_filter.mp hx).2
    · intro h
      exact ⟨j, List.mem_filter.mpr ⟨List.mem_range.mpr hj, h⟩, by simp⟩
  have hc : compL (gTu 2 (gsCons (gN 3) (gsCons (gN 4) gsNil))) mYes (mIfE (mTst (mBin (oInK false) (mVB 3) (mVB 2))) (mFld okf_new "new" (mVB 0)) (mV 4)) [.val (shiftD o n l r), .val (.str s), .val (.dct ks ds), .no, .no] (enumD 0 (S1 s)) w = some ((pcs (hitB o l r s) n 0 s).map D.str, w) := by
    rw [compL_map (fun d => match d with | .tup [.int j, .str c] => if hitB o l r s j.toNat = true then D.str n else .str c | _ => .non) _ fun d hd => ?_]
    · rw [enum_pcs]
    · obtain ⟨j, hj⟩ := List.getElem?_of_mem hd
      obtain ⟨c, hc, rfl⟩ := enumD_S1 s hj
      have hjl := (List.getElem?_eq_some_iff.mp hc).1
      refine ⟨_, rfl, ?_⟩
      have f1 : ∀ (x y z u : SV), mFld okf_new "new" (mVB 0) [.val (shiftD o n l r), x, y, z, u] w = .ok (.str n) w := fun _ _ _ _ => fld_new rfl
      have q := hk j hjl
      have q2 : oInK false (.int (j : Nat)) (.dct ks ds) = some (.bl (hitB o l r s j)) := by
        rw [← q]; rfl
      show _ = R.ok (if hitB o l r s j = true then D.str n else D.str [c]) w
      clear hk e3 e1 h1 hpl q hd hj
      generalize shiftD o n l r = SH at *
      generalize hitB o l r s j = b at *
      cases b with
      | true => simp [q2, f1]
      | false => simp [q2]
  have jn := joinS (pcs (hitB o l r s) n 0 s) (by have := sum_pcs (hitB o l r s) n P.n1 s 0; omega)
  have hi : items (.str s) = some (S1 s) := rfl
  have hi2 : items (.tup (intsD (plN o l r s))) = some (intsD (plN o l r s)) := rfl
  have hen : (enumD 0 (S1 s)).length ≤ 16777216 := by rw [enumD_len]; simp [S1]; omega
  have hil : (intsD (plN o l r s)).length ≤ 1000000 := by unfold intsD; rw [List.length_map]; omega
  unfold outN
  generalize (pcs (hitB o l r s) n 0 s) = pc at *
  generalize hin : intsD (plN o l r s) = ii at *
  have e1' : dcompL (gN 3) mYes (mV 3) (mC (.bl true)) [.val (shiftD o n l r), .val (.str s), .no, .no, .no] ii [] [] w = some ((ks, ds), w) := by rw [← hin]; exact e1
  generalize pc.map D.str = pd at *
  generalize shiftD o n l r = SH at *
  simp only [f_done_by, s_runB, sd0, b_f_done_by]
  simp [h1, hi2, hil, e1', hi, hen, hc, jn]
end K16
end
section
set_option Elab.async false
set_option linter.all false
set_option maxRecDepth 100000
set_option maxHeartbeats 4000000
namespace K16
open PySem PySem.Spec PyProof.Rows L2 FT
theorem rng_get {m j : Nat} {d : D} (h : (rngD 0 (m : Int))[j]? = some d) : j < m ∧ d = .int (j : Nat) := by
  unfold rngD at h
  rw [List.getElem?_map] at h
  have hm : ((m : Int) - 0).toNat = m := by omega
  rw [hm] at h
  by_cases hj : j < m
  · rw [List.getElem?_range hj] at h
    cases h
    exact ⟨hj, by simp⟩
  · rw [List.getElem?_eq_none (by simp; omega)] at h
    cases h
theorem dep_ints (k : Nat) (ns : List Nat) : (intsD ns).all (dep (k + 1)) = true := by
  rw [List.all_eq_true]
  intro d hd
  obtain ⟨x, _, rfl⟩ := List.mem_map.mp hd
  rfl
theorem eqL_ints : ∀ ns : List Nat, eqL (intsD ns) (intsD ns) = true
  | [] => rfl
  | a :: ns => by
    show (((a : Nat) : Int) == (a : Nat) && eqL (intsD ns) (intsD ns)) = true
    rw [eqL_ints ns, Bool.and_true]
    exact beq_self_eq_true _
theorem oEq_ints (neg : Bool) (ns : List Nat) : oEq neg (.lst (intsD ns)) (.lst (intsD ns)) = some (.bl (if neg then false else true)) := by
  have h1 : dep 8 (.lst (intsD ns)) = true := dep_ints 6 ns
  have h2 : eqD (.lst (intsD ns)) (.lst (intsD ns)) = true := eqL_ints ns
  unfold oEq
  rw [h1, h2]
  cases neg <;> rfl
theorem fr_0 (s : List Nat) : fr s 0 = 35 := rfl
theorem fr_s {s : List Nat} {i c : Nat} (h : s[i]? = some c) : fr s (i + 1) = c := by
  have hl := (List.getElem?_eq_some_iff.mp h).1
  unfold fr frm
  rw [List.getD_eq_getElem?_getD, List.getElem?_cons_succ, List.getElem?_append_left hl, h]; rfl
theorem fr_e (s : List Nat) : fr s (s.length + 1) = 35 := by
  unfold fr frm
  rw [List.getD_eq_getElem?_getD, List.getElem?_cons_succ, List.getElem?_append_right (Nat.le_refl _)]; simp
theorem sum_take : ∀ (ls : List Nat) (j : Nat), (ls.take j).sum ≤ ls.sum
  | [], j => by simp
  | a :: ls, 0 => by simp
  | a :: ls, j + 1 => by
    have := sum_take ls j
    simp only [List.take_succ_cons, List.sum_cons]
    omega
theorem pcs_one (p : Nat → Bool) (x : Nat) : ∀ (s : List Nat) (i j : Nat), (pcs p [x] i s).flatten[j]? = s[j]?.map fun c => if p (i + j) = true then x else c
  | [], i, j => by simp [pcs]
  | c :: s, i, 0 => by
    cases h : p i <;> simp [pcs, h]
  | c :: s, i, j + 1 => by
    have := pcs_one p x s (i + 1) j
    rw [show i + 1 + j = i + (j + 1) by omega] at this
    cases h : p i
    · simp only [pcs, h, Bool.false_eq_true, if_false, List.flatten_cons, List.cons_append, List.nil_append, List.getElem?_cons_succ, this]
    · simp only [pcs, h, if_true, List.flatten_cons, List.cons_append, List.nil_append, List.getElem?_cons_succ, this]
theorem out_len1 (o x : Nat) (l r : Option (List Nat)) (s : List Nat) : (outN o [x] l r s).length = s.length := by
  have h : ∀ (p : Nat → Bool) (s : List Nat) (i : Nat), (pcs p [x] i s).flatten.length = s.length := by
    intro p s
    induction s with
    | nil => intro i; rfl
    | cons c s ih =>
      intro i
      simp only [pcs, List.flatten_cons, List.length_append, ih, List.length_cons]
      split <;> simp <;> omega
  exact h _ _ _
theorem add_str (a b : List Nat) (h : a.length + b.length ≤ 16777216) : oAdd (.str a) (.str b) = some (.str (a ++ b)) := by
  show (if a.length + b.length ≤ 16777216 then some (D.str (a ++ b)) else none) = _
  rw [if_pos h]
theorem oEq_t (x : List Nat) : oEq true (.str x) (.str x) = some (.bl false) := by rw [oEq_ss]; simp
theorem oEq_f (x : List Nat) : oEq false (.str x) (.str x) = some (.bl true) := by rw [oEq_ss]; simp
theorem oInT_ints (neg : Bool) (j : Nat) (ns : List Nat) : oInT neg (.int (j : Nat)) (.tup (intsD ns)) = some (.bl (if neg then !decide (j ∈ ns) else decide (j ∈ ns))) := by
  have h1 : (flatD (.int (j : Nat)) && (intsD ns).all flatD) = true := by
    rw [Bool.and_eq_true]
    refine ⟨rfl, List.all_eq_true.mpr fun d hd => ?_⟩
    obtain ⟨x, _, rfl⟩ := List.mem_map.mp hd
    rfl
  have h2 : ((intsD ns).any fun z => eqD z (.int (j : Nat))) = decide (j ∈ ns) := by
    rw [Bool.eq_iff_iff, List.any_eq_true, decide_eq_true_iff]
    constructor
    · rintro ⟨d, hd, e⟩
      obtain ⟨x, hx, rfl⟩ := List.mem_map.mp hd
      have : ((x : Nat) : Int) = (j : Nat) := eq_of_beq e
      have : x = j := by omega
      rw [← this]; exact hx
    · intro h
      exact ⟨_, List.mem_map.mpr ⟨j, h, rfl⟩, (beq_self_eq_true (j : Int))⟩
  show (if (flatD (.int (j : Nat)) && (intsD ns).all flatD) = true then some (D.bl (if neg = true then !((intsD ns).any fun z => eqD z (.int (j : Nat))) else (intsD ns).any fun z => eqD z (.int (j : Nat)))) else none) = _
  rw [if_pos h1, h2]
theorem mem_pl {o : Nat} {l r : Option (List Nat)} {s : List Nat} {j : Nat} : j ∈ plN o l r s ↔ hitB o l r s j = true := by
  unfold plN
  rw [List.mem_filter, List.mem_range]
  refine ⟨fun h => h.2, fun h => ⟨?_, h⟩⟩
  unfold hitB at h
  simp only [Bool.and_eq_true, decide_eq_true_eq] at h
  exact (List.getElem?_eq_some_iff.mp h.1.1).1
/-! ### what is near alone tells -/
/-- u agrees with v from off on, but for k sounds at edges that are no edges of v -/
def Agr (k : Nat) (u v : List Nat) (off : Nat) : Prop := off + u.length ≤ v.length ∧ ∀ i < u.length, (off = 0 ∨ k ≤ i) → (off + u.length = v.length ∨ i + k < u.length) → u[i]? = v[off + i]?
theorem Agr.hit {k : Nat} {u v : List Nat} {off : Nat} (A : Agr k u v off) (o : Nat) (l r : Option (List Nat)) {i : Nat} (hi : i < u.length) (hl : off = 0 ∨ k + 1 ≤ i) (hr : off + u.length = v.length ∨ i + (k + 1) < u.length) : hitB o l r u i = hitB o l r v (off + i) := by
  obtain ⟨A1, A2⟩ := A
  have e0 := A2 i hi (hl.imp id fun h => by omega) (hr.imp id fun h => by omega)
  have e1 : fr u i = fr v (off + i) := by
    cases i with
    | zero =>
      have : off = 0 := by rcases hl with h | h <;> omega
      subst this; rfl
    | succ i =>
      have hu : i < u.length := by omega
      have hv : off + i < v.length := by omega
      have e := A2 i hu (hl.imp id fun h => by omega) (hr.imp id fun h => by omega)
      rw [List.getElem?_eq_getElem hu, List.getElem?_eq_getElem hv, Option.some.injEq] at e
      rw [fr_s (List.getElem?_eq_getElem hu), show off + (i + 1) = (off + i) + 1 by omega, fr_s (List.getElem?_eq_getElem hv), e]
  have e2 : fr u (i + 2) = fr v (off + i + 2) := by
    by_cases h : i + 1 < u.length
    · have hv : off + i + 1 < v.length := by omega
      have e := A2 (i + 1) h (hl.imp id fun h => by omega) (hr.imp id fun h => by omega)
      rw [show off + (i + 1) = off + i + 1 by omega, List.getElem?_eq_getElem h, List.getElem?_eq_getElem hv, Option.some.injEq] at e
      rw [fr_s (List.getElem?_eq_getElem h), fr_s (List.getElem?_eq_getElem hv), e]
    · have e3 : i + 1 = u.length := by omega
      have e4 : off + u.length = v.length := by rcases hr with h | h <;> omega
      have := fr_e u
      rw [← e3] at this
      rw [this]
      have := fr_e v
      rw [← e4, ← e3] at this
      rw [show off + i + 2 = off + (i + 1) + 1 by omega, this]
  unfold hitB
  rw [e0, e1, e2]
theorem Agr.out {k : Nat} {u v : List Nat} {off : Nat} (A : Agr k u v off) (o x : Nat) (l r : Option (List Nat)) : Agr (k + 1) (outN o [x] l r u) (outN o [x] l r v) off := by
  refine ⟨by rw [out_len1, out_len1]; exact A.1, fun i hi hl hr => ?_⟩
  rw [out_len1] at hi hr
  rw [out_len1] at hr
  have hh := A.hit o l r hi hl hr
  have e0 := A.2 i hi (hl.imp id fun h => by omega) (hr.imp id fun h => by omega)
  show (pcs _ [x] 0 u).flatten[i]? = (pcs _ [x] 0 v).flatten[off + i]?
  rw [pcs_one, pcs_one, Nat.zero_add, Nat.zero_add, hh, e0]
/-! ### rules -/
structure Ru where
  o : Nat
  n : List Nat
  l : Option (List Nat)
  r : Option (List Nat)
def Ru.Ok (q : Ru) : Prop := Parts q.o q.n q.l q.r
def Ru.d (q : Ru) : D := shiftD q.o q.n q.l q.r
def Ru.out (q : Ru) (s : List Nat) : List Nat := outN q.o q.n q.l q.r s
def Ru.pl (q : Ru) (s : List Nat) : List Nat := plN q.o q.l q.r s
def outs : List Ru → List Nat → List Nat
  | [], s => s
  | q :: qs, s => outs qs (q.out s)
def steps : List Ru → List Nat → List (List Nat)
  | [], _ => []
  | q :: qs, s => q.out s :: steps qs (q.out s)
def mets : List Ru → List Nat → List (List Nat)
  | [], _ => []
  | q :: qs, s => q.pl s :: mets qs (q.out s)
theorem steps_len : ∀ (qs : List Ru) (s : List Nat), (steps qs s).length = qs.length
  | [], _ => rfl
  | q :: qs, s => by simp [steps, steps_len qs]
theorem mets_len : ∀ (qs : List Ru) (s : List Nat), (mets qs s).length = qs.length
  | [], _ => rfl
  | q :: qs, s => by simp [mets, mets_len qs]
theorem steps_last : ∀ (qs : List Ru) (s : List Nat), qs ≠ [] → (steps qs s)[qs.length - 1]? = some (outs qs s)
  | [], _, h => absurd rfl h
  | [q], s, _ => rfl
  | q :: q2 :: qs, s, _ => by
    have := steps_last (q2 :: qs) (q.out s) (by simp)
    simp only [List.length_cons] at this ⊢
    rw [show qs.length + 1 + 1 - 1 = (qs.length + 1 - 1) + 1 by omega]
    exact this
def Firm (q : Ru) : Prop := ∃ x, q.n = [x]
theorem agr_outs : ∀ (qs : List Ru) (k : Nat) (u v : List Nat) (off : Nat), (∀ q ∈ qs, Firm q) → Agr k u v off → Agr (k + qs.length) (outs qs u) (outs qs v) off
  | [], k, u, v, off, _, A => A
  | q :: qs, k, u, v, off, h, A => by
    obtain ⟨x, hx⟩ := h q List.mem_cons_self
    have e : ∀ s, q.out s = outN q.o [x] q.l q.r s := fun s => by unfold Ru.out; rw [hx]
    have := agr_outs qs (k + 1) (q.out u) (q.out v) off (fun q hq => h q (List.mem_cons_of_mem _ hq)) (by rw [e, e]; exact A.out _ _ _ _)
    rw [show k + 1 + qs.length = k + (q :: qs).length by simp; omega] at this
    exact this
theorem outs_len : ∀ (qs : List Ru) (s : List Nat), (∀ q ∈ qs, Firm q) → (outs qs s).length = s.length
  | [], _, _ => rfl
  | q :: qs, s, h => by
    obtain ⟨x, hx⟩ := h q List.mem_cons_self
    show (outs qs (q.out s)).length = _
    rw [outs_len qs _ fun q hq => h q (List.mem_cons_of_mem _ hq)]
    unfold Ru.out
    rw [hx, out_len1]
theorem out_le {q : Ru} (h : q.Ok) (s : List Nat) : (q.out s).length ≤ s.length := outN_len _ _ _ _ _ (Parts.n1 h)
end K16
end
section
set_option Elab.async false
set_option linter.all false
set_option maxRecDepth 100000
set_option maxHeartbeats 4000000
namespace K16
open PySem PySem.Spec PyProof.Rows L2 FT
/-! ### courses -/
abbrev NC : List Str := ["shifts", "falls", "sounds"]
def Ru.fal (q : Ru) : Bool := q.n == []
def Ru.snd (q : Ru) : List Nat := soundsN [[q.o], q.n, orE q.l, orE q.r]
def courseD (qs : List Ru) : D := .obj 7 NC [.tup (qs.map Ru.d), .bl (qs.any Ru.fal), .str (soundsN (qs.map Ru.snd))]
theorem lk_falls (a b c d e f : D) : ((NS.zip [a, b, c, d, e, f]).lookup ("falls" : Str)) = some e := (rfl)
theorem lk_sounds (a b c d e f : D) : ((NS.zip [a, b, c, d, e, f]).lookup ("sounds" : Str)) = some f := (rfl)
theorem fld_falls {m : ME D} {sd : SD} {w w1 : List D} {a b c d e f : D} (h : m sd w = .ok (.obj 8 NS [a, b, c, d, e, f]) w1) : mFld okf_falls "falls" m sd w = .ok e w1 := by
  unfold mFld; rw [h, s_bind_ok]; simp only [okf_falls, lk_falls, beq_self_eq_true, Bool.or_true, if_true]
theorem fld_sounds {m : ME D} {sd : SD} {w w1 : List D} {a b c d e f : D} (h : m sd w = .ok (.obj 8 NS [a, b, c, d, e, f]) w1) : mFld okf_sounds "sounds" m sd w = .ok f w1 := by
  unfold mFld; rw [h, s_bind_ok]; simp only [okf_sounds, lk_sounds, beq_self_eq_true, Bool.or_true, if_true]
theorem lk_shifts (a b c : D) : ((NC.zip [a, b, c]).lookup ("shifts" : Str)) = some a := (rfl)
theorem fld_shifts {m : ME D} {sd : SD} {w w1 : List D} {a b c : D} (h : m sd w = .ok (.obj 7 NC [a, b, c]) w1) : mFld okf_shifts "shifts" m sd w = .ok a w1 := by
  unfold mFld; rw [h, s_bind_ok]; simp only [okf_shifts, lk_shifts, beq_self_eq_true, if_true]
theorem cn0 : putN "shifts" ([] : List Str) = (["shifts"] : List Str) := (rfl)
theorem cv0 (z : D) : putV "shifts" z ([] : List Str) [] = [z] := (rfl)
theorem cn1 : putN "falls" (["shifts"] : List Str) = (["shifts", "falls"] : List Str) := (rfl)
theorem cv1 (a z : D) : putV "falls" z (["shifts"] : List Str) [a] = [a, z] := (rfl)
theorem cn2 : putN "sounds" (["shifts", "falls"] : List Str) = (["shifts", "falls", "sounds"] : List Str) := (rfl)
theorem cv2 (a b z : D) : putV "sounds" z (["shifts", "falls"] : List Str) [a, b] = [a, b, z] := (rfl)
theorem ev_Course_init (qs : List Ru) (hl : qs.length ≤ 6) (w : List D) : f_Course_init 7 [.lst (qs.map Ru.d)] w = .ok (NC, [.tup (qs.map Ru.d), .bl (qs.any Ru.fal), .str (soundsN (qs.map Ru.snd))]) w := by
  have c1 : ∀ a : SV, compL (gN 2) mYes (mIsiC okc tb_Shift (mVB 2)) [a, .val (.lst (qs.map Ru.d)), .no] (qs.map Ru.d) w = some ((qs.map fun _ => true).map D.bl, w) := fun a => by
    rw [compL_map (fun _ => .bl true) _ fun d hd => ?_]
    · simp [List.map_map, Function.comp_def]
    · obtain ⟨q, _, rfl⟩ := List.mem_map.mp hd
      exact ⟨_, rfl, rfl⟩
  have f1 : fAll w [.lst ((qs.map fun _ => true).map D.bl)] = some (.bl true) := by
    show Option.map _ (bools _) = _
    rw [bools_map, Option.map_some, all_map_id]
    simp
  have c2 : ∀ a : SV, compL (gN 2) mYes (mFld okf_falls "falls" (mVB 2)) [a, .val (.lst (qs.map Ru.d)), .no] (qs.map Ru.d) w = some ((qs.map Ru.fal).map D.bl, w) := fun a => by
    rw [compL_map (fun d => match d with | .obj _ _ [_, _, _, _, e, _] => e | _ => .non) _ fun d hd => ?_]
    · simp [List.map_map, Function.comp_def, Ru.d, shiftD, Ru.fal]
    · obtain ⟨q, _, rfl⟩ := List.mem_map.mp hd
      exact ⟨_, rfl, fld_falls rfl⟩
  have f2 : fAny w [.lst ((qs.map Ru.fal).map D.bl)] = some (.bl (qs.any Ru.fal)) := by
    show Option.map _ (bools _) = _
    rw [bools_map, Option.map_some]
    congr 2
    rw [List.any_map]; rfl
  have c3 : ∀ a : SV, compL (gN 2) mYes (mFld okf_sounds "sounds" (mVB 2)) [a, .val (.lst (qs.map Ru.d)), .no] (qs.map Ru.d) w = some ((qs.map Ru.snd).map D.str, w) := fun a => by
    rw [compL_map (fun d => match d with | .obj _ _ [_, _, _, _, _, e] => e | _ => .non) _ fun d hd => ?_]
    · simp [List.map_map, Function.comp_def, Ru.d, shiftD, Ru.snd]
    · obtain ⟨q, _, rfl⟩ := List.mem_map.mp hd
      exact ⟨_, rfl, fld_sounds rfl⟩
  have f3 := ev_sounds_in (qs.map Ru.snd) (by rw [List.length_map]; omega) w
  have hi : items (.lst (qs.map Ru.d)) = some (qs.map Ru.d) := rfl
  have hlen : (qs.map Ru.d).length ≤ 16777216 := by rw [List.length_map]; omega
  have hfl : fLen w [.lst (qs.map Ru.d)] = some (.int (qs.length : Int)) := by
    show some (D.int _) = _
    rw [List.length_map]
  have hgt : oCmp fGt sGt (.int (qs.length : Int)) (.int 6) = some (.bl false) := by
    show some (D.bl (decide ((6 : Int) < qs.length))) = _
    rw [decide_eq_false (by omega)]
  generalize (qs.map fun _ => true).map D.bl = l1 at *
  generalize (qs.map Ru.fal).map D.bl = l2 at *
  generalize (qs.map Ru.snd).map D.str = l3 at *
  generalize (qs.length : Int) = z at *
  generalize qs.map Ru.d = ds at *
  simp only [f_Course_init, FT.runN, sdN, sd0, b_f_Course_init]
  simp [tyN, isiB, truthD, hi, hlen, c1, f1, hfl, hgt, mFldP, okf_shifts, okf_falls, okf_sounds, fTuple, cn0, cv0, c2, f2, cn1, cv1, c3, f3, cn2, cv2, FT.outN]
def bodySt : MS := (mSeq (mAsg (gN 3) (mCall (nArg 2 f_done_by) (mCons (mV 4) (mCons (mV 3) mNil))))
    (mApp 2 (mV 3)))
theorem so_split : b_f_steps_of = (mSeq (mParFE 2 3 (mLstF mNil) (mV 1))
    (mSeq (mFor (gN 4) (mSeqI (mV 0)) bodySt)
    (mRet (mCB fTuple (mCons (mVB 2) mNil))))) := rfl
theorem steps_loop (a b : SV) (w : List D) : ∀ (qs : List Ru) (s : List Nat) (acc : List D) (t : SV), (∀ q ∈ qs, q.Ok) → s.length ≤ 1000 → acc.length + qs.length ≤ 1000 →
    ∃ t', forL (gN 4) bodySt (qs.map Ru.d) [a, b, .own acc, .val (.str s), t] w = .nx [a, b, .own (acc ++ (steps qs s).map D.str), .val (.str (outs qs s)), t'] w
  | [], s, acc, t, _, _, _ => ⟨t, by simp [forL, steps, outs]⟩
  | q :: qs, s, acc, t, h, hs, ha => by
    have hq := h q List.mem_cons_self
    have e := ev_done_by hq s hs w
    have hle := out_le hq s
    obtain ⟨t', e2⟩ := steps_loop a b w qs (q.out s) (acc ++ [.str (q.out s)]) (.val q.d) (fun q hq => h q (List.mem_cons_of_mem _ hq)) (by omega) (by simp at ha ⊢; omega)
    refine ⟨t', ?_⟩
    have hal : acc.length < 16777216 := by simp at ha; omega
    have e' : f_done_by [q.d, .str s] w = .ok (.str (q.out s)) w := e
    have hb : bodySt [a, b, .own acc, .val (.str s), .val q.d] w = .nx [a, b, .own (acc ++ [.str (q.out s)]), .val (.str (q.out s)), .val q.d] w := by
      generalize q.d = qd at *
      generalize q.out s = so at *
      simp [bodySt, e', hal]
    simp only [List.map_cons, forL, s_gN, List.set_cons_succ, List.set_cons_zero, hb, e2]
    simp [steps, outs]
theorem ev_steps_of (qs : List Ru) (h : ∀ q ∈ qs, q.Ok) (hl : qs.length ≤ 6) (s : List Nat) (hs : s.length ≤ 1000) (w : List D) : f_steps_of [.tup (qs.map Ru.d), .str s] w = .ok (.tup ((steps qs s).map D.str)) w := by
  obtain ⟨t', e⟩ := steps_loop (.val (.tup (qs.map Ru.d))) (.val (.str s)) w qs s [] .no h hs (by simp; omega)
  have hi : items (.tup (qs.map Ru.d)) = some (qs.map Ru.d) := rfl
  rw [List.nil_append] at e
  generalize (steps qs s).map D.str = st at *
  generalize qs.map Ru.d = ds at *
  simp only [f_steps_of, so_split, s_runB, sd0]
  simp [hi, e, fTuple]
theorem ev_outcome_of (qs : List Ru) (hne : qs ≠ []) (h : ∀ q ∈ qs, q.Ok) (hl : qs.length ≤ 6) (s : List Nat) (hs : s.length ≤ 1000) (w : List D) : f_outcome_of [courseD qs, .str s] w = .ok (.str (outs qs s)) w := by
  have f0 : mFld okf_shifts "shifts" (mVB 0) [.val (courseD qs), .val (.str s)] w = .ok (.tup (qs.map Ru.d)) w := fld_shifts rfl
  have e := ev_steps_of qs h hl s hs w
  have q0 : oEqE (.tup (qs.map Ru.d)) (.tup []) = some (.bl false) := by
    show some (D.bl ((qs.map Ru.d).length == 0)) = _
    cases qs with
    | nil => exact absurd rfl hne
    | cons a r => rfl
  have ix : oIx w (.tup ((steps qs s).map D.str)) (.int (-1)) = some (.str (outs qs s)) := by
    have hp : 0 < qs.length := by
      cases qs with
      | nil => exact absurd rfl hne
      | cons a r => simp
    show atI _ _ = _
    unfold atI ixN
    have hlen : ((steps qs s).map D.str).length = qs.length := by rw [List.length_map, steps_len]
    rw [hlen, if_neg (by omega), if_pos (by omega)]
    show ((steps qs s).map D.str)[((-1 : Int) + qs.length).toNat]? = _
    rw [show ((-1 : Int) + qs.length).toNat = qs.length - 1 by omega, List.getElem?_map, steps_last qs s hne]; rfl
  generalize (steps qs s).map D.str = st at *
  generalize courseD qs = C at *
  generalize qs.map Ru.d = ds at *
  simp only [f_outcome_of, s_runB, sd0, b_f_outcome_of]
  simp [f0, q0, e, oNeg, ix]
theorem word_len {s : List Nat} (hs : wordB s = true) : s.length ≤ 12 := by
  unfold wordB at hs
  exact of_decide_eq_true (Bool.and_eq_true _ _ |>.mp hs).1
theorem ev_Course_done (qs : List Ru) (hne : qs ≠ []) (h : ∀ q ∈ qs, q.Ok) (hl : qs.length ≤ 6) (s : List Nat) (hs : wordB s = true) (w : List D) : f_Course_done [courseD qs, .str s] w = .ok (.str (outs qs s)) w := by
  have h12 := word_len hs
  have e1 := ev_need_word (.str s) (.str [119, 111, 114, 100]) (show decide _ = true by rw [decide_eq_true_eq]; omega) w
  rw [show wordD (.str s) = wordB s from rfl, hs, if_pos rfl] at e1
  have e2 := ev_outcome_of qs hne h hl s (by omega) w
  generalize courseD qs = C at *
  simp only [f_Course_done, s_runB, sd0, b_f_Course_done]
  simp [e1, e2]
end K16
end
section
set_option Elab.async false
set_option linter.all false
set_option maxRecDepth 100000
set_option maxHeartbeats 4000000
namespace K16
open PySem PySem.Spec PyProof.Rows L2 FT
/-! ### slices by whole numbers -/
theorem sIx_nat (n d a : Nat) : HT.sIx n d (some (a : Int)) = min a n := HT.sIx_nat n d a
theorem cut_nat {α : Type} (s : List α) (a b : Nat) : FT.cutD s (some (a : Int)) (some (b : Int)) = (s.drop (min a s.length)).take (min b s.length - min a s.length) := by
  unfold FT.cutD
  rw [sIx_nat, sIx_nat]
theorem cut_to {α : Type} (s : List α) (b : Nat) : FT.cutD s none (some (b : Int)) = s.take b := by
  show (s.drop 0).take (HT.sIx s.length s.length (some (b : Int)) - 0) = _
  rw [sIx_nat, List.drop_zero, Nat.sub_zero]
  rcases Nat.le_total b s.length with h | h
  · rw [Nat.min_eq_left h]
  · rw [Nat.min_eq_right h, List.take_of_length_le (Nat.le_refl _), List.take_of_length_le h]
theorem cut_from {α : Type} (s : List α) (a : Nat) : FT.cutD s (some (a : Int)) none = s.drop a := by
  show (s.drop (HT.sIx s.length 0 (some (a : Int)))).take (s.length - HT.sIx s.length 0 (some (a : Int))) = _
  rw [sIx_nat, List.take_of_length_le (by rw [List.length_drop]; omega)]
  rcases Nat.le_total a s.length with h | h
  · rw [Nat.min_eq_left h]
  · rw [Nat.min_eq_right h, List.drop_of_length_le (Nat.le_refl _), List.drop_of_length_le h]
theorem max_nat (w : List D) (j m : Nat) : fMax2 w [.int 0, .int ((j : Int) - (m : Int))] = some (.int ((j - m : Nat) : Int)) := by
  show some (D.int _) = _
  congr 2
  split <;> omega
theorem rng_ok {m : Nat} (h : m ≤ 1000) : -4611686018427387904 ≤ (m : Int) ∧ (m : Int) < 4611686018427387904 := by omega
theorem ix_str (w : List D) (s : List Nat) {j c : Nat} (h : s[j]? = some c) : oIx w (.str s) (.int (j : Nat)) = some (.str [c]) := by
  show (atI s _).map _ = _
  rw [atI_nat s j _ h]; rfl
/-! ### courses that stand -/
structure Co (qs : List Ru) : Prop where
  ok : ∀ q ∈ qs, q.Ok
  firm : ∀ q ∈ qs, Firm q
  few : qs.length ≤ 6
theorem ev_out {qs : List Ru} (C : Co qs) (s : List Nat) (hs : s.length ≤ 1000) (w : List D) : f_outcome_of [courseD qs, .str s] w = .ok (.str (outs qs s)) w := by
  by_cases hne : qs = []
  · subst hne
    have f0 : mFld okf_shifts "shifts" (mVB 0) [.val (courseD []), .val (.str s)] w = .ok (.tup []) w := fld_shifts rfl
    have q0 : oEqE (.tup []) (.tup []) = some (.bl true) := rfl
    show _ = R.ok (D.str s) w
    generalize courseD [] = CD at *
    simp only [f_outcome_of, s_runB, sd0, b_f_outcome_of]
    simp [f0, q0]
  · exact ev_outcome_of qs hne C.ok C.few s hs w
theorem ev_Co_done {qs : List Ru} (C : Co qs) (s : List Nat) (hs : wordB s = true) (w : List D) : f_Course_done [courseD qs, .str s] w = .ok (.str (outs qs s)) w := by
  have h12 := word_len hs
  have e1 := ev_need_word (.str s) (.str [119, 111, 114, 100]) (show decide _ = true by rw [decide_eq_true_eq]; omega) w
  rw [show wordD (.str s) = wordB s from rfl, hs, if_pos rfl] at e1
  have e2 := ev_out C s (by omega) w
  generalize courseD qs = CD at *
  simp only [f_Course_done, s_runB, sd0, b_f_Course_done]
  simp [e1, e2]
theorem mc_done {qs : List Ru} {mo : ME D} {ma : ME (List D)} {sd : SD} {w : List D} {s : List Nat} (C : Co qs) (hs : wordB s = true) (h0 : mo sd w = .ok (courseD qs) w) (h1 : ma sd w = .ok [.str s] w) : mMethG 7 "done" 1 0 [0] [] (nArg 2 f_Course_done) mo ma mNil sd w = .ok (.str (outs qs s)) w :=
  (meth_run (es := []) (w2 := w) h0 (by decide) h1 rfl rfl rfl).trans (ev_Co_done C s hs w)
theorem any_fal {qs : List Ru} (h : ∀ q ∈ qs, Firm q) : qs.any Ru.fal = false := by
  rw [List.any_eq_false]
  intro q hq
  obtain ⟨x, hx⟩ := h q hq
  unfold Ru.fal
  rw [hx]; simp
theorem fldc_falls {m : ME D} {sd : SD} {w w1 : List D} {a b c : D} (h : m sd w = .ok (.obj 7 NC [a, b, c]) w1) : mFld okf_falls "falls" m sd w = .ok b w1 := by
  have lk : ((NC.zip [a, b, c]).lookup ("falls" : Str)) = some b := (rfl)
  unfold mFld; rw [h, s_bind_ok]; simp only [okf_falls, lk, beq_self_eq_true, Bool.or_true, Bool.true_or, if_true]
theorem ev_need_standing {qs : List Ru} (C : Co qs) (w : List D) : f_need_standing [courseD qs] w = .ok .non w := by
  have f0 : mFld okf_falls "falls" (mVB 0) [.val (courseD qs)] w = .ok (.bl (qs.any Ru.fal)) w := fldc_falls rfl
  rw [any_fal C.firm] at f0
  generalize courseD qs = CD at *
  simp only [f_need_standing, s_runB, sd0, b_f_need_standing]
  simp [f0, truthD]
theorem ev_need_course (qs : List Ru) (p : D) (w : List D) : f_need_course [courseD qs, p] w = .ok .non w := by
  have e : mIsiC okc tb_Course (mVB 0) [.val (courseD qs), .val p] w = .ok (.bl true) w := rfl
  generalize courseD qs = CD at *
  simp only [f_need_course, s_runB, sd0, b_f_need_course]
  simp [e, truthD]
theorem zip_lt : ∀ (a b : List Nat), zipD (a.map fun c => D.str [c]) (b.map fun c => D.str [c]) = (a.zip b).map fun p => D.tup [.str [p.1], .str [p.2]]
  | [], _ => by simp [zipD]
  | _ :: _, [] => by simp [zipD]
  | x :: a, y :: b => by simp [zipD, zip_lt a b]
def stockB (s : List Nat) : Bool := decide (1 ≤ s.length) && decide (s.length ≤ 5) && s.all (fun c => decide (c ∈ LET)) && (s.zip (s.drop 1)).all fun p => decide (p.1 < p.2)
theorem ev_is_stock_str (s : List Nat) (hs : s.length ≤ 16777216) (w : List D) : f_is_stock [.str s] w = .ok (.bl (stockB s)) w := by
  have hc := comp_in (i := 1) (t := mC (.str LET)) (sdv := [.val (.str s), .no, .no, .no]) (w := w) LET s (by simp) (fun d => rfl)
  have hfa : fAll w [.lst ((s.map fun c => decide (c ∈ LET)).map D.bl)] = some (.bl (s.all fun c => decide (c ∈ LET))) := by
    show Option.map _ (bools _) = _
    rw [bools_map, Option.map_some, all_map_id]
  have hz : fZipX [.str (FT.cutD s none (some (-1))), .str (FT.cutD s (some 1) none)] = some ((s.zip (s.drop 1)).map fun p => D.tup [.str [p.1], .str [p.2]]) := by
    have c1 : FT.cutD s none (some (-1)) = s.take (s.length - 1) := by
      show (s.drop 0).take (((-1 : Int) + s.length).toNat - 0) = _
      rw [List.drop_zero, show ((-1 : Int) + s.length).toNat - 0 = s.length - 1 by omega]
    have c2 : FT.cutD s (some 1) none = s.drop 1 := by
      show (s.drop (min 1 s.length)).take (s.length - min 1 s.length) = _
      rw [List.take_of_length_le (by rw [List.length_drop]; omega)]
      cases s with
      | nil => rfl
      | cons a r => rw [show min 1 (a :: r).length = 1 by simp]
    rw [c1, c2]
    show some (zipD _ _) = _
    rw [zip_lt, zip_take]
  have hc2 : compL (gTu 2 (gsCons (gN 2) (gsCons (gN 3) gsNil))) mYes (mBin (oCmp fLt sLt) (mVB 2) (mVB 3)) [.val (.str s), .no, .no, .no] ((s.zip (s.drop 1)).map fun p => D.tup [.str [p.1], .str [p.2]]) w = some (((s.zip (s.drop 1)).map fun p => decide (p.1 < p.2)).map D.bl, w) := by
    rw [compL_map (fun d => match d with | .tup [.str [a], .str [b]] => .bl (decide (a < b)) | _ => .non) _ fun d hd => ?_]
    · simp [List.map_map, Function.comp_def]
    · obtain ⟨p, _, rfl⟩ := List.mem_map.mp hd
      refine ⟨_, rfl, ?_⟩
      have : decide ([p.1] < [p.2]) = decide (p.1 < p.2) := by
        congr 1
        simp [List.cons_lt_cons_iff]
      simp [oCmp, sLt, this]
  have hfa2 : fAll w [.lst (((s.zip (s.drop 1)).map fun p => decide (p.1 < p.2)).map D.bl)] = some (.bl ((s.zip (s.drop 1)).all fun p => decide (p.1 < p.2))) := by
    show Option.map _ (bools _) = _
    rw [bools_map, Option.map_some, all_map_id]
  have hzl : ((s.zip (s.drop 1)).map fun p => D.tup [.str [p.1], .str [p.2]]).length ≤ 16777216 := by simp; omega
  unfold stockB
  generalize (s.map fun c => decide (c ∈ LET)).map D.bl = l at hc hfa
  generalize (s.all fun c => decide (c ∈ LET)) = b at hfa
  generalize ((s.zip (s.drop 1)).map fun p => decide (p.1 < p.2)).map D.bl = l2 at hc2 hfa2
  generalize ((s.zip (s.drop 1)).all fun p => decide (p.1 < p.2)) = b2 at hfa2
  generalize ((s.zip (s.drop 1)).map fun p => D.tup [.str [p.1], .str [p.2]]) = zz at hz hc2 hzl
  by_cases h1 : 1 ≤ s.length
  · have h1' : (1 : Int) ≤ s.length := by omega
    by_cases h5 : s.length ≤ 5
    · have h5' : (s.length : Int) ≤ 5 := by omega
      cases b with
      | true => simp [f_is_stock, b_f_is_stock, s_runB, sd0, tyN, isiB, truthD, oCmp, fLe, fLen, h1', h5', items, hs, hc, hfa, oSl, oNeg, hz, hc2, hzl, hfa2, h1, h5]
      | false => simp [f_is_stock, b_f_is_stock, s_runB, sd0, tyN, isiB, truthD, oCmp, fLe, fLen, h1', h5', items, hs, hc, hfa, h1, h5]
    · have h5' : ¬ (s.length : Int) ≤ 5 := by omega
      simp [f_is_stock, b_f_is_stock, s_runB, sd0, tyN, isiB, truthD, oCmp, fLe, fLen, h1', h5', h1, h5]
  · have h1' : ¬ (1 : Int) ≤ s.length := by omega
    simp [f_is_stock, b_f_is_stock, s_runB, sd0, tyN, isiB, truthD, oCmp, fLe, fLen, h1', h1]
theorem stock_B {st : List Nat} (h1 : st.Pairwise (· < ·)) (h2 : ∀ c ∈ st, c ∈ LET) (h3 : 1 ≤ st.length) (h4 : st.length ≤ 5) : stockB st = true := by
  unfold stockB
  rw [decide_eq_true h3, decide_eq_true h4, adj_of_pw h1]
  simp only [Bool.true_and, Bool.and_true, List.all_eq_true, decide_eq_true_eq]
  exact h2
theorem ev_need_stock {st : List Nat} (h : stockB st = true) (hl : st.length ≤ 1000) (p : D) (w : List D) : f_need_stock [.str st, p] w = .ok .non w := by
  have e := ev_is_stock_str st (by omega) w
  rw [h] at e
  simp only [f_need_stock, s_runB, sd0, b_f_need_stock]
  simp [e, truthD]
end K16
end
section
set_option Elab.async false
set_option linter.all false
set_option maxRecDepth 100000
set_option maxHeartbeats 4000000
namespace K16
open PySem PySem.Spec PyProof.Rows L2 FT
/-! ### rooms -/
def lastR (m : Nat) (s : List Nat) : List Nat := s.drop (s.length - m)
def roomN (n : Nat) (s : List Nat) : List Nat := if s.length < 2 * n then 35 :: s else lastR (2 * n) s
theorem out_drop {qs : List Ru} (hf : ∀ q ∈ qs, Firm q) (v : List Nat) (off : Nat) (h : off ≤ v.length) {i : Nat} (hi : off + i < v.length) (h2 : off = 0 ∨ qs.length ≤ i) : (outs qs (v.drop off))[i]? = (outs qs v)[off + i]? := by
  have A := agr_outs qs 0 (v.drop off) v off hf ⟨by rw [List.length_drop]; omega, fun j hj _ _ => by rw [List.getElem?_drop]⟩
  rw [Nat.zero_add] at A
  have l1 := outs_len qs (v.drop off) hf
  have l2 := outs_len qs v hf
  rw [List.length_drop] at l1
  exact A.2 i (by omega) h2 (.inl (by omega))
theorem out_more {qs : List Ru} (hf : ∀ q ∈ qs, Firm q) (s t : List Nat) {i : Nat} (hi : i + qs.length < s.length) : (outs qs (s ++ t))[i]? = (outs qs s)[i]? := by
  have A := agr_outs qs 0 s (s ++ t) 0 hf ⟨by simp, fun j hj _ _ => by rw [Nat.zero_add, List.getElem?_append_left hj]⟩
  rw [Nat.zero_add] at A
  have l1 := outs_len qs s hf
  have := A.2 i (by omega) (.inl rfl) (.inr (by omega))
  rw [this, Nat.zero_add]
theorem len_shifts {qs : List Ru} (w : List D) : fLen w [.tup (qs.map Ru.d)] = some (.int (qs.length : Int)) := by
  show some (D.int _) = _
  rw [List.length_map]
theorem ev_most (qs : List Ru) (hl : qs.length ≤ 6) (w : List D) : f_most_sounds [courseD qs] w = .ok (.int ((2 * qs.length : Nat) : Int)) w := by
  have f0 : mFld okf_shifts "shifts" (mVB 0) [.val (courseD qs)] w = .ok (.tup (qs.map Ru.d)) w := fld_shifts rfl
  have l0 := len_shifts (qs := qs) w
  have m0 : oMul (.int 2) (.int (qs.length : Int)) = some (.int ((2 * qs.length : Nat) : Int)) := by
    have e : oMul (.int 2) (.int (qs.length : Int)) = some (.int (2 * (qs.length : Int))) := mul_small 2 qs.length (by omega) (by omega)
    rw [e]
    congr 2
  generalize courseD qs = CD at *
  generalize qs.map Ru.d = ds at *
  generalize ((2 * qs.length : Nat) : Int) = z1 at *
  generalize (qs.length : Int) = z2 at *
  simp only [f_most_sounds, s_runB, sd0, b_f_most_sounds]
  simp [f0, l0, m0]
theorem ev_room_with (qs : List Ru) (hl : qs.length ≤ 6) (s : List Nat) (hs : s.length ≤ 1000) (w : List D) : f_room_with [courseD qs, .str s] w = .ok (.str (roomN qs.length s)) w := by
  have e1 := ev_most qs hl w
  have l1 : fLen w [.str s] = some (.int (s.length : Int)) := rfl
  have sb : oSub (.int (s.length : Int)) (.int ((2 * qs.length : Nat) : Int)) = some (.int ((s.length : Int) - ((2 * qs.length : Nat) : Int))) := rfl
  by_cases h : s.length < 2 * qs.length
  · have lt : oCmp fLt sLt (.int ((s.length : Int) - ((2 * qs.length : Nat) : Int))) (.int 0) = some (.bl true) := by
      show some (D.bl (decide _)) = _
      rw [decide_eq_true (by omega)]
    have ad : oAdd (.str [35]) (.str s) = some (.str (35 :: s)) := add_str [35] s (by simp; omega)
    unfold roomN
    rw [if_pos h]
    generalize 35 :: s = s35 at *
    generalize courseD qs = CD at *
    generalize (s.length : Int) - ((2 * qs.length : Nat) : Int) = z3 at *
    generalize ((2 * qs.length : Nat) : Int) = z1 at *
    generalize (s.length : Int) = z2 at *
    simp only [f_room_with, s_runB, sd0, b_f_room_with]
    simp [e1, l1, sb, lt, ad]
  · have lt : oCmp fLt sLt (.int ((s.length : Int) - ((2 * qs.length : Nat) : Int))) (.int 0) = some (.bl false) := by
      show some (D.bl (decide _)) = _
      rw [decide_eq_false (by omega)]
    have sl : oSl (.str s) (some ((s.length : Int) - ((2 * qs.length : Nat) : Int))) none = some (.str (lastR (2 * qs.length) s)) := by
      show some (D.str (FT.cutD s (some _) none)) = _
      rw [show (s.length : Int) - ((2 * qs.length : Nat) : Int) = ((s.length - 2 * qs.length : Nat) : Int) by omega, cut_from]
      rfl
    unfold roomN
    rw [if_neg h]
    generalize courseD qs = CD at *
    generalize (s.length : Int) - ((2 * qs.length : Nat) : Int) = z3 at *
    generalize ((2 * qs.length : Nat) : Int) = z1 at *
    generalize (s.length : Int) = z2 at *
    generalize lastR (2 * qs.length) s = ls at *
    simp only [f_room_with, s_runB, sd0, b_f_room_with]
    simp [e1, l1, sb, lt, sl]
theorem let_35 {c : Nat} (h : c ∈ LET) : c ≠ 35 := by
  intro z
  rw [z] at h
  exact absurd h (by decide)
theorem ev_sounds_room (n : Nat) (s : List Nat) (hs : ∀ c ∈ s, c ∈ LET) (w : List D) : f_sounds_in_rooms [.str (roomN n s)] w = .ok (.str (lastR (2 * n) s)) w := by
  have sl1 : ∀ r : List Nat, oSl (.str r) none (some 1) = some (.str (r.take 1)) := fun r => by
    show some (D.str (FT.cutD r none (some ((1 : Nat) : Int)))) = _
    rw [cut_to]
  have sl2 : ∀ r : List Nat, oSl (.str r) (some 1) none = some (.str (r.drop 1)) := fun r => by
    show some (D.str (FT.cutD r (some ((1 : Nat) : Int)) none)) = _
    rw [cut_from]
  by_cases h : s.length < 2 * n
  · have e : roomN n s = 35 :: s := by unfold roomN; rw [if_pos h]
    have e2 : lastR (2 * n) s = s := by unfold lastR; rw [show s.length - 2 * n = 0 by omega, List.drop_zero]
    have q := oEq_f [35]
    have a1 := sl1 (35 :: s)
    have a2 := sl2 (35 :: s)
    simp only [List.take_succ_cons, List.take_zero, List.drop_succ_cons, List.drop_zero] at a1 a2
    rw [e, e2]
    generalize 35 :: s = r at *
    simp only [f_sounds_in_rooms, s_runB, sd0, b_f_sounds_in_rooms]
    simp [a1, q, a2]
  · have e : roomN n s = lastR (2 * n) s := by unfold roomN; rw [if_neg h]
    have hm : ∀ c ∈ lastR (2 * n) s, c ∈ LET := fun c hc => hs c (List.mem_of_mem_drop hc)
    rw [e]
    generalize lastR (2 * n) s = r at *
    have a1 := sl1 r
    have q : oEq false (.str (r.take 1)) (.str [35]) = some (.bl false) := by
      rw [oEq_ss]
      cases r with
      | nil => simp
      | cons c r =>
        have := let_35 (hm c List.mem_cons_self)
        simp [this]
    generalize r.take 1 = r1 at *
    simp only [f_sounds_in_rooms, s_runB, sd0, b_f_sounds_in_rooms]
    simp [a1, q]
theorem lastR_len (m : Nat) (s : List Nat) : (lastR m s).length = min s.length m := by
  unfold lastR
  rw [List.length_drop]; omega
theorem lastR_snoc (m : Nat) (s : List Nat) (c : Nat) : lastR m s ++ [c] = (s ++ [c]).drop (s.length - m) := by
  unfold lastR
  rw [List.drop_append_of_le_length (by omega)]
theorem room_snoc (n : Nat) (s : List Nat) (c : Nat) : roomN n (lastR (2 * n) s ++ [c]) = roomN n (s ++ [c]) := by
  have hl := lastR_len (2 * n) s
  unfold roomN
  rw [List.length_append, List.length_append, hl]
  simp only [List.length_cons, List.length_nil]
  by_cases h : s.length + 1 < 2 * n
  · rw [if_pos (by omega), if_pos h]
    unfold lastR
    rw [show s.length - 2 * n = 0 by omega, List.drop_zero]
  · rw [if_neg (by omega), if_neg h]
    conv => lhs; unfold lastR
    conv => rhs; unfold lastR
    rw [show s.drop (s.length - 2 * n) ++ [c] = (s ++ [c]).drop (s.length - 2 * n) from lastR_snoc (2 * n) s c, List.drop_drop]
    congr 1
    rw [List.length_drop, List.length_append]
    simp only [List.length_cons, List.length_nil]
    omega
/-- the sound that is settled when c is read behind s -/
def setN (qs : List Ru) (s : List Nat) (c : Nat) : List Nat := if qs.length ≤ s.length then ((outs qs (s ++ [c]))[s.length - qs.length]?).toList else []
theorem ev_step_in {qs : List Ru} (C : Co qs) (s : List Nat) (c : Nat) (hl : s.length ≤ 900) (hs : ∀ c ∈ s, c ∈ LET) (w : List D) :
    f_step_in [courseD qs, .str (roomN qs.length s), .str [c]] w = .ok (.tup [.str (roomN qs.length (s ++ [c])), .str (setN qs s c)]) w := by
  have hf := C.few
  have e1 := ev_sounds_room qs.length s hs w
  have hll := lastR_len (2 * qs.length) s
  have hwl : (lastR (2 * qs.length) s ++ [c]).length = min s.length (2 * qs.length) + 1 := by rw [List.length_append, hll]; rfl
  have ad : oAdd (.str (lastR (2 * qs.length) s)) (.str [c]) = some (.str (lastR (2 * qs.length) s ++ [c])) := add_str _ _ (by rw [hll]; simp; omega)
  have l1 : fLen w [.str (lastR (2 * qs.length) s ++ [c])] = some (.int (((min s.length (2 * qs.length) + 1 : Nat) : Int))) := by
    show some (D.int _) = _
    rw [hwl]
  have f0 : ∀ a b c d e : SV, mFld okf_shifts "shifts" (mVB 0) [.val (courseD qs), a, b, c, d, e] w = .ok (.tup (qs.map Ru.d)) w := fun _ _ _ _ _ => fld_shifts rfl
  have l0 := len_shifts (qs := qs) w
  have s1 : oSub (.int (((min s.length (2 * qs.length) + 1 : Nat) : Int))) (.int 1) = some (.int ((min s.length (2 * qs.length) : Nat) : Int)) := by
    show some (D.int _) = _
    congr 2
    omega
  have s2 : oSub (.int ((min s.length (2 * qs.length) : Nat) : Int)) (.int (qs.length : Int)) = some (.int (((min s.length (2 * qs.length) : Nat) : Int) - (qs.length : Int))) := rfl
  have eo := ev_out C (lastR (2 * qs.length) s ++ [c]) (by rw [hwl]; omega) w
  have er := ev_room_with qs hf (lastR (2 * qs.length) s ++ [c]) (by rw [hwl]; omega) w
  rw [room_snoc] at er
  by_cases h : qs.length ≤ s.length
  · have ge : oCmp fGe sGe (.int (((min s.length (2 * qs.length) : Nat) : Int) - (qs.length : Int))) (.int 0) = some (.bl true) := by
      show some (D.bl (decide _)) = _
      rw [decide_eq_true (by omega)]
    have lo := outs_len qs (s ++ [c]) C.firm
    rw [List.length_append] at lo
    simp only [List.length_cons, List.length_nil] at lo
    have hlt : s.length - qs.length < (outs qs (s ++ [c])).length := by omega
    have hx : (outs qs (lastR (2 * qs.length) s ++ [c]))[min s.length (2 * qs.length) - qs.length]? = some (outs qs (s ++ [c]))[s.length - qs.length] := by
      rw [lastR_snoc, out_drop C.firm (s ++ [c]) (s.length - 2 * qs.length) (by simp; omega) (by simp; omega) (by omega)]
      rw [show s.length - 2 * qs.length + (min s.length (2 * qs.length) - qs.length) = s.length - qs.length by omega]
      exact List.getElem?_eq_getElem hlt
    have hset : setN qs s c = [(outs qs (s ++ [c]))[s.length - qs.length]] := by
      unfold setN
      rw [if_pos h, List.getElem?_eq_getElem hlt]; rfl
    have ix := ix_str w _ hx
    rw [show ((min s.length (2 * qs.length) - qs.length : Nat) : Int) = ((min s.length (2 * qs.length) : Nat) : Int) - (qs.length : Int) by omega, ← hset] at ix
    generalize setN qs s c = sn at *
    clear hx hset hlt lo
    generalize courseD qs = CD at *
    generalize qs.map Ru.d = ds at *
    generalize outs qs (lastR (2 * qs.length) s ++ [c]) = ow at *
    generalize lastR (2 * qs.length) s ++ [c] = wd at *
    generalize lastR (2 * qs.length) s = ls at *
    generalize roomN qs.length (s ++ [c]) = r2 at *
    generalize roomN qs.length s = r1 at *
    generalize ((min s.length (2 * qs.length) : Nat) : Int) - (qs.length : Int) = z1 at *
    generalize ((min s.length (2 * qs.length) + 1 : Nat) : Int) = z2 at *
    generalize ((min s.length (2 * qs.length) : Nat) : Int) = z3 at *
    generalize (qs.length : Int) = z4 at *
    simp only [f_step_in, s_runB, sd0, b_f_step_in]
    simp [e1, ad, l1, f0, l0, s1, s2, ge, eo, ix, er]
  · have ge : oCmp fGe sGe (.int (((min s.length (2 * qs.length) : Nat) : Int) - (qs.length : Int))) (.int 0) = some (.bl false) := by
      show some (D.bl (decide _)) = _
      rw [decide_eq_false (by omega)]
    have hset : setN qs s c = [] := by
      unfold setN
      rw [if_neg h]
    rw [hset]
    generalize courseD qs = CD at *
    generalize qs.map Ru.d = ds at *
    generalize lastR (2 * qs.length) s ++ [c] = wd at *
    generalize lastR (2 * qs.length) s = ls at *
    generalize roomN qs.length (s ++ [c]) = r2 at *
    generalize roomN qs.length s = r1 at *
    generalize ((min s.length (2 * qs.length) : Nat) : Int) - (qs.length : Int) = z1 at *
    generalize ((min s.length (2 * qs.length) + 1 : Nat) : Int) = z2 at *
    generalize ((min s.length (2 * qs.length) : Nat) : Int) = z3 at *
    generalize (qs.length : Int) = z4 at *
    simp only [f_step_in, s_runB, sd0, b_f_step_in]
    simp [e1, ad, l1, f0, l0, s1, s2, ge, er]
theorem ev_rest_in {qs : List Ru} (C : Co qs) (s : List Nat) (hl : s.length ≤ 900) (hs : ∀ c ∈ s, c ∈ LET) (w : List D) :
    f_rest_in [courseD qs, .str (roomN qs.length s)] w = .ok (.str ((outs qs s).drop (s.length - qs.length))) w := by
  have hf := C.few
  have e1 := ev_sounds_room qs.length s hs w
  have hll := lastR_len (2 * qs.length) s
  have eo := ev_out C (lastR (2 * qs.length) s) (by rw [hll]; omega) w
  have lo := outs_len qs (lastR (2 * qs.length) s) C.firm
  have lo2 := outs_len qs s C.firm
  have l1 : fLen w [.str (outs qs (lastR (2 * qs.length) s))] = some (.int ((min s.length (2 * qs.length) : Nat) : Int)) := by
    show some (D.int _) = _
    rw [lo, hll]
  have f0 : ∀ a b : SV, mFld okf_shifts "shifts" (mVB 0) [.val (courseD qs), a, b] w = .ok (.tup (qs.map Ru.d)) w := fun _ _ => fld_shifts rfl
  have l0 := len_shifts (qs := qs) w
  have s2 : oSub (.int ((min s.length (2 * qs.length) : Nat) : Int)) (.int (qs.length : Int)) = some (.int (((min s.length (2 * qs.length) : Nat) : Int) - (qs.length : Int))) := rfl
  have mx := max_nat w (min s.length (2 * qs.length)) qs.length
  have sl : oSl (.str (outs qs (lastR (2 * qs.length) s))) (some ((min s.length (2 * qs.length) - qs.length : Nat) : Int)) none = some (.str ((outs qs s).drop (s.length - qs.length))) := by
    show some (D.str (FT.cutD _ (some _) none)) = _
    rw [cut_from]
    congr 2
    apply List.ext_getElem?
    intro i
    rw [List.getElem?_drop, List.getElem?_drop]
    by_cases hi : s.length - qs.length + i < s.length
    · have := out_drop C.firm s (s.length - 2 * qs.length) (by omega) (i := min s.length (2 * qs.length) - qs.length + i) (by omega) (by omega)
      rw [show s.length - 2 * qs.length + (min s.length (2 * qs.length) - qs.length + i) = s.length - qs.length + i by omega] at this
      exact this
    · rw [List.getElem?_eq_none (by omega), List.getElem?_eq_none (by omega)]
  generalize (outs qs s).drop (s.length - qs.length) = rs at *
  clear lo lo2
  generalize courseD qs = CD at *
  generalize qs.map Ru.d = ds at *
  generalize outs qs (lastR (2 * qs.length) s) = ow at *
  generalize lastR (2 * qs.length) s = ls at *
  generalize roomN qs.length s = r1 at *
  generalize ((min s.length (2 * qs.length) - qs.length : Nat) : Int) = z2 at *
  generalize ((min s.length (2 * qs.length) : Nat) : Int) - (qs.length : Int) = z1 at *
  generalize ((min s.length (2 * qs.length) : Nat) : Int) = z3 at *
  generalize (qs.length : Int) = z4 at *
  simp only [f_rest_in, s_runB, sd0, b_f_rest_in]
  simp [e1, eo, l1, f0, l0, s2, mx, sl]
end K16
end
section
set_option Elab.async false
set_option linter.all false
set_option maxRecDepth 100000
set_option maxHeartbeats 4000000
namespace K16
open PySem PySem.Spec PyProof.Rows L2 FT
/-! ### the words sent back -/
def long (st : List Nat) : Nat → List (List Nat)
  | 0 => [[]]
  | k + 1 => (long st k).flatMap fun w => st.map fun c => w ++ [c]
theorem long_mem {st : List Nat} : ∀ {k : Nat} {w : List Nat}, w ∈ long st k → w.length = k ∧ ∀ c ∈ w, c ∈ st
  | 0, w, h => by
    rw [List.mem_singleton.mp h]
    exact ⟨rfl, fun c hc => absurd hc (by simp)⟩
  | k + 1, w, h => by
    obtain ⟨u, hu, h⟩ := List.mem_flatMap.mp h
    obtain ⟨c, hc, rfl⟩ := List.mem_map.mp h
    obtain ⟨h1, h2⟩ := long_mem hu
    refine ⟨by rw [List.length_append, h1]; rfl, fun d hd => ?_⟩
    rcases List.mem_append.mp hd with hd | hd
    · exact h2 d hd
    · rw [List.mem_singleton.mp hd]; exact hc
theorem mem_long {st : List Nat} : ∀ {k : Nat} {w : List Nat}, w.length = k → (∀ c ∈ w, c ∈ st) → w ∈ long st k := by
  intro k
  induction k with
  | zero =>
    intro w h _
    rw [List.length_eq_zero_iff.mp h]
    exact List.mem_singleton.mpr rfl
  | succ k ih =>
    intro w h hm
    have hne : w ≠ [] := fun z => by rw [z] at h; cases h
    have e := List.dropLast_concat_getLast hne
    rw [← e]
    refine List.mem_flatMap.mpr ⟨w.dropLast, ih (by rw [List.length_dropLast]; omega) fun c hc => hm c ((List.dropLast_sublist w).subset hc), List.mem_map.mpr ⟨_, hm _ (List.getLast_mem hne), rfl⟩⟩
theorem long_few {st : List Nat} (h : st.length ≤ 5) : ∀ k : Nat, (long st k).length ≤ 5 ^ k
  | 0 => Nat.le_refl _
  | k + 1 => by
    have ih := long_few h k
    have e : ∀ ws : List (List Nat), (ws.flatMap fun w => st.map fun c => w ++ [c]).length = ws.length * st.length := by
      intro ws
      induction ws with
      | nil => simp
      | cons w ws ihw => rw [List.flatMap_cons, List.length_append, ihw, List.length_map, List.length_cons, Nat.succ_mul]; omega
    show ((long st k).flatMap _).length ≤ _
    rw [e, Nat.pow_succ]
    exact Nat.mul_le_mul ih h
def fitB (qs : List Ru) (out : List Nat) (r : Nat) (w : List Nat) : Bool := (List.range (r - qs.length)).all fun p => decide ((outs qs w)[p]? = out[p]?)
def okC (qs : List Ru) (out : List Nat) (r : Nat) (w : List Nat) (c : Nat) : Bool := decide (r < qs.length) || decide ((outs qs (w ++ [c]))[r - qs.length]? = out[r - qs.length]?)
def nextW (qs : List Ru) (st out : List Nat) (r : Nat) (w : List Nat) : List (List Nat) := (st.filter (okC qs out r w)).map fun c => w ++ [c]
def foundW (qs : List Ru) (st out : List Nat) : Nat → List (List Nat)
  | 0 => [[]]
  | r + 1 => (foundW qs st out r).flatMap (nextW qs st out r)
theorem fit_snoc {qs : List Ru} (hf : ∀ q ∈ qs, Firm q) (out w : List Nat) (c : Nat) : fitB qs out (w.length + 1) (w ++ [c]) = (fitB qs out w.length w && okC qs out w.length w c) := by
  rw [Bool.eq_iff_iff, Bool.and_eq_true]
  simp only [fitB, okC, List.all_eq_true, List.mem_range, decide_eq_true_eq, Bool.or_eq_true]
  constructor
  · intro H
    refine ⟨fun p hp => ?_, ?_⟩
    · rw [← out_more hf w [c] (i := p) (by omega)]
      exact H p (by omega)
    · by_cases h : w.length < qs.length
      · exact .inl h
      · exact .inr (H _ (by omega))
  · rintro ⟨H1, H2⟩ p hp
    by_cases h : p < w.length - qs.length
    · exact (out_more hf w [c] (i := p) (by omega)).trans (H1 p h)
    · rcases H2 with h2 | h2
      · omega
      · rw [show p = w.length - qs.length by omega]; exact h2
theorem flat_filter {α β : Type} (p : α → Bool) (f g : α → List β) : ∀ l : List α, (∀ a ∈ l, f a = if p a = true then g a else []) → l.flatMap f = (l.filter p).flatMap g
  | [], _ => rfl
  | a :: l, h => by
    rw [List.flatMap_cons, h a List.mem_cons_self, flat_filter p f g l fun b hb => h b (List.mem_cons_of_mem _ hb)]
    cases e : p a <;> simp [e]
theorem filter_flat {α β : Type} (p : β → Bool) (f : α → List β) : ∀ l : List α, (l.flatMap f).filter p = l.flatMap fun a => (f a).filter p
  | [] => rfl
  | a :: l => by rw [List.flatMap_cons, List.filter_append, filter_flat p f l, List.flatMap_cons]
theorem found_eq {qs : List Ru} (hf : ∀ q ∈ qs, Firm q) (st out : List Nat) : ∀ r : Nat, foundW qs st out r = (long st r).filter (fitB qs out r)
  | 0 => by
    have : fitB qs out 0 [] = true := by unfold fitB; simp
    show [[]] = [[]].filter _
    simp [this]
  | r + 1 => by
    have ih := found_eq hf st out r
    show (foundW qs st out r).flatMap (nextW qs st out r) = ((long st r).flatMap fun w => st.map fun c => w ++ [c]).filter _
    rw [ih, filter_flat]
    symm
    apply flat_filter
    intro w hw
    have hl := (long_mem hw).1
    have e : ∀ cs : List Nat, (cs.map fun c => w ++ [c]).filter (fitB qs out (r + 1)) = if fitB qs out r w = true then (cs.filter (okC qs out r w)).map (fun c => w ++ [c]) else [] := by
      intro cs
      rw [List.filter_map]
      have : (fitB qs out (r + 1) ∘ fun c => w ++ [c]) = fun c => (fitB qs out r w && okC qs out r w c) := by
        funext c
        have := fit_snoc hf out w c
        rw [hl] at this
        exact this
      rw [this]
      cases h : fitB qs out r w <;> simp
    exact e st
theorem found_few {qs : List Ru} (hf : ∀ q ∈ qs, Firm q) {st : List Nat} (h : st.length ≤ 5) (out : List Nat) (r : Nat) (hr : r ≤ 6) : (foundW qs st out r).length ≤ 15625 := by
  rw [found_eq hf]
  have h1 := List.length_filter_le (fitB qs out r) (long st r)
  have h2 := long_few h r
  have h3 : 5 ^ r ≤ 5 ^ 6 := Nat.pow_le_pow_right (by omega) hr
  have h4 : (5 : Nat) ^ 6 = 15625 := by decide
  omega
/-- the words of a stock with an outcome -/
def sentW (qs : List Ru) (st out : List Nat) : List (List Nat) := (long st out.length).filter fun w => decide (outs qs w = out)
theorem sent_eq {qs : List Ru} (hf : ∀ q ∈ qs, Firm q) (st out : List Nat) : (foundW qs st out out.length).filter (fun w => decide ((outs qs w).drop (w.length - qs.length) = out.drop (out.length - qs.length))) = sentW qs st out := by
  rw [found_eq hf, List.filter_filter]
  apply List.filter_congr
  intro w hw
  have hl := (long_mem hw).1
  have hlo := outs_len qs w hf
  rw [Bool.eq_iff_iff, Bool.and_eq_true]
  simp only [fitB, List.all_eq_true, List.mem_range, decide_eq_true_eq]
  rw [hl]
  constructor
  · rintro ⟨h1, h2⟩
    apply List.ext_getElem?
    intro p
    by_cases hp : p < out.length - qs.length
    · exact h2 p hp
    · have := congrArg (fun l : List Nat => l[p - (out.length - qs.length)]?) h1
      simp only [List.getElem?_drop] at this
      rwa [show out.length - qs.length + (p - (out.length - qs.length)) = p by omega] at this
  · intro h
    rw [h]
    exact ⟨rfl, fun _ _ => rfl⟩
def pairD (n : Nat) (w : List Nat) : D := .tup [.str w, .str (roomN n w)]
def bodyS : MS := (mSeq (mAsg (gTu 2 (gsCons (gN 10) (gsCons (gN 11) gsNil))) (mCall (nArg 3 f_step_in) (mCons (mV 0) (mCons (mV 8) (mCons (mV 9) mNil)))))
    (mIf (mOr (mTst (mBin (oCmp fLt sLt) (mVB 5) (mC (.int 0)))) (mTst (mBin (oEq false) (mVB 11) (mIx (mVB 2) (mVB 5)))))
    (mApp 6 (mTup (mCons (mBin oAdd (mVB 7) (mVB 9)) (mCons (mV 10) mNil))))
    mSkip))
def bodyR : MS := (mSeq (mParEF 5 6 (mBin oSub (mVB 4) (mCB fLen (mCons (mFld okf_shifts "shifts" (mVB 0)) mNil))) (mLstF mNil))
    (mSeq (mFor (gTu 2 (gsCons (gN 7) (gsCons (gN 8) gsNil))) (mSeqI (mV 3))
    (mFor (gN 9) (mSeqI (mV 1)) bodyS))
    (mFr 6 (mAsg (gN 3) (mV 6)))))
theorem mo_split : b_f_mothers_of = (mSeq (mDrop (mCall (nArg 2 f_need_course) (mCons (mV 0) (mCons (mC (.str [99, 111, 117, 114, 115, 101])) mNil))))
    (mSeq (mDrop (mCall (nArg 2 f_need_stock) (mCons (mV 1) (mCons (mC (.str [115, 116, 111, 99, 107])) mNil))))
    (mSeq (mDrop (mCall (nArg 2 f_need_word) (mCons (mV 2) (mCons (mC (.str [111, 117, 116, 99, 111, 109, 101])) mNil))))
    (mSeq (mDrop (mCall (nArg 1 f_need_standing) (mCons (mV 0) mNil)))
    (mSeq (mIf (mTst (mBin (oCmp fGt sGt) (mCB fLen (mCons (mVB 2) mNil)) (mC (.int 6))))
    (mRaise2 3 "what" "most" (mCons (mC (.str [115, 111, 117, 110, 100, 115])) (mCons (mC (.int 6)) mNil)))
    mSkip)
    (mSeq (mAsg (gN 3) (mLst (mCons (mTup (mCons (mC (.str [])) (mCons (mCall (nArg 2 f_room_with) (mCons (mV 0) (mCons (mC (.str [])) mNil))) mNil))) mNil)))
    (mSeq (mFor (gN 4) (mRng1 (mCB fLen (mCons (mVB 2) mNil))) bodyR)
    (mSeq (mAsg (gN 12) (mSl (mVB 2) (mPart (mCB fMax2 (mCons (mC (.int 0)) (mCons (mBin oSub (mCB fLen (mCons (mVB 2) mNil)) (mCB fLen (mCons (mFld okf_shifts "shifts" (mVB 0)) mNil))) mNil)))) mNoP))
    (mRet (mCB fTuple (mCons (mF (mComp (mSeqI (mVB 3)) (gTu 2 (gsCons (gN 7) (gsCons (gN 8) gsNil))) (mTst (mBin (oEq false) (mCall (nArg 2 f_rest_in) (mCons (mV 0) (mCons (mV 8) mNil))) (mVB 12))) (mV 7) [7, 8])) mNil))))))))))) := rfl
end K16
end
section
set_option Elab.async false
set_option linter.all false
set_option maxRecDepth 100000
set_option maxHeartbeats 4000000
namespace K16
open PySem PySem.Spec PyProof.Rows L2 FT
theorem bodyS_run {qs : List Ru} (C : Co qs) (out w : List Nat) (c : Nat) (h1 : w.length < out.length) (h2 : out.length ≤ 12) (hw : ∀ c ∈ w, c ∈ LET) (acc : List D) (ha : acc.length < 1000000) (x1 x3 t10 t11 t12 : SV) (w0 : List D) :
    bodyS [.val (courseD qs), x1, .val (.str out), x3, .val (.int (w.length : Nat)), .val (.int ((w.length : Int) - (qs.length : Int))), .own acc, .val (.str w), .val (.str (roomN qs.length w)), .val (.str [c]), t10, t11, t12] w0 =
      .nx [.val (courseD qs), x1, .val (.str out), x3, .val (.int (w.length : Nat)), .val (.int ((w.length : Int) - (qs.length : Int))), .own (if okC qs out w.length w c = true then acc ++ [pairD qs.length (w ++ [c])] else acc), .val (.str w), .val (.str (roomN qs.length w)), .val (.str [c]), .val (.str (roomN qs.length (w ++ [c]))), .val (.str (setN qs w c)), t12] w0 := by
  have es := ev_step_in C w c (by omega) hw w0
  have ad : oAdd (.str w) (.str [c]) = some (.str (w ++ [c])) := add_str _ _ (by simp; omega)
  have hal : acc.length < 16777216 := by omega
  by_cases h : w.length < qs.length
  · have lt : oCmp fLt sLt (.int ((w.length : Int) - (qs.length : Int))) (.int 0) = some (.bl true) := by
      show some (D.bl (decide _)) = _
      rw [decide_eq_true (by omega)]
    have ok : okC qs out w.length w c = true := by
      unfold okC
      rw [decide_eq_true h, Bool.true_or]
    rw [if_pos ok]
    unfold pairD
    generalize courseD qs = CD at *
    generalize roomN qs.length (w ++ [c]) = r2 at *
    generalize roomN qs.length w = r1 at *
    generalize setN qs w c = sn at *
    generalize w ++ [c] = wc at *
    generalize (w.length : Int) - (qs.length : Int) = z1 at *
    generalize (w.length : Int) = z2 at *
    simp [bodyS, es, lt, ad, hal]
  · have lt : oCmp fLt sLt (.int ((w.length : Int) - (qs.length : Int))) (.int 0) = some (.bl false) := by
      show some (D.bl (decide _)) = _
      rw [decide_eq_false (by omega)]
    have hlt : w.length - qs.length < out.length := by omega
    have ix := ix_str w0 out (List.getElem?_eq_getElem hlt)
    rw [show ((w.length - qs.length : Nat) : Int) = (w.length : Int) - (qs.length : Int) by omega] at ix
    have lo := outs_len qs (w ++ [c]) C.firm
    rw [List.length_append] at lo
    simp only [List.length_cons, List.length_nil] at lo
    have hlo : w.length - qs.length < (outs qs (w ++ [c])).length := by omega
    have eq : oEq false (.str (setN qs w c)) (.str [out[w.length - qs.length]]) = some (.bl (okC qs out w.length w c)) := by
      have e1 : setN qs w c = [(outs qs (w ++ [c]))[w.length - qs.length]] := by
        unfold setN
        rw [if_pos (by omega), List.getElem?_eq_getElem hlo]; rfl
      have e2 : okC qs out w.length w c = decide ((outs qs (w ++ [c]))[w.length - qs.length] = out[w.length - qs.length]) := by
        unfold okC
        rw [decide_eq_false h, Bool.false_or, List.getElem?_eq_getElem hlo, List.getElem?_eq_getElem hlt]
        simp
      rw [e1, e2, oEq_ss]
      simp only [Bool.false_eq_true, if_false]
      congr 2
      rw [Bool.eq_iff_iff]
      simp
    unfold pairD
    generalize okC qs out w.length w c = b at *
    generalize [out[w.length - qs.length]] = kk at *
    clear hlo lo
    generalize courseD qs = CD at *
    generalize roomN qs.length (w ++ [c]) = r2 at *
    generalize roomN qs.length w = r1 at *
    generalize setN qs w c = sn at *
    generalize w ++ [c] = wc at *
    generalize (w.length : Int) - (qs.length : Int) = z1 at *
    generalize (w.length : Int) = z2 at *
    cases b with
    | true => simp [bodyS, es, lt, ad, hal, ix, eq]
    | false => simp [bodyS, es, lt, ad, hal, ix, eq]
theorem snd_loop {qs : List Ru} (C : Co qs) (out w : List Nat) (h1 : w.length < out.length) (h2 : out.length ≤ 12) (hw : ∀ c ∈ w, c ∈ LET) (x1 x3 t12 : SV) (w0 : List D) : ∀ (cs : List Nat) (acc : List D), acc.length + cs.length < 1000000 → ∀ t9 t10 t11 : SV,
    ∃ u9 u10 u11, forL (gN 9) bodyS (S1 cs) [.val (courseD qs), x1, .val (.str out), x3, .val (.int (w.length : Nat)), .val (.int ((w.length : Int) - (qs.length : Int))), .own acc, .val (.str w), .val (.str (roomN qs.length w)), t9, t10, t11, t12] w0 =
      .nx [.val (courseD qs), x1, .val (.str out), x3, .val (.int (w.length : Nat)), .val (.int ((w.length : Int) - (qs.length : Int))), .own (acc ++ ((cs.filter (okC qs out w.length w)).map fun c => w ++ [c]).map (pairD qs.length)), .val (.str w), .val (.str (roomN qs.length w)), u9, u10, u11, t12] w0
  | [], acc, _, t9, t10, t11 => ⟨t9, t10, t11, by simp [S1, forL]⟩
  | c :: cs, acc, ha, t9, t10, t11 => by
    simp only [List.length_cons] at ha
    have e := bodyS_run C out w c h1 h2 hw acc (by omega) x1 x3 t10 t11 t12 w0
    obtain ⟨u9, u10, u11, e2⟩ := snd_loop C out w h1 h2 hw x1 x3 t12 w0 cs (if okC qs out w.length w c = true then acc ++ [pairD qs.length (w ++ [c])] else acc) (by split <;> (try simp) <;> omega) (.val (.str [c])) (.val (.str (roomN qs.length (w ++ [c])))) (.val (.str (setN qs w c)))
    refine ⟨u9, u10, u11, ?_⟩
    simp only [S1, List.map_cons, forL, s_gN, List.set_cons_succ, List.set_cons_zero, e]
    refine e2.trans ?_
    cases h : okC qs out w.length w c <;> simp [h]
def wordBody : MS := mFor (gN 9) (mSeqI (mV 1)) bodyS
theorem word_loop {qs : List Ru} (C : Co qs) (st out : List Nat) (r : Nat) (h1 : r < out.length) (h2 : out.length ≤ 12) (hst : st.length ≤ 5) (x3 t12 : SV) (w0 : List D) : ∀ (ws : List (List Nat)), (∀ w ∈ ws, w.length = r ∧ ∀ c ∈ w, c ∈ LET) → ∀ (acc : List D), acc.length + ws.length * 5 < 900000 → ∀ t7 t8 t9 t10 t11 : SV,
    ∃ u7 u8 u9 u10 u11, forL (gTu 2 (gsCons (gN 7) (gsCons (gN 8) gsNil))) wordBody (ws.map (pairD qs.length)) [.val (courseD qs), .val (.str st), .val (.str out), x3, .val (.int (r : Nat)), .val (.int ((r : Int) - (qs.length : Int))), .own acc, t7, t8, t9, t10, t11, t12] w0 =
      .nx [.val (courseD qs), .val (.str st), .val (.str out), x3, .val (.int (r : Nat)), .val (.int ((r : Int) - (qs.length : Int))), .own (acc ++ (ws.flatMap (nextW qs st out r)).map (pairD qs.length)), u7, u8, u9, u10, u11, t12] w0
  | [], _, acc, _, t7, t8, t9, t10, t11 => ⟨t7, t8, t9, t10, t11, by simp [forL]⟩
  | w :: ws, hm, acc, ha, t7, t8, t9, t10, t11 => by
    simp only [List.length_cons] at ha
    obtain ⟨hl, hw⟩ := hm w List.mem_cons_self
    obtain ⟨u9, u10, u11, e⟩ := snd_loop C out w (by omega) h2 hw (.val (.str st)) x3 t12 w0 st acc (by omega) t9 t10 t11
    rw [hl] at e
    have hnl : (nextW qs st out r w).length ≤ 5 := by
      unfold nextW
      rw [List.length_map]
      have := List.length_filter_le (okC qs out r w) st
      omega
    obtain ⟨v7, v8, v9, v10, v11, e2⟩ := word_loop C st out r h1 h2 hst x3 t12 w0 ws (fun w hw => hm w (List.mem_cons_of_mem _ hw)) (acc ++ (nextW qs st out r w).map (pairD qs.length)) (by rw [List.length_append, List.length_map]; omega) (.val (.str w)) (.val (.str (roomN qs.length w))) u9 u10 u11
    refine ⟨v7, v8, v9, v10, v11, ?_⟩
    have hi : items (.str st) = some (S1 st) := rfl
    have eb : wordBody [.val (courseD qs), .val (.str st), .val (.str out), x3, .val (.int (r : Nat)), .val (.int ((r : Int) - (qs.length : Int))), .own acc, .val (.str w), .val (.str (roomN qs.length w)), t9, t10, t11, t12] w0 = .nx [.val (courseD qs), .val (.str st), .val (.str out), x3, .val (.int (r : Nat)), .val (.int ((r : Int) - (qs.length : Int))), .own (acc ++ (nextW qs st out r w).map (pairD qs.length)), .val (.str w), .val (.str (roomN qs.length w)), u9, u10, u11, t12] w0 := by
      unfold wordBody nextW
      generalize S1 st = es at *
      simp [hi, e]
    have hp : pairD qs.length w = .tup [.str w, .str (roomN qs.length w)] := rfl
    simp only [List.map_cons, forL, hp, s_gTu, List.length_cons, List.length_nil, if_true, s_gsCons, s_gN, s_gsNil, Option.bind_some, List.set_cons_succ, List.set_cons_zero, eb]
    refine e2.trans ?_
    simp [List.append_assoc]
theorem bodyR_run {qs : List Ru} (C : Co qs) (st out : List Nat) (r : Nat) (h1 : r < out.length) (h2 : out.length ≤ 6) (hst : st.length ≤ 5) (hlet : ∀ c ∈ st, c ∈ LET) (t5 t6 t7 t8 t9 t10 t11 t12 : SV) (w0 : List D) :
    ∃ u5 u6 u7 u8 u9 u10 u11, bodyR [.val (courseD qs), .val (.str st), .val (.str out), .val (.lst ((foundW qs st out r).map (pairD qs.length))), .val (.int (r : Nat)), t5, t6, t7, t8, t9, t10, t11, t12] w0 =
      .nx [.val (courseD qs), .val (.str st), .val (.str out), .val (.lst ((foundW qs st out (r + 1)).map (pairD qs.length))), .val (.int (r : Nat)), u5, u6, u7, u8, u9, u10, u11, t12] w0 := by
  have hfew := found_few C.firm hst out r (by omega)
  obtain ⟨u7, u8, u9, u10, u11, e⟩ := word_loop C st out r h1 (by omega) hst (.val (.lst ((foundW qs st out r).map (pairD qs.length)))) t12 w0 (foundW qs st out r) (fun w hw => by
    rw [found_eq C.firm] at hw
    obtain ⟨g1, g2⟩ := long_mem (List.mem_filter.mp hw).1
    exact ⟨g1, fun c hc => hlet c (g2 c hc)⟩) [] (by simp; omega) t7 t8 t9 t10 t11
  rw [List.nil_append] at e
  have f0 : ∀ a b c d e f g h i j k l : SV, mFld okf_shifts "shifts" (mVB 0) [.val (courseD qs), a, b, c, d, e, f, g, h, i, j, k, l] w0 = .ok (.tup (qs.map Ru.d)) w0 := fun _ _ _ _ _ _ _ _ _ _ _ _ => fld_shifts rfl
  have l0 := len_shifts (qs := qs) w0
  have s2 : oSub (.int (r : Nat)) (.int (qs.length : Int)) = some (.int ((r : Int) - (qs.length : Int))) := rfl
  have hi : items (.lst ((foundW qs st out r).map (pairD qs.length))) = some ((foundW qs st out r).map (pairD qs.length)) := rfl
  have hn : foundW qs st out (r + 1) = (foundW qs st out r).flatMap (nextW qs st out r) := rfl
  have hb : bodyR = (mSeq (mParEF 5 6 (mBin oSub (mVB 4) (mCB fLen (mCons (mFld okf_shifts "shifts" (mVB 0)) mNil))) (mLstF mNil))
    (mSeq (mFor (gTu 2 (gsCons (gN 7) (gsCons (gN 8) gsNil))) (mSeqI (mV 3)) wordBody)
    (mFr 6 (mAsg (gN 3) (mV 6))))) := rfl
  rw [hn]
  generalize ((foundW qs st out r).flatMap (nextW qs st out r)).map (pairD qs.length) = f2 at *
  generalize (foundW qs st out r).map (pairD qs.length) = f1 at *
  refine ⟨.val (.int ((r : Int) - (qs.length : Int))), .val (.lst f2), u7, u8, u9, u10, u11, ?_⟩
  generalize (r : Int) - (qs.length : Int) = z1 at *
  generalize (r : Int) = z2 at *
  generalize (qs.length : Int) = z3 at *
  generalize courseD qs = CD at *
  generalize qs.map Ru.d = ds at *
  rw [hb]
  simp [f0, l0, s2, hi, e]
end K16
end
section
set_option Elab.async false
set_option linter.all false
set_option maxRecDepth 100000
set_option maxHeartbeats 4000000
namespace K16
open PySem PySem.Spec PyProof.Rows L2 FT
theorem rest_comp {qs : List Ru} (C : Co qs) (rest : List Nat) (x1 x2 x3 x4 x5 x6 x9 x10 x11 : SV) (w0 : List D) : ∀ ws : List (List Nat), (∀ w ∈ ws, w.length ≤ 900 ∧ ∀ c ∈ w, c ∈ LET) →
    compL (gTu 2 (gsCons (gN 7) (gsCons (gN 8) gsNil))) (mTst (mBin (oEq false) (mCall (nArg 2 f_rest_in) (mCons (mV 0) (mCons (mV 8) mNil))) (mVB 12))) (mV 7) [.val (courseD qs), x1, x2, x3, x4, x5, x6, .no, .no, x9, x10, x11, .val (.str rest)] (ws.map (pairD qs.length)) w0 =
      some ((ws.filter fun w => decide ((outs qs w).drop (w.length - qs.length) = rest)).map D.str, w0)
  | [], _ => rfl
  | w :: ws, hm => by
    obtain ⟨hl, hw⟩ := hm w List.mem_cons_self
    have ih := rest_comp C rest x1 x2 x3 x4 x5 x6 x9 x10 x11 w0 ws fun w hw => hm w (List.mem_cons_of_mem _ hw)
    have e := ev_rest_in C w hl hw w0
    have q : oEq false (.str ((outs qs w).drop (w.length - qs.length))) (.str rest) = some (.bl (decide ((outs qs w).drop (w.length - qs.length) = rest))) := by
      rw [oEq_ss]
      simp only [Bool.false_eq_true, if_false]
      congr 2
      rw [Bool.eq_iff_iff]
      simp
    have hp : pairD qs.length w = .tup [.str w, .str (roomN qs.length w)] := rfl
    simp only [List.map_cons, compL, hp, s_gTu, List.length_cons, List.length_nil, if_true, s_gsCons, s_gN, s_gsNil, Option.bind_some, List.set_cons_succ, List.set_cons_zero]
    rw [List.filter_cons]
    generalize decide ((outs qs w).drop (w.length - qs.length) = rest) = b at *
    generalize (outs qs w).drop (w.length - qs.length) = ow at *
    generalize courseD qs = CD at *
    generalize roomN qs.length w = r1 at *
    cases b with
    | true => simp [e, q, ih]
    | false => simp [e, q, ih]
theorem ev_mothers {qs : List Ru} (C : Co qs) {st : List Nat} (hB : stockB st = true) (hst : st.length ≤ 5) (hlet : ∀ c ∈ st, c ∈ LET) (out : List Nat) (h2 : out.length ≤ 6) (ho : ∀ c ∈ out, c ∈ LET) (w : List D) :
    f_mothers_of [courseD qs, .str st, .str out] w = .ok (.tup ((sentW qs st out).map D.str)) w := by
  have hf := C.few
  have e1 := ev_need_course qs (.str [99, 111, 117, 114, 115, 101]) w
  have e2 := ev_need_stock hB (by omega) (.str [115, 116, 111, 99, 107]) w
  have e3 := ev_need_word (.str out) (.str [111, 117, 116, 99, 111, 109, 101]) (show decide _ = true by rw [decide_eq_true_eq]; omega) w
  rw [show wordD (.str out) = wordB out from rfl, wb out (by omega) ho, if_pos rfl] at e3
  have e4 := ev_need_standing C w
  have l1 : fLen w [.str out] = some (.int (out.length : Int)) := rfl
  have gt : oCmp fGt sGt (.int (out.length : Int)) (.int 6) = some (.bl false) := by
    show some (D.bl (decide ((6 : Int) < out.length))) = _
    rw [decide_eq_false (by omega)]
  have e5 := ev_room_with qs hf [] (by simp) w
  have g1 := rng_ok (show out.length ≤ 1000 by omega)
  obtain ⟨sd2, e6, u5, u6, u7, u8, u9, u10, u11, u4, rfl⟩ := forL_run (g := gN 4) (body := bodyR) (w := w) (fun j sd => ∃ u5 u6 u7 u8 u9 u10 u11 u4, sd = [.val (courseD qs), .val (.str st), .val (.str out), .val (.lst ((foundW qs st out j).map (pairD qs.length))), u4, u5, u6, u7, u8, u9, u10, u11, .no]) (rngD 0 (out.length : Int)) 0
    [.val (courseD qs), .val (.str st), .val (.str out), .val (.lst ((foundW qs st out 0).map (pairD qs.length))), .no, .no, .no, .no, .no, .no, .no, .no, .no] ⟨_, _, _, _, _, _, _, _, rfl⟩
    (fun j d sd hd hj => by
      rw [Nat.zero_add] at hj ⊢
      obtain ⟨u5, u6, u7, u8, u9, u10, u11, u4, rfl⟩ := hj
      obtain ⟨hjl, rfl⟩ := rng_get hd
      obtain ⟨v5, v6, v7, v8, v9, v10, v11, e⟩ := bodyR_run C st out j hjl h2 hst hlet u5 u6 u7 u8 u9 u10 u11 .no w
      exact ⟨_, _, rfl, e, v5, v6, v7, v8, v9, v10, v11, _, rfl⟩)
  rw [Nat.zero_add, rng_len] at e6
  have f0 : ∀ a b c d e f g h i j k l : SV, mFld okf_shifts "shifts" (mVB 0) [.val (courseD qs), a, b, c, d, e, f, g, h, i, j, k, l] w = .ok (.tup (qs.map Ru.d)) w := fun _ _ _ _ _ _ _ _ _ _ _ _ => fld_shifts rfl
  have l0 := len_shifts (qs := qs) w
  have s2 : oSub (.int (out.length : Int)) (.int (qs.length : Int)) = some (.int ((out.length : Int) - (qs.length : Int))) := rfl
  have mx := max_nat w out.length qs.length
  have sl : oSl (.str out) (some ((out.length - qs.length : Nat) : Int)) none = some (.str (out.drop (out.length - qs.length))) := by
    show some (D.str (FT.cutD out (some _) none)) = _
    rw [cut_from]
  have hfm : ∀ w ∈ foundW qs st out out.length, w.length ≤ 900 ∧ ∀ c ∈ w, c ∈ LET := fun w hw => by
    rw [found_eq C.firm] at hw
    obtain ⟨g1, g2⟩ := long_mem (List.mem_filter.mp hw).1
    exact ⟨by omega, fun c hc => hlet c (g2 c hc)⟩
  have rc := fun (x1 x2 x3 x4 x5 x6 x9 x10 x11 : SV) => rest_comp C (out.drop (out.length - qs.length)) x1 x2 x3 x4 x5 x6 x9 x10 x11 w (foundW qs st out out.length) hfm
  have hse := sent_eq C.firm st out
  simp only [hse] at rc
  have hi : items (.lst ((foundW qs st out out.length).map (pairD qs.length))) = some ((foundW qs st out out.length).map (pairD qs.length)) := rfl
  have hfl : ((foundW qs st out out.length).map (pairD qs.length)).length ≤ 16777216 := by
    rw [List.length_map]
    have := found_few C.firm hst out out.length h2
    omega
  have h00 : (foundW qs st out 0).map (pairD qs.length) = [.tup [.str [], .str (roomN qs.length [])]] := rfl
  rw [h00] at e6
  generalize (sentW qs st out).map D.str = res at *
  generalize (foundW qs st out out.length).map (pairD qs.length) = fl at *
  generalize roomN qs.length [] = r0 at *
  generalize out.drop (out.length - qs.length) = rest at *
  generalize ((out.length - qs.length : Nat) : Int) = z1 at *
  generalize (out.length : Int) - (qs.length : Int) = z2 at *
  generalize (out.length : Int) = z3 at *
  generalize (qs.length : Int) = z4 at *
  generalize courseD qs = CD at *
  generalize qs.map Ru.d = ds at *
  simp only [f_mothers_of, mo_split, s_runB, sd0]
  simp [e1, e2, e3, e4, l1, gt, e5, g1, e6, f0, l0, s2, mx, sl, hi, hfl, rc, fTuple]
end K16
end
section
set_option Elab.async false
set_option linter.all false
set_option maxRecDepth 100000
set_option maxHeartbeats 4000000
namespace K16
open PySem PySem.Spec PyProof.Rows L2 FT
/-! ### the law's own doing -/
def Ru.row (q : Ru) : D := .tup [.str [q.o], .str q.n, optD q.l, optD q.r]
theorem or_side {k : Nat} {mx : ME D} {sd : SD} {w : List D} {s : Option (List Nat)} {c : Nat} (h : sd[k]? = some (.val (optD s))) (hx : mx sd w = .ok (.str [c]) w) :
    mOrV (mBin (oIs false) (mVB k) (mC .non)) (mBin (oIn false) mx (mVB k)) sd w = .ok (.bl (besB s c)) w := by
  cases s with
  | none => simp [h, optD, oIs, FT.isNon, besB]
  | some s => simp [h, hx, optD, oIs, FT.isNon, besB, oIn]
def orL : ME D := (mOrV (mBin (oIs false) (mVB 4) (mC .non)) (mBin (oIn false) (mIx (mVB 6) (mVB 8)) (mVB 4)))
def orR : ME D := (mOrV (mBin (oIs false) (mVB 5) (mC .non)) (mBin (oIn false) (mIx (mVB 6) (mBin oAdd (mVB 8) (mC (.int 2)))) (mVB 5)))
def bodyD : MS := (mSeq (mAsg (gN 10) (mAndV (mBin (oEq false) (mVB 9) (mVB 2)) (mAndV orL orR)))
    (mAsg (gN 7) (mBin oAdd (mVB 7) (mIfE (mTru (mVB 10)) (mV 3) (mV 9)))))
def bodyRow : MS := (mSeq (mPar 6 7 (mCons (mBin oAdd (mBin oAdd (mC (.str [35])) (mVB 1)) (mC (.str [35]))) (mCons (mC (.str [])) mNil)))
    (mSeq (mFor (gTu 2 (gsCons (gN 8) (gsCons (gN 9) gsNil))) (mEnumX (mV 1)) bodyD)
    (mAsg (gN 1) (mV 7))))
theorem ld_split : b_f__law_done = (mSeq (mFor (gTu 4 (gsCons (gN 2) (gsCons (gN 3) (gsCons (gN 4) (gsCons (gN 5) gsNil))))) (mSeqI (mV 0)) bodyRow)
    (mRet (mV 1))) := rfl
theorem bodyD_run (q : Ru) (s : List Nat) {j c : Nat} (hc : s[j]? = some c) (acc : List Nat) (ha : acc.length + q.n.length + 1 ≤ 10000) (R : SV) (t10 : SV) (w : List D) :
    bodyD [R, .val (.str s), .val (.str [q.o]), .val (.str q.n), .val (optD q.l), .val (optD q.r), .val (.str (frm s)), .val (.str acc), .val (.int (j : Nat)), .val (.str [c]), t10] w =
      .nx [R, .val (.str s), .val (.str [q.o]), .val (.str q.n), .val (optD q.l), .val (optD q.r), .val (.str (frm s)), .val (.str (acc ++ (if hitB q.o q.l q.r s j = true then q.n else [c]))), .val (.int (j : Nat)), .val (.str [c]), .val (.bl (hitB q.o q.l q.r s j))] w := by
  have hj := (List.getElem?_eq_some_iff.mp hc).1
  have a1 := ix_str w (frm s) (fr_at s (i := j) (by omega))
  have a2 := ix_str w (frm s) (fr_at s (i := j + 2) (by omega))
  have ad : oAdd (.int (j : Nat)) (.int 2) = some (.int ((j + 2 : Nat) : Int)) := rfl
  have hh : hitB q.o q.l q.r s j = (([c] == [q.o]) && (besB q.l (fr s j) && besB q.r (fr s (j + 2)))) := by
    unfold hitB
    rw [hc, Bool.and_assoc]
    have : decide (some c = some q.o) = ([c] == [q.o]) := by
      by_cases h : c = q.o
      · simp [h]
      · simp [h]
    rw [this]
  have o1 : orL [R, .val (.str s), .val (.str [q.o]), .val (.str q.n), .val (optD q.l), .val (optD q.r), .val (.str (frm s)), .val (.str acc), .val (.int (j : Nat)), .val (.str [c]), t10] w = .ok (.bl (besB q.l (fr s j))) w :=
    or_side rfl (by generalize (j : Int) = z at *; generalize frm s = fs at *; simp [a1])
  have o2 : orR [R, .val (.str s), .val (.str [q.o]), .val (.str q.n), .val (optD q.l), .val (optD q.r), .val (.str (frm s)), .val (.str acc), .val (.int (j : Nat)), .val (.str [c]), t10] w = .ok (.bl (besB q.r (fr s (j + 2)))) w :=
    or_side rfl (by generalize ((j + 2 : Nat) : Int) = z2 at *; generalize (j : Int) = z at *; generalize frm s = fs at *; simp [ad, a2])
  have qe : oEq false (.str [c]) (.str [q.o]) = some (.bl ([c] == [q.o])) := by rw [oEq_ss]; rfl
  have p1 := add_str acc q.n (by omega)
  have p2 := add_str acc [c] (by simp; omega)
  rw [hh]
  rw [show acc ++ (if (([c] == [q.o]) && (besB q.l (fr s j) && besB q.r (fr s (j + 2)))) = true then q.n else [c]) = (if (([c] == [q.o]) && (besB q.l (fr s j) && besB q.r (fr s (j + 2)))) = true then acc ++ q.n else acc ++ [c]) by split <;> rfl]
  generalize ([c] == [q.o]) = b1 at *
  generalize besB q.l (fr s j) = b2 at *
  generalize besB q.r (fr s (j + 2)) = b3 at *
  generalize frm s = fs at *
  generalize (j : Int) = z at *
  clear hc hh a1 a2 ad ha hj
  generalize acc ++ q.n = an at *
  generalize acc ++ [c] = ac at *
  generalize [c] = cc at *
  generalize [q.o] = oo at *
  generalize q.n = nn at *
  generalize optD q.l = dl at *
  generalize optD q.r = dr at *
  cases b1 with
  | false => simp [bodyD, qe, truthD, p2]
  | true =>
    cases b2 with
    | false => simp [bodyD, qe, o1, truthD, p2]
    | true =>
      cases b3 with
      | false => simp [bodyD, qe, o1, o2, truthD, p2]
      | true => simp [bodyD, qe, o1, o2, truthD, p1]
end K16
end
section
set_option Elab.async false
set_option linter.all false
set_option maxRecDepth 100000
set_option maxHeartbeats 4000000
namespace K16
open PySem PySem.Spec PyProof.Rows L2 FT
theorem pcs_tk {q : Ru} (s : List Nat) {j c : Nat} (hc : s[j]? = some c) : ((pcs (hitB q.o q.l q.r s) q.n 0 s).take (j + 1)).flatten = ((pcs (hitB q.o q.l q.r s) q.n 0 s).take j).flatten ++ (if hitB q.o q.l q.r s j = true then q.n else [c]) := by
  have pg := pcs_get (hitB q.o q.l q.r s) q.n s 0 j
  rw [hc, Option.map_some, Nat.zero_add] at pg
  rw [List.take_add_one, pg]; simp
theorem row_run {q : Ru} (hq : q.Ok) (s : List Nat) (hl : s.length ≤ 1000) (R t6 t7 t8 t9 t10 : SV) (w : List D) : ∃ u6 u7 u8 u9 u10, bodyRow [R, .val (.str s), .val (.str [q.o]), .val (.str q.n), .val (optD q.l), .val (optD q.r), t6, t7, t8, t9, t10] w =
    .nx [R, .val (.str (q.out s)), .val (.str [q.o]), .val (.str q.n), .val (optD q.l), .val (optD q.r), u6, u7, u8, u9, u10] w := by
  have n1 : q.n.length ≤ 1 := Parts.n1 hq
  obtain ⟨sd2, e1, t8', t9', t10', rfl⟩ := forL_run (g := gTu 2 (gsCons (gN 8) (gsCons (gN 9) gsNil))) (body := bodyD) (w := w) (fun j sd => ∃ t8 t9 t10, sd = [R, .val (.str s), .val (.str [q.o]), .val (.str q.n), .val (optD q.l), .val (optD q.r), .val (.str (frm s)), .val (.str ((pcs (hitB q.o q.l q.r s) q.n 0 s).take j).flatten), t8, t9, t10]) (enumD 0 (S1 s)) 0
    [R, .val (.str s), .val (.str [q.o]), .val (.str q.n), .val (optD q.l), .val (optD q.r), .val (.str (frm s)), .val (.str []), t8, t9, t10] ⟨_, _, _, rfl⟩
    (fun j d sd hd hj => by
      rw [Nat.zero_add] at hj ⊢
      obtain ⟨t8, t9, t10, rfl⟩ := hj
      obtain ⟨c, hc, rfl⟩ := enumD_S1 s hd
      have sm : ((pcs (hitB q.o q.l q.r s) q.n 0 s).take j).flatten.length ≤ 1000 := by
        rw [List.length_flatten, List.map_take]
        have := sum_take ((pcs (hitB q.o q.l q.r s) q.n 0 s).map List.length) j
        have := sum_pcs (hitB q.o q.l q.r s) q.n n1 s 0
        omega
      refine ⟨_, _, rfl, bodyD_run q s hc _ (by omega) R t10 w, .val (.int (j : Nat)), .val (.str [c]), .val (.bl (hitB q.o q.l q.r s j)), ?_⟩
      rw [pcs_tk s hc])
  rw [Nat.zero_add, enumD_len, show (S1 s).length = s.length by simp [S1], List.take_of_length_le (by rw [pcs_len]; exact Nat.le_refl _)] at e1
  have e1' : forL (gTu 2 (gsCons (gN 8) (gsCons (gN 9) gsNil))) bodyD (enumD 0 (S1 s)) [R, .val (.str s), .val (.str [q.o]), .val (.str q.n), .val (optD q.l), .val (optD q.r), .val (.str (frm s)), .val (.str []), t8, t9, t10] w = .nx [R, .val (.str s), .val (.str [q.o]), .val (.str q.n), .val (optD q.l), .val (optD q.r), .val (.str (frm s)), .val (.str (q.out s)), t8', t9', t10'] w := e1
  have hi : items (.str s) = some (S1 s) := rfl
  have hf : oAdd (.str [35]) (.str s) = some (.str (35 :: s)) := add_str [35] s (by simp; omega)
  have hf2 : oAdd (.str (35 :: s)) (.str [35]) = some (.str (frm s)) := add_str (35 :: s) [35] (by simp; omega)
  have g1 : 1 + s.length ≤ 16777216 := by omega
  refine ⟨.val (.str (frm s)), .val (.str (q.out s)), t8', t9', t10', ?_⟩
  generalize q.out s = os at *
  generalize frm s = fs at *
  generalize 35 :: s = s3 at *
  generalize S1 s = es at *
  simp [bodyRow, hf, hf2, hi, e1']
theorem rows_loop (R : SV) (w : List D) : ∀ (qs : List Ru), (∀ q ∈ qs, q.Ok) → ∀ (s : List Nat), s.length ≤ 1000 → ∀ t2 t3 t4 t5 t6 t7 t8 t9 t10 : SV, ∃ u2 u3 u4 u5 u6 u7 u8 u9 u10, forL (gTu 4 (gsCons (gN 2) (gsCons (gN 3) (gsCons (gN 4) (gsCons (gN 5) gsNil))))) bodyRow (qs.map Ru.row) [R, .val (.str s), t2, t3, t4, t5, t6, t7, t8, t9, t10] w =
    .nx [R, .val (.str (outs qs s)), u2, u3, u4, u5, u6, u7, u8, u9, u10] w
  | [], _, s, _, t2, t3, t4, t5, t6, t7, t8, t9, t10 => ⟨t2, t3, t4, t5, t6, t7, t8, t9, t10, rfl⟩
  | q :: qs, h, s, hl, t2, t3, t4, t5, t6, t7, t8, t9, t10 => by
    have hq := h q List.mem_cons_self
    obtain ⟨u6, u7, u8, u9, u10, e⟩ := row_run hq s hl R t6 t7 t8 t9 t10 w
    have hle := out_le hq s
    obtain ⟨v2, v3, v4, v5, v6, v7, v8, v9, v10, e2⟩ := rows_loop R w qs (fun q hq => h q (List.mem_cons_of_mem _ hq)) (q.out s) (by omega) (.val (.str [q.o])) (.val (.str q.n)) (.val (optD q.l)) (.val (optD q.r)) u6 u7 u8 u9 u10
    refine ⟨v2, v3, v4, v5, v6, v7, v8, v9, v10, ?_⟩
    have hr : q.row = .tup [.str [q.o], .str q.n, optD q.l, optD q.r] := rfl
    simp only [List.map_cons, forL, hr, s_gTu, List.length_cons, List.length_nil, if_true, s_gsCons, s_gN, s_gsNil, Option.bind_some, List.set_cons_succ, List.set_cons_zero, e]
    exact e2
theorem ev_law_done (qs : List Ru) (h : ∀ q ∈ qs, q.Ok) (s : List Nat) (hl : s.length ≤ 1000) (w : List D) : f__law_done [.lst (qs.map Ru.row), .str s] w = .ok (.str (outs qs s)) w := by
  obtain ⟨v2, v3, v4, v5, v6, v7, v8, v9, v10, e⟩ := rows_loop (.val (.lst (qs.map Ru.row))) w qs h s hl .no .no .no .no .no .no .no .no .no
  have hi : items (.lst (qs.map Ru.row)) = some (qs.map Ru.row) := rfl
  generalize outs qs s = os at *
  generalize qs.map Ru.row = rs at *
  simp only [f__law_done, ld_split, s_runB, sd0]
  simp [hi, e]
/-! ### the course of the rows -/
theorem made_comp (w : List D) (R : SV) : ∀ (qs : List Ru), (∀ q ∈ qs, q.Ok) → compL (gTu 4 (gsCons (gN 1) (gsCons (gN 2) (gsCons (gN 3) (gsCons (gN 4) gsNil))))) mYes (mMakeG 8 4 0 [0, 1, 2, 3] [.non, .non] (nArgN 4 f_Shift_init) (mCons (mV 1) (mCons (mV 2) (mCons (mV 3) (mCons (mV 4) mNil)))) mNil) [R, .no, .no, .no, .no] (qs.map Ru.row) w = some (qs.map Ru.d, w)
  | [], _ => rfl
  | q :: qs, h => by
    have hq := h q List.mem_cons_self
    have ih := made_comp w R qs fun q hq => h q (List.mem_cons_of_mem _ hq)
    have mk : mMakeG 8 4 0 [0, 1, 2, 3] [.non, .non] (nArgN 4 f_Shift_init) (mCons (mV 1) (mCons (mV 2) (mCons (mV 3) (mCons (mV 4) mNil)))) mNil [R, .val (.str [q.o]), .val (.str q.n), .val (optD q.l), .val (optD q.r)] w = .ok q.d w :=
      make_run (ds := [.str [q.o], .str q.n, optD q.l, optD q.r]) (es := []) (w1 := w) (w2 := w) (by
        generalize optD q.l = dl
        generalize optD q.r = dr
        simp) rfl rfl rfl (ev_init hq w)
    have hr : q.row = .tup [.str [q.o], .str q.n, optD q.l, optD q.r] := rfl
    simp only [List.map_cons, compL, hr, s_gTu, List.length_cons, List.length_nil, if_true, s_gsCons, s_gN, s_gsNil, Option.bind_some, List.set_cons_succ, List.set_cons_zero, s_mYes, mk, ih]
theorem ev_law_made {qs : List Ru} (C : Co qs) (w : List D) : f__law_made [.lst (qs.map Ru.row)] w = .ok (courseD qs) w := by
  have mc := fun R => made_comp w R qs C.ok
  have hi : items (.lst (qs.map Ru.row)) = some (qs.map Ru.row) := rfl
  have hl : (qs.map Ru.row).length ≤ 16777216 := by
    rw [List.length_map]
    have := C.few
    omega
  have mk : mMakeG 7 1 0 [0] [] (nArgN 1 f_Course_init) (mCons (mF (mComp (mSeqI (mVB 0)) (gTu 4 (gsCons (gN 1) (gsCons (gN 2) (gsCons (gN 3) (gsCons (gN 4) gsNil))))) mYes (mMakeG 8 4 0 [0, 1, 2, 3] [.non, .non] (nArgN 4 f_Shift_init) (mCons (mV 1) (mCons (mV 2) (mCons (mV 3) (mCons (mV 4) mNil)))) mNil) [1, 2, 3, 4])) mNil) mNil [.val (.lst (qs.map Ru.row)), .no, .no, .no, .no] w = .ok (courseD qs) w :=
    make_run (ds := [.lst (qs.map Ru.d)]) (es := []) (w1 := w) (w2 := w) (by
      generalize qs.map Ru.d = ds at *
      generalize qs.map Ru.row = rs at *
      generalize (mMakeG 8 4 0 [0, 1, 2, 3] [.non, .non] (nArgN 4 f_Shift_init) (mCons (mV 1) (mCons (mV 2) (mCons (mV 3) (mCons (mV 4) mNil)))) mNil) = mm at *
      simp [hi, hl, mc]) rfl rfl rfl (ev_Course_init qs C.few w)
  generalize courseD qs = CD at *
  generalize qs.map Ru.row = rs at *
  simp only [f__law_made, s_runB, sd0, b_f__law_made]
  simp [mk]
/-! ### all words of one length -/
def bodyL : MS := (mExt 4 (mF (mComp (mSeqI (mVB 0)) (gN 6) mYes (mBin oAdd (mVB 5) (mVB 6)) [6])))
def bodyL2 : MS := (mSeq (mSetO 4 (mLstF mNil))
    (mSeq (mFor (gN 5) (mSeqI (mV 2)) bodyL)
    (mFr 4 (mAsg (gN 2) (mV 4)))))
theorem ll_split : b_f__law_long = (mSeq (mAsg (gN 2) (mLst (mCons (mC (.str [])) mNil)))
    (mSeq (mFor (gN 3) (mRng1 (mV 1)) bodyL2)
    (mRet (mV 2)))) := rfl
theorem ext_loop (st : List Nat) (hst : st.length ≤ 5) (x1 x2 x3 x6 : SV) (w : List D) : ∀ (ws : List (List Nat)), (∀ u ∈ ws, u.length ≤ 1000) → ∀ acc : List D, acc.length + ws.length * 5 < 900000 → ∀ t5 : SV, ∃ u5, forL (gN 5) bodyL (ws.map D.str) [.val (.str st), x1, x2, x3, .own acc, t5, x6] w =
    .nx [.val (.str st), x1, x2, x3, .own (acc ++ (ws.flatMap fun u => st.map fun c => u ++ [c]).map D.str), u5, x6] w
  | [], _, acc, _, t5 => ⟨t5, by simp [forL]⟩
  | u :: ws, hm, acc, ha, t5 => by
    simp only [List.length_cons] at ha
    obtain ⟨v5, ih⟩ := ext_loop st hst x1 x2 x3 x6 w ws (fun u hu => hm u (List.mem_cons_of_mem _ hu)) (acc ++ (st.map fun c => u ++ [c]).map D.str) (by simp; omega) (.val (.str u))
    refine ⟨v5, ?_⟩
    have hu := hm u List.mem_cons_self
    have hc : compL (gN 6) mYes (mBin oAdd (mVB 5) (mVB 6)) [.val (.str st), x1, x2, x3, .own acc, .val (.str u), .no] (S1 st) w = some ((st.map fun c => u ++ [c]).map D.str, w) := by
      unfold S1
      rw [compL_map (fun d => match d with | .str c => .str (u ++ c) | _ => .non) _ fun d hd => ?_]
      · simp [List.map_map, Function.comp_def]
      · obtain ⟨c, _, rfl⟩ := List.mem_map.mp hd
        refine ⟨_, rfl, ?_⟩
        have ad := add_str u [c] (by simp; omega)
        show _ = R.ok (D.str (u ++ [c])) w
        generalize u ++ [c] = uc at *
        simp [ad]
    have hi : items (.str st) = some (S1 st) := rfl
    have hsl : (S1 st).length ≤ 16777216 := by simp [S1]; omega
    have hel : acc.length + ((st.map fun c => u ++ [c]).map D.str).length ≤ 16777216 := by simp; omega
    have eb : bodyL [.val (.str st), x1, x2, x3, .own acc, .val (.str u), x6] w = .nx [.val (.str st), x1, x2, x3, .own (acc ++ (st.map fun c => u ++ [c]).map D.str), .val (.str u), x6] w := by
      generalize (st.map fun c => u ++ [c]).map D.str = ys at *
      generalize S1 st = es at *
      simp [bodyL, hi, hsl, hc, hel]
    simp only [List.map_cons, forL, s_gN, List.set_cons_succ, List.set_cons_zero, eb]
    refine ih.trans ?_
    simp [List.append_assoc]
theorem ev_law_long {st : List Nat} (hst : st.length ≤ 5) (k : Nat) (hk : k ≤ 6) (w : List D) : f__law_long [.str st, .int (k : Nat)] w = .ok (.lst ((long st k).map D.str)) w := by
  obtain ⟨sd2, e1, t3, t4, t5, t6, rfl⟩ := forL_run (g := gN 3) (body := bodyL2) (w := w) (fun j sd => ∃ t3 t4 t5 t6, sd = [.val (.str st), .val (.int (k : Nat)), .val (.lst ((long st j).map D.str)), t3, t4, t5, t6]) (rngD 0 (k : Int)) 0 [.val (.str st), .val (.int (k : Nat)), .val (.lst ((long st 0).map D.str)), .no, .no, .no, .no] ⟨_, _, _, _, rfl⟩
    (fun j d sd hd hj => by
      rw [Nat.zero_add] at hj ⊢
      obtain ⟨t3, t4, t5, t6, rfl⟩ := hj
      obtain ⟨hjl, rfl⟩ := rng_get hd
      have h2 := long_few hst j
      have h3 : 5 ^ j ≤ 5 ^ 6 := Nat.pow_le_pow_right (by omega) (by omega)
      have h4 : (5 : Nat) ^ 6 = 15625 := by decide
      obtain ⟨u5, e⟩ := ext_loop st hst (.val (.int (k : Nat))) (.val (.lst ((long st j).map D.str))) (.val (.int (j : Nat))) t6 w (long st j) (fun u hu => by rw [(long_mem hu).1]; omega) [] (by simp; omega) t5
      rw [List.nil_append] at e
      have hi : items (.lst ((long st j).map D.str)) = some ((long st j).map D.str) := rfl
      have hn : long st (j + 1) = (long st j).flatMap fun u => st.map fun c => u ++ [c] := rfl
      refine ⟨_, _, rfl, ?_, .val (.int (j : Nat)), .val (.lst ((long st (j + 1)).map D.str)), u5, t6, rfl⟩
      rw [hn]
      generalize ((long st j).flatMap fun u => st.map fun c => u ++ [c]).map D.str = f2 at *
      generalize (long st j).map D.str = f1 at *
      generalize (j : Int) = z at *
      generalize (k : Int) = z2 at *
      simp [bodyL2, hi, e])
  rw [Nat.zero_add, rng_len] at e1
  have g1 := rng_ok (show k ≤ 1000 by omega)
  have h0 : (long st 0).map D.str = [.str []] := rfl
  rw [h0] at e1
  generalize (long st k).map D.str = f2 at *
  generalize (k : Int) = z2 at *
  simp only [f__law_long, ll_split, s_runB, sd0]
  simp [g1, e1]
end K16
end
section
set_option Elab.async false
set_option linter.all false
set_option maxRecDepth 100000
set_option maxHeartbeats 4000000
namespace K16
open PySem PySem.Spec PyProof.Rows L2 FT
theorem long_less (p : Nat → Bool) (st : List Nat) : ∀ k : Nat, long (st.filter p) k = (long st k).filter fun w => w.all p
  | 0 => rfl
  | k + 1 => by
    show (long (st.filter p) k).flatMap _ = ((long st k).flatMap fun w => st.map fun c => w ++ [c]).filter _
    rw [long_less p st k, filter_flat]
    symm
    apply flat_filter
    intro w _
    rw [List.filter_map]
    have : ((fun u : List Nat => u.all p) ∘ fun c => w ++ [c]) = fun c => (w.all p && p c) := by
      funext c
      simp
    rw [this]
    cases h : w.all p <;> simp
theorem sent_less (qs : List Ru) (st out : List Nat) (c : Nat) : sentW qs (st.filter fun k => decide (k ≠ c)) out = (sentW qs st out).filter fun w => !decide (c ∈ w) := by
  unfold sentW
  rw [long_less, List.filter_filter, List.filter_filter]
  apply List.filter_congr
  intro w _
  have : (w.all fun k => decide (k ≠ c)) = !decide (c ∈ w) := by
    rw [Bool.eq_iff_iff]
    simp only [List.all_eq_true, decide_eq_true_eq, Bool.not_eq_true', decide_eq_false_iff_not]
    exact ⟨fun h hc => h c hc rfl, fun h k hk z => h (z ▸ hk)⟩
  rw [this, Bool.and_comm]
theorem eqL_strs : ∀ ws : List (List Nat), eqL (ws.map D.str) (ws.map D.str) = true
  | [] => rfl
  | a :: ws => by
    show ((a == a) && eqL (ws.map D.str) (ws.map D.str)) = true
    rw [eqL_strs ws, Bool.and_true]
    exact beq_self_eq_true _
theorem oEq_tups (neg : Bool) (ws : List (List Nat)) : oEq neg (.tup (ws.map D.str)) (.tup (ws.map D.str)) = some (.bl (if neg then false else true)) := by
  have h1 : dep 8 (.tup (ws.map D.str)) = true := by
    show (ws.map D.str).all (dep 7) = true
    rw [List.all_eq_true]
    intro d hd
    obtain ⟨x, _, rfl⟩ := List.mem_map.mp hd
    rfl
  have h2 : eqD (.tup (ws.map D.str)) (.tup (ws.map D.str)) = true := eqL_strs ws
  unfold oEq
  rw [h1, h2]
  cases neg <;> rfl
/-- a stock -/
structure Stk (st : List Nat) : Prop where
  srt : st.Pairwise (· < ·)
  let_ : ∀ c ∈ st, c ∈ LET
  pos : 1 ≤ st.length
  few : st.length ≤ 5
theorem Stk.B {st : List Nat} (S : Stk st) : stockB st = true := stock_B S.srt S.let_ S.pos S.few
def bodyX : MS := (mSeq (mAsg (gN 9) (mRepl 2 8))
    (mIf (mAnd (mTst (mBin (oEq true) (mVB 9) (mC (.str [])))) (mTst (mBin (oEq true) (mCall (nArg 3 f_mothers_of) (mCons (mV 0) (mCons (mV 9) (mCons (mV 4) mNil)))) (mCB fTuple (mCons (mF (mComp (mSeqI (mVB 5)) (gN 7) (mTst (mBin (oIn true) (mVB 8) (mVB 7))) (mV 7) [7])) mNil)))))
    (mRet (mC (.bl false)))
    mSkip))
theorem sr_split : b_f__law_sent_right = (mSeq (mPar 5 6 (mCons (mCB fTuple (mCons (mF (mComp (mSeqI (mVB 3)) (gN 7) (mTst (mBin (oEq false) (mCall (nArg 2 f__law_done) (mCons (mV 1) (mCons (mV 7) mNil))) (mVB 4))) (mV 7) [7])) mNil)) (mCons (mCall (nArg 3 f_mothers_of) (mCons (mV 0) (mCons (mV 2) (mCons (mV 4) mNil)))) mNil)))
    (mSeq (mIf (mOr (mTst (mBin (oEq true) (mVB 6) (mVB 5))) (mOr (mNotT (mTru (mIsi ["tuple"] (mVB 6)))) (mTst (mBin (oEq true) (mCallK 0 3 [2, 1, 0] (nArg 3 f_mothers_of) mNil (mCons (mV 4) (mCons (mV 2) (mCons (mV 0) mNil)))) (mVB 5)))))
    (mRet (mC (.bl false)))
    mSkip)
    (mSeq (mIf (mTst (mBin (oEq true) (mF (mComp (mSeqI (mVB 6)) (gN 7) (mTst (mBin (oEq true) (mMethG 7 "done" 1 0 [0] [] (nArg 2 f_Course_done) (mVB 0) (mCons (mV 7) mNil) mNil) (mVB 4))) (mV 7) [7])) (mLst mNil)))
    (mRet (mC (.bl false)))
    mSkip)
    (mSeq (mFor (gN 8) (mSeqA (mV 2)) bodyX)
    (mRet (mC (.bl true))))))) := rfl
theorem seqA_run {m : ME D} {sd : SD} {w : List D} {st : List Nat} (h : m sd w = .ok (.str st) w) (ha : (st.all fun c => decide (c < 128)) = true) : mSeqA m sd w = .ok (st.map fun c => D.str [c]) w := by
  unfold mSeqA
  rw [h]
  exact if_pos ha
theorem mRepl_run {sd : SD} {w : List D} {q i : Nat} {x : List Nat} {c : Nat} (h1 : sd[q]? = some (.val (.str x))) (h2 : sd[i]? = some (.val (.str [c]))) (hl : x.length ≤ 1000) : mRepl q i sd w = .ok (.str (x.filter fun k => decide (k ≠ c))) w := by
  unfold mRepl
  rw [h1, h2]
  exact if_pos hl
theorem bodyX_run {qs : List Ru} (C : Co qs) {st : List Nat} (S : Stk st) (out : List Nat) (h2 : out.length ≤ 6) (ho : ∀ c ∈ out, c ∈ LET) (c : Nat) (x1 x3 x6 t9 : SV) (w : List D) :
    ∃ u9, bodyX [.val (courseD qs), x1, .val (.str st), x3, .val (.str out), .val (.tup ((sentW qs st out).map D.str)), x6, .no, .val (.str [c]), t9] w = .nx [.val (courseD qs), x1, .val (.str st), x3, .val (.str out), .val (.tup ((sentW qs st out).map D.str)), x6, .no, .val (.str [c]), u9] w := by
  have rp : mRepl 2 8 [.val (courseD qs), x1, .val (.str st), x3, .val (.str out), .val (.tup ((sentW qs st out).map D.str)), x6, .no, .val (.str [c]), t9] w = .ok (.str (st.filter fun k => decide (k ≠ c))) w := mRepl_run rfl rfl (by have := S.few; omega)
  refine ⟨.val (.str (st.filter fun k => decide (k ≠ c))), ?_⟩
  by_cases hne : st.filter (fun k => decide (k ≠ c)) = []
  · rw [hne] at rp ⊢
    have q := oEq_t ([] : List Nat)
    generalize (sentW qs st out).map D.str = ss at *
    generalize courseD qs = CD at *
    simp [bodyX, rp, q]
  · have S2 : Stk (st.filter fun k => decide (k ≠ c)) := ⟨S.srt.sublist List.filter_sublist, fun k hk => S.let_ k (List.mem_filter.mp hk).1, by
      cases h : st.filter (fun k => decide (k ≠ c)) with
      | nil => exact absurd h hne
      | cons a r => simp, Nat.le_trans (List.length_filter_le _ _) S.few⟩
    have em := ev_mothers C S2.B S2.few S2.let_ out h2 ho w
    rw [sent_less] at em
    have q : oEq true (.str (st.filter fun k => decide (k ≠ c))) (.str []) = some (.bl true) := by
      rw [oEq_ss]
      simp only [if_true]
      congr 2
      rw [Bool.not_eq_true', beq_eq_false_iff_ne]
      exact hne
    have hc : ∀ ws : List (List Nat), compL (gN 7) (mTst (mBin (oIn true) (mVB 8) (mVB 7))) (mV 7) [.val (courseD qs), x1, .val (.str st), x3, .val (.str out), .val (.tup ((sentW qs st out).map D.str)), x6, .no, .val (.str [c]), .val (.str (st.filter fun k => decide (k ≠ c)))] (ws.map D.str) w = some ((ws.filter fun u => !decide (c ∈ u)).map D.str, w) := by
      intro ws
      induction ws with
      | nil => rfl
      | cons u ws ih =>
        have oi : oIn true (.str [c]) (.str u) = some (.bl (!decide (c ∈ u))) := rfl
        simp only [List.map_cons, compL, s_gN, List.set_cons_succ, List.set_cons_zero]
        rw [List.filter_cons]
        generalize (!decide (c ∈ u)) = b at *
        generalize (sentW qs st out).map D.str = ss at *
        generalize courseD qs = CD at *
        generalize st.filter (fun k => decide (k ≠ c)) = sf at *
        cases b with
        | true => simp [oi, ih]
        | false => simp [oi, ih]
    have hc' := hc (sentW qs st out)
    have hi : items (.tup ((sentW qs st out).map D.str)) = some ((sentW qs st out).map D.str) := rfl
    have hsl : ((sentW qs st out).map D.str).length ≤ 16777216 := by
      rw [List.length_map]
      have g1 := List.length_filter_le (fun u => decide (outs qs u = out)) (long st out.length)
      have g2 := long_few S.few out.length
      have g3 : 5 ^ out.length ≤ 5 ^ 6 := Nat.pow_le_pow_right (by omega) h2
      have g4 : (5 : Nat) ^ 6 = 15625 := by decide
      unfold sentW
      omega
    have qt := oEq_tups true ((sentW qs st out).filter fun u => !decide (c ∈ u))
    simp only [if_true] at qt
    generalize ((sentW qs st out).filter fun u => !decide (c ∈ u)).map D.str = s2 at *
    generalize (sentW qs st out).map D.str = ss at *
    clear hc
    generalize courseD qs = CD at *
    generalize st.filter (fun k => decide (k ≠ c)) = sf at *
    simp [bodyX, rp, q, em, hi, hsl, hc', fTuple, qt]
theorem ev_sent {qs : List Ru} (C : Co qs) {st : List Nat} (S : Stk st) (out : List Nat) (h2 : out.length ≤ 6) (ho : ∀ c ∈ out, c ∈ LET) (w : List D) :
    f__law_sent_right [courseD qs, .lst (qs.map Ru.row), .str st, .lst ((long st out.length).map D.str), .str out] w = .ok (.bl true) w := by
  have g2 := long_few S.few out.length
  have g3 : 5 ^ out.length ≤ 5 ^ 6 := Nat.pow_le_pow_right (by omega) h2
  have g4 : (5 : Nat) ^ 6 = 15625 := by decide
  have em := ev_mothers C S.B S.few S.let_ out h2 ho w
  have hc1 : ∀ ws : List (List Nat), (∀ u ∈ ws, u.length ≤ 1000) → compL (gN 7) (mTst (mBin (oEq false) (mCall (nArg 2 f__law_done) (mCons (mV 1) (mCons (mV 7) mNil))) (mVB 4))) (mV 7) [.val (courseD qs), .val (.lst (qs.map Ru.row)), .val (.str st), .val (.lst ((long st out.length).map D.str)), .val (.str out), .no, .no, .no, .no, .no] (ws.map D.str) w = some ((ws.filter fun u => decide (outs qs u = out)).map D.str, w) := by
    intro ws
    induction ws with
    | nil => intro _; rfl
    | cons u ws ih =>
      intro hm
      have ih' := ih fun u hu => hm u (List.mem_cons_of_mem _ hu)
      have e := ev_law_done qs C.ok u (hm u List.mem_cons_self) w
      have q : oEq false (.str (outs qs u)) (.str out) = some (.bl (decide (outs qs u = out))) := by
        rw [oEq_ss]
        simp only [Bool.false_eq_true, if_false]
        congr 2
        rw [Bool.eq_iff_iff]
        simp
      simp only [List.map_cons, compL, s_gN, List.set_cons_succ, List.set_cons_zero]
      rw [List.filter_cons]
      generalize decide (outs qs u = out) = b at *
      generalize outs qs u = ou at *
      generalize (long st out.length).map D.str = ll at *
      generalize qs.map Ru.row = rr at *
      generalize courseD qs = CD at *
      cases b with
      | true => simp [e, q, ih']
      | false => simp [e, q, ih']
  have hc1' := hc1 (long st out.length) fun u hu => by rw [(long_mem hu).1]; omega
  have hse : (long st out.length).filter (fun u => decide (outs qs u = out)) = sentW qs st out := rfl
  rw [hse] at hc1'
  have hc2 : ∀ (x5 x6 x8 x9 : SV) (ws : List (List Nat)), (∀ u ∈ ws, u ∈ sentW qs st out) → compL (gN 7) (mTst (mBin (oEq true) (mMethG 7 "done" 1 0 [0] [] (nArg 2 f_Course_done) (mVB 0) (mCons (mV 7) mNil) mNil) (mVB 4))) (mV 7) [.val (courseD qs), .val (.lst (qs.map Ru.row)), .val (.str st), .val (.lst ((long st out.length).map D.str)), .val (.str out), x5, x6, .no, x8, x9] (ws.map D.str) w = some ([], w) := by
    intro x5 x6 x8 x9 ws
    induction ws with
    | nil => intro _; rfl
    | cons u ws ih =>
      intro hm
      have ih' := ih fun u hu => hm u (List.mem_cons_of_mem _ hu)
      have hu := List.mem_filter.mp (hm u List.mem_cons_self)
      obtain ⟨m1, m2⟩ := long_mem hu.1
      have hou : outs qs u = out := of_decide_eq_true hu.2
      have e : mMethG 7 "done" 1 0 [0] [] (nArg 2 f_Course_done) (mVB 0) (mCons (mV 7) mNil) mNil [.val (courseD qs), .val (.lst (qs.map Ru.row)), .val (.str st), .val (.lst ((long st out.length).map D.str)), .val (.str out), x5, x6, .val (.str u), x8, x9] w = .ok (.str (outs qs u)) w := mc_done C (wb u (by omega) fun c hc => S.let_ c (m2 c hc)) rfl rfl
      rw [hou] at e
      have q := oEq_t out
      simp only [List.map_cons, compL, s_gN, List.set_cons_succ, List.set_cons_zero]
      generalize (long st out.length).map D.str = ll at *
      generalize qs.map Ru.row = rr at *
      generalize courseD qs = CD at *
      simp [e, q, ih']
  have hc2' := fun x5 x6 x8 x9 => hc2 x5 x6 x8 x9 (sentW qs st out) fun _ h => h
  obtain ⟨sd2, e5, u8, u9, rfl⟩ := forL_run (g := gN 8) (body := bodyX) (w := w) (fun j sd => ∃ u8 u9, sd = [.val (courseD qs), .val (.lst (qs.map Ru.row)), .val (.str st), .val (.lst ((long st out.length).map D.str)), .val (.str out), .val (.tup ((sentW qs st out).map D.str)), .val (.tup ((sentW qs st out).map D.str)), .no, u8, u9]) (st.map fun c => D.str [c]) 0
    [.val (courseD qs), .val (.lst (qs.map Ru.row)), .val (.str st), .val (.lst ((long st out.length).map D.str)), .val (.str out), .val (.tup ((sentW qs st out).map D.str)), .val (.tup ((sentW qs st out).map D.str)), .no, .no, .no] ⟨_, _, rfl⟩
    (fun j d sd hd hj => by
      obtain ⟨u8, u9, rfl⟩ := hj
      rw [List.getElem?_map, Option.map_eq_some_iff] at hd
      obtain ⟨c, hc, rfl⟩ := hd
      obtain ⟨v9, e⟩ := bodyX_run C S out h2 ho c (.val (.lst (qs.map Ru.row))) (.val (.lst ((long st out.length).map D.str))) (.val (.tup ((sentW qs st out).map D.str))) u9 w
      exact ⟨_, _, rfl, e, _, _, rfl⟩)
  have h128 : (st.all fun c => decide (c < 128)) = true := by
    rw [List.all_eq_true]
    intro c hc
    have := S.let_ c hc
    have hL : ∀ c ∈ LET, c < 128 := by decide
    exact decide_eq_true (hL c this)
  have hi1 : items (.lst ((long st out.length).map D.str)) = some ((long st out.length).map D.str) := rfl
  have hi2 : items (.tup ((sentW qs st out).map D.str)) = some ((sentW qs st out).map D.str) := rfl
  have hl1 : ((long st out.length).map D.str).length ≤ 16777216 := by rw [List.length_map]; omega
  have hl2 : ((sentW qs st out).map D.str).length ≤ 16777216 := by
    rw [List.length_map]
    have g1 := List.length_filter_le (fun u => decide (outs qs u = out)) (long st out.length)
    unfold sentW
    omega
  have qt := oEq_tups true (sentW qs st out)
  simp only [if_true] at qt
  have q0 : oEq true (.lst []) (.lst []) = some (.bl false) := rfl
  have sq : ∀ x1 x3 x4 x5 x6 x7 x8 x9 : SV, mSeqA (mV 2) [.val (courseD qs), x1, .val (.str st), x3, x4, x5, x6, x7, x8, x9] w = .ok (st.map fun c => D.str [c]) w := fun _ _ _ _ _ _ _ _ => seqA_run rfl h128
  have pk : pick [2, 1, 0] [D.str out, D.str st, courseD qs] = [courseD qs, .str st, .str out] := rfl
  clear hc1 hc2 hse
  clear h128
  generalize (st.map fun c => D.str [c]) = sl at *
  generalize (sentW qs st out).map D.str = ss at *
  generalize (long st out.length).map D.str = ll at *
  generalize qs.map Ru.row = rr at *
  generalize courseD qs = CD at *
  simp only [f__law_sent_right, sr_split, s_runB, sd0]
  simp [hi1, hl1, hc1', fTuple, em, qt, pk, tyN, isiB, truthD, hi2, hl2, hc2', q0, sq, e5]
end K16
end
section
set_option Elab.async false
set_option linter.all false
set_option maxRecDepth 100000
set_option maxHeartbeats 4000000
namespace K16
open PySem PySem.Spec PyProof.Rows L2 FT
/-! ### what is drawn -/
/-- the sounds drawn from -/
structure Kn (kn : List Nat) : Prop where
  srt : kn.Pairwise (· < ·)
  let_ : ∀ c ∈ kn, c ∈ LET
  few : kn.length ≤ 6
theorem let_97 : ∀ c ∈ LET, 35 < c := by decide
theorem Kn.edge {kn : List Nat} (S : Kn kn) : (35 :: kn).Pairwise (· < ·) := by
  rw [List.pairwise_cons]
  exact ⟨fun c hc => let_97 c (S.let_ c hc), S.srt⟩
theorem Kn.sg {kn : List Nat} (S : Kn kn) {c : Nat} (h : c ∈ 35 :: kn) : sgnB c = true := by
  unfold sgnB
  rcases List.mem_cons.mp h with rfl | h
  · rfl
  · rw [decide_eq_true (S.let_ c h), Bool.or_true]
theorem compL_sub {g : D → SD → Option SD} {mt : ME Bool} {me : ME D} {sd0 : SD} (J : Nat → List D → Prop) : ∀ (s : List Nat) (i : Nat) (w : List D), J i w →
    (∀ c j w, i ≤ j → j < i + s.length → J j w → ∃ sd1 b w2, g (.str [c]) sd0 = some sd1 ∧ mt sd1 w = .ok b w2 ∧ me sd1 w2 = .ok (.str [c]) w2 ∧ J (j + 1) w2) →
    ∃ sub w2, compL g mt me sd0 (S1 s) w = some (S1 sub, w2) ∧ sub.Sublist s ∧ J (i + s.length) w2
  | [], i, w, h, _ => ⟨[], w, rfl, List.Sublist.slnil, h⟩
  | c :: s, i, w, h, H => by
    obtain ⟨sd1, b, w2, h1, h2, h3, h4⟩ := H c i w (Nat.le_refl _) (by simp) h
    obtain ⟨sub, w3, e1, e2, e3⟩ := compL_sub J s (i + 1) w2 h4 fun c j w q1 q2 q3 => H c j w (by omega) (by simp; omega) q3
    rw [show i + 1 + s.length = i + (c :: s).length by simp; omega] at e3
    simp only [S1] at e1
    cases b with
    | true => exact ⟨c :: sub, w3, by simp only [S1, List.map_cons, compL, h1, h2, h3, e1], e2.cons_cons c, e3⟩
    | false => exact ⟨sub, w3, by simp only [S1, List.map_cons, compL, h1, h2, e1], e2.cons c, e3⟩
theorem dep_S1 (k : Nat) (s : List Nat) : (S1 s).all (dep (k + 1)) = true := by
  rw [List.all_eq_true]
  intro d hd
  obtain ⟨x, _, rfl⟩ := List.mem_map.mp hd
  rfl
theorem ev_law_side {kn : List Nat} (S : Kn kn) {n : Nat} {w : List D} (W : Well n w) (hn : n < 9000) : ∃ s w' m, f__law_side [.pen, .str kn] w = .ok (optD s) w' ∧ SideO s ∧ m ≤ n + 10 ∧ Well m w' := by
  have hf := S.few
  obtain ⟨r, w1, e1, b1, b2, W1⟩ := ev_dip (m := 5) W (by omega) (by omega) (by omega)
  by_cases h : r < 3
  · have lt : oCmp fLt sLt (.int r) (.int 3) = some (.bl true) := by
      show some (D.bl (decide (r < 3))) = _
      rw [decide_eq_true h]
    refine ⟨none, w1, n + 1, ?_, trivial, by omega, W1⟩
    simp only [f__law_side, s_runB, sd0, b_f__law_side]
    simp [e1, lt, optD]
  · have lt : oCmp fLt sLt (.int r) (.int 3) = some (.bl false) := by
      show some (D.bl (decide (r < 3))) = _
      rw [decide_eq_false h]
    have ad : oAdd (.str [35]) (.str kn) = some (.str (35 :: kn)) := add_str [35] kn (by simp; omega)
    have hi : items (.str (35 :: kn)) = some (S1 (35 :: kn)) := rfl
    obtain ⟨sub, w2, e2, hs, W2⟩ := compL_sub (g := gN 3) (mt := mTst (mBin (oEq false) (mCall (nArg 2 f__law_draw) (mCons (mV 0) (mCons (mC (.int 2)) mNil))) (mC (.int 0)))) (me := mV 3) (sd0 := [.val .pen, .val (.str kn), .no, .no]) (fun i w => Well (n + 1 + i) w) (35 :: kn) 0 w1 W1
      (fun c j w a1 a2 W => by
        obtain ⟨r, w2, e, _, _, W2⟩ := ev_dip (m := 2) W (by simp at a2; omega) (by omega) (by omega)
        refine ⟨_, r == 0, w2, rfl, ?_, by simp, W2⟩
        have q : oEq false (.int r) (.int 0) = some (.bl (r == 0)) := by rw [oEq_ii]; rfl
        simp [e, q])
    have hsub : sub.length ≤ 7 := by have := hs.length_le; simp at this; omega
    have hl : (S1 (35 :: kn)).length ≤ 16777216 := by simp [S1]; omega
    have jn := join1 sub (by omega)
    have W2' : Well (n + 1 + (kn.length + 1)) w2 := by simpa using W2
    cases hsb : sub with
    | nil =>
      obtain ⟨y, w3, e3, m3, W3⟩ := ev_pick (d := .str (35 :: kn)) (ds := (35 :: kn).map fun c => D.str [c]) W2' (by omega) (.inr ⟨_, rfl, rfl⟩) (by simp) (by simp; omega)
      obtain ⟨c, hc, rfl⟩ := List.mem_map.mp m3
      refine ⟨some [c], w3, _, ?_, ⟨by simp, by simp, fun x hx => by rw [List.mem_singleton.mp hx]; exact S.sg hc, by simp⟩, ?_, W3⟩
      · subst hsb
        have q2 : oEq true (.lst (S1 [])) (.lst []) = some (.bl false) := rfl
        generalize S1 (35 :: kn) = es at *
        generalize (35 :: kn) = es2 at *
        generalize S1 [] = u at *
        simp only [f__law_side, s_runB, sd0, b_f__law_side]
        simp [e1, lt, ad, hi, hl, e2, jn, q2, e3, optD]
      · omega
    | cons x xs =>
      refine ⟨some sub, w2, _, ?_, ⟨by rw [hsb]; simp, S.edge.sublist hs, fun c hc => S.sg (hs.subset hc), by omega⟩, ?_, W2'⟩
      · have q2 : oEq true (.lst (S1 sub)) (.lst []) = some (.bl true) := by
          have h1 : dep 8 (.lst (S1 sub)) = true := dep_S1 6 sub
          have h2 : eqD (.lst (S1 sub)) (.lst []) = false := by rw [hsb]; rfl
          unfold oEq
          rw [h1, h2]; rfl
        generalize S1 (35 :: kn) = es at *
        generalize (35 :: kn) = es2 at *
        generalize S1 sub = u at *
        clear hsb
        simp only [f__law_side, s_runB, sd0, b_f__law_side]
        simp [e1, lt, ad, hi, hl, e2, jn, q2, optD]
      · omega
theorem ev_law_word {st : List Nat} (hp : 0 < st.length) (hf : st.length ≤ 1000) (k : Nat) (hk : k ≤ 12) {n0 : Nat} {w : List D} (W : Well n0 w) (hn : n0 < 8000) : ∃ s w', f__law_word [.pen, .str st, .int (k : Nat)] w = .ok (.str s) w' ∧ s.length = k ∧ (∀ c ∈ s, c ∈ st) ∧ Well (n0 + k) w' := by
  obtain ⟨ys, w2, e2, l2, p2, W2⟩ := compL_inv (g := gN 3) (mt := mYes) (me := mCall (nArg 2 f__law_pick) (mCons (mV 0) (mCons (mV 1) mNil))) (sd0 := [.val .pen, .val (.str st), .val (.int (k : Nat)), .no]) (fun i w => i ≤ 12 ∧ Well (n0 + i) w) (fun y => ∃ c ∈ st, y = .str [c]) (rngD 0 k) 0 w ⟨by omega, W⟩
    (fun j x w hx hj => by
      rw [Nat.zero_add] at hj ⊢
      have hjm : j < k := by
        have := (List.getElem?_eq_some_iff.mp hx).1
        rw [rng_len] at this; exact this
      obtain ⟨y, w3, e3, m3, W3⟩ := ev_pick (d := .str st) (ds := st.map fun c => D.str [c]) hj.2 (by omega) (.inr ⟨st, rfl, rfl⟩) (by rw [List.length_map]; omega) (by rw [List.length_map]; omega)
      refine ⟨_, rfl, rfl, y, w3, by simp [e3], ?_, by omega, W3⟩
      obtain ⟨c, hc, rfl⟩ := List.mem_map.mp m3
      exact ⟨c, hc, rfl⟩)
  obtain ⟨s, rfl, hs⟩ := singles2 p2
  rw [rng_len, Nat.zero_add] at W2
  rw [rng_len] at l2
  have hl : s.length = k := by simpa [S1] using l2
  refine ⟨s, w2, ?_, hl, hs, W2.2⟩
  have jn := join1 s (by omega)
  have g1 := rng_ok (show k ≤ 1000 by omega)
  have rl : (rngD 0 k).length ≤ 16777216 := by rw [rng_len]; omega
  generalize S1 s = u at *
  generalize ((k : Nat) : Int) = mm at *
  simp only [f__law_word, s_runB, sd0, b_f__law_word]
  simp [g1, rl, e2, jn]
end K16
end
section
set_option Elab.async false
set_option linter.all false
set_option maxRecDepth 100000
set_option maxHeartbeats 4000000
namespace K16
open PySem PySem.Spec PyProof.Rows L2 FT
@[simp] theorem s_mAsgVFF (g : D → SD → Option SD) (j l : Nat) (ma : ME D) (mb mc : ME (List D)) (sd : SD) (w : List D) : mAsgVFF g j l ma mb mc sd w = (eb (ma sd w) sd fun d w1 => eb (mb sd w1) sd fun ds w2 => eb (mc sd w2) sd fun es w3 => match g d sd with
  | some sd1 => .nx ((sd1.set j (.own ds)).set l (.own es)) w3
  | none => .bad) := (rfl)
@[simp] theorem s_mPar3F (i j l : Nat) (ma : ME (List D)) (mb mc : ME D) (sd : SD) (w : List D) : mPar3F i j l ma mb mc sd w = (eb (ma sd w) sd fun ds w1 => eb (mb sd w1) sd fun d w2 => eb (mc sd w2) sd fun e w3 => .nx (((sd.set i (.own ds)).set j (.val d)).set l (.val e)) w3) := (rfl)
@[simp] theorem s_mPopS (i : Nat) (m : ME D) (sd : SD) (w : List D) : mPopS i m sd w = (match sd[i]? with
  | some (.own ds) => eb (m sd w) sd fun d w1 => (match d with
    | .int n => (match ixN ds.length n with
      | some k => if ds.length ≤ 16777216 then .nx (sd.set i (.own (ds.eraseIdx k))) w1 else .bad
      | none => .bad)
    | _ => .bad)
  | _ => .bad) := (rfl)
@[simp] theorem s_mAppPop (i j : Nat) (m : ME D) (sd : SD) (w : List D) : mAppPop i j m sd w = (match sd[i]?, sd[j]? with
  | some (.own es), some (.own ds) => eb (m sd w) sd fun d w1 => (match d with
    | .int n => (match ixN ds.length n with
      | some k => (match ds[k]? with
        | some y => if ds.length ≤ 16777216 then (if es.length < 16777216 then .nx ((sd.set j (.own (ds.eraseIdx k))).set i (.own (es ++ [y]))) w1 else .bad) else .bad
        | none => .bad)
      | none => .bad)
    | _ => .bad)
  | _, _ => .bad) := (rfl)
theorem S1_erase : ∀ (s : List Nat) (k : Nat), (S1 s).eraseIdx k = S1 (s.eraseIdx k)
  | [], _ => rfl
  | _ :: _, 0 => rfl
  | a :: s, k + 1 => by
    show D.str [a] :: (S1 s).eraseIdx k = D.str [a] :: S1 (s.eraseIdx k)
    rw [S1_erase s k]
theorem erase_perm {x : Nat} : ∀ {s : List Nat} {k : Nat}, s[k]? = some x → (x :: s.eraseIdx k).Perm s
  | [], _, h => by simp at h
  | a :: s, 0, h => by
    simp at h
    subst h
    exact List.Perm.refl _
  | a :: s, k + 1, h => by
    have ih := erase_perm (s := s) (k := k) (by simpa using h)
    exact (List.Perm.swap a x _).trans (ih.cons a)
theorem ixN_ok {n : Nat} {r : Int} (h0 : 0 ≤ r) (h1 : r < n) : ixN n r = some r.toNat := by
  unfold ixN
  rw [if_pos h0, if_pos h1]
theorem S1_len (s : List Nat) : (S1 s).length = s.length := by simp [S1]
/-! ### the sounds -/
theorem take_run {ls ss : List Nat} {n0 : Nat} {w : List D} (W : Well n0 w) (hn : n0 < 9000) (h0 : 0 < ls.length) (hl : ls.length ≤ 26) (hs : ss.length ≤ 26) (x1 x2 x3 x6 x7 x8 x9 x10 x11 x12 x13 : SV) :
    ∃ ls' ss' w', mAppPop 5 4 (mCall (nArg 2 f__law_draw) (mCons (mV 0) (mCons (mCB fLen (mCons (mVB 4) mNil)) mNil))) [.val .pen, x1, x2, x3, .own (S1 ls), .own (S1 ss), x6, x7, x8, x9, x10, x11, x12, x13] w =
      .nx [.val .pen, x1, x2, x3, .own (S1 ls'), .own (S1 ss'), x6, x7, x8, x9, x10, x11, x12, x13] w' ∧ (ss' ++ ls').Perm (ss ++ ls) ∧ ss'.length = ss.length + 1 ∧ ls'.length + 1 = ls.length ∧ Well (n0 + 1) w' := by
  obtain ⟨r, w1, e1, b1, b2, W1⟩ := ev_dip (m := ls.length) W (by omega) (by omega) (by omega)
  have hk : r.toNat < ls.length := by omega
  have hx : ls[r.toNat]? = some ls[r.toNat] := List.getElem?_eq_getElem hk
  have hS : (S1 ls)[r.toNat]? = some (.str [ls[r.toNat]]) := by unfold S1; rw [List.getElem?_map, hx]; rfl
  have fl : fLen w [.lst (S1 ls)] = some (.int (ls.length : Int)) := by
    show some (D.int _) = _
    rw [S1_len]
  have ix : ixN (S1 ls).length r = some r.toNat := by rw [S1_len]; exact ixN_ok b1 b2
  have hs1 : S1 ss ++ [.str [ls[r.toNat]]] = S1 (ss ++ [ls[r.toNat]]) := by simp [S1]
  have l1 : (S1 ls).length ≤ 16777216 := by rw [S1_len]; omega
  have l2 : (S1 ss).length < 16777216 := by rw [S1_len]; omega
  refine ⟨ls.eraseIdx r.toNat, ss ++ [ls[r.toNat]], w1, ?_, ?_, by simp, ?_, W1⟩
  · rw [← S1_erase, ← hs1]
    generalize S1 ss = sss at *
    generalize (S1 ls) = lls at *
    generalize (ls.length : Int) = z at *
    generalize [ls[r.toNat]] = cc at *
    generalize r.toNat = kk at *
    simp [fl, e1, ix, hS, l1, l2]
  · rw [List.append_assoc]
    exact (erase_perm hx).append_left ss
  · rw [List.length_eraseIdx, if_pos hk]
    omega
end K16
end
section
set_option Elab.async false
set_option linter.all false
set_option maxRecDepth 100000
set_option maxHeartbeats 4000000
namespace K16
open PySem PySem.Spec PyProof.Rows L2 FT
abbrev popB : MS := mAppPop 5 4 (mCall (nArg 2 f__law_draw) (mCons (mV 0) (mCons (mCB fLen (mCons (mVB 4) mNil)) mNil)))
theorem take_loop (m : Nat) (hm : m ≤ 8) {n0 : Nat} {w : List D} (W : Well n0 w) (hn : n0 < 8000) (x1 x2 x3 x6 x7 x8 x9 x10 x11 x12 x13 : SV) :
    ∃ ls ss t6 w', forL (gN 6) popB (rngD 0 (m : Int)) [.val .pen, x1, x2, x3, .own (S1 LET), .own (S1 []), x6, x7, x8, x9, x10, x11, x12, x13] w =
      .nx [.val .pen, x1, x2, x3, .own (S1 ls), .own (S1 ss), t6, x7, x8, x9, x10, x11, x12, x13] w' ∧ (ss ++ ls).Perm LET ∧ ss.length = m ∧ Well (n0 + m) w' := by
  rcases forL_inv (g := gN 6) (body := popB) (fun j sd w => j ≤ m ∧ (∃ ls ss t6, sd = [.val .pen, x1, x2, x3, .own (S1 ls), .own (S1 ss), t6, x7, x8, x9, x10, x11, x12, x13] ∧ (ss ++ ls).Perm LET ∧ ss.length = j) ∧ Well (n0 + j) w) (fun _ _ => False) (rngD 0 (m : Int)) 0 [.val .pen, x1, x2, x3, .own (S1 LET), .own (S1 []), x6, x7, x8, x9, x10, x11, x12, x13] w ⟨by omega, ⟨LET, [], _, rfl, List.Perm.refl _, rfl⟩, W⟩
    (fun j x sd w hx hj => by
      rw [Nat.zero_add] at hj ⊢
      obtain ⟨_, ⟨ls, ss, t6, rfl, hp, hs⟩, W⟩ := hj
      have hjm : j < m := by
        have := (List.getElem?_eq_some_iff.mp hx).1
        rw [rng_len] at this; exact this
      have hlen := hp.length_eq
      rw [List.length_append] at hlen
      have h26 : LET.length = 26 := rfl
      obtain ⟨ls', ss', w', e, p1, p2, p3, W'⟩ := take_run W (by omega) (ls := ls) (ss := ss) (by omega) (by omega) (by omega) x1 x2 x3 (.val x) x7 x8 x9 x10 x11 x12 x13
      exact ⟨_, rfl, .inl ⟨_, w', e, by omega, ⟨ls', ss', _, rfl, p1.trans hp, by omega⟩, W'⟩⟩) with ⟨sd2, w2, e1, _, ⟨ls, ss, t6, rfl, hp, hs⟩, W2⟩ | ⟨_, _, _, h⟩
  · rw [Nat.zero_add, rng_len] at hs W2
    exact ⟨ls, ss, t6, w2, e1, hp, hs, W2⟩
  · exact h.elim
abbrev popT : ME Bool := mTst (mBin (oCmp fGt sGt) (mCB fLen (mCons (mVB 7) mNil)) (mVB 3))
abbrev popW : MS := mPopS 7 (mCall (nArg 2 f__law_draw) (mCons (mV 0) (mCons (mCB fLen (mCons (mVB 7) mNil)) mNil)))
theorem pop_loop (size : Nat) (x1 x2 x4 x5 x6 x8 x9 x10 x11 x12 x13 : SV) : ∀ (d : Nat) (st : List Nat), st.length = size + d → st.length ≤ 26 → ∀ (n0 : Nat) (w : List D), Well n0 w → n0 + d < 9000 → ∀ fuel : Nat, d < fuel →
    ∃ st' w', whileL popT popW fuel [.val .pen, x1, x2, .val (.int (size : Nat)), x4, x5, x6, .own (S1 st), x8, x9, x10, x11, x12, x13] w =
      .nx [.val .pen, x1, x2, .val (.int (size : Nat)), x4, x5, x6, .own (S1 st'), x8, x9, x10, x11, x12, x13] w' ∧ st'.Sublist st ∧ st'.length = size ∧ Well (n0 + d) w'
  | 0, st, hs, hl, n0, w, W, hn, fuel, hf => by
    obtain ⟨f, rfl⟩ : ∃ f, fuel = f + 1 := ⟨fuel - 1, by omega⟩
    have fl : fLen w [.lst (S1 st)] = some (.int (st.length : Int)) := by
      show some (D.int _) = _
      rw [S1_len]
    have gt : oCmp fGt sGt (.int (st.length : Int)) (.int (size : Nat)) = some (.bl false) := by
      show some (D.bl (decide _)) = _
      rw [decide_eq_false (by omega)]
    have ht : popT [.val .pen, x1, x2, .val (.int (size : Nat)), x4, x5, x6, .own (S1 st), x8, x9, x10, x11, x12, x13] w = .ok false w := by
      generalize (st.length : Int) = z at *
      generalize (size : Int) = z2 at *
      simp [fl, gt]
    exact ⟨st, w, wh_end ht, List.Sublist.refl _, by omega, W⟩
  | d + 1, st, hs, hl, n0, w, W, hn, fuel, hf => by
    obtain ⟨f, rfl⟩ : ∃ f, fuel = f + 1 := ⟨fuel - 1, by omega⟩
    have fl : ∀ w : List D, fLen w [.lst (S1 st)] = some (.int (st.length : Int)) := fun w => by
      show some (D.int _) = _
      rw [S1_len]
    have gt : oCmp fGt sGt (.int (st.length : Int)) (.int (size : Nat)) = some (.bl true) := by
      show some (D.bl (decide _)) = _
      rw [decide_eq_true (by omega)]
    have ht : popT [.val .pen, x1, x2, .val (.int (size : Nat)), x4, x5, x6, .own (S1 st), x8, x9, x10, x11, x12, x13] w = .ok true w := by
      generalize (st.length : Int) = z at *
      generalize (size : Int) = z2 at *
      simp [fl, gt]
    obtain ⟨r, w1, e1, b1, b2, W1⟩ := ev_dip (m := st.length) W (by omega) (by omega) (by omega)
    have hk : r.toNat < st.length := by omega
    have ix : ixN (S1 st).length r = some r.toNat := by rw [S1_len]; exact ixN_ok b1 b2
    have l1 : (S1 st).length ≤ 16777216 := by rw [S1_len]; omega
    have hb : popW [.val .pen, x1, x2, .val (.int (size : Nat)), x4, x5, x6, .own (S1 st), x8, x9, x10, x11, x12, x13] w = .nx [.val .pen, x1, x2, .val (.int (size : Nat)), x4, x5, x6, .own (S1 (st.eraseIdx r.toNat)), x8, x9, x10, x11, x12, x13] w1 := by
      rw [← S1_erase]
      generalize S1 st = ss at *
      generalize (st.length : Int) = z at *
      generalize (size : Int) = z2 at *
      generalize r.toNat = kk at *
      simp [fl, e1, ix, l1]
    obtain ⟨st', w2, e2, p1, p2, W2⟩ := pop_loop size x1 x2 x4 x5 x6 x8 x9 x10 x11 x12 x13 d (st.eraseIdx r.toNat) (by rw [List.length_eraseIdx, if_pos hk]; omega) (by rw [List.length_eraseIdx, if_pos hk]; omega) (n0 + 1) w1 W1 (by omega) f (by omega)
    refine ⟨st', w2, ?_, p1.trans (List.eraseIdx_sublist _ _), p2, ?_⟩
    · rw [← e2]
      simp only [whileL, ht, s_eb_ok, if_true, hb]
    · rwa [show n0 + 1 + d = n0 + (d + 1) by omega] at W2
/-! ### the rules -/
theorem kn_others {kn : List Nat} (S : Kn kn) (h2 : 2 ≤ kn.length) (o : Nat) : 0 < (kn.filter fun c => decide (c ≠ o)).length := by
  have hs := S.srt
  match kn, h2, hs with
  | a :: b :: t, _, hs =>
    have hab : a < b := (List.pairwise_cons.mp hs).1 b (by simp)
    by_cases h : a = o
    · exact List.length_pos_of_mem (List.mem_filter.mpr ⟨show b ∈ a :: b :: t by simp, by simp; omega⟩)
    · exact List.length_pos_of_mem (List.mem_filter.mpr ⟨show a ∈ a :: b :: t by simp, by simp; omega⟩)
theorem other_comp {kn : List Nat} (o : Nat) {sd : SD} {w : List D} {i k : Nat} (hk : ∀ d : D, (sd.set i (.val d))[k]? = some (.val (.str [o]))) (hi : ∀ d : D, (sd.set i (.val d))[i]? = some (.val d)) :
    compL (gN i) (mTst (mBin (oEq true) (mVB i) (mVB k))) (mV i) sd (S1 kn) w = some (S1 (kn.filter fun c => decide (c ≠ o)), w) := by
  rw [compL_pure (fun d => match d with | .str [c] => decide (c ≠ o) | _ => false) id]
  · rw [List.map_id]
    unfold S1
    rw [List.filter_map]; rfl
  · intro d hd
    obtain ⟨c, _, rfl⟩ := List.mem_map.mp hd
    have h1 := hk (.str [c])
    have h2 := hi (.str [c])
    refine ⟨_, rfl, ?_, fun _ => by simp [h2]⟩
    have q : oEq true (.str [c]) (.str [o]) = some (.bl (decide (c ≠ o))) := by
      rw [oEq_ss]
      by_cases h : c = o
      · simp [h]
      · simp [h]
    show _ = R.ok (decide (c ≠ o)) w
    generalize decide (c ≠ o) = b at *
    simp [h1, h2, q]
def bodyW : MS := (mSeq (mAsg (gN 11) (mCall (nArg 2 f__law_pick) (mCons (mV 0) (mCons (mIfE (mTst (mBin (oCmp fGt sGt) (mCall (nArg 2 f__law_draw) (mCons (mV 0) (mCons (mC (.int 4)) mNil))) (mC (.int 0)))) (mV 10) (mV 9)) mNil))))
    (mSeq (mAsg (gN 12) (mCall (nArg 2 f__law_pick) (mCons (mV 0) (mCons (mF (mComp (mSeqI (mVB 9)) (gN 13) (mTst (mBin (oEq true) (mVB 13) (mVB 11))) (mV 13) [13])) mNil))))
    (mSeq (mApp 8 (mTup (mCons (mV 11) (mCons (mV 12) (mCons (mCall (nArg 2 f__law_side) (mCons (mV 0) (mCons (mV 9) mNil))) (mCons (mCall (nArg 2 f__law_side) (mCons (mV 0) (mCons (mV 9) mNil))) mNil))))))
    (mAsg (gN 10) (mBin oAdd (mVB 10) (mVB 12))))))
theorem bodyW_run {kn lk : List Nat} (S : Kn kn) (h2 : 2 ≤ kn.length) (hl0 : 0 < lk.length) (hl1 : lk.length ≤ 100) (hlk : ∀ c ∈ lk, c ∈ kn) {n0 : Nat} {w : List D} (W : Well n0 w) (hn : n0 < 8000) (acc : List D) (ha : acc.length < 100) (x1 x2 x3 x4 x5 x6 x7 x11 x12 x13 : SV) :
    ∃ (q : Ru) (y11 y12 : SV) (w' : List D) (m : Nat), bodyW [.val .pen, x1, x2, x3, x4, x5, x6, x7, .own acc, .val (.str kn), .val (.str lk), x11, x12, x13] w =
      .nx [.val .pen, x1, x2, x3, x4, x5, x6, x7, .own (acc ++ [q.row]), .val (.str kn), .val (.str (lk ++ q.n)), y11, y12, x13] w' ∧ q.Ok ∧ Firm q ∧ (∀ c ∈ q.n, c ∈ kn) ∧ m ≤ n0 + 30 ∧ Well m w' := by
  have hf := S.few
  obtain ⟨r, w1, e1, b1, b2, W1⟩ := ev_dip (m := 4) W (by omega) (by omega) (by omega)
  have gt : oCmp fGt sGt (.int r) (.int 0) = some (.bl (decide ((0 : Int) < r))) := rfl
  obtain ⟨o, w2, e2, ho, W2⟩ : ∃ o w2, f__law_pick [.pen, if decide ((0 : Int) < r) = true then .str lk else .str kn] w1 = .ok (.str [o]) w2 ∧ o ∈ kn ∧ Well (n0 + 2) w2 := by
    by_cases h : (0 : Int) < r
    · rw [decide_eq_true h, if_pos rfl]
      obtain ⟨y, w2, e, m, W2⟩ := ev_pick (d := .str lk) (ds := lk.map fun c => D.str [c]) W1 (by omega) (.inr ⟨_, rfl, rfl⟩) (by rw [List.length_map]; exact hl0) (by rw [List.length_map]; omega)
      obtain ⟨c, hc, rfl⟩ := List.mem_map.mp m
      exact ⟨c, w2, e, hlk c hc, W2⟩
    · rw [decide_eq_false h, if_neg Bool.false_ne_true]
      obtain ⟨y, w2, e, m, W2⟩ := ev_pick (d := .str kn) (ds := kn.map fun c => D.str [c]) W1 (by omega) (.inr ⟨_, rfl, rfl⟩) (by rw [List.length_map]; omega) (by rw [List.length_map]; omega)
      obtain ⟨c, hc, rfl⟩ := List.mem_map.mp m
      exact ⟨c, w2, e, hc, W2⟩
  have hc := other_comp (kn := kn) o (sd := [.val .pen, x1, x2, x3, x4, x5, x6, x7, .own acc, .val (.str kn), .val (.str lk), .val (.str [o]), x12, .no]) (w := w2) (i := 13) (k := 11) (fun _ => rfl) (fun _ => rfl)
  have hp := kn_others S h2 o
  have hfl : (kn.filter fun c => decide (c ≠ o)).length ≤ 6 := by have := List.length_filter_le (fun c => decide (c ≠ o)) kn; omega
  obtain ⟨y, w3, e3, m3, W3⟩ := ev_pick (d := .lst (S1 (kn.filter fun c => decide (c ≠ o)))) (ds := S1 (kn.filter fun c => decide (c ≠ o))) W2 (by omega) (.inl rfl) (by rw [S1_len]; exact hp) (by rw [S1_len]; omega)
  obtain ⟨c, hcm, rfl⟩ := List.mem_map.mp m3
  have hck := List.mem_filter.mp hcm
  obtain ⟨l, w4, k4, e4, l1, hk4, W4⟩ := ev_law_side S W3 (by omega)
  obtain ⟨rr, w5, k5, e5, r1, hk5, W5⟩ := ev_law_side S W4 (by omega)
  have P : Parts o [c] l rr := ⟨S.let_ o ho, .inr ⟨c, rfl, S.let_ c hck.1, of_decide_eq_true hck.2⟩, l1, r1⟩
  refine ⟨⟨o, [c], l, rr⟩, .val (.str [o]), .val (.str [c]), w5, k5, ?_, P, ⟨c, rfl⟩, fun d hd => by rw [List.mem_singleton.mp hd]; exact hck.1, by omega, W5⟩
  have hi : items (.str kn) = some (S1 kn) := rfl
  have hkl : (S1 kn).length ≤ 16777216 := by rw [S1_len]; omega
  have ad : oAdd (.str lk) (.str [c]) = some (.str (lk ++ [c])) := add_str _ _ (by simp; omega)
  have hal : acc.length < 16777216 := by omega
  show _ = Out.nx [.val .pen, x1, x2, x3, x4, x5, x6, x7, .own (acc ++ [.tup [.str [o], .str [c], optD l, optD rr]]), .val (.str kn), .val (.str (lk ++ [c])), .val (.str [o]), .val (.str [c]), x13] w5
  clear hp hfl hcm hck m3
  generalize S1 (kn.filter fun c => decide (c ≠ o)) = ff at *
  generalize lk ++ [c] = lc at *
  generalize [c] = cc at *
  generalize [o] = oo at *
  generalize optD l = dl at *
  generalize optD rr = dr at *
  generalize S1 kn = es at *
  by_cases h : (0 : Int) < r
  · rw [decide_eq_true h] at gt e2
    rw [if_pos rfl] at e2
    simp [bodyW, e1, gt, e2, hi, hkl, hc, e3, e4, e5, ad, hal]
  · rw [decide_eq_false h] at gt e2
    rw [if_neg Bool.false_ne_true] at e2
    simp [bodyW, e1, gt, e2, hi, hkl, hc, e3, e4, e5, ad, hal]
end K16
end
section
set_option Elab.async false
set_option linter.all false
set_option maxRecDepth 100000
set_option maxHeartbeats 4000000
namespace K16
open PySem PySem.Spec PyProof.Rows L2 FT
theorem rules_loop {kn : List Nat} (S : Kn kn) (h2 : 2 ≤ kn.length) (many : Nat) (hmn : many ≤ 6) {lk : List Nat} (hl0 : 0 < lk.length) (hl1 : lk.length ≤ 6) (hlk : ∀ c ∈ lk, c ∈ kn) {n0 : Nat} {w : List D} (W : Well n0 w) (hn : n0 < 7000) (x1 x2 x3 x4 x5 x6 x7 x11 x12 x13 : SV) :
    ∃ (qs : List Ru) (y6 y10 y11 y12 : SV) (w' : List D) (m : Nat), forL (gN 6) bodyW (rngD 0 (many : Int)) [.val .pen, x1, x2, x3, x4, x5, x6, x7, .own [], .val (.str kn), .val (.str lk), x11, x12, x13] w =
      .nx [.val .pen, x1, x2, x3, x4, x5, y6, x7, .own (qs.map Ru.row), .val (.str kn), y10, y11, y12, x13] w' ∧ qs.length = many ∧ (∀ q ∈ qs, q.Ok ∧ Firm q) ∧ m ≤ n0 + 180 ∧ Well m w' := by
  rcases forL_inv (g := gN 6) (body := bodyW) (fun j sd w => j ≤ many ∧ (∃ (qs : List Ru) (lk : List Nat) (t6 t11 t12 : SV), sd = [.val .pen, x1, x2, x3, x4, x5, t6, x7, .own (qs.map Ru.row), .val (.str kn), .val (.str lk), t11, t12, x13] ∧ qs.length = j ∧ (∀ q ∈ qs, q.Ok ∧ Firm q) ∧ 0 < lk.length ∧ lk.length ≤ 6 + j ∧ (∀ c ∈ lk, c ∈ kn)) ∧ ∃ m, m ≤ n0 + 30 * j ∧ Well m w) (fun _ _ => False) (rngD 0 (many : Int)) 0
    [.val .pen, x1, x2, x3, x4, x5, x6, x7, .own [], .val (.str kn), .val (.str lk), x11, x12, x13] w ⟨by omega, ⟨[], lk, _, _, _, rfl, rfl, fun _ h => absurd h (by simp), hl0, by omega, hlk⟩, n0, by omega, W⟩
    (fun j x sd w hx hj => by
      rw [Nat.zero_add] at hj ⊢
      obtain ⟨_, ⟨qs, lk, t6, t11, t12, rfl, q1, q2, q3, q4, q5⟩, m, hm, W⟩ := hj
      have hjm : j < many := by
        have := (List.getElem?_eq_some_iff.mp hx).1
        rw [rng_len] at this; exact this
      obtain ⟨q, y11, y12, w', m', e, p1, p2, p3, p4, W'⟩ := bodyW_run S h2 q3 (by omega) q5 W (by omega) (qs.map Ru.row) (by rw [List.length_map]; omega) x1 x2 x3 x4 x5 (.val x) x7 t11 t12 x13
      have hn1 : q.n.length = 1 := by
        obtain ⟨y, hy⟩ := p2
        rw [hy]; rfl
      refine ⟨_, rfl, .inl ⟨_, w', e, by omega, ⟨qs ++ [q], lk ++ q.n, .val x, y11, y12, by simp, by simp; omega, fun r hr => ?_, by rw [List.length_append]; omega, by rw [List.length_append]; omega, fun c hc => ?_⟩, m', by omega, W'⟩⟩
      · rcases List.mem_append.mp hr with hr | hr
        · exact q2 r hr
        · rw [List.mem_singleton.mp hr]; exact ⟨p1, p2⟩
      · rcases List.mem_append.mp hc with hc | hc
        · exact q5 c hc
        · exact p3 c hc) with ⟨sd2, w2, e1, _, ⟨qs, lk, t6, t11, t12, rfl, q1, q2, _⟩, m, hm, W2⟩ | ⟨_, _, _, h⟩
  · rw [Nat.zero_add, rng_len] at q1 hm
    exact ⟨qs, t6, _, t11, t12, w2, m, e1, q1, q2, by omega, W2⟩
  · exact h.elim
def szD : List D := [.tup [.int 1, .int 2], .tup [.int 2, .int 3], .tup [.int 2, .int 2], .tup [.int 1, .int 3], .tup [.int 3, .int 2], .tup [.int 0, .int 2], .tup [.int 5, .int 2], .tup [.int 6, .int 1], .tup [.int 4, .int 2], .tup [.int 1, .int 4]]
theorem sz_ok : ∀ d ∈ szD, ∃ many size : Nat, d = .tup [.int (many : Nat), .int (size : Nat)] ∧ many ≤ 6 ∧ 1 ≤ size ∧ size ≤ 4 := by
  intro d hd
  simp only [szD, List.mem_cons, List.not_mem_nil, or_false] at hd
  rcases hd with rfl | rfl | rfl | rfl | rfl | rfl | rfl | rfl | rfl | rfl
  · exact ⟨1, 2, rfl, by omega, by omega, by omega⟩
  · exact ⟨2, 3, rfl, by omega, by omega, by omega⟩
  · exact ⟨2, 2, rfl, by omega, by omega, by omega⟩
  · exact ⟨1, 3, rfl, by omega, by omega, by omega⟩
  · exact ⟨3, 2, rfl, by omega, by omega, by omega⟩
  · exact ⟨0, 2, rfl, by omega, by omega, by omega⟩
  · exact ⟨5, 2, rfl, by omega, by omega, by omega⟩
  · exact ⟨6, 1, rfl, by omega, by omega, by omega⟩
  · exact ⟨4, 2, rfl, by omega, by omega, by omega⟩
  · exact ⟨1, 4, rfl, by omega, by omega, by omega⟩
theorem wo_split : b_f__law_world = (mSeq (mAsgVFF (gTu 2 (gsCons (gN 2) (gsCons (gN 3) gsNil))) 4 5 (mCall (nArg 2 f__law_pick) (mCons (mV 0) (mCons (mV 1) mNil))) (mListX (mC (.str [97, 98, 99, 100, 101, 102, 103, 104, 105, 106, 107, 108, 109, 110, 111, 112, 113, 114, 115, 116, 117, 118, 119, 120, 121, 122]))) (mLstF mNil))
    (mSeq (mFor (gN 6) (mRng1 (mBin oAdd (mBin oAdd (mVB 3) (mC (.int 1))) (mCall (nArg 2 f__law_draw) (mCons (mV 0) (mCons (mC (.int 2)) mNil))))) popB)
    (mSeq (mSetO 7 (mSortF (mVB 5)))
    (mSeq (whileL popT popW 1000)
    (mSeq (mPar3F 8 9 10 (mLstF mNil) (mMt fJoin (mC (.str [])) (mCons (mF (mSortF (mVB 5))) mNil)) (mMt fJoin (mC (.str [])) (mCons (mVB 7) mNil)))
    (mSeq (mFor (gN 6) (mRng1 (mV 2)) bodyW)
    (mFr 8 (mRet (mTup (mCons (mV 8) (mCons (mMt fJoin (mC (.str [])) (mCons (mVB 7) mNil)) (mCons (mV 9) mNil)))))))))))) := rfl
theorem ev_world {n0 : Nat} {w : List D} (W : Well n0 w) (hn : n0 < 5000) : ∃ (qs : List Ru) (st kn : List Nat) (w' : List D) (m : Nat), f__law_world [.pen, .lst szD] w = .ok (.tup [.lst (qs.map Ru.row), .str st, .str kn]) w' ∧ Co qs ∧ Stk st ∧ st.length ≤ 4 ∧ Kn kn ∧ 2 ≤ kn.length ∧ m ≤ n0 + 300 ∧ Well m w' := by
  obtain ⟨y, w1, e1, m1, W1⟩ := ev_pick (d := .lst szD) (ds := szD) W (by omega) (.inl rfl) (by decide) (by decide)
  obtain ⟨many, size, rfl, s1, s2, s3⟩ := sz_ok y m1
  obtain ⟨r, w2, e2, b1, b2, W2⟩ := ev_dip (m := 2) W1 (by omega) (by omega) (by omega)
  obtain ⟨k, rfl⟩ : ∃ k : Nat, r = k := ⟨r.toNat, by omega⟩
  have a1 : oAdd (.int (size : Nat)) (.int 1) = some (.int ((size + 1 : Nat) : Int)) := rfl
  have a2 : oAdd (.int ((size + 1 : Nat) : Int)) (.int (k : Nat)) = some (.int ((size + 1 + k : Nat) : Int)) := rfl
  have g1 := rng_ok (show size + 1 + k ≤ 1000 by omega)
  have g2 := rng_ok (show many ≤ 1000 by omega)
  obtain ⟨ls, ss, t6, w3, e3, hp, hs, W3⟩ := take_loop (size + 1 + k) (by omega) W2 (by omega) (.val (.lst szD)) (.val (.int (many : Nat))) (.val (.int (size : Nat))) .no .no .no .no .no .no .no .no
  have hnd : (ss ++ ls).Nodup := hp.nodup_iff.mpr (by decide)
  have hss : ss.Nodup := (List.nodup_append.mp hnd).1
  obtain ⟨kn, kp, klt, kf⟩ := sorted_of hss (fun z => by rw [z] at hs; simp at hs; omega)
  have kl : kn.length = size + 1 + k := by rw [kp.length_eq, hs]
  have hS1 : ∀ s : List Nat, (s.map fun c => [c]).map D.str = S1 s := fun s => by simp [S1, List.map_map, Function.comp_def]
  rw [hS1, hS1] at kf
  have K : Kn kn := ⟨klt, fun c hc => hp.mem_iff.mp (List.mem_append_left _ (kp.mem_iff.mp hc)), by omega⟩
  obtain ⟨st, w4, e4, p1, p2, W4⟩ := pop_loop size (.val (.lst szD)) (.val (.int (many : Nat))) (.own (S1 ls)) (.own (S1 ss)) t6 .no .no .no .no .no .no (1 + k) kn (by omega) (by omega) _ w3 W3 (by omega) 1000 (by omega)
  have T : Stk st := ⟨klt.sublist p1, fun c hc => K.let_ c (p1.subset hc), by omega, by omega⟩
  obtain ⟨qs, y6, y10, y11, y12, w5, m5, e5, q1, q2, q3, W5⟩ := rules_loop K (by omega) many s1 (lk := st) (by omega) (by omega) (fun c hc => p1.subset hc) W4 (by omega) (.val (.lst szD)) (.val (.int (many : Nat))) (.val (.int (size : Nat))) (.own (S1 ls)) (.own (S1 ss)) t6 (.own (S1 st)) .no .no .no
  refine ⟨qs, st, kn, w5, m5, ?_, ⟨fun q hq => (q2 q hq).1, fun q hq => (q2 q hq).2, by omega⟩, T, by omega, K, by omega, by omega, W5⟩
  have hi : items (.str [97, 98, 99, 100, 101, 102, 103, 104, 105, 106, 107, 108, 109, 110, 111, 112, 113, 114, 115, 116, 117, 118, 119, 120, 121, 122]) = some (S1 LET) := rfl
  have j1 := join1 kn (by omega)
  have j2 := join1 st (by omega)
  have h0 : S1 ([] : List Nat) = [] := rfl
  rw [h0] at e3
  clear hnd hss hS1 hp kp klt p1 q2 m1
  generalize S1 LET = sl at *
  generalize S1 ls = lls at *
  generalize S1 ss = sss at *
  generalize S1 kn = skn at *
  generalize S1 st = sst at *
  generalize qs.map Ru.row = rows at *
  generalize szD = sz at *
  generalize ((size + 1 + k : Nat) : Int) = z1 at *
  generalize ((size + 1 : Nat) : Int) = z2 at *
  generalize (size : Int) = z3 at *
  generalize (many : Int) = z4 at *
  generalize (k : Int) = z5 at *
  simp only [f__law_world, wo_split, s_runB, sd0]
  simp [e1, hi, a1, e2, a2, g1, e3, kf, e4, j1, j2, g2, e5]
end K16
end
section
set_option Elab.async false
set_option linter.all false
set_option maxRecDepth 100000
set_option maxHeartbeats 4000000
namespace K16
open PySem PySem.Spec PyProof.Rows L2 FT
theorem outs_let : ∀ (qs : List Ru), (∀ q ∈ qs, q.Ok) → ∀ s : List Nat, (∀ c ∈ s, c ∈ LET) → ∀ c ∈ outs qs s, c ∈ LET
  | [], _, s, h => h
  | q :: qs, hq, s, h => by
    refine outs_let qs (fun q h => hq q (List.mem_cons_of_mem _ h)) (q.out s) fun c hc => ?_
    rcases pcs_mem hc with h1 | h1
    · rcases (hq q List.mem_cons_self).n_ with h2 | ⟨x, h2, h3, _⟩
      · rw [h2] at h1; cases h1
      · rw [h2] at h1
        rw [List.mem_singleton.mp h1]; exact h3
    · exact h c h1
theorem oInT_strs (neg : Bool) (s : List Nat) (ws : List (List Nat)) : oInT neg (.str s) (.tup (ws.map D.str)) = some (.bl (if neg then !decide (s ∈ ws) else decide (s ∈ ws))) := by
  have h1 : (flatD (.str s) && (ws.map D.str).all flatD) = true := by
    rw [Bool.and_eq_true]
    refine ⟨rfl, List.all_eq_true.mpr fun d hd => ?_⟩
    obtain ⟨x, _, rfl⟩ := List.mem_map.mp hd
    rfl
  have h2 : ((ws.map D.str).any fun z => eqD z (.str s)) = decide (s ∈ ws) := by
    rw [Bool.eq_iff_iff, List.any_eq_true, decide_eq_true_iff]
    constructor
    · rintro ⟨d, hd, e⟩
      obtain ⟨x, hx, rfl⟩ := List.mem_map.mp hd
      have : x = s := eq_of_beq e
      rw [← this]; exact hx
    · intro h
      exact ⟨_, List.mem_map.mpr ⟨s, h, rfl⟩, (beq_self_eq_true s)⟩
  show (if (flatD (.str s) && (ws.map D.str).all flatD) = true then some (D.bl (if neg = true then !((ws.map D.str).any fun z => eqD z (.str s)) else (ws.map D.str).any fun z => eqD z (.str s))) else none) = _
  rw [if_pos h1, h2]
theorem sent_mem {qs : List Ru} (hf : ∀ q ∈ qs, Firm q) {st s : List Nat} (h : ∀ c ∈ s, c ∈ st) : s ∈ sentW qs st (outs qs s) := by
  refine List.mem_filter.mpr ⟨?_, decide_eq_true rfl⟩
  exact mem_long (by rw [outs_len qs s hf]) h
def bodyO : MS := (mIf (mNotT (mTru (mCall (nArg 5 f__law_sent_right) (mCons (mV 5) (mCons (mV 2) (mCons (mV 3) (mCons (mV 9) (mCons (mV 12) mNil))))))))
    (mRet (mC (.bl false)))
    mSkip)
def bodyT : MS := (mSeq (mAsg (gN 8) (mCall (nArg 2 f__law_draw) (mCons (mV 1) (mCons (mV 6) mNil))))
    (mSeq (mPar 9 10 (mCons (mCall (nArg 2 f__law_long) (mCons (mV 3) (mCons (mV 8) mNil))) (mCons (mCall (nArg 3 f__law_word) (mCons (mV 1) (mCons (mV 3) (mCons (mV 8) mNil)))) mNil)))
    (mSeq (mAsg (gN 11) (mCall (nArg 3 f__law_word) (mCons (mV 1) (mCons (mV 4) (mCons (mV 8) mNil)))))
    (mSeq (mFor (gN 12) (mSeqI (mTup (mCons (mCall (nArg 2 f__law_done) (mCons (mV 2) (mCons (mV 10) mNil))) (mCons (mV 10) (mCons (mV 11) mNil))))) bodyO)
    (mSeq (mAsg (gN 13) (mCall (nArg 2 f__law_pick) (mCons (mV 1) (mCons (mV 4) mNil))))
    (mSeq (mAsg (gN 14) (mTup (mCons (mV 13) (mCons (mCall (nArg 2 f__law_pick) (mCons (mV 1) (mCons (mF (mComp (mSeqI (mVB 4)) (gN 15) (mTst (mBin (oEq true) (mVB 15) (mVB 13))) (mV 15) [15])) mNil))) (mCons (mCall (nArg 2 f__law_side) (mCons (mV 1) (mCons (mV 4) mNil))) (mCons (mCall (nArg 2 f__law_side) (mCons (mV 1) (mCons (mV 4) mNil))) mNil))))))
    (mIf (mAnd (mTst (mBin (oCmp fLt sLt) (mCB fLen (mCons (mVB 2) mNil)) (mC (.int 6)))) (mTst (mBin (oInT true) (mVB 10) (mCall (nArg 3 f_mothers_of) (mCons (mCall (nArg 1 f__law_made) (mCons (mBin oAdd (mVB 2) (mLst (mCons (mV 14) mNil))) mNil)) (mCons (mV 3) (mCons (mCall (nArg 2 f__law_done) (mCons (mBin oAdd (mVB 2) (mLst (mCons (mV 14) mNil))) (mCons (mV 10) mNil))) mNil)))))))
    (mRet (mC (.bl false)))
    mSkip)))))))
def courseAB : ME D := (mMakeG 7 1 0 [0] [] (nArgN 1 f_Course_init) (mCons (mLst (mCons (mMakeG 8 2 0 [0, 1, 2, 3] [.non, .non] (nArgN 4 f_Shift_init) (mCons (mC (.str [97])) (mCons (mC (.str [98])) mNil)) mNil) mNil)) mNil) mNil)
theorem la_split : b_f_law = (mSeq (mAsg (gTu 3 (gsCons (gN 2) (gsCons (gN 3) (gsCons (gN 4) gsNil)))) (mCall (nArg 2 f__law_world) (mCons (mV 1) (mCons (mLst (mCons (mTup (mCons (mC (.int 1)) (mCons (mC (.int 2)) mNil))) (mCons (mTup (mCons (mC (.int 2)) (mCons (mC (.int 3)) mNil))) (mCons (mTup (mCons (mC (.int 2)) (mCons (mC (.int 2)) mNil))) (mCons (mTup (mCons (mC (.int 1)) (mCons (mC (.int 3)) mNil))) (mCons (mTup (mCons (mC (.int 3)) (mCons (mC (.int 2)) mNil))) (mCons (mTup (mCons (mC (.int 0)) (mCons (mC (.int 2)) mNil))) (mCons (mTup (mCons (mC (.int 5)) (mCons (mC (.int 2)) mNil))) (mCons (mTup (mCons (mC (.int 6)) (mCons (mC (.int 1)) mNil))) (mCons (mTup (mCons (mC (.int 4)) (mCons (mC (.int 2)) mNil))) (mCons (mTup (mCons (mC (.int 1)) (mCons (mC (.int 4)) mNil))) mNil))))))))))) mNil))))
    (mSeq (mPar 5 6 (mCons (mCall (nArg 1 f__law_made) (mCons (mV 2) mNil)) (mCons (mIx (mLst (mCons (mC (.int 7)) (mCons (mC (.int 6)) (mCons (mC (.int 5)) (mCons (mC (.int 4)) mNil))))) (mBin oSub (mCB fLen (mCons (mVB 3) mNil)) (mC (.int 1)))) mNil)))
    (mSeq (mFor (gN 7) (mRng1 (mC (.int 3))) bodyT)
    (mSeq (mIf (mTst (mBin (oEq true) (mCall (nArg 3 f_mothers_of) (mCons courseAB (mCons (mC (.str [97, 98])) (mCons (mBin oMul (mC (.str [98])) (mC (.int 6))) mNil)))) (mCB fTuple (mCons (mCall (nArg 2 f__law_long) (mCons (mC (.str [97, 98])) (mCons (mC (.int 6)) mNil))) mNil))))
    (mRet (mC (.bl false)))
    mSkip)
    (mSeq (mAsg (gN 10) (mCall (nArg 3 f__law_word) (mCons (mV 1) (mCons (mSl (mVB 3) mNoP (mPart (mC (.int 1)))) (mCons (mC (.int 6)) mNil)))))
    (mRet (mAndV (mBin (oInT false) (mVB 10) (mCall (nArg 3 f_mothers_of) (mCons (mV 5) (mCons (mSl (mVB 3) mNoP (mPart (mC (.int 2)))) (mCons (mCall (nArg 2 f__law_done) (mCons (mV 2) (mCons (mV 10) mNil))) mNil))))) (mBin (oEq false) (mCall (nArg 3 f_mothers_of) (mCons (mV 5) (mCons (mV 3) (mCons (mC (.str [])) mNil)))) (mTup (mCons (mC (.str [])) mNil)))))))))) := rfl
theorem out_loop {qs : List Ru} (C : Co qs) {st : List Nat} (S : Stk st) (k : Nat) (hk : k ≤ 6) (w : List D) (a b c7 c8 c10 c11 c13 c14 c15 x4 : SV) (x6 : SV) : ∀ (os : List (List Nat)), (∀ o ∈ os, o.length = k ∧ ∀ c ∈ o, c ∈ LET) → ∀ t12 : SV, ∃ u12,
    forL (gN 12) bodyO (os.map D.str) [a, b, .val (.lst (qs.map Ru.row)), .val (.str st), x4, .val (courseD qs), x6, c7, c8, .val (.lst ((long st k).map D.str)), c10, c11, t12, c13, c14, c15] w = .nx [a, b, .val (.lst (qs.map Ru.row)), .val (.str st), x4, .val (courseD qs), x6, c7, c8, .val (.lst ((long st k).map D.str)), c10, c11, u12, c13, c14, c15] w
  | [], _, t12 => ⟨t12, rfl⟩
  | o :: os, h, t12 => by
    obtain ⟨hl, hm⟩ := h o List.mem_cons_self
    have e := ev_sent C S o (by omega) hm w
    rw [hl] at e
    obtain ⟨u, ih⟩ := out_loop C S k hk w a b c7 c8 c10 c11 c13 c14 c15 x4 x6 os (fun o ho => h o (List.mem_cons_of_mem _ ho)) (.val (.str o))
    refine ⟨u, ?_⟩
    have eb : bodyO [a, b, .val (.lst (qs.map Ru.row)), .val (.str st), x4, .val (courseD qs), x6, c7, c8, .val (.lst ((long st k).map D.str)), c10, c11, .val (.str o), c13, c14, c15] w = .nx [a, b, .val (.lst (qs.map Ru.row)), .val (.str st), x4, .val (courseD qs), x6, c7, c8, .val (.lst ((long st k).map D.str)), c10, c11, .val (.str o), c13, c14, c15] w := by
      generalize (long st k).map D.str = ll at *
      generalize qs.map Ru.row = rr at *
      generalize courseD qs = CD at *
      simp [bodyO, e, truthD]
    simp only [List.map_cons, forL, s_gN, List.set_cons_succ, List.set_cons_zero, eb]
    exact ih
theorem ev_turn {qs : List Ru} (C : Co qs) {st : List Nat} (S : Stk st) (h4 : st.length ≤ 4) {kn : List Nat} (K : Kn kn) (h2 : 2 ≤ kn.length) {n0 : Nat} {w : List D} (W : Well n0 w) (hn : n0 < 7000) (a t7 t8 t9 t10 t11 t12 t13 t14 t15 : SV) :
    ∃ u8 u9 u10 u11 u12 u13 u14 w' m, bodyT [a, .val .pen, .val (.lst (qs.map Ru.row)), .val (.str st), .val (.str kn), .val (courseD qs), .val (.int ((8 - st.length : Nat) : Int)), t7, t8, t9, t10, t11, t12, t13, t14, t15] w =
      .nx [a, .val .pen, .val (.lst (qs.map Ru.row)), .val (.str st), .val (.str kn), .val (courseD qs), .val (.int ((8 - st.length : Nat) : Int)), t7, u8, u9, u10, u11, u12, u13, u14, t15] w' ∧ m ≤ n0 + 60 ∧ Well m w' := by
  have hkf := K.few
  have hsp := S.pos
  obtain ⟨r, w1, e1, b1, b2, W1⟩ := ev_dip (m := ((8 - st.length : Nat) : Int)) W (by omega) (by omega) (by omega)
  obtain ⟨k, rfl⟩ : ∃ k : Nat, r = k := ⟨r.toNat, by omega⟩
  have hk : k ≤ 6 := by omega
  have e2 := ev_law_long S.few k hk w1
  obtain ⟨s, w2, e3, s1, s2, W2⟩ := ev_law_word (st := st) (by omega) (by omega) k (by omega) W1 (by omega)
  obtain ⟨t, w3, e4, r1, r2, W3⟩ := ev_law_word (st := kn) (by omega) (by omega) k (by omega) W2 (by omega)
  have hsL : ∀ c ∈ s, c ∈ LET := fun c hc => S.let_ c (s2 c hc)
  have e5 := ev_law_done qs C.ok s (by omega) w3
  obtain ⟨o, w4, e7, ho, W4⟩ : ∃ o w4, f__law_pick [.pen, .str kn] w3 = .ok (.str [o]) w4 ∧ o ∈ kn ∧ Well (n0 + 1 + k + k + 1) w4 := by
    obtain ⟨y, w2, e, m, W2⟩ := ev_pick (d := .str kn) (ds := kn.map fun c => D.str [c]) W3 (by omega) (.inr ⟨_, rfl, rfl⟩) (by rw [List.length_map]; omega) (by rw [List.length_map]; omega)
    obtain ⟨c, hc, rfl⟩ := List.mem_map.mp m
    exact ⟨c, w2, e, hc, W2⟩
  obtain ⟨u12, e6⟩ := out_loop C S k hk w3 a (.val .pen) t7 (.val (.int (k : Nat))) (.val (.str s)) (.val (.str t)) t13 t14 t15 (.val (.str kn)) (.val (.int ((8 - st.length : Nat) : Int))) [outs qs s, s, t] (fun x hx => by
    rcases List.mem_cons.mp hx with rfl | hx
    · exact ⟨by rw [outs_len qs s C.firm, s1], outs_let qs C.ok s hsL⟩
    · rcases List.mem_cons.mp hx with rfl | hx
      · exact ⟨s1, hsL⟩
      · rw [List.mem_singleton.mp hx]
        exact ⟨r1, fun c hc => K.let_ c (r2 c hc)⟩) t12
  have hc := fun (x9 : SV) => other_comp (kn := kn) o (sd := [a, .val .pen, .val (.lst (qs.map Ru.row)), .val (.str st), .val (.str kn), .val (courseD qs), .val (.int ((8 - st.length : Nat) : Int)), t7, .val (.int (k : Nat)), x9, .val (.str s), .val (.str t), u12, .val (.str [o]), t14, .no]) (w := w4) (i := 15) (k := 13) (fun _ => rfl) (fun _ => rfl)
  have hp := kn_others K h2 o
  have hfl : (kn.filter fun c => decide (c ≠ o)).length ≤ 6 := by have := List.length_filter_le (fun c => decide (c ≠ o)) kn; omega
  obtain ⟨y, w5, e8, m3, W5⟩ := ev_pick (d := .lst (S1 (kn.filter fun c => decide (c ≠ o)))) (ds := S1 (kn.filter fun c => decide (c ≠ o))) W4 (by omega) (.inl rfl) (by rw [S1_len]; exact hp) (by rw [S1_len]; omega)
  obtain ⟨c, hcm, rfl⟩ := List.mem_map.mp m3
  have hck := List.mem_filter.mp hcm
  obtain ⟨l, w6, k6, e9, l1, hk6, W6⟩ := ev_law_side K W5 (by omega)
  obtain ⟨rr, w7, k7, e10, r1', hk7, W7⟩ := ev_law_side K W6 (by omega)
  have P : Parts o [c] l rr := ⟨K.let_ o ho, .inr ⟨c, rfl, K.let_ c hck.1, of_decide_eq_true hck.2⟩, l1, r1'⟩
  obtain ⟨q, hq⟩ : ∃ q : Ru, q = ⟨o, [c], l, rr⟩ := ⟨_, rfl⟩
  have hqr : q.row = .tup [.str [o], .str [c], optD l, optD rr] := by rw [hq]; rfl
  have hqO : q.Ok := by rw [hq]; exact P
  have hqF : Firm q := by rw [hq]; exact ⟨c, rfl⟩
  clear hq
  refine ⟨.val (.int (k : Nat)), .val (.lst ((long st k).map D.str)), .val (.str s), .val (.str t), u12, .val (.str [o]), .val q.row, w7, k7, ?_, by omega, W7⟩
  have hi : items (.str kn) = some (S1 kn) := rfl
  have hkl : (S1 kn).length ≤ 16777216 := by rw [S1_len]; omega
  have hrl : fLen w7 [.lst (qs.map Ru.row)] = some (.int (qs.length : Int)) := by
    show some (D.int _) = _
    rw [List.length_map]
  have hit : items (.tup [.str (outs qs s), .str s, .str t]) = some ([outs qs s, s, t].map D.str) := rfl
  by_cases h6 : qs.length < 6
  · have lt : oCmp fLt sLt (.int (qs.length : Int)) (.int 6) = some (.bl true) := by
      show some (D.bl (decide _)) = _
      rw [decide_eq_true (by omega)]
    have C2 : Co (qs ++ [q]) := ⟨fun x hq => by
      rcases List.mem_append.mp hq with h | h
      · exact C.ok x h
      · rw [List.mem_singleton.mp h]; exact hqO, fun x hq => by
      rcases List.mem_append.mp hq with h | h
      · exact C.firm x h
      · rw [List.mem_singleton.mp h]; exact hqF, by simp; omega⟩
    have ad : oAdd (.lst (qs.map Ru.row)) (.lst [q.row]) = some (.lst ((qs ++ [q]).map Ru.row)) := by
      have e : oAdd (.lst (qs.map Ru.row)) (.lst [q.row]) = some (.lst (qs.map Ru.row ++ [q.row])) := by
        show (if _ then some (D.lst _) else none) = _
        exact if_pos (show (qs.map Ru.row).length + 1 ≤ 16777216 by rw [List.length_map]; omega)
      rw [e]
      simp
    have em := ev_law_made C2 w7
    have ed := ev_law_done (qs ++ [q]) C2.ok s (by omega) w7
    have emo := ev_mothers C2 S.B S.few S.let_ (outs (qs ++ [q]) s) (by rw [outs_len _ s C2.firm]; omega) (outs_let _ C2.ok s hsL) w7
    have oi := oInT_strs true s (sentW (qs ++ [q]) st (outs (qs ++ [q]) s))
    rw [decide_eq_true (sent_mem C2.firm s2)] at oi
    simp only [if_true, Bool.not_true] at oi
    rw [hqr] at ad ⊢
    clear hp hfl hcm hck m3 C2 P hqr
    generalize (sentW (qs ++ [q]) st (outs (qs ++ [q]) s)).map D.str = sw at *
    generalize outs (qs ++ [q]) s = o2 at *
    generalize courseD (qs ++ [q]) = C2D at *
    generalize (qs ++ [q]).map Ru.row = row2 at *
    generalize [outs qs s, s, t].map D.str = three at *
    generalize outs qs s = os at *
    generalize courseD qs = CD at *
    generalize qs.map Ru.row = rows at *
    generalize (long st k).map D.str = ll at *
    generalize ((8 - st.length : Nat) : Int) = z1 at *
    generalize (k : Int) = z2 at *
    generalize (qs.length : Int) = z3 at *
    generalize S1 (kn.filter fun c => decide (c ≠ o)) = ff at *
    generalize [c] = cc at *
    generalize [o] = oo at *
    generalize optD l = dl at *
    generalize optD rr = dr at *
    generalize S1 kn = es at *
    simp [bodyT, e1, e2, e3, e4, e5, hit, e6, e7, hi, hkl, hc, e8, e9, e10, hrl, lt, ad, em, ed, emo, oi]
  · have lt : oCmp fLt sLt (.int (qs.length : Int)) (.int 6) = some (.bl false) := by
      show some (D.bl (decide _)) = _
      rw [decide_eq_false (by omega)]
    rw [hqr]
    clear hp hfl hcm hck m3 P hqr
    generalize [outs qs s, s, t].map D.str = three at *
    generalize outs qs s = os at *
    generalize courseD qs = CD at *
    generalize qs.map Ru.row = rows at *
    generalize (long st k).map D.str = ll at *
    generalize ((8 - st.length : Nat) : Int) = z1 at *
    generalize (k : Int) = z2 at *
    generalize (qs.length : Int) = z3 at *
    generalize S1 (kn.filter fun c => decide (c ≠ o)) = ff at *
    generalize [c] = cc at *
    generalize [o] = oo at *
    generalize optD l = dl at *
    generalize optD rr = dr at *
    generalize S1 kn = es at *
    simp [bodyT, e1, e2, e3, e4, e5, hit, e6, e7, hi, hkl, hc, e8, e9, e10, hrl, lt]
end K16
end
section
set_option Elab.async false
set_option linter.all false
set_option maxRecDepth 100000
set_option maxHeartbeats 4000000
namespace K16
open PySem PySem.Spec PyProof.Rows L2 FT
def qAB : Ru := ⟨97, [98], none, none⟩
theorem co_AB : Co [qAB] := ⟨fun q hq => by
  rw [List.mem_singleton.mp hq]
  exact ⟨by decide, .inr ⟨98, rfl, by decide, by decide⟩, trivial, trivial⟩, fun q hq => by
  rw [List.mem_singleton.mp hq]
  exact ⟨98, rfl⟩, by simp⟩
theorem ev_AB (sd : SD) (w : List D) : courseAB sd w = .ok (courseD [qAB]) w := by
  have mk : mMakeG 8 2 0 [0, 1, 2, 3] [.non, .non] (nArgN 4 f_Shift_init) (mCons (mC (.str [97])) (mCons (mC (.str [98])) mNil)) mNil sd w = .ok qAB.d w :=
    make_run (ds := [.str [97], .str [98]]) (es := []) (w1 := w) (w2 := w) (by simp) rfl rfl rfl (ev_init (co_AB.ok qAB (by simp)) w)
  refine make_run (ds := [.lst ([qAB].map Ru.d)]) (es := []) (w1 := w) (w2 := w) ?_ rfl rfl rfl (ev_Course_init [qAB] (by simp) w)
  rw [List.map_cons, List.map_nil]
  generalize qAB.d = qd at *
  generalize (mMakeG 8 2 0 [0, 1, 2, 3] [.non, .non] (nArgN 4 f_Shift_init) (mCons (mC (.str [97])) (mCons (mC (.str [98])) mNil)) mNil) = mm at *
  simp [mk]
theorem sent_AB : sentW [qAB] [97, 98] (List.replicate 6 98) = long [97, 98] 6 := by
  unfold sentW
  rw [List.length_replicate]
  apply List.filter_eq_self.mpr
  intro w hw
  obtain ⟨hl, hm⟩ := long_mem hw
  apply decide_eq_true
  apply List.ext_getElem?
  intro j
  show (pcs _ [98] 0 w).flatten[j]? = _
  rw [pcs_one, Nat.zero_add]
  by_cases hj : j < 6
  · have hjw : j < w.length := by omega
    rw [List.getElem?_eq_getElem hjw, List.getElem?_replicate, if_pos hj]
    have hc := hm _ (List.getElem_mem hjw)
    show some (if hitB 97 none none w j = true then 98 else w[j]) = some 98
    have hh : hitB 97 none none w j = decide (w[j] = 97) := by
      unfold hitB
      rw [List.getElem?_eq_getElem hjw]
      simp [besB]
    rw [hh]
    rcases List.mem_cons.mp hc with h | h
    · rw [h]; rfl
    · rw [List.mem_singleton.mp h]; rfl
  · rw [List.getElem?_eq_none (by omega), List.getElem?_eq_none (by rw [List.length_replicate]; omega)]; rfl
theorem ev_law {w : List D} (W : Well 0 w) (a : SV) : ∃ w', b_f_law [a, .val .pen, .no, .no, .no, .no, .no, .no, .no, .no, .no, .no, .no, .no, .no, .no] w = .ret (.bl true) w' := by
  obtain ⟨qs, st, kn, w1, m1, e1, C, S, h4, K, h2, hm1, W1⟩ := ev_world W (by omega)
  have hsp := S.pos
  have e2 := ev_law_made C w1
  have l1 : fLen w1 [.str st] = some (.int (st.length : Int)) := rfl
  have s1 : oSub (.int (st.length : Int)) (.int 1) = some (.int ((st.length : Int) - 1)) := rfl
  have ix : oIx w1 (.lst [.int 7, .int 6, .int 5, .int 4]) (.int ((st.length : Int) - 1)) = some (.int ((8 - st.length : Nat) : Int)) := by
    have : st.length = 1 ∨ st.length = 2 ∨ st.length = 3 ∨ st.length = 4 := by omega
    rcases this with h | h | h | h <;> rw [h] <;> rfl
  rcases forL_inv (g := gN 7) (body := bodyT) (fun i sd w => i ≤ 3 ∧ (∃ t7 t8 t9 t10 t11 t12 t13 t14, sd = [a, .val .pen, .val (.lst (qs.map Ru.row)), .val (.str st), .val (.str kn), .val (courseD qs), .val (.int ((8 - st.length : Nat) : Int)), t7, t8, t9, t10, t11, t12, t13, t14, .no]) ∧ ∃ m, m ≤ 300 + 60 * i ∧ Well m w) (fun _ _ => False) (rngD 0 3) 0
    [a, .val .pen, .val (.lst (qs.map Ru.row)), .val (.str st), .val (.str kn), .val (courseD qs), .val (.int ((8 - st.length : Nat) : Int)), .no, .no, .no, .no, .no, .no, .no, .no, .no] w1 ⟨by omega, ⟨_, _, _, _, _, _, _, _, rfl⟩, m1, by omega, W1⟩
    (fun j x sd w hx hj => by
      rw [Nat.zero_add] at hj ⊢
      obtain ⟨_, ⟨t7, t8, t9, t10, t11, t12, t13, t14, rfl⟩, m, hm, W⟩ := hj
      have hj3 : j < 3 := (List.getElem?_eq_some_iff.mp hx).1
      obtain ⟨u8, u9, u10, u11, u12, u13, u14, w', m2, e, hm2, W'⟩ := ev_turn C S h4 K h2 W (by omega) a (.val x) t8 t9 t10 t11 t12 t13 t14 .no
      exact ⟨_, rfl, .inl ⟨_, w', e, by omega, ⟨_, _, _, _, _, _, _, _, rfl⟩, m2, by omega, W'⟩⟩) with ⟨sd2, w2, e3, _, ⟨t7, t8, t9, t10, t11, t12, t13, t14, rfl⟩, m, hm, W2⟩ | ⟨_, _, _, h⟩
  · have hr3 : (rngD 0 3).length = 3 := rfl
    rw [hr3] at hm
    have a1 := ev_AB
    have ob : oMul (.str [98]) (.int 6) = some (.str (List.replicate 6 98)) := rfl
    have SAB : Stk [97, 98] := ⟨by decide, by decide, by decide, by decide⟩
    have a2 := ev_mothers co_AB SAB.B SAB.few SAB.let_ (List.replicate 6 98) (by simp) (fun c hc => by rw [(List.mem_replicate.mp hc).2]; decide) w2
    rw [sent_AB] at a2
    have a3 : f__law_long [.str [97, 98], .int 6] w2 = .ok (.lst ((long [97, 98] 6).map D.str)) w2 := ev_law_long (st := [97, 98]) (by decide) 6 (by omega) w2
    have q1 := oEq_tups true (long [97, 98] 6)
    simp only [if_true] at q1
    have sl1 : oSl (.str st) none (some 1) = some (.str (st.take 1)) := by
      show some (D.str (FT.cutD st none (some ((1 : Nat) : Int)))) = _
      rw [cut_to]
    have sl2 : oSl (.str st) none (some 2) = some (.str (st.take 2)) := by
      show some (D.str (FT.cutD st none (some ((2 : Nat) : Int)))) = _
      rw [cut_to]
    obtain ⟨s, w3, e4, z1, z2, W3⟩ := ev_law_word (st := st.take 1) (by rw [List.length_take]; omega) (by rw [List.length_take]; omega) 6 (by omega) W2 (by omega)
    have hsS : ∀ c ∈ s, c ∈ st := fun c hc => List.mem_of_mem_take (z2 c hc)
    have hs2 : ∀ c ∈ s, c ∈ st.take 2 := fun c hc => by
      have h1 := z2 c hc
      have : st.take 1 = (st.take 2).take 1 := by rw [List.take_take]; rfl
      rw [this] at h1
      exact List.mem_of_mem_take h1
    have hsL : ∀ c ∈ s, c ∈ LET := fun c hc => S.let_ c (hsS c hc)
    have T2 : Stk (st.take 2) := ⟨S.srt.sublist (List.take_sublist _ _), fun c hc => S.let_ c (List.mem_of_mem_take hc), by rw [List.length_take]; omega, by rw [List.length_take]; omega⟩
    have e5 := ev_law_done qs C.ok s (by omega) w3
    have e6 := ev_mothers C T2.B T2.few T2.let_ (outs qs s) (by rw [outs_len qs s C.firm]; omega) (outs_let qs C.ok s hsL) w3
    have oi := oInT_strs false s (sentW qs (st.take 2) (outs qs s))
    rw [decide_eq_true (sent_mem C.firm hs2)] at oi
    simp only [Bool.false_eq_true, if_false] at oi
    have e7 := ev_mothers C S.B S.few S.let_ [] (by simp) (fun c hc => absurd hc (by simp)) w3
    have hs0 : sentW qs st [] = [[]] := by
      have h0 : outs qs [] = [] := List.length_eq_zero_iff.mp (outs_len qs [] C.firm)
      show [[]].filter _ = _
      simp [h0]
    rw [hs0] at e7
    have q2 := oEq_tups false [[]]
    simp only [Bool.false_eq_true, if_false, List.map_cons, List.map_nil] at q2 e7
    have e4' : f__law_word [.pen, .str (st.take 1), .int 6] w2 = .ok (.str s) w3 := e4
    have hsz : szD = [.tup [.int 1, .int 2], .tup [.int 2, .int 3], .tup [.int 2, .int 2], .tup [.int 1, .int 3], .tup [.int 3, .int 2], .tup [.int 0, .int 2], .tup [.int 5, .int 2], .tup [.int 6, .int 1], .tup [.int 4, .int 2], .tup [.int 1, .int 4]] := rfl
    refine ⟨w3, ?_⟩
    rw [la_split]
    rw [hsz] at e1
    clear e4 hsS hs2 z2 hsz
    generalize (sentW qs (st.take 2) (outs qs s)).map D.str = sw at *
    generalize (long [97, 98] 6).map D.str = ll at *
    generalize List.replicate 6 98 = rp at *
    generalize outs qs s = os at *
    generalize courseD [qAB] = CAB at *
    generalize courseD qs = CD at *
    generalize qs.map Ru.row = rows at *
    generalize st.take 1 = st1 at *
    generalize st.take 2 = st2 at *
    generalize (st.length : Int) - 1 = z3 at *
    generalize ((8 - st.length : Nat) : Int) = z4 at *
    generalize (st.length : Int) = z5 at *
    simp [e1, e2, l1, s1, ix, e3, a1, ob, a2, a3, fTuple, q1, sl1, e4', sl2, e5, e6, oi, e7, q2]
  · exact h.elim
def Pre (ns : List Int) : Prop := ns.length ≤ 63 ∧ ∀ z ∈ ns, Builtin.Int.intBits z ≤ 1048576
theorem pre_ok : ∀ ns : List Int, ns.length ≤ 63 → (∀ z ∈ ns, Builtin.Int.intBits z ≤ 1048576) → Pre ns := fun _ h1 h2 => ⟨h1, h2⟩
theorem pure_law : ∀ ns, Pre ns → ∃ cells w', f__law_pen [.frz (ns.map D.int)] [] = .ok cells [] ∧ b_f_law (.val (.frz (ns.map D.int)) :: .val .pen :: List.replicate 14 .no) cells = .ret (.bl true) w' := by
  intro ns _
  have hcut : oSl (.frz (ns.map D.int)) none (some 60) = some (.lst ((ns.take 60).map D.int)) := by
    show some (D.lst (((ns.map D.int).drop 0).take (min 60 (ns.map D.int).length - 0))) = _
    rw [List.drop_zero, Nat.sub_zero, List.length_map]
    congr 2
    rw [← List.map_take]
    congr 1
    rcases Nat.le_total 60 ns.length with h | h
    · rw [Nat.min_eq_left h]
    · rw [Nat.min_eq_right h, List.take_of_length_le (Nat.le_refl _), List.take_of_length_le h]
  have hc : compL (gN 1) mYes (mCB fInt (mCons (mVB 1) mNil)) [.val (.frz (ns.map D.int)), .no] ((ns.take 60).map D.int) [] = some ((ns.take 60).map D.int, []) := by
    rw [compL_map id, List.map_id]
    intro d hd
    obtain ⟨z, _, rfl⟩ := List.mem_map.mp hd
    exact ⟨_, rfl, by simp [fInt]⟩
  have hl : ((ns.take 60).map D.int).length ≤ 16777216 := by rw [List.length_map, List.length_take]; omega
  have hl2 : (ns.take 60).length ≤ 60 := by rw [List.length_take]; omega
  obtain ⟨w', e⟩ := ev_law (w := [.lst ((ns.take 60).map D.int), .int 0, .int 0]) ⟨ns.take 60, 0, 0, rfl, hl2, by omega, by omega⟩ (.val (.frz (ns.map D.int)))
  refine ⟨_, w', ?_, e⟩
  generalize (ns.take 60).map D.int = u at *
  generalize D.frz (ns.map D.int) = z at *
  simp [f__law_pen, m__law_pen, sd0, hcut, items, hl, hc]
end K16
end
section
set_option Elab.async false
set_option linter.all false
set_option maxRecDepth 100000
set_option maxHeartbeats 4000000
namespace K16
open PySem PySem.Spec PyProof.Rows L2 LamX FT PySem.HandSPX
theorem all_mk {l : PySem.W.OpenLaw} {w : World} {K : PySem.W.Frag} {h : Heap} {mg : Str → Option Value} {fa : Addr} (X : K.In h) (G : h.Ns mainGlobals mg) (hfa : mg "law" = some (.ref fa))
    {C_Course : Addr}
    {C_Shift : Addr}
    {f_Course_init : Addr}
    {f_Shift_init : Addr}
    {f_Course_done : Addr}
    {f__law_pen : Addr} {oc__law_pen kV__law_pen dc__law_pen pm__law_pen ct__law_pen : Value} {od__law_pen an__law_pen : Option Addr} {sl__law_pen : Array (Option Value)}
    {cd__law_pen : Value}
    {f__law_draw : Addr} {oc__law_draw kV__law_draw dc__law_draw pm__law_draw ct__law_draw : Value} {od__law_draw an__law_draw : Option Addr} {sl__law_draw : Array (Option Value)}
    {cd__law_draw : Value}
    {f__law_pick : Addr} {oc__law_pick kV__law_pick dc__law_pick pm__law_pick ct__law_pick : Value} {od__law_pick an__law_pick : Option Addr} {sl__law_pick : Array (Option Value)}
    {cd__law_pick : Value}
    {f__law_side : Addr} {oc__law_side kV__law_side dc__law_side pm__law_side ct__law_side : Value} {od__law_side an__law_side : Option Addr} {sl__law_side : Array (Option Value)}
    {cd__law_side : Value}
    {f__law_world : Addr} {oc__law_world kV__law_world dc__law_world pm__law_world ct__law_world : Value} {od__law_world an__law_world : Option Addr} {sl__law_world : Array (Option Value)}
    {cd__law_world : Value}
    {f__law_word : Addr} {oc__law_word kV__law_word dc__law_word pm__law_word ct__law_word : Value} {od__law_word an__law_word : Option Addr} {sl__law_word : Array (Option Value)}
    {cd__law_word : Value}
    {f_sounds_in_shifts : Addr} {oc_sounds_in_shifts kV_sounds_in_shifts dc_sounds_in_shifts pm_sounds_in_shifts ct_sounds_in_shifts : Value} {od_sounds_in_shifts an_sounds_in_shifts : Option Addr} {sl_sounds_in_shifts : Array (Option Value)}
    {cd_sounds_in_shifts : Value}
    {oc_Course_init kV_Course_init dc_Course_init pm_Course_init ct_Course_init : Value} {od_Course_init an_Course_init : Option Addr} {sl_Course_init : Array (Option Value)}
    {cd_Course_init : Value}
    {f_is_sound : Addr} {oc_is_sound kV_is_sound dc_is_sound pm_is_sound ct_is_sound : Value} {od_is_sound an_is_sound : Option Addr} {sl_is_sound : Array (Option Value)}
    {cd_is_sound : Value}
    {f_is_new : Addr} {oc_is_new kV_is_new dc_is_new pm_is_new ct_is_new : Value} {od_is_new an_is_new : Option Addr} {sl_is_new : Array (Option Value)}
    {cd_is_new : Value}
    {f_is_side : Addr} {oc_is_side kV_is_side dc_is_side pm_is_side ct_is_side : Value} {od_is_side an_is_side : Option Addr} {sl_is_side : Array (Option Value)}
    {cd_is_side : Value}
    {oc_Shift_init kV_Shift_init dc_Shift_init pm_Shift_init ct_Shift_init : Value} {od_Shift_init an_Shift_init : Option Addr} {sl_Shift_init : Array (Option Value)}
    {cd_Shift_init : Value}
    {T0_Shift_init : Addr}
    {toc_Shift_init : Value} {tod_Shift_init : Option Addr} {tn_Shift_init : Nat} {tsl_Shift_init : Array (Option Value)} {u0_Shift_init u1_Shift_init : Value}
    {f__law_made : Addr} {oc__law_made kV__law_made dc__law_made pm__law_made ct__law_made : Value} {od__law_made an__law_made : Option Addr} {sl__law_made : Array (Option Value)}
    {cd__law_made : Value}
    {f_need_course : Addr} {oc_need_course kV_need_course dc_need_course pm_need_course ct_need_course : Value} {od_need_course an_need_course : Option Addr} {sl_need_course : Array (Option Value)}
    {cd_need_course : Value}
    {f_is_stock : Addr} {oc_is_stock kV_is_stock dc_is_stock pm_is_stock ct_is_stock : Value} {od_is_stock an_is_stock : Option Addr} {sl_is_stock : Array (Option Value)}
    {cd_is_stock : Value}
    {f_need_stock : Addr} {oc_need_stock kV_need_stock dc_need_stock pm_need_stock ct_need_stock : Value} {od_need_stock an_need_stock : Option Addr} {sl_need_stock : Array (Option Value)}
    {cd_need_stock : Value}
    {f_is_word : Addr} {oc_is_word kV_is_word dc_is_word pm_is_word ct_is_word : Value} {od_is_word an_is_word : Option Addr} {sl_is_word : Array (Option Value)}
    {cd_is_word : Value}
    {f_need_word : Addr} {oc_need_word kV_need_word dc_need_word pm_need_word ct_need_word : Value} {od_need_word an_need_word : Option Addr} {sl_need_word : Array (Option Value)}
    {cd_need_word : Value}
    {f_need_standing : Addr} {oc_need_standing kV_need_standing dc_need_standing pm_need_standing ct_need_standing : Value} {od_need_standing an_need_standing : Option Addr} {sl_need_standing : Array (Option Value)}
    {cd_need_standing : Value}
    {f_most_sounds : Addr} {oc_most_sounds kV_most_sounds dc_most_sounds pm_most_sounds ct_most_sounds : Value} {od_most_sounds an_most_sounds : Option Addr} {sl_most_sounds : Array (Option Value)}
    {cd_most_sounds : Value}
    {f_room_with : Addr} {oc_room_with kV_room_with dc_room_with pm_room_with ct_room_with : Value} {od_room_with an_room_with : Option Addr} {sl_room_with : Array (Option Value)}
    {cd_room_with : Value}
    {f_sounds_in_rooms : Addr} {oc_sounds_in_rooms kV_sounds_in_rooms dc_sounds_in_rooms pm_sounds_in_rooms ct_sounds_in_rooms : Value} {od_sounds_in_rooms an_sounds_in_rooms : Option Addr} {sl_sounds_in_rooms : Array (Option Value)}
    {cd_sounds_in_rooms : Value}
    {f_is_beside : Addr} {oc_is_beside kV_is_beside dc_is_beside pm_is_beside ct_is_beside : Value} {od_is_beside an_is_beside : Option Addr} {sl_is_beside : Array (Option Value)}
    {cd_is_beside : Value}
    {f_places_in : Addr} {oc_places_in kV_places_in dc_places_in pm_places_in ct_places_in : Value} {od_places_in an_places_in : Option Addr} {sl_places_in : Array (Option Value)}
    {cd_places_in : Value}
    {f_done_by : Addr} {oc_done_by kV_done_by dc_done_by pm_done_by ct_done_by : Value} {od_done_by an_done_by : Option Addr} {sl_done_by : Array (Option Value)}
    {cd_done_by : Value}
    {f_steps_of : Addr} {oc_steps_of kV_steps_of dc_steps_of pm_steps_of ct_steps_of : Value} {od_steps_of an_steps_of : Option Addr} {sl_steps_of : Array (Option Value)}
    {cd_steps_of : Value}
    {f_outcome_of : Addr} {oc_outcome_of kV_outcome_of dc_outcome_of pm_outcome_of ct_outcome_of : Value} {od_outcome_of an_outcome_of : Option Addr} {sl_outcome_of : Array (Option Value)}
    {cd_outcome_of : Value}
    {f_step_in : Addr} {oc_step_in kV_step_in dc_step_in pm_step_in ct_step_in : Value} {od_step_in an_step_in : Option Addr} {sl_step_in : Array (Option Value)}
    {cd_step_in : Value}
    {f_rest_in : Addr} {oc_rest_in kV_rest_in dc_rest_in pm_rest_in ct_rest_in : Value} {od_rest_in an_rest_in : Option Addr} {sl_rest_in : Array (Option Value)}
    {cd_rest_in : Value}
    {f_mothers_of : Addr} {oc_mothers_of kV_mothers_of dc_mothers_of pm_mothers_of ct_mothers_of : Value} {od_mothers_of an_mothers_of : Option Addr} {sl_mothers_of : Array (Option Value)}
    {cd_mothers_of : Value}
    {f__law_long : Addr} {oc__law_long kV__law_long dc__law_long pm__law_long ct__law_long : Value} {od__law_long an__law_long : Option Addr} {sl__law_long : Array (Option Value)}
    {cd__law_long : Value}
    {f__law_done : Addr} {oc__law_done kV__law_done dc__law_done pm__law_done ct__law_done : Value} {od__law_done an__law_done : Option Addr} {sl__law_done : Array (Option Value)}
    {cd__law_done : Value}
    {oc_Course_done kV_Course_done dc_Course_done pm_Course_done ct_Course_done : Value} {od_Course_done an_Course_done : Option Addr} {sl_Course_done : Array (Option Value)}
    {cd_Course_done : Value}
    {f__law_sent_right : Addr} {oc__law_sent_right kV__law_sent_right dc__law_sent_right pm__law_sent_right ct__law_sent_right : Value} {od__law_sent_right an__law_sent_right : Option Addr} {sl__law_sent_right : Array (Option Value)}
    {cd__law_sent_right : Value}
    {f_law : Addr} {oc_law kV_law dc_law pm_law ct_law : Value} {od_law an_law : Option Addr} {sl_law : Array (Option Value)}
    {cd_law : Value}
    {t_BEGIN : Tok}
    {t_EDGE : Tok}
    {t_LETTERS : Tok}
    {t_MOST_SHIFTS : Tok}
    {t_MOST_SOUNDS_checks : Tok}
    {t_MOST_SOUNDS_fallen : Tok}
    {t_MOST_STOCK : Tok}
    {C_BadWord N_BadWord : Addr} {nm_BadWord q_BadWord : Str} {bs_BadWord bm_BadWord sub_BadWord : List Value} {sn_BadWord : List Str} {ab_BadWord : Bool} {col_BadWord : Option Bool} {dd_BadWord : Option Addr} {m0_BadWord m1_BadWord m2_BadWord m3_BadWord m5_BadWord : Option Value}
    {C_BadStock N_BadStock : Addr} {nm_BadStock q_BadStock : Str} {bs_BadStock bm_BadStock sub_BadStock : List Value} {sn_BadStock : List Str} {ab_BadStock : Bool} {col_BadStock : Option Bool} {dd_BadStock : Option Addr} {m0_BadStock m1_BadStock m2_BadStock m3_BadStock m5_BadStock : Option Value}
    {C_BadCourse N_BadCourse : Addr} {nm_BadCourse q_BadCourse : Str} {bs_BadCourse bm_BadCourse sub_BadCourse : List Value} {sn_BadCourse : List Str} {ab_BadCourse : Bool} {col_BadCourse : Option Bool} {dd_BadCourse : Option Addr} {m0_BadCourse m1_BadCourse m2_BadCourse m3_BadCourse m5_BadCourse : Option Value}
    {C_TooMany N_TooMany : Addr} {nm_TooMany q_TooMany : Str} {bs_TooMany bm_TooMany sub_TooMany : List Value} {sn_TooMany : List Str} {ab_TooMany : Bool} {col_TooMany : Option Bool} {dd_TooMany : Option Addr} {m0_TooMany m1_TooMany m2_TooMany m3_TooMany m5_TooMany : Option Value}
    {C_BadText N_BadText : Addr} {nm_BadText q_BadText : Str} {bs_BadText bm_BadText sub_BadText : List Value} {sn_BadText : List Str} {ab_BadText : Bool} {col_BadText : Option Bool} {dd_BadText : Option Addr} {m0_BadText m1_BadText m2_BadText m3_BadText m5_BadText : Option Value}
    {C_BadShift N_BadShift : Addr} {nm_BadShift q_BadShift : Str} {bs_BadShift bm_BadShift sub_BadShift : List Value} {sn_BadShift : List Str} {ab_BadShift : Bool} {col_BadShift : Option Bool} {dd_BadShift : Option Addr} {m0_BadShift m1_BadShift m2_BadShift m3_BadShift m5_BadShift : Option Value}
    {C_NoShift N_NoShift : Addr} {nm_NoShift q_NoShift : Str} {bs_NoShift bm_NoShift sub_NoShift : List Value} {sn_NoShift : List Str} {ab_NoShift : Bool} {col_NoShift : Option Bool} {dd_NoShift : Option Addr} {m0_NoShift m1_NoShift m2_NoShift m3_NoShift m5_NoShift : Option Value}
    {fi_BadWord : Addr} {oc_i_BadWord kV_i_BadWord dc_i_BadWord pm_i_BadWord ct_i_BadWord cd_i_BadWord : Value} {od_i_BadWord an_i_BadWord : Option Addr} {sl_i_BadWord : Array (Option Value)}
    {fi_BadStock : Addr} {oc_i_BadStock kV_i_BadStock dc_i_BadStock pm_i_BadStock ct_i_BadStock cd_i_BadStock : Value} {od_i_BadStock an_i_BadStock : Option Addr} {sl_i_BadStock : Array (Option Value)}
    {fi_BadCourse : Addr} {oc_i_BadCourse kV_i_BadCourse dc_i_BadCourse pm_i_BadCourse ct_i_BadCourse cd_i_BadCourse : Value} {od_i_BadCourse an_i_BadCourse : Option Addr} {sl_i_BadCourse : Array (Option Value)}
    {fi_TooMany : Addr} {oc_i_TooMany kV_i_TooMany dc_i_TooMany pm_i_TooMany ct_i_TooMany cd_i_TooMany : Value} {od_i_TooMany an_i_TooMany : Option Addr} {sl_i_TooMany : Array (Option Value)}
    {fi_BadText : Addr} {oc_i_BadText kV_i_BadText dc_i_BadText pm_i_BadText ct_i_BadText cd_i_BadText : Value} {od_i_BadText an_i_BadText : Option Addr} {sl_i_BadText : Array (Option Value)}
    {fi_BadShift : Addr} {oc_i_BadShift kV_i_BadShift dc_i_BadShift pm_i_BadShift ct_i_BadShift cd_i_BadShift : Value} {od_i_BadShift an_i_BadShift : Option Addr} {sl_i_BadShift : Array (Option Value)}
    {fi_Missing : Addr} {oc_i_Missing kV_i_Missing dc_i_Missing pm_i_Missing ct_i_Missing cd_i_Missing : Value} {od_i_Missing an_i_Missing : Option Addr} {sl_i_Missing : Array (Option Value)}
    
    (aC_Course : PySem.W.nsIn K mainGlobals "Course" = some (some (.ref C_Course)))
    (pg_Course : PySem.W.plainGet K C_Course Str.empty = true)
    (hd_Course : PySem.W.hasDictIn K C_Course = true)
    (po_Course : PySem.W.plainOver K C_Course = true)
    (sa_Course : PySem.W.findIn K (.ref C_Course) "__setattr__" = some (some (.builtin "object.__setattr__")))
    (oa_Course : PySem.W.findIn K (.ref C_Course) "__class__" = some (some (.builtin "object.__class__")))
    (om_Course : PySem.W.mroIn K C_Course (.type "object") = some true)
    (mm_Course : PySem.W.makesIn K C_Course = true)
    (mi_Course : PySem.W.findIn K (.ref C_Course) "__init__" = some (some (.ref f_Course_init)))
    (mf_Course : PySem.W.isFn K (.ref f_Course_init) = true)
    (mp_Course : PySem.W.keepIn K (.ref C_Course) = true)
    (ma_Course_done : PySem.W.findIn K (.ref C_Course) "done" = some (some (.ref f_Course_done)))
    (mn_Course_done : PySem.W.isFn K (.ref f_Course_done) = true)
    (mk_Course_done : PySem.W.keepIn K (.ref f_Course_done) = true)
    (na_Course_shifts : PySem.W.findIn K (.ref C_Course) "shifts" = some none)
    (na_Course_falls : PySem.W.findIn K (.ref C_Course) "falls" = some none)
    (na_Course_sounds : PySem.W.findIn K (.ref C_Course) "sounds" = some none)
    (aC_Shift : PySem.W.nsIn K mainGlobals "Shift" = some (some (.ref C_Shift)))
    (pg_Shift : PySem.W.plainGet K C_Shift Str.empty = true)
    (hd_Shift : PySem.W.hasDictIn K C_Shift = true)
    (po_Shift : PySem.W.plainOver K C_Shift = true)
    (sa_Shift : PySem.W.findIn K (.ref C_Shift) "__setattr__" = some (some (.builtin "object.__setattr__")))
    (oa_Shift : PySem.W.findIn K (.ref C_Shift) "__class__" = some (some (.builtin "object.__class__")))
    (om_Shift : PySem.W.mroIn K C_Shift (.type "object") = some true)
    (mm_Shift : PySem.W.makesIn K C_Shift = true)
    (mi_Shift : PySem.W.findIn K (.ref C_Shift) "__init__" = some (some (.ref f_Shift_init)))
    (mf_Shift : PySem.W.isFn K (.ref f_Shift_init) = true)
    (mp_Shift : PySem.W.keepIn K (.ref C_Shift) = true)
    (na_Shift_falls : PySem.W.findIn K (.ref C_Shift) "falls" = some none)
    (na_Shift_sounds : PySem.W.findIn K (.ref C_Shift) "sounds" = some none)
    (na_Shift_old : PySem.W.findIn K (.ref C_Shift) "old" = some none)
    (na_Shift_new : PySem.W.findIn K (.ref C_Shift) "new" = some none)
    (na_Shift_left : PySem.W.findIn K (.ref C_Shift) "left" = some none)
    (na_Shift_right : PySem.W.findIn K (.ref C_Shift) "right" = some none)
    (kn : PySem.W.specialIn K (.builtin "object.__class__") "__get__" = some (some (.builtin "getset_descriptor.__get__")))
    (kt : PySem.W.takesIn K (.builtin "object.__class__") = some true)
    (ki_Shift_Course : PySem.W.kitOne K (.ref C_Course) (.ref C_Shift) = some false)
    (ki_Shift_Shift : PySem.W.kitOne K (.ref C_Shift) (.ref C_Shift) = some true)
    (kb_Shift_NoneType : PySem.W.kitOne K (.type "NoneType") (.ref C_Shift) = some false)
    (kb_Shift_bool : PySem.W.kitOne K (.type "bool") (.ref C_Shift) = some false)
    (kb_Shift_int : PySem.W.kitOne K (.type "int") (.ref C_Shift) = some false)
    (kb_Shift_str : PySem.W.kitOne K (.type "str") (.ref C_Shift) = some false)
    (kb_Shift_list : PySem.W.kitOne K (.type "list") (.ref C_Shift) = some false)
    (kb_Shift_tuple : PySem.W.kitOne K (.type "tuple") (.ref C_Shift) = some false)
    (ki_Course_Course : PySem.W.kitOne K (.ref C_Course) (.ref C_Course) = some true)
    (ki_Course_Shift : PySem.W.kitOne K (.ref C_Shift) (.ref C_Course) = some false)
    (kb_Course_NoneType : PySem.W.kitOne K (.type "NoneType") (.ref C_Course) = some false)
    (kb_Course_bool : PySem.W.kitOne K (.type "bool") (.ref C_Course) = some false)
    (kb_Course_int : PySem.W.kitOne K (.type "int") (.ref C_Course) = some false)
    (kb_Course_str : PySem.W.kitOne K (.type "str") (.ref C_Course) = some false)
    (kb_Course_list : PySem.W.kitOne K (.type "list") (.ref C_Course) = some false)
    (kb_Course_tuple : PySem.W.kitOne K (.type "tuple") (.ref C_Course) = some false)
    (a__law_pen : PySem.W.nsIn K mainGlobals "_law_pen" = some (some (.ref f__law_pen)))
    (l__law_pen : K.lookup f__law_pen = some ⟨oc__law_pen, od__law_pen, .func (PySem.W.fnOf "_law_pen" "_law_pen" (defArgs s__law_pen) (defBody s__law_pen) (defScope s__law_pen) .none kV__law_pen dc__law_pen pm__law_pen an__law_pen cd__law_pen ct__law_pen), sl__law_pen⟩)
    (c__law_pen : PySem.W.codeIn K cd__law_pen "_law_pen" = true)
    (k__law_pen : PySem.W.keepIn K (.ref f__law_pen) = true)
    (a__law_draw : PySem.W.nsIn K mainGlobals "_law_draw" = some (some (.ref f__law_draw)))
    (l__law_draw : K.lookup f__law_draw = some ⟨oc__law_draw, od__law_draw, .func (PySem.W.fnOf "_law_draw" "_law_draw" (defArgs s__law_draw) (defBody s__law_draw) (defScope s__law_draw) .none kV__law_draw dc__law_draw pm__law_draw an__law_draw cd__law_draw ct__law_draw), sl__law_draw⟩)
    (c__law_draw : PySem.W.codeIn K cd__law_draw "_law_draw" = true)
    (k__law_draw : PySem.W.keepIn K (.ref f__law_draw) = true)
    (a__law_pick : PySem.W.nsIn K mainGlobals "_law_pick" = some (some (.ref f__law_pick)))
    (l__law_pick : K.lookup f__law_pick = some ⟨oc__law_pick, od__law_pick, .func (PySem.W.fnOf "_law_pick" "_law_pick" (defArgs s__law_pick) (defBody s__law_pick) (defScope s__law_pick) .none kV__law_pick dc__law_pick pm__law_pick an__law_pick cd__law_pick ct__law_pick), sl__law_pick⟩)
    (c__law_pick : PySem.W.codeIn K cd__law_pick "_law_pick" = true)
    (k__law_pick : PySem.W.keepIn K (.ref f__law_pick) = true)
    (a__law_side : PySem.W.nsIn K mainGlobals "_law_side" = some (some (.ref f__law_side)))
    (l__law_side : K.lookup f__law_side = some ⟨oc__law_side, od__law_side, .func (PySem.W.fnOf "_law_side" "_law_side" (defArgs s__law_side) (defBody s__law_side) (defScope s__law_side) .none kV__law_side dc__law_side pm__law_side an__law_side cd__law_side ct__law_side), sl__law_side⟩)
    (c__law_side : PySem.W.codeIn K cd__law_side "_law_side" = true)
    (k__law_side : PySem.W.keepIn K (.ref f__law_side) = true)
    (a__law_world : PySem.W.nsIn K mainGlobals "_law_world" = some (some (.ref f__law_world)))
    (l__law_world : K.lookup f__law_world = some ⟨oc__law_world, od__law_world, .func (PySem.W.fnOf "_law_world" "_law_world" (defArgs s__law_world) (defBody s__law_world) (defScope s__law_world) .none kV__law_world dc__law_world pm__law_world an__law_world cd__law_world ct__law_world), sl__law_world⟩)
    (c__law_world : PySem.W.codeIn K cd__law_world "_law_world" = true)
    (k__law_world : PySem.W.keepIn K (.ref f__law_world) = true)
    (a__law_word : PySem.W.nsIn K mainGlobals "_law_word" = some (some (.ref f__law_word)))
    (l__law_word : K.lookup f__law_word = some ⟨oc__law_word, od__law_word, .func (PySem.W.fnOf "_law_word" "_law_word" (defArgs s__law_word) (defBody s__law_word) (defScope s__law_word) .none kV__law_word dc__law_word pm__law_word an__law_word cd__law_word ct__law_word), sl__law_word⟩)
    (c__law_word : PySem.W.codeIn K cd__law_word "_law_word" = true)
    (k__law_word : PySem.W.keepIn K (.ref f__law_word) = true)
    (a_sounds_in_shifts : PySem.W.nsIn K mainGlobals "sounds_in_shifts" = some (some (.ref f_sounds_in_shifts)))
    (l_sounds_in_shifts : K.lookup f_sounds_in_shifts = some ⟨oc_sounds_in_shifts, od_sounds_in_shifts, .func (PySem.W.fnOf "sounds_in" "sounds_in" (defArgs s_sounds_in_shifts) (defBody s_sounds_in_shifts) (defScope s_sounds_in_shifts) .none kV_sounds_in_shifts dc_sounds_in_shifts pm_sounds_in_shifts an_sounds_in_shifts cd_sounds_in_shifts ct_sounds_in_shifts), sl_sounds_in_shifts⟩)
    (c_sounds_in_shifts : PySem.W.codeIn K cd_sounds_in_shifts "sounds_in" = true)
    (k_sounds_in_shifts : PySem.W.keepIn K (.ref f_sounds_in_shifts) = true)
    (l_Course_init : K.lookup f_Course_init = some ⟨oc_Course_init, od_Course_init, .func (PySem.W.fnOf "__init__" "Course.__init__" (defArgs s_Course_init) (defBody s_Course_init) (defScope s_Course_init) .none kV_Course_init dc_Course_init pm_Course_init an_Course_init cd_Course_init ct_Course_init), sl_Course_init⟩)
    (c_Course_init : PySem.W.codeIn K cd_Course_init "Course.__init__" = true)
    (k_Course_init : PySem.W.keepIn K (.ref f_Course_init) = true)
    (a_is_sound : PySem.W.nsIn K mainGlobals "is_sound" = some (some (.ref f_is_sound)))
    (l_is_sound : K.lookup f_is_sound = some ⟨oc_is_sound, od_is_sound, .func (PySem.W.fnOf "is_sound" "is_sound" (defArgs s_is_sound) (defBody s_is_sound) (defScope s_is_sound) .none kV_is_sound dc_is_sound pm_is_sound an_is_sound cd_is_sound ct_is_sound), sl_is_sound⟩)
    (c_is_sound : PySem.W.codeIn K cd_is_sound "is_sound" = true)
    (k_is_sound : PySem.W.keepIn K (.ref f_is_sound) = true)
    (a_is_new : PySem.W.nsIn K mainGlobals "is_new" = some (some (.ref f_is_new)))
    (l_is_new : K.lookup f_is_new = some ⟨oc_is_new, od_is_new, .func (PySem.W.fnOf "is_new" "is_new" (defArgs s_is_new) (defBody s_is_new) (defScope s_is_new) .none kV_is_new dc_is_new pm_is_new an_is_new cd_is_new ct_is_new), sl_is_new⟩)
    (c_is_new : PySem.W.codeIn K cd_is_new "is_new" = true)
    (k_is_new : PySem.W.keepIn K (.ref f_is_new) = true)
    (a_is_side : PySem.W.nsIn K mainGlobals "is_side" = some (some (.ref f_is_side)))
    (l_is_side : K.lookup f_is_side = some ⟨oc_is_side, od_is_side, .func (PySem.W.fnOf "is_side" "is_side" (defArgs s_is_side) (defBody s_is_side) (defScope s_is_side) .none kV_is_side dc_is_side pm_is_side an_is_side cd_is_side ct_is_side), sl_is_side⟩)
    (c_is_side : PySem.W.codeIn K cd_is_side "is_side" = true)
    (k_is_side : PySem.W.keepIn K (.ref f_is_side) = true)
    (l_Shift_init : K.lookup f_Shift_init = some ⟨oc_Shift_init, od_Shift_init, .func (PySem.W.fnOf "__init__" "Shift.__init__" (defArgs s_Shift_init) (defBody s_Shift_init) (defScope s_Shift_init) (.ref T0_Shift_init) kV_Shift_init dc_Shift_init pm_Shift_init an_Shift_init cd_Shift_init ct_Shift_init), sl_Shift_init⟩)
    (c_Shift_init : PySem.W.codeIn K cd_Shift_init "Shift.__init__" = true)
    (dl_Shift_init : K.lookup T0_Shift_init = some ⟨toc_Shift_init, tod_Shift_init, .seq ([u0_Shift_init, u1_Shift_init] : List Value).toArray tn_Shift_init, tsl_Shift_init⟩)
    (dr_Shift_init : Vals [.non, .non] [u0_Shift_init, u1_Shift_init])
    (k_Shift_init : PySem.W.keepIn K (.ref f_Shift_init) = true)
    (a__law_made : PySem.W.nsIn K mainGlobals "_law_made" = some (some (.ref f__law_made)))
    (l__law_made : K.lookup f__law_made = some ⟨oc__law_made, od__law_made, .func (PySem.W.fnOf "_law_made" "_law_made" (defArgs s__law_made) (defBody s__law_made) (defScope s__law_made) .none kV__law_made dc__law_made pm__law_made an__law_made cd__law_made ct__law_made), sl__law_made⟩)
    (c__law_made : PySem.W.codeIn K cd__law_made "_law_made" = true)
    (k__law_made : PySem.W.keepIn K (.ref f__law_made) = true)
    (a_need_course : PySem.W.nsIn K mainGlobals "need_course" = some (some (.ref f_need_course)))
    (l_need_course : K.lookup f_need_course = some ⟨oc_need_course, od_need_course, .func (PySem.W.fnOf "need_course" "need_course" (defArgs s_need_course) (defBody s_need_course) (defScope s_need_course) .none kV_need_course dc_need_course pm_need_course an_need_course cd_need_course ct_need_course), sl_need_course⟩)
    (c_need_course : PySem.W.codeIn K cd_need_course "need_course" = true)
    (k_need_course : PySem.W.keepIn K (.ref f_need_course) = true)
    (a_is_stock : PySem.W.nsIn K mainGlobals "is_stock" = some (some (.ref f_is_stock)))
    (l_is_stock : K.lookup f_is_stock = some ⟨oc_is_stock, od_is_stock, .func (PySem.W.fnOf "is_stock" "is_stock" (defArgs s_is_stock) (defBody s_is_stock) (defScope s_is_stock) .none kV_is_stock dc_is_stock pm_is_stock an_is_stock cd_is_stock ct_is_stock), sl_is_stock⟩)
    (c_is_stock : PySem.W.codeIn K cd_is_stock "is_stock" = true)
    (k_is_stock : PySem.W.keepIn K (.ref f_is_stock) = true)
    (a_need_stock : PySem.W.nsIn K mainGlobals "need_stock" = some (some (.ref f_need_stock)))
    (l_need_stock : K.lookup f_need_stock = some ⟨oc_need_stock, od_need_stock, .func (PySem.W.fnOf "need_stock" "need_stock" (defArgs s_need_stock) (defBody s_need_stock) (defScope s_need_stock) .none kV_need_stock dc_need_stock pm_need_stock an_need_stock cd_need_stock ct_need_stock), sl_need_stock⟩)
    (c_need_stock : PySem.W.codeIn K cd_need_stock "need_stock" = true)
    (k_need_stock : PySem.W.keepIn K (.ref f_need_stock) = true)
    (a_is_word : PySem.W.nsIn K mainGlobals "is_word" = some (some (.ref f_is_word)))
    (l_is_word : K.lookup f_is_word = some ⟨oc_is_word, od_is_word, .func (PySem.W.fnOf "is_word" "is_word" (defArgs s_is_word) (defBody s_is_word) (defScope s_is_word) .none kV_is_word dc_is_word pm_is_word an_is_word cd_is_word ct_is_word), sl_is_word⟩)
    (c_is_word : PySem.W.codeIn K cd_is_word "is_word" = true)
    (k_is_word : PySem.W.keepIn K (.ref f_is_word) = true)
    (a_need_word : PySem.W.nsIn K mainGlobals "need_word" = some (some (.ref f_need_word)))
    (l_need_word : K.lookup f_need_word = some ⟨oc_need_word, od_need_word, .func (PySem.W.fnOf "need_word" "need_word" (defArgs s_need_word) (defBody s_need_word) (defScope s_need_word) .none kV_need_word dc_need_word pm_need_word an_need_word cd_need_word ct_need_word), sl_need_word⟩)
    (c_need_word : PySem.W.codeIn K cd_need_word "need_word" = true)
    (k_need_word : PySem.W.keepIn K (.ref f_need_word) = true)
    (a_need_standing : PySem.W.nsIn K mainGlobals "need_standing" = some (some (.ref f_need_standing)))
    (l_need_standing : K.lookup f_need_standing = some ⟨oc_need_standing, od_need_standing, .func (PySem.W.fnOf "need_standing" "need_standing" (defArgs s_need_standing) (defBody s_need_standing) (defScope s_need_standing) .none kV_need_standing dc_need_standing pm_need_standing an_need_standing cd_need_standing ct_need_standing), sl_need_standing⟩)
    (c_need_standing : PySem.W.codeIn K cd_need_standing "need_standing" = true)
    (k_need_standing : PySem.W.keepIn K (.ref f_need_standing) = true)
    (a_most_sounds : PySem.W.nsIn K mainGlobals "most_sounds" = some (some (.ref f_most_sounds)))
    (l_most_sounds : K.lookup f_most_sounds = some ⟨oc_most_sounds, od_most_sounds, .func (PySem.W.fnOf "most_sounds" "most_sounds" (defArgs s_most_sounds) (defBody s_most_sounds) (defScope s_most_sounds) .none kV_most_sounds dc_most_sounds pm_most_sounds an_most_sounds cd_most_sounds ct_most_sounds), sl_most_sounds⟩)
    (c_most_sounds : PySem.W.codeIn K cd_most_sounds "most_sounds" = true)
    (k_most_sounds : PySem.W.keepIn K (.ref f_most_sounds) = true)
    (a_room_with : PySem.W.nsIn K mainGlobals "room_with" = some (some (.ref f_room_with)))
    (l_room_with : K.lookup f_room_with = some ⟨oc_room_with, od_room_with, .func (PySem.W.fnOf "room_with" "room_with" (defArgs s_room_with) (defBody s_room_with) (defScope s_room_with) .none kV_room_with dc_room_with pm_room_with an_room_with cd_room_with ct_room_with), sl_room_with⟩)
    (c_room_with : PySem.W.codeIn K cd_room_with "room_with" = true)
    (k_room_with : PySem.W.keepIn K (.ref f_room_with) = true)
    (a_sounds_in_rooms : PySem.W.nsIn K mainGlobals "sounds_in_rooms" = some (some (.ref f_sounds_in_rooms)))
    (l_sounds_in_rooms : K.lookup f_sounds_in_rooms = some ⟨oc_sounds_in_rooms, od_sounds_in_rooms, .func (PySem.W.fnOf "sounds_in" "sounds_in" (defArgs s_sounds_in_rooms) (defBody s_sounds_in_rooms) (defScope s_sounds_in_rooms) .none kV_sounds_in_rooms dc_sounds_in_rooms pm_sounds_in_rooms an_sounds_in_rooms cd_sounds_in_rooms ct_sounds_in_rooms), sl_sounds_in_rooms⟩)
    (c_sounds_in_rooms : PySem.W.codeIn K cd_sounds_in_rooms "sounds_in" = true)
    (k_sounds_in_rooms : PySem.W.keepIn K (.ref f_sounds_in_rooms) = true)
    (a_is_beside : PySem.W.nsIn K mainGlobals "is_beside" = some (some (.ref f_is_beside)))
    (l_is_beside : K.lookup f_is_beside = some ⟨oc_is_beside, od_is_beside, .func (PySem.W.fnOf "is_beside" "is_beside" (defArgs s_is_beside) (defBody s_is_beside) (defScope s_is_beside) .none kV_is_beside dc_is_beside pm_is_beside an_is_beside cd_is_beside ct_is_beside), sl_is_beside⟩)
    (c_is_beside : PySem.W.codeIn K cd_is_beside "is_beside" = true)
    (k_is_beside : PySem.W.keepIn K (.ref f_is_beside) = true)
    (a_places_in : PySem.W.nsIn K mainGlobals "places_in" = some (some (.ref f_places_in)))
    (l_places_in : K.lookup f_places_in = some ⟨oc_places_in, od_places_in, .func (PySem.W.fnOf "places_in" "places_in" (defArgs s_places_in) (defBody s_places_in) (defScope s_places_in) .none kV_places_in dc_places_in pm_places_in an_places_in cd_places_in ct_places_in), sl_places_in⟩)
    (c_places_in : PySem.W.codeIn K cd_places_in "places_in" = true)
    (k_places_in : PySem.W.keepIn K (.ref f_places_in) = true)
    (a_done_by : PySem.W.nsIn K mainGlobals "done_by" = some (some (.ref f_done_by)))
    (l_done_by : K.lookup f_done_by = some ⟨oc_done_by, od_done_by, .func (PySem.W.fnOf "done_by" "done_by" (defArgs s_done_by) (defBody s_done_by) (defScope s_done_by) .none kV_done_by dc_done_by pm_done_by an_done_by cd_done_by ct_done_by), sl_done_by⟩)
    (c_done_by : PySem.W.codeIn K cd_done_by "done_by" = true)
    (k_done_by : PySem.W.keepIn K (.ref f_done_by) = true)
    (a_steps_of : PySem.W.nsIn K mainGlobals "steps_of" = some (some (.ref f_steps_of)))
    (l_steps_of : K.lookup f_steps_of = some ⟨oc_steps_of, od_steps_of, .func (PySem.W.fnOf "steps_of" "steps_of" (defArgs s_steps_of) (defBody s_steps_of) (defScope s_steps_of) .none kV_steps_of dc_steps_of pm_steps_of an_steps_of cd_steps_of ct_steps_of), sl_steps_of⟩)
    (c_steps_of : PySem.W.codeIn K cd_steps_of "steps_of" = true)
    (k_steps_of : PySem.W.keepIn K (.ref f_steps_of) = true)
    (a_outcome_of : PySem.W.nsIn K mainGlobals "outcome_of" = some (some (.ref f_outcome_of)))
    (l_outcome_of : K.lookup f_outcome_of = some ⟨oc_outcome_of, od_outcome_of, .func (PySem.W.fnOf "outcome_of" "outcome_of" (defArgs s_outcome_of) (defBody s_outcome_of) (defScope s_outcome_of) .none kV_outcome_of dc_outcome_of pm_outcome_of an_outcome_of cd_outcome_of ct_outcome_of), sl_outcome_of⟩)
    (c_outcome_of : PySem.W.codeIn K cd_outcome_of "outcome_of" = true)
    (k_outcome_of : PySem.W.keepIn K (.ref f_outcome_of) = true)
    (a_step_in : PySem.W.nsIn K mainGlobals "step_in" = some (some (.ref f_step_in)))
    (l_step_in : K.lookup f_step_in = some ⟨oc_step_in, od_step_in, .func (PySem.W.fnOf "step_in" "step_in" (defArgs s_step_in) (defBody s_step_in) (defScope s_step_in) .none kV_step_in dc_step_in pm_step_in an_step_in cd_step_in ct_step_in), sl_step_in⟩)
    (c_step_in : PySem.W.codeIn K cd_step_in "step_in" = true)
    (k_step_in : PySem.W.keepIn K (.ref f_step_in) = true)
    (a_rest_in : PySem.W.nsIn K mainGlobals "rest_in" = some (some (.ref f_rest_in)))
    (l_rest_in : K.lookup f_rest_in = some ⟨oc_rest_in, od_rest_in, .func (PySem.W.fnOf "rest_in" "rest_in" (defArgs s_rest_in) (defBody s_rest_in) (defScope s_rest_in) .none kV_rest_in dc_rest_in pm_rest_in an_rest_in cd_rest_in ct_rest_in), sl_rest_in⟩)
    (c_rest_in : PySem.W.codeIn K cd_rest_in "rest_in" = true)
    (k_rest_in : PySem.W.keepIn K (.ref f_rest_in) = true)
    (a_mothers_of : PySem.W.nsIn K mainGlobals "mothers_of" = some (some (.ref f_mothers_of)))
    (l_mothers_of : K.lookup f_mothers_of = some ⟨oc_mothers_of, od_mothers_of, .func (PySem.W.fnOf "mothers_of" "mothers_of" (defArgs s_mothers_of) (defBody s_mothers_of) (defScope s_mothers_of) .none kV_mothers_of dc_mothers_of pm_mothers_of an_mothers_of cd_mothers_of ct_mothers_of), sl_mothers_of⟩)
    (c_mothers_of : PySem.W.codeIn K cd_mothers_of "mothers_of" = true)
    (k_mothers_of : PySem.W.keepIn K (.ref f_mothers_of) = true)
    (a__law_long : PySem.W.nsIn K mainGlobals "_law_long" = some (some (.ref f__law_long)))
    (l__law_long : K.lookup f__law_long = some ⟨oc__law_long, od__law_long, .func (PySem.W.fnOf "_law_long" "_law_long" (defArgs s__law_long) (defBody s__law_long) (defScope s__law_long) .none kV__law_long dc__law_long pm__law_long an__law_long cd__law_long ct__law_long), sl__law_long⟩)
    (c__law_long : PySem.W.codeIn K cd__law_long "_law_long" = true)
    (k__law_long : PySem.W.keepIn K (.ref f__law_long) = true)
    (a__law_done : PySem.W.nsIn K mainGlobals "_law_done" = some (some (.ref f__law_done)))
    (l__law_done : K.lookup f__law_done = some ⟨oc__law_done, od__law_done, .func (PySem.W.fnOf "_law_done" "_law_done" (defArgs s__law_done) (defBody s__law_done) (defScope s__law_done) .none kV__law_done dc__law_done pm__law_done an__law_done cd__law_done ct__law_done), sl__law_done⟩)
    (c__law_done : PySem.W.codeIn K cd__law_done "_law_done" = true)
    (k__law_done : PySem.W.keepIn K (.ref f__law_done) = true)
    (l_Course_done : K.lookup f_Course_done = some ⟨oc_Course_done, od_Course_done, .func (PySem.W.fnOf "done" "Course.done" (defArgs s_Course_done) (defBody s_Course_done) (defScope s_Course_done) .none kV_Course_done dc_Course_done pm_Course_done an_Course_done cd_Course_done ct_Course_done), sl_Course_done⟩)
    (c_Course_done : PySem.W.codeIn K cd_Course_done "Course.done" = true)
    (k_Course_done : PySem.W.keepIn K (.ref f_Course_done) = true)
    (a__law_sent_right : PySem.W.nsIn K mainGlobals "_law_sent_right" = some (some (.ref f__law_sent_right)))
    (l__law_sent_right : K.lookup f__law_sent_right = some ⟨oc__law_sent_right, od__law_sent_right, .func (PySem.W.fnOf "_law_sent_right" "_law_sent_right" (defArgs s__law_sent_right) (defBody s__law_sent_right) (defScope s__law_sent_right) .none kV__law_sent_right dc__law_sent_right pm__law_sent_right an__law_sent_right cd__law_sent_right ct__law_sent_right), sl__law_sent_right⟩)
    (c__law_sent_right : PySem.W.codeIn K cd__law_sent_right "_law_sent_right" = true)
    (k__law_sent_right : PySem.W.keepIn K (.ref f__law_sent_right) = true)
    (a_law : PySem.W.nsIn K mainGlobals "law" = some (some (.ref f_law)))
    (l_law : K.lookup f_law = some ⟨oc_law, od_law, .func (PySem.W.fnOf "law" "law" (defArgs s_law) (defBody s_law) (defScope s_law) .none kV_law dc_law pm_law an_law cd_law ct_law), sl_law⟩)
    (c_law : PySem.W.codeIn K cd_law "law" = true)
    (k_law : PySem.W.keepIn K (.ref f_law) = true)
    (z_abs : PySem.W.nsIn K mainGlobals "abs" = some none)
    (z_all : PySem.W.nsIn K mainGlobals "all" = some none)
    (z_any : PySem.W.nsIn K mainGlobals "any" = some none)
    (z_enumerate : PySem.W.nsIn K mainGlobals "enumerate" = some none)
    (z_int : PySem.W.nsIn K mainGlobals "int" = some none)
    (z_isinstance : PySem.W.nsIn K mainGlobals "isinstance" = some none)
    (z_len : PySem.W.nsIn K mainGlobals "len" = some none)
    (z_list : PySem.W.nsIn K mainGlobals "list" = some none)
    (z_max : PySem.W.nsIn K mainGlobals "max" = some none)
    (z_range : PySem.W.nsIn K mainGlobals "range" = some none)
    (z_sorted : PySem.W.nsIn K mainGlobals "sorted" = some none)
    (z_str : PySem.W.nsIn K mainGlobals "str" = some none)
    (z_tuple : PySem.W.nsIn K mainGlobals "tuple" = some none)
    (z_zip : PySem.W.nsIn K mainGlobals "zip" = some none)
    (kc_BEGIN : PySem.W.nsIn K mainGlobals "BEGIN" = some (some (.str "#" t_BEGIN)))
    (kc_EDGE : PySem.W.nsIn K mainGlobals "EDGE" = some (some (.str "#" t_EDGE)))
    (kc_LETTERS : PySem.W.nsIn K mainGlobals "LETTERS" = some (some (.str "abcdefghijklmnopqrstuvwxyz" t_LETTERS)))
    (kc_MOST_SHIFTS : PySem.W.nsIn K mainGlobals "MOST_SHIFTS" = some (some (.int 6 t_MOST_SHIFTS)))
    (kc_MOST_SOUNDS_checks : PySem.W.nsIn K mainGlobals "MOST_SOUNDS_checks" = some (some (.int 12 t_MOST_SOUNDS_checks)))
    (kc_MOST_SOUNDS_fallen : PySem.W.nsIn K mainGlobals "MOST_SOUNDS_fallen" = some (some (.int 6 t_MOST_SOUNDS_fallen)))
    (kc_MOST_STOCK : PySem.W.nsIn K mainGlobals "MOST_STOCK" = some (some (.int 5 t_MOST_STOCK)))
    (aC_BadWord : PySem.W.nsIn K mainGlobals "BadWord" = some (some (.ref C_BadWord)))
    (xL_BadWord : K.lookup C_BadWord = some (excClassObj nm_BadWord q_BadWord C_BadWord N_BadWord bs_BadWord bm_BadWord true sn_BadWord sub_BadWord ab_BadWord col_BadWord dd_BadWord m0_BadWord m1_BadWord m2_BadWord m3_BadWord m5_BadWord "ValueError.__new__"))
    (bm_ok_BadWord : PySem.HandSPX.refsVE bm_BadWord = true)
    (sa_BadWord : PySem.W.findIn K (.ref C_BadWord) "__setattr__" = some (some (.builtin "object.__setattr__")))
    (ex_BadWord : PySem.W.subIn K (.ref C_BadWord) (.type "BaseException") = some true)
    (ty_BadWord : PySem.W.typeIn K (.ref C_BadWord) = some (.type "type"))
    (kC_BadWord : PySem.W.keepIn K (.ref C_BadWord) = true)
    (i_BadWord : PySem.W.findIn K (.ref C_BadWord) "__init__" = some (some (.ref fi_BadWord)))
    (ga_BadWord : PySem.W.findIn K (.ref C_BadWord) "__getattribute__" = some (some (.builtin "BaseException.__getattribute__")))
    (gg_BadWord : PySem.W.findIn K (.ref C_BadWord) "__getattr__" = some none)
    (hd_BadWord : PySem.W.hasDictIn K C_BadWord = true)
    (ic_BadWord : PySem.W.isClsIn K C_BadWord = true)
    (xn_BadWord_part : PySem.W.findIn K (.ref C_BadWord) "part" = some none)
    (aC_BadStock : PySem.W.nsIn K mainGlobals "BadStock" = some (some (.ref C_BadStock)))
    (xL_BadStock : K.lookup C_BadStock = some (excClassObj nm_BadStock q_BadStock C_BadStock N_BadStock bs_BadStock bm_BadStock true sn_BadStock sub_BadStock ab_BadStock col_BadStock dd_BadStock m0_BadStock m1_BadStock m2_BadStock m3_BadStock m5_BadStock "ValueError.__new__"))
    (bm_ok_BadStock : PySem.HandSPX.refsVE bm_BadStock = true)
    (sa_BadStock : PySem.W.findIn K (.ref C_BadStock) "__setattr__" = some (some (.builtin "object.__setattr__")))
    (ex_BadStock : PySem.W.subIn K (.ref C_BadStock) (.type "BaseException") = some true)
    (ty_BadStock : PySem.W.typeIn K (.ref C_BadStock) = some (.type "type"))
    (kC_BadStock : PySem.W.keepIn K (.ref C_BadStock) = true)
    (i_BadStock : PySem.W.findIn K (.ref C_BadStock) "__init__" = some (some (.ref fi_BadStock)))
    (ga_BadStock : PySem.W.findIn K (.ref C_BadStock) "__getattribute__" = some (some (.builtin "BaseException.__getattribute__")))
    (gg_BadStock : PySem.W.findIn K (.ref C_BadStock) "__getattr__" = some none)
    (hd_BadStock : PySem.W.hasDictIn K C_BadStock = true)
    (ic_BadStock : PySem.W.isClsIn K C_BadStock = true)
    (xn_BadStock_part : PySem.W.findIn K (.ref C_BadStock) "part" = some none)
    (aC_BadCourse : PySem.W.nsIn K mainGlobals "BadCourse" = some (some (.ref C_BadCourse)))
    (xL_BadCourse : K.lookup C_BadCourse = some (excClassObj nm_BadCourse q_BadCourse C_BadCourse N_BadCourse bs_BadCourse bm_BadCourse true sn_BadCourse sub_BadCourse ab_BadCourse col_BadCourse dd_BadCourse m0_BadCourse m1_BadCourse m2_BadCourse m3_BadCourse m5_BadCourse "ValueError.__new__"))
    (bm_ok_BadCourse : PySem.HandSPX.refsVE bm_BadCourse = true)
    (sa_BadCourse : PySem.W.findIn K (.ref C_BadCourse) "__setattr__" = some (some (.builtin "object.__setattr__")))
    (ex_BadCourse : PySem.W.subIn K (.ref C_BadCourse) (.type "BaseException") = some true)
    (ty_BadCourse : PySem.W.typeIn K (.ref C_BadCourse) = some (.type "type"))
    (kC_BadCourse : PySem.W.keepIn K (.ref C_BadCourse) = true)
    (i_BadCourse : PySem.W.findIn K (.ref C_BadCourse) "__init__" = some (some (.ref fi_BadCourse)))
    (ga_BadCourse : PySem.W.findIn K (.ref C_BadCourse) "__getattribute__" = some (some (.builtin "BaseException.__getattribute__")))
    (gg_BadCourse : PySem.W.findIn K (.ref C_BadCourse) "__getattr__" = some none)
    (hd_BadCourse : PySem.W.hasDictIn K C_BadCourse = true)
    (ic_BadCourse : PySem.W.isClsIn K C_BadCourse = true)
    (xn_BadCourse_part : PySem.W.findIn K (.ref C_BadCourse) "part" = some none)
    (aC_TooMany : PySem.W.nsIn K mainGlobals "TooMany" = some (some (.ref C_TooMany)))
    (xL_TooMany : K.lookup C_TooMany = some (excClassObj nm_TooMany q_TooMany C_TooMany N_TooMany bs_TooMany bm_TooMany true sn_TooMany sub_TooMany ab_TooMany col_TooMany dd_TooMany m0_TooMany m1_TooMany m2_TooMany m3_TooMany m5_TooMany "ValueError.__new__"))
    (bm_ok_TooMany : PySem.HandSPX.refsVE bm_TooMany = true)
    (sa_TooMany : PySem.W.findIn K (.ref C_TooMany) "__setattr__" = some (some (.builtin "object.__setattr__")))
    (ex_TooMany : PySem.W.subIn K (.ref C_TooMany) (.type "BaseException") = some true)
    (ty_TooMany : PySem.W.typeIn K (.ref C_TooMany) = some (.type "type"))
    (kC_TooMany : PySem.W.keepIn K (.ref C_TooMany) = true)
    (i_TooMany : PySem.W.findIn K (.ref C_TooMany) "__init__" = some (some (.ref fi_TooMany)))
    (ga_TooMany : PySem.W.findIn K (.ref C_TooMany) "__getattribute__" = some (some (.builtin "BaseException.__getattribute__")))
    (gg_TooMany : PySem.W.findIn K (.ref C_TooMany) "__getattr__" = some none)
    (hd_TooMany : PySem.W.hasDictIn K C_TooMany = true)
    (ic_TooMany : PySem.W.isClsIn K C_TooMany = true)
    (xn_TooMany_what : PySem.W.findIn K (.ref C_TooMany) "what" = some none)
    (xn_TooMany_most : PySem.W.findIn K (.ref C_TooMany) "most" = some none)
    (aC_BadText : PySem.W.nsIn K mainGlobals "BadText" = some (some (.ref C_BadText)))
    (xL_BadText : K.lookup C_BadText = some (excClassObj nm_BadText q_BadText C_BadText N_BadText bs_BadText bm_BadText true sn_BadText sub_BadText ab_BadText col_BadText dd_BadText m0_BadText m1_BadText m2_BadText m3_BadText m5_BadText "ValueError.__new__"))
    (bm_ok_BadText : PySem.HandSPX.refsVE bm_BadText = true)
    (sa_BadText : PySem.W.findIn K (.ref C_BadText) "__setattr__" = some (some (.builtin "object.__setattr__")))
    (ex_BadText : PySem.W.subIn K (.ref C_BadText) (.type "BaseException") = some true)
    (ty_BadText : PySem.W.typeIn K (.ref C_BadText) = some (.type "type"))
    (kC_BadText : PySem.W.keepIn K (.ref C_BadText) = true)
    (i_BadText : PySem.W.findIn K (.ref C_BadText) "__init__" = some (some (.ref fi_BadText)))
    (ga_BadText : PySem.W.findIn K (.ref C_BadText) "__getattribute__" = some (some (.builtin "BaseException.__getattribute__")))
    (gg_BadText : PySem.W.findIn K (.ref C_BadText) "__getattr__" = some none)
    (hd_BadText : PySem.W.hasDictIn K C_BadText = true)
    (ic_BadText : PySem.W.isClsIn K C_BadText = true)
    (xn_BadText_line : PySem.W.findIn K (.ref C_BadText) "line" = some none)
    (xn_BadText_item : PySem.W.findIn K (.ref C_BadText) "item" = some none)
    (aC_BadShift : PySem.W.nsIn K mainGlobals "BadShift" = some (some (.ref C_BadShift)))
    (xL_BadShift : K.lookup C_BadShift = some (excClassObj nm_BadShift q_BadShift C_BadShift N_BadShift bs_BadShift bm_BadShift true sn_BadShift sub_BadShift ab_BadShift col_BadShift dd_BadShift m0_BadShift m1_BadShift m2_BadShift m3_BadShift m5_BadShift "ValueError.__new__"))
    (bm_ok_BadShift : PySem.HandSPX.refsVE bm_BadShift = true)
    (sa_BadShift : PySem.W.findIn K (.ref C_BadShift) "__setattr__" = some (some (.builtin "object.__setattr__")))
    (ex_BadShift : PySem.W.subIn K (.ref C_BadShift) (.type "BaseException") = some true)
    (ty_BadShift : PySem.W.typeIn K (.ref C_BadShift) = some (.type "type"))
    (kC_BadShift : PySem.W.keepIn K (.ref C_BadShift) = true)
    (i_BadShift : PySem.W.findIn K (.ref C_BadShift) "__init__" = some (some (.ref fi_BadShift)))
    (ga_BadShift : PySem.W.findIn K (.ref C_BadShift) "__getattribute__" = some (some (.builtin "BaseException.__getattribute__")))
    (gg_BadShift : PySem.W.findIn K (.ref C_BadShift) "__getattr__" = some none)
    (hd_BadShift : PySem.W.hasDictIn K C_BadShift = true)
    (ic_BadShift : PySem.W.isClsIn K C_BadShift = true)
    (xn_BadShift_part : PySem.W.findIn K (.ref C_BadShift) "part" = some none)
    (aC_NoShift : PySem.W.nsIn K mainGlobals "NoShift" = some (some (.ref C_NoShift)))
    (xL_NoShift : K.lookup C_NoShift = some (excClassObj nm_NoShift q_NoShift C_NoShift N_NoShift bs_NoShift bm_NoShift true sn_NoShift sub_NoShift ab_NoShift col_NoShift dd_NoShift m0_NoShift m1_NoShift m2_NoShift m3_NoShift m5_NoShift "ValueError.__new__"))
    (bm_ok_NoShift : PySem.HandSPX.refsVE bm_NoShift = true)
    (sa_NoShift : PySem.W.findIn K (.ref C_NoShift) "__setattr__" = some (some (.builtin "object.__setattr__")))
    (ex_NoShift : PySem.W.subIn K (.ref C_NoShift) (.type "BaseException") = some true)
    (ty_NoShift : PySem.W.typeIn K (.ref C_NoShift) = some (.type "type"))
    (kC_NoShift : PySem.W.keepIn K (.ref C_NoShift) = true)
    (i_NoShift : PySem.W.findIn K (.ref C_NoShift) "__init__" = some (some (.ref fi_Missing)))
    (ga_NoShift : PySem.W.findIn K (.ref C_NoShift) "__getattribute__" = some (some (.builtin "BaseException.__getattribute__")))
    (gg_NoShift : PySem.W.findIn K (.ref C_NoShift) "__getattr__" = some none)
    (hd_NoShift : PySem.W.hasDictIn K C_NoShift = true)
    (ic_NoShift : PySem.W.isClsIn K C_NoShift = true)
    (xn_NoShift_value : PySem.W.findIn K (.ref C_NoShift) "value" = some none)
    (ti_BadWord : PySem.W.typeIn K (.ref fi_BadWord) = some (.type "function"))
    (li_BadWord : K.lookup fi_BadWord = some ⟨oc_i_BadWord, od_i_BadWord, .func (PySem.W.fnOf "__init__" "BadWord.__init__" (defArgs s_i_BadWord) (defBody s_i_BadWord) (defScope s_i_BadWord) .none kV_i_BadWord dc_i_BadWord pm_i_BadWord an_i_BadWord cd_i_BadWord ct_i_BadWord), sl_i_BadWord⟩)
    (ci_BadWord : PySem.W.codeIn K cd_i_BadWord "BadWord.__init__" = true)
    (ki_BadWord : PySem.W.keepIn K (.ref fi_BadWord) = true)
    (ti_BadStock : PySem.W.typeIn K (.ref fi_BadStock) = some (.type "function"))
    (li_BadStock : K.lookup fi_BadStock = some ⟨oc_i_BadStock, od_i_BadStock, .func (PySem.W.fnOf "__init__" "BadStock.__init__" (defArgs s_i_BadStock) (defBody s_i_BadStock) (defScope s_i_BadStock) .none kV_i_BadStock dc_i_BadStock pm_i_BadStock an_i_BadStock cd_i_BadStock ct_i_BadStock), sl_i_BadStock⟩)
    (ci_BadStock : PySem.W.codeIn K cd_i_BadStock "BadStock.__init__" = true)
    (ki_BadStock : PySem.W.keepIn K (.ref fi_BadStock) = true)
    (ti_BadCourse : PySem.W.typeIn K (.ref fi_BadCourse) = some (.type "function"))
    (li_BadCourse : K.lookup fi_BadCourse = some ⟨oc_i_BadCourse, od_i_BadCourse, .func (PySem.W.fnOf "__init__" "BadCourse.__init__" (defArgs s_i_BadCourse) (defBody s_i_BadCourse) (defScope s_i_BadCourse) .none kV_i_BadCourse dc_i_BadCourse pm_i_BadCourse an_i_BadCourse cd_i_BadCourse ct_i_BadCourse), sl_i_BadCourse⟩)
    (ci_BadCourse : PySem.W.codeIn K cd_i_BadCourse "BadCourse.__init__" = true)
    (ki_BadCourse : PySem.W.keepIn K (.ref fi_BadCourse) = true)
    (ti_TooMany : PySem.W.typeIn K (.ref fi_TooMany) = some (.type "function"))
    (li_TooMany : K.lookup fi_TooMany = some ⟨oc_i_TooMany, od_i_TooMany, .func (PySem.W.fnOf "__init__" "TooMany.__init__" (defArgs s_i_TooMany) (defBody s_i_TooMany) (defScope s_i_TooMany) .none kV_i_TooMany dc_i_TooMany pm_i_TooMany an_i_TooMany cd_i_TooMany ct_i_TooMany), sl_i_TooMany⟩)
    (ci_TooMany : PySem.W.codeIn K cd_i_TooMany "TooMany.__init__" = true)
    (ki_TooMany : PySem.W.keepIn K (.ref fi_TooMany) = true)
    (ti_BadText : PySem.W.typeIn K (.ref fi_BadText) = some (.type "function"))
    (li_BadText : K.lookup fi_BadText = some ⟨oc_i_BadText, od_i_BadText, .func (PySem.W.fnOf "__init__" "BadText.__init__" (defArgs s_i_BadText) (defBody s_i_BadText) (defScope s_i_BadText) .none kV_i_BadText dc_i_BadText pm_i_BadText an_i_BadText cd_i_BadText ct_i_BadText), sl_i_BadText⟩)
    (ci_BadText : PySem.W.codeIn K cd_i_BadText "BadText.__init__" = true)
    (ki_BadText : PySem.W.keepIn K (.ref fi_BadText) = true)
    (ti_BadShift : PySem.W.typeIn K (.ref fi_BadShift) = some (.type "function"))
    (li_BadShift : K.lookup fi_BadShift = some ⟨oc_i_BadShift, od_i_BadShift, .func (PySem.W.fnOf "__init__" "BadShift.__init__" (defArgs s_i_BadShift) (defBody s_i_BadShift) (defScope s_i_BadShift) .none kV_i_BadShift dc_i_BadShift pm_i_BadShift an_i_BadShift cd_i_BadShift ct_i_BadShift), sl_i_BadShift⟩)
    (ci_BadShift : PySem.W.codeIn K cd_i_BadShift "BadShift.__init__" = true)
    (ki_BadShift : PySem.W.keepIn K (.ref fi_BadShift) = true)
    (ti_Missing : PySem.W.typeIn K (.ref fi_Missing) = some (.type "function"))
    (li_Missing : K.lookup fi_Missing = some ⟨oc_i_Missing, od_i_Missing, .func (PySem.W.fnOf "__init__" "Missing.__init__" (defArgs s_i_Missing) (defBody s_i_Missing) (defScope s_i_Missing) .none kV_i_Missing dc_i_Missing pm_i_Missing an_i_Missing cd_i_Missing ct_i_Missing), sl_i_Missing⟩)
    (ci_Missing : PySem.W.codeIn K cd_i_Missing "Missing.__init__" = true)
    (ki_Missing : PySem.W.keepIn K (.ref fi_Missing) = true)
    (e_BadWord_BadWord : PySem.W.subIn K (.ref C_BadWord) (.ref C_BadWord) = some true)
    (e_BadWord_BadStock : PySem.W.subIn K (.ref C_BadWord) (.ref C_BadStock) = some false)
    (e_BadWord_BadCourse : PySem.W.subIn K (.ref C_BadWord) (.ref C_BadCourse) = some false)
    (e_BadWord_TooMany : PySem.W.subIn K (.ref C_BadWord) (.ref C_TooMany) = some false)
    (e_BadWord_BadText : PySem.W.subIn K (.ref C_BadWord) (.ref C_BadText) = some false)
    (e_BadWord_BadShift : PySem.W.subIn K (.ref C_BadWord) (.ref C_BadShift) = some false)
    (e_BadWord_NoShift : PySem.W.subIn K (.ref C_BadWord) (.ref C_NoShift) = some false)
    (e_BadStock_BadWord : PySem.W.subIn K (.ref C_BadStock) (.ref C_BadWord) = some false)
    (e_BadStock_BadStock : PySem.W.subIn K (.ref C_BadStock) (.ref C_BadStock) = some true)
    (e_BadStock_BadCourse : PySem.W.subIn K (.ref C_BadStock) (.ref C_BadCourse) = some false)
    (e_BadStock_TooMany : PySem.W.subIn K (.ref C_BadStock) (.ref C_TooMany) = some false)
    (e_BadStock_BadText : PySem.W.subIn K (.ref C_BadStock) (.ref C_BadText) = some false)
    (e_BadStock_BadShift : PySem.W.subIn K (.ref C_BadStock) (.ref C_BadShift) = some false)
    (e_BadStock_NoShift : PySem.W.subIn K (.ref C_BadStock) (.ref C_NoShift) = some false)
    (e_BadCourse_BadWord : PySem.W.subIn K (.ref C_BadCourse) (.ref C_BadWord) = some false)
    (e_BadCourse_BadStock : PySem.W.subIn K (.ref C_BadCourse) (.ref C_BadStock) = some false)
    (e_BadCourse_BadCourse : PySem.W.subIn K (.ref C_BadCourse) (.ref C_BadCourse) = some true)
    (e_BadCourse_TooMany : PySem.W.subIn K (.ref C_BadCourse) (.ref C_TooMany) = some false)
    (e_BadCourse_BadText : PySem.W.subIn K (.ref C_BadCourse) (.ref C_BadText) = some false)
    (e_BadCourse_BadShift : PySem.W.subIn K (.ref C_BadCourse) (.ref C_BadShift) = some false)
    (e_BadCourse_NoShift : PySem.W.subIn K (.ref C_BadCourse) (.ref C_NoShift) = some false)
    (e_TooMany_BadWord : PySem.W.subIn K (.ref C_TooMany) (.ref C_BadWord) = some false)
    (e_TooMany_BadStock : PySem.W.subIn K (.ref C_TooMany) (.ref C_BadStock) = some false)
    (e_TooMany_BadCourse : PySem.W.subIn K (.ref C_TooMany) (.ref C_BadCourse) = some false)
    (e_TooMany_TooMany : PySem.W.subIn K (.ref C_TooMany) (.ref C_TooMany) = some true)
    (e_TooMany_BadText : PySem.W.subIn K (.ref C_TooMany) (.ref C_BadText) = some false)
    (e_TooMany_BadShift : PySem.W.subIn K (.ref C_TooMany) (.ref C_BadShift) = some false)
    (e_TooMany_NoShift : PySem.W.subIn K (.ref C_TooMany) (.ref C_NoShift) = some false)
    (e_BadText_BadWord : PySem.W.subIn K (.ref C_BadText) (.ref C_BadWord) = some false)
    (e_BadText_BadStock : PySem.W.subIn K (.ref C_BadText) (.ref C_BadStock) = some false)
    (e_BadText_BadCourse : PySem.W.subIn K (.ref C_BadText) (.ref C_BadCourse) = some false)
    (e_BadText_TooMany : PySem.W.subIn K (.ref C_BadText) (.ref C_TooMany) = some false)
    (e_BadText_BadText : PySem.W.subIn K (.ref C_BadText) (.ref C_BadText) = some true)
    (e_BadText_BadShift : PySem.W.subIn K (.ref C_BadText) (.ref C_BadShift) = some false)
    (e_BadText_NoShift : PySem.W.subIn K (.ref C_BadText) (.ref C_NoShift) = some false)
    (e_BadShift_BadWord : PySem.W.subIn K (.ref C_BadShift) (.ref C_BadWord) = some false)
    (e_BadShift_BadStock : PySem.W.subIn K (.ref C_BadShift) (.ref C_BadStock) = some false)
    (e_BadShift_BadCourse : PySem.W.subIn K (.ref C_BadShift) (.ref C_BadCourse) = some false)
    (e_BadShift_TooMany : PySem.W.subIn K (.ref C_BadShift) (.ref C_TooMany) = some false)
    (e_BadShift_BadText : PySem.W.subIn K (.ref C_BadShift) (.ref C_BadText) = some false)
    (e_BadShift_BadShift : PySem.W.subIn K (.ref C_BadShift) (.ref C_BadShift) = some true)
    (e_BadShift_NoShift : PySem.W.subIn K (.ref C_BadShift) (.ref C_NoShift) = some false)
    (e_NoShift_BadWord : PySem.W.subIn K (.ref C_NoShift) (.ref C_BadWord) = some false)
    (e_NoShift_BadStock : PySem.W.subIn K (.ref C_NoShift) (.ref C_BadStock) = some false)
    (e_NoShift_BadCourse : PySem.W.subIn K (.ref C_NoShift) (.ref C_BadCourse) = some false)
    (e_NoShift_TooMany : PySem.W.subIn K (.ref C_NoShift) (.ref C_TooMany) = some false)
    (e_NoShift_BadText : PySem.W.subIn K (.ref C_NoShift) (.ref C_BadText) = some false)
    (e_NoShift_BadShift : PySem.W.subIn K (.ref C_NoShift) (.ref C_BadShift) = some false)
    (e_NoShift_NoShift : PySem.W.subIn K (.ref C_NoShift) (.ref C_NoShift) = some true)
    : LamX.LawAtS l w K (L2.CX l.prog w) 9 63 "_law_script" mg fa h := by
  have e := (PySem.W.mg_of X G a_law).symm.trans hfa
  have e2 : f_law = fa := by cases e; rfl
  rw [← e2]
  refine FT.finish (cs := []) (T := []) (Pre := Pre) (fd := (PySem.W.fnOf "law" "law" (defArgs s_law) (defBody s_law) (defScope s_law) .none kV_law dc_law pm_law an_law cd_law ct_law)) X (fun s u => .of_eq rfl) (fun base _ _ tb => ?_) ?t1 ?t2 ?t3 ?t4 pre_ok
  case t1 => exact (fun _ h => absurd h (by simp))
  case t2 => exact (fun _ h => absurd h (by simp))
  case t3 => exact (fun _ h => absurd h (by simp))
  case t4 => exact (fun _ h => absurd h (by simp))

  let a : A := { C_Course := C_Course, C_Shift := C_Shift, d__law_pen := f__law_pen, fd__law_pen := (PySem.W.fnOf "_law_pen" "_law_pen" (defArgs s__law_pen) (defBody s__law_pen) (defScope s__law_pen) .none kV__law_pen dc__law_pen pm__law_pen an__law_pen cd__law_pen ct__law_pen), d__law_draw := f__law_draw, fd__law_draw := (PySem.W.fnOf "_law_draw" "_law_draw" (defArgs s__law_draw) (defBody s__law_draw) (defScope s__law_draw) .none kV__law_draw dc__law_draw pm__law_draw an__law_draw cd__law_draw ct__law_draw), d__law_pick := f__law_pick, fd__law_pick := (PySem.W.fnOf "_law_pick" "_law_pick" (defArgs s__law_pick) (defBody s__law_pick) (defScope s__law_pick) .none kV__law_pick dc__law_pick pm__law_pick an__law_pick cd__law_pick ct__law_pick), d__law_side := f__law_side, fd__law_side := (PySem.W.fnOf "_law_side" "_law_side" (defArgs s__law_side) (defBody s__law_side) (defScope s__law_side) .none kV__law_side dc__law_side pm__law_side an__law_side cd__law_side ct__law_side), d__law_world := f__law_world, fd__law_world := (PySem.W.fnOf "_law_world" "_law_world" (defArgs s__law_world) (defBody s__law_world) (defScope s__law_world) .none kV__law_world dc__law_world pm__law_world an__law_world cd__law_world ct__law_world), d__law_word := f__law_word, fd__law_word := (PySem.W.fnOf "_law_word" "_law_word" (defArgs s__law_word) (defBody s__law_word) (defScope s__law_word) .none kV__law_word dc__law_word pm__law_word an__law_word cd__law_word ct__law_word), d_sounds_in_shifts := f_sounds_in_shifts, fd_sounds_in_shifts := (PySem.W.fnOf "sounds_in" "sounds_in" (defArgs s_sounds_in_shifts) (defBody s_sounds_in_shifts) (defScope s_sounds_in_shifts) .none kV_sounds_in_shifts dc_sounds_in_shifts pm_sounds_in_shifts an_sounds_in_shifts cd_sounds_in_shifts ct_sounds_in_shifts), d_Course_init := f_Course_init, fd_Course_init := (PySem.W.fnOf "__init__" "Course.__init__" (defArgs s_Course_init) (defBody s_Course_init) (defScope s_Course_init) .none kV_Course_init dc_Course_init pm_Course_init an_Course_init cd_Course_init ct_Course_init), d_is_sound := f_is_sound, fd_is_sound := (PySem.W.fnOf "is_sound" "is_sound" (defArgs s_is_sound) (defBody s_is_sound) (defScope s_is_sound) .none kV_is_sound dc_is_sound pm_is_sound an_is_sound cd_is_sound ct_is_sound), d_is_new := f_is_new, fd_is_new := (PySem.W.fnOf "is_new" "is_new" (defArgs s_is_new) (defBody s_is_new) (defScope s_is_new) .none kV_is_new dc_is_new pm_is_new an_is_new cd_is_new ct_is_new), d_is_side := f_is_side, fd_is_side := (PySem.W.fnOf "is_side" "is_side" (defArgs s_is_side) (defBody s_is_side) (defScope s_is_side) .none kV_is_side dc_is_side pm_is_side an_is_side cd_is_side ct_is_side), d_Shift_init := f_Shift_init, fd_Shift_init := (PySem.W.fnOf "__init__" "Shift.__init__" (defArgs s_Shift_init) (defBody s_Shift_init) (defScope s_Shift_init) (.ref T0_Shift_init) kV_Shift_init dc_Shift_init pm_Shift_init an_Shift_init cd_Shift_init ct_Shift_init), d__law_made := f__law_made, fd__law_made := (PySem.W.fnOf "_law_made" "_law_made" (defArgs s__law_made) (defBody s__law_made) (defScope s__law_made) .none kV__law_made dc__law_made pm__law_made an__law_made cd__law_made ct__law_made), d_need_course := f_need_course, fd_need_course := (PySem.W.fnOf "need_course" "need_course" (defArgs s_need_course) (defBody s_need_course) (defScope s_need_course) .none kV_need_course dc_need_course pm_need_course an_need_course cd_need_course ct_need_course), d_is_stock := f_is_stock, fd_is_stock := (PySem.W.fnOf "is_stock" "is_stock" (defArgs s_is_stock) (defBody s_is_stock) (defScope s_is_stock) .none kV_is_stock dc_is_stock pm_is_stock an_is_stock cd_is_stock ct_is_stock), d_need_stock := f_need_stock, fd_need_stock := (PySem.W.fnOf "need_stock" "need_stock" (defArgs s_need_stock) (defBody s_need_stock) (defScope s_need_stock) .none kV_need_stock dc_need_stock pm_need_stock an_need_stock cd_need_stock ct_need_stock), d_is_word := f_is_word, fd_is_word := (PySem.W.fnOf "is_word" "is_word" (defArgs s_is_word) (defBody s_is_word) (defScope s_is_word) .none kV_is_word dc_is_word pm_is_word an_is_word cd_is_word ct_is_word), d_need_word := f_need_word, fd_need_word := (PySem.W.fnOf "need_word" "need_word" (defArgs s_need_word) (defBody s_need_word) (defScope s_need_word) .none kV_need_word dc_need_word pm_need_word an_need_word cd_need_word ct_need_word), d_need_standing := f_need_standing, fd_need_standing := (PySem.W.fnOf "need_standing" "need_standing" (defArgs s_need_standing) (defBody s_need_standing) (defScope s_need_standing) .none kV_need_standing dc_need_standing pm_need_standing an_need_standing cd_need_standing ct_need_standing), d_most_sounds := f_most_sounds, fd_most_sounds := (PySem.W.fnOf "most_sounds" "most_sounds" (defArgs s_most_sounds) (defBody s_most_sounds) (defScope s_most_sounds) .none kV_most_sounds dc_most_sounds pm_most_sounds an_most_sounds cd_most_sounds ct_most_sounds), d_room_with := f_room_with, fd_room_with := (PySem.W.fnOf "room_with" "room_with" (defArgs s_room_with) (defBody s_room_with) (defScope s_room_with) .none kV_room_with dc_room_with pm_room_with an_room_with cd_room_with ct_room_with), d_sounds_in_rooms := f_sounds_in_rooms, fd_sounds_in_rooms := (PySem.W.fnOf "sounds_in" "sounds_in" (defArgs s_sounds_in_rooms) (defBody s_sounds_in_rooms) (defScope s_sounds_in_rooms) .none kV_sounds_in_rooms dc_sounds_in_rooms pm_sounds_in_rooms an_sounds_in_rooms cd_sounds_in_rooms ct_sounds_in_rooms), d_is_beside := f_is_beside, fd_is_beside := (PySem.W.fnOf "is_beside" "is_beside" (defArgs s_is_beside) (defBody s_is_beside) (defScope s_is_beside) .none kV_is_beside dc_is_beside pm_is_beside an_is_beside cd_is_beside ct_is_beside), d_places_in := f_places_in, fd_places_in := (PySem.W.fnOf "places_in" "places_in" (defArgs s_places_in) (defBody s_places_in) (defScope s_places_in) .none kV_places_in dc_places_in pm_places_in an_places_in cd_places_in ct_places_in), d_done_by := f_done_by, fd_done_by := (PySem.W.fnOf "done_by" "done_by" (defArgs s_done_by) (defBody s_done_by) (defScope s_done_by) .none kV_done_by dc_done_by pm_done_by an_done_by cd_done_by ct_done_by), d_steps_of := f_steps_of, fd_steps_of := (PySem.W.fnOf "steps_of" "steps_of" (defArgs s_steps_of) (defBody s_steps_of) (defScope s_steps_of) .none kV_steps_of dc_steps_of pm_steps_of an_steps_of cd_steps_of ct_steps_of), d_outcome_of := f_outcome_of, fd_outcome_of := (PySem.W.fnOf "outcome_of" "outcome_of" (defArgs s_outcome_of) (defBody s_outcome_of) (defScope s_outcome_of) .none kV_outcome_of dc_outcome_of pm_outcome_of an_outcome_of cd_outcome_of ct_outcome_of), d_step_in := f_step_in, fd_step_in := (PySem.W.fnOf "step_in" "step_in" (defArgs s_step_in) (defBody s_step_in) (defScope s_step_in) .none kV_step_in dc_step_in pm_step_in an_step_in cd_step_in ct_step_in), d_rest_in := f_rest_in, fd_rest_in := (PySem.W.fnOf "rest_in" "rest_in" (defArgs s_rest_in) (defBody s_rest_in) (defScope s_rest_in) .none kV_rest_in dc_rest_in pm_rest_in an_rest_in cd_rest_in ct_rest_in), d_mothers_of := f_mothers_of, fd_mothers_of := (PySem.W.fnOf "mothers_of" "mothers_of" (defArgs s_mothers_of) (defBody s_mothers_of) (defScope s_mothers_of) .none kV_mothers_of dc_mothers_of pm_mothers_of an_mothers_of cd_mothers_of ct_mothers_of), d__law_long := f__law_long, fd__law_long := (PySem.W.fnOf "_law_long" "_law_long" (defArgs s__law_long) (defBody s__law_long) (defScope s__law_long) .none kV__law_long dc__law_long pm__law_long an__law_long cd__law_long ct__law_long), d__law_done := f__law_done, fd__law_done := (PySem.W.fnOf "_law_done" "_law_done" (defArgs s__law_done) (defBody s__law_done) (defScope s__law_done) .none kV__law_done dc__law_done pm__law_done an__law_done cd__law_done ct__law_done), d_Course_done := f_Course_done, fd_Course_done := (PySem.W.fnOf "done" "Course.done" (defArgs s_Course_done) (defBody s_Course_done) (defScope s_Course_done) .none kV_Course_done dc_Course_done pm_Course_done an_Course_done cd_Course_done ct_Course_done), d__law_sent_right := f__law_sent_right, fd__law_sent_right := (PySem.W.fnOf "_law_sent_right" "_law_sent_right" (defArgs s__law_sent_right) (defBody s__law_sent_right) (defScope s__law_sent_right) .none kV__law_sent_right dc__law_sent_right pm__law_sent_right an__law_sent_right cd__law_sent_right ct__law_sent_right), d_law := f_law, fd_law := (PySem.W.fnOf "law" "law" (defArgs s_law) (defBody s_law) (defScope s_law) .none kV_law dc_law pm_law an_law cd_law ct_law), C_BadWord := C_BadWord, C_BadStock := C_BadStock, C_BadCourse := C_BadCourse, C_TooMany := C_TooMany, C_BadText := C_BadText, C_BadShift := C_BadShift, C_NoShift := C_NoShift, i_BadWord := fi_BadWord, fi_BadWord := (PySem.W.fnOf "__init__" "BadWord.__init__" (defArgs s_i_BadWord) (defBody s_i_BadWord) (defScope s_i_BadWord) .none kV_i_BadWord dc_i_BadWord pm_i_BadWord an_i_BadWord cd_i_BadWord ct_i_BadWord), i_BadStock := fi_BadStock, fi_BadStock := (PySem.W.fnOf "__init__" "BadStock.__init__" (defArgs s_i_BadStock) (defBody s_i_BadStock) (defScope s_i_BadStock) .none kV_i_BadStock dc_i_BadStock pm_i_BadStock an_i_BadStock cd_i_BadStock ct_i_BadStock), i_BadCourse := fi_BadCourse, fi_BadCourse := (PySem.W.fnOf "__init__" "BadCourse.__init__" (defArgs s_i_BadCourse) (defBody s_i_BadCourse) (defScope s_i_BadCourse) .none kV_i_BadCourse dc_i_BadCourse pm_i_BadCourse an_i_BadCourse cd_i_BadCourse ct_i_BadCourse), i_TooMany := fi_TooMany, fi_TooMany := (PySem.W.fnOf "__init__" "TooMany.__init__" (defArgs s_i_TooMany) (defBody s_i_TooMany) (defScope s_i_TooMany) .none kV_i_TooMany dc_i_TooMany pm_i_TooMany an_i_TooMany cd_i_TooMany ct_i_TooMany), i_BadText := fi_BadText, fi_BadText := (PySem.W.fnOf "__init__" "BadText.__init__" (defArgs s_i_BadText) (defBody s_i_BadText) (defScope s_i_BadText) .none kV_i_BadText dc_i_BadText pm_i_BadText an_i_BadText cd_i_BadText ct_i_BadText), i_BadShift := fi_BadShift, fi_BadShift := (PySem.W.fnOf "__init__" "BadShift.__init__" (defArgs s_i_BadShift) (defBody s_i_BadShift) (defScope s_i_BadShift) .none kV_i_BadShift dc_i_BadShift pm_i_BadShift an_i_BadShift cd_i_BadShift ct_i_BadShift), i_Missing := fi_Missing, fi_Missing := (PySem.W.fnOf "__init__" "Missing.__init__" (defArgs s_i_Missing) (defBody s_i_Missing) (defScope s_i_Missing) .none kV_i_Missing dc_i_Missing pm_i_Missing an_i_Missing cd_i_Missing ct_i_Missing) }
  have T : Txt K mg base a := {
    g_Course := PySem.W.mg_of X G aC_Course,
    o_Course := ⟨⟨pg_Course, hd_Course, po_Course, sa_Course⟩, oa_Course, om_Course⟩,
    mk_Course := ⟨mm_Course, mi_Course, mf_Course, mp_Course⟩,
    me_Course_done := ⟨ma_Course_done, mn_Course_done, mk_Course_done⟩,
    na_Course_shifts := na_Course_shifts,
    na_Course_falls := na_Course_falls,
    na_Course_sounds := na_Course_sounds,
    g_Shift := PySem.W.mg_of X G aC_Shift,
    o_Shift := ⟨⟨pg_Shift, hd_Shift, po_Shift, sa_Shift⟩, oa_Shift, om_Shift⟩,
    mk_Shift := ⟨mm_Shift, mi_Shift, mf_Shift, mp_Shift⟩,
    na_Shift_falls := na_Shift_falls,
    na_Shift_sounds := na_Shift_sounds,
    na_Shift_old := na_Shift_old,
    na_Shift_new := na_Shift_new,
    na_Shift_left := na_Shift_left,
    na_Shift_right := na_Shift_right,
    kn := kn,
    kt := kt,
    ki_Shift_Course := ki_Shift_Course,
    ki_Shift_Shift := ki_Shift_Shift,
    kb_Shift := fun t ht => by
      simp only [tyNs, List.mem_cons, List.not_mem_nil, or_false] at ht
      rcases ht with rfl | rfl | rfl | rfl | rfl | rfl
      · exact kb_Shift_NoneType
      · exact kb_Shift_bool
      · exact kb_Shift_int
      · exact kb_Shift_str
      · exact kb_Shift_list
      · exact kb_Shift_tuple,
    ki_Course_Course := ki_Course_Course,
    ki_Course_Shift := ki_Course_Shift,
    kb_Course := fun t ht => by
      simp only [tyNs, List.mem_cons, List.not_mem_nil, or_false] at ht
      rcases ht with rfl | rfl | rfl | rfl | rfl | rfl
      · exact kb_Course_NoneType
      · exact kb_Course_bool
      · exact kb_Course_int
      · exact kb_Course_str
      · exact kb_Course_list
      · exact kb_Course_tuple,
    F__law_pen := fun_mk (st := s__law_pen) l__law_pen c__law_pen k__law_pen,
    g__law_pen := PySem.W.mg_of X G a__law_pen,
    F__law_draw := fun_mk (st := s__law_draw) l__law_draw c__law_draw k__law_draw,
    g__law_draw := PySem.W.mg_of X G a__law_draw,
    F__law_pick := fun_mk (st := s__law_pick) l__law_pick c__law_pick k__law_pick,
    g__law_pick := PySem.W.mg_of X G a__law_pick,
    F__law_side := fun_mk (st := s__law_side) l__law_side c__law_side k__law_side,
    g__law_side := PySem.W.mg_of X G a__law_side,
    F__law_world := fun_mk (st := s__law_world) l__law_world c__law_world k__law_world,
    g__law_world := PySem.W.mg_of X G a__law_world,
    F__law_word := fun_mk (st := s__law_word) l__law_word c__law_word k__law_word,
    g__law_word := PySem.W.mg_of X G a__law_word,
    F_sounds_in_shifts := fun_mk (st := s_sounds_in_shifts) l_sounds_in_shifts c_sounds_in_shifts k_sounds_in_shifts,
    g_sounds_in_shifts := PySem.W.mg_of X G a_sounds_in_shifts,
    F_Course_init := fun_mk (st := s_Course_init) l_Course_init c_Course_init k_Course_init,
    F_is_sound := fun_mk (st := s_is_sound) l_is_sound c_is_sound k_is_sound,
    g_is_sound := PySem.W.mg_of X G a_is_sound,
    F_is_new := fun_mk (st := s_is_new) l_is_new c_is_new k_is_new,
    g_is_new := PySem.W.mg_of X G a_is_new,
    F_is_side := fun_mk (st := s_is_side) l_is_side c_is_side k_is_side,
    g_is_side := PySem.W.mg_of X G a_is_side,
    F_Shift_init := funD_mk (st := s_Shift_init) l_Shift_init c_Shift_init k_Shift_init (by simp) ⟨_, _, _, dl_Shift_init, rfl, dr_Shift_init⟩,
    F__law_made := fun_mk (st := s__law_made) l__law_made c__law_made k__law_made,
    g__law_made := PySem.W.mg_of X G a__law_made,
    F_need_course := fun_mk (st := s_need_course) l_need_course c_need_course k_need_course,
    g_need_course := PySem.W.mg_of X G a_need_course,
    F_is_stock := fun_mk (st := s_is_stock) l_is_stock c_is_stock k_is_stock,
    g_is_stock := PySem.W.mg_of X G a_is_stock,
    F_need_stock := fun_mk (st := s_need_stock) l_need_stock c_need_stock k_need_stock,
    g_need_stock := PySem.W.mg_of X G a_need_stock,
    F_is_word := fun_mk (st := s_is_word) l_is_word c_is_word k_is_word,
    g_is_word := PySem.W.mg_of X G a_is_word,
    F_need_word := fun_mk (st := s_need_word) l_need_word c_need_word k_need_word,
    g_need_word := PySem.W.mg_of X G a_need_word,
    F_need_standing := fun_mk (st := s_need_standing) l_need_standing c_need_standing k_need_standing,
    g_need_standing := PySem.W.mg_of X G a_need_standing,
    F_most_sounds := fun_mk (st := s_most_sounds) l_most_sounds c_most_sounds k_most_sounds,
    g_most_sounds := PySem.W.mg_of X G a_most_sounds,
    F_room_with := fun_mk (st := s_room_with) l_room_with c_room_with k_room_with,
    g_room_with := PySem.W.mg_of X G a_room_with,
    F_sounds_in_rooms := fun_mk (st := s_sounds_in_rooms) l_sounds_in_rooms c_sounds_in_rooms k_sounds_in_rooms,
    g_sounds_in_rooms := PySem.W.mg_of X G a_sounds_in_rooms,
    F_is_beside := fun_mk (st := s_is_beside) l_is_beside c_is_beside k_is_beside,
    g_is_beside := PySem.W.mg_of X G a_is_beside,
    F_places_in := fun_mk (st := s_places_in) l_places_in c_places_in k_places_in,
    g_places_in := PySem.W.mg_of X G a_places_in,
    F_done_by := fun_mk (st := s_done_by) l_done_by c_done_by k_done_by,
    g_done_by := PySem.W.mg_of X G a_done_by,
    F_steps_of := fun_mk (st := s_steps_of) l_steps_of c_steps_of k_steps_of,
    g_steps_of := PySem.W.mg_of X G a_steps_of,
    F_outcome_of := fun_mk (st := s_outcome_of) l_outcome_of c_outcome_of k_outcome_of,
    g_outcome_of := PySem.W.mg_of X G a_outcome_of,
    F_step_in := fun_mk (st := s_step_in) l_step_in c_step_in k_step_in,
    g_step_in := PySem.W.mg_of X G a_step_in,
    F_rest_in := fun_mk (st := s_rest_in) l_rest_in c_rest_in k_rest_in,
    g_rest_in := PySem.W.mg_of X G a_rest_in,
    F_mothers_of := fun_mk (st := s_mothers_of) l_mothers_of c_mothers_of k_mothers_of,
    g_mothers_of := PySem.W.mg_of X G a_mothers_of,
    F__law_long := fun_mk (st := s__law_long) l__law_long c__law_long k__law_long,
    g__law_long := PySem.W.mg_of X G a__law_long,
    F__law_done := fun_mk (st := s__law_done) l__law_done c__law_done k__law_done,
    g__law_done := PySem.W.mg_of X G a__law_done,
    F_Course_done := fun_mk (st := s_Course_done) l_Course_done c_Course_done k_Course_done,
    F__law_sent_right := fun_mk (st := s__law_sent_right) l__law_sent_right c__law_sent_right k__law_sent_right,
    g__law_sent_right := PySem.W.mg_of X G a__law_sent_right,
    F_law := fun_mk (st := s_law) l_law c_law k_law,
    g_law := PySem.W.mg_of X G a_law,
    z_abs := PySem.W.mg_none_of X G z_abs,
    z_all := PySem.W.mg_none_of X G z_all,
    z_any := PySem.W.mg_none_of X G z_any,
    z_enumerate := PySem.W.mg_none_of X G z_enumerate,
    z_int := PySem.W.mg_none_of X G z_int,
    z_isinstance := PySem.W.mg_none_of X G z_isinstance,
    z_len := PySem.W.mg_none_of X G z_len,
    z_list := PySem.W.mg_none_of X G z_list,
    z_max := PySem.W.mg_none_of X G z_max,
    z_range := PySem.W.mg_none_of X G z_range,
    z_sorted := PySem.W.mg_none_of X G z_sorted,
    z_str := PySem.W.mg_none_of X G z_str,
    z_tuple := PySem.W.mg_none_of X G z_tuple,
    z_zip := PySem.W.mg_none_of X G z_zip,
    k_BEGIN := ⟨_, PySem.W.mg_of X G kc_BEGIN⟩,
    k_EDGE := ⟨_, PySem.W.mg_of X G kc_EDGE⟩,
    k_LETTERS := ⟨_, PySem.W.mg_of X G kc_LETTERS⟩,
    k_MOST_SHIFTS := ⟨_, PySem.W.mg_of X G kc_MOST_SHIFTS⟩,
    k_MOST_SOUNDS_checks := ⟨_, PySem.W.mg_of X G kc_MOST_SOUNDS_checks⟩,
    k_MOST_SOUNDS_fallen := ⟨_, PySem.W.mg_of X G kc_MOST_SOUNDS_fallen⟩,
    k_MOST_STOCK := ⟨_, PySem.W.mg_of X G kc_MOST_STOCK⟩,
    xn_BadWord_part := xn_BadWord_part,
    x_BadWord := clsF_mk X G aC_BadWord xL_BadWord bm_ok_BadWord sa_BadWord ex_BadWord ty_BadWord kC_BadWord i_BadWord ti_BadWord ⟨ga_BadWord, gg_BadWord, ex_BadWord, hd_BadWord⟩,
    xn_BadStock_part := xn_BadStock_part,
    x_BadStock := clsF_mk X G aC_BadStock xL_BadStock bm_ok_BadStock sa_BadStock ex_BadStock ty_BadStock kC_BadStock i_BadStock ti_BadStock ⟨ga_BadStock, gg_BadStock, ex_BadStock, hd_BadStock⟩,
    xn_BadCourse_part := xn_BadCourse_part,
    x_BadCourse := clsF_mk X G aC_BadCourse xL_BadCourse bm_ok_BadCourse sa_BadCourse ex_BadCourse ty_BadCourse kC_BadCourse i_BadCourse ti_BadCourse ⟨ga_BadCourse, gg_BadCourse, ex_BadCourse, hd_BadCourse⟩,
    xn_TooMany_what := xn_TooMany_what,
    xn_TooMany_most := xn_TooMany_most,
    x_TooMany := clsF_mk X G aC_TooMany xL_TooMany bm_ok_TooMany sa_TooMany ex_TooMany ty_TooMany kC_TooMany i_TooMany ti_TooMany ⟨ga_TooMany, gg_TooMany, ex_TooMany, hd_TooMany⟩,
    xn_BadText_line := xn_BadText_line,
    xn_BadText_item := xn_BadText_item,
    x_BadText := clsF_mk X G aC_BadText xL_BadText bm_ok_BadText sa_BadText ex_BadText ty_BadText kC_BadText i_BadText ti_BadText ⟨ga_BadText, gg_BadText, ex_BadText, hd_BadText⟩,
    xn_BadShift_part := xn_BadShift_part,
    x_BadShift := clsF_mk X G aC_BadShift xL_BadShift bm_ok_BadShift sa_BadShift ex_BadShift ty_BadShift kC_BadShift i_BadShift ti_BadShift ⟨ga_BadShift, gg_BadShift, ex_BadShift, hd_BadShift⟩,
    xn_NoShift_value := xn_NoShift_value,
    x_NoShift := clsF_mk X G aC_NoShift xL_NoShift bm_ok_NoShift sa_NoShift ex_NoShift ty_NoShift kC_NoShift i_NoShift ti_Missing ⟨ga_NoShift, gg_NoShift, ex_NoShift, hd_NoShift⟩,
    F_i_BadWord := fun_mk (st := s_i_BadWord) li_BadWord ci_BadWord ki_BadWord,
    F_i_BadStock := fun_mk (st := s_i_BadStock) li_BadStock ci_BadStock ki_BadStock,
    F_i_BadCourse := fun_mk (st := s_i_BadCourse) li_BadCourse ci_BadCourse ki_BadCourse,
    F_i_TooMany := fun_mk (st := s_i_TooMany) li_TooMany ci_TooMany ki_TooMany,
    F_i_BadText := fun_mk (st := s_i_BadText) li_BadText ci_BadText ki_BadText,
    F_i_BadShift := fun_mk (st := s_i_BadShift) li_BadShift ci_BadShift ki_BadShift,
    F_i_Missing := fun_mk (st := s_i_Missing) li_Missing ci_Missing ki_Missing,
    hx := fun c hc => match c, hc with
    | 0, _ => fun j hj => match j, hj with | 0, _ => exm_of ex_BadWord ic_BadWord ty_BadWord e_BadWord_BadWord | 1, _ => exm_of ex_BadStock ic_BadStock ty_BadStock e_BadWord_BadStock | 2, _ => exm_of ex_BadCourse ic_BadCourse ty_BadCourse e_BadWord_BadCourse | 3, _ => exm_of ex_TooMany ic_TooMany ty_TooMany e_BadWord_TooMany | 4, _ => exm_of ex_BadText ic_BadText ty_BadText e_BadWord_BadText | 5, _ => exm_of ex_BadShift ic_BadShift ty_BadShift e_BadWord_BadShift | 6, _ => exm_of ex_NoShift ic_NoShift ty_NoShift e_BadWord_NoShift | j + 7, hj => absurd hj (by simp [nC])
    | 1, _ => fun j hj => match j, hj with | 0, _ => exm_of ex_BadWord ic_BadWord ty_BadWord e_BadStock_BadWord | 1, _ => exm_of ex_BadStock ic_BadStock ty_BadStock e_BadStock_BadStock | 2, _ => exm_of ex_BadCourse ic_BadCourse ty_BadCourse e_BadStock_BadCourse | 3, _ => exm_of ex_TooMany ic_TooMany ty_TooMany e_BadStock_TooMany | 4, _ => exm_of ex_BadText ic_BadText ty_BadText e_BadStock_BadText | 5, _ => exm_of ex_BadShift ic_BadShift ty_BadShift e_BadStock_BadShift | 6, _ => exm_of ex_NoShift ic_NoShift ty_NoShift e_BadStock_NoShift | j + 7, hj => absurd hj (by simp [nC])
    | 2, _ => fun j hj => match j, hj with | 0, _ => exm_of ex_BadWord ic_BadWord ty_BadWord e_BadCourse_BadWord | 1, _ => exm_of ex_BadStock ic_BadStock ty_BadStock e_BadCourse_BadStock | 2, _ => exm_of ex_BadCourse ic_BadCourse ty_BadCourse e_BadCourse_BadCourse | 3, _ => exm_of ex_TooMany ic_TooMany ty_TooMany e_BadCourse_TooMany | 4, _ => exm_of ex_BadText ic_BadText ty_BadText e_BadCourse_BadText | 5, _ => exm_of ex_BadShift ic_BadShift ty_BadShift e_BadCourse_BadShift | 6, _ => exm_of ex_NoShift ic_NoShift ty_NoShift e_BadCourse_NoShift | j + 7, hj => absurd hj (by simp [nC])
    | 3, _ => fun j hj => match j, hj with | 0, _ => exm_of ex_BadWord ic_BadWord ty_BadWord e_TooMany_BadWord | 1, _ => exm_of ex_BadStock ic_BadStock ty_BadStock e_TooMany_BadStock | 2, _ => exm_of ex_BadCourse ic_BadCourse ty_BadCourse e_TooMany_BadCourse | 3, _ => exm_of ex_TooMany ic_TooMany ty_TooMany e_TooMany_TooMany | 4, _ => exm_of ex_BadText ic_BadText ty_BadText e_TooMany_BadText | 5, _ => exm_of ex_BadShift ic_BadShift ty_BadShift e_TooMany_BadShift | 6, _ => exm_of ex_NoShift ic_NoShift ty_NoShift e_TooMany_NoShift | j + 7, hj => absurd hj (by simp [nC])
    | 4, _ => fun j hj => match j, hj with | 0, _ => exm_of ex_BadWord ic_BadWord ty_BadWord e_BadText_BadWord | 1, _ => exm_of ex_BadStock ic_BadStock ty_BadStock e_BadText_BadStock | 2, _ => exm_of ex_BadCourse ic_BadCourse ty_BadCourse e_BadText_BadCourse | 3, _ => exm_of ex_TooMany ic_TooMany ty_TooMany e_BadText_TooMany | 4, _ => exm_of ex_BadText ic_BadText ty_BadText e_BadText_BadText | 5, _ => exm_of ex_BadShift ic_BadShift ty_BadShift e_BadText_BadShift | 6, _ => exm_of ex_NoShift ic_NoShift ty_NoShift e_BadText_NoShift | j + 7, hj => absurd hj (by simp [nC])
    | 5, _ => fun j hj => match j, hj with | 0, _ => exm_of ex_BadWord ic_BadWord ty_BadWord e_BadShift_BadWord | 1, _ => exm_of ex_BadStock ic_BadStock ty_BadStock e_BadShift_BadStock | 2, _ => exm_of ex_BadCourse ic_BadCourse ty_BadCourse e_BadShift_BadCourse | 3, _ => exm_of ex_TooMany ic_TooMany ty_TooMany e_BadShift_TooMany | 4, _ => exm_of ex_BadText ic_BadText ty_BadText e_BadShift_BadText | 5, _ => exm_of ex_BadShift ic_BadShift ty_BadShift e_BadShift_BadShift | 6, _ => exm_of ex_NoShift ic_NoShift ty_NoShift e_BadShift_NoShift | j + 7, hj => absurd hj (by simp [nC])
    | 6, _ => fun j hj => match j, hj with | 0, _ => exm_of ex_BadWord ic_BadWord ty_BadWord e_NoShift_BadWord | 1, _ => exm_of ex_BadStock ic_BadStock ty_BadStock e_NoShift_BadStock | 2, _ => exm_of ex_BadCourse ic_BadCourse ty_BadCourse e_NoShift_BadCourse | 3, _ => exm_of ex_TooMany ic_TooMany ty_TooMany e_NoShift_TooMany | 4, _ => exm_of ex_BadText ic_BadText ty_BadText e_NoShift_BadText | 5, _ => exm_of ex_BadShift ic_BadShift ty_BadShift e_NoShift_BadShift | 6, _ => exm_of ex_NoShift ic_NoShift ty_NoShift e_NoShift_NoShift | j + 7, hj => absurd hj (by simp [nC])
    | c + 7, hc => absurd hc (by simp [nC]) }
  exact ok_law T pure_law
end K16
end
section
set_option maxHeartbeats 0
set_option maxRecDepth 100000
open_top hd for PySem.Challenge.rw_foretongue_k16_words_sent_back
end
section
set_option Elab.async false
set_option linter.all false
open PySem PySem.W PyProof.Rows
set_option maxRecDepth 100000 in
set_option maxHeartbeats 0 in
theorem PySem.Challenge.cw_foretongue_k16_words_sent_back_holds : PySem.Challenge.rw_foretongue_k16_words_sent_back.Holds :=
  hd (by
  k_fill
  refine LamX.walk_ofTs (n := 63) (k := 9) (x := "_law_script") (CX := fun w => L2.CX PySem.Challenge.rw_foretongue_k16_words_sent_back.prog w) rfl (by decide) rfl ⟨rfl, by decide, by decide⟩ (fun w h Y => PySem.W.kIn_of Y) ?F ?X
  case X => exact fun w H s e s' z => FT.cx_no z
  case F =>
    intro w mg fa h Y KX G hmg
    refine' K16.all_mk  KX G hmg ?aC_Course ?pg_Course ?hd_Course ?po_Course ?sa_Course ?oa_Course ?om_Course ?mm_Course ?mi_Course ?mf_Course ?mp_Course ?ma_Course_done ?mn_Course_done ?mk_Course_done ?na_Course_shifts ?na_Course_falls ?na_Course_sounds ?aC_Shift ?pg_Shift ?hd_Shift ?po_Shift ?sa_Shift ?oa_Shift ?om_Shift ?mm_Shift ?mi_Shift ?mf_Shift ?mp_Shift ?na_Shift_falls ?na_Shift_sounds ?na_Shift_old ?na_Shift_new ?na_Shift_left ?na_Shift_right ?kn ?kt ?ki_Shift_Course ?ki_Shift_Shift ?kb_Shift_NoneType ?kb_Shift_bool ?kb_Shift_int ?kb_Shift_str ?kb_Shift_list ?kb_Shift_tuple ?ki_Course_Course ?ki_Course_Shift ?kb_Course_NoneType ?kb_Course_bool ?kb_Course_int ?kb_Course_str ?kb_Course_list ?kb_Course_tuple ?a__law_pen ?l__law_pen ?c__law_pen ?k__law_pen ?a__law_draw ?l__law_draw ?c__law_draw ?k__law_draw ?a__law_pick ?l__law_pick ?c__law_pick ?k__law_pick ?a__law_side ?l__law_side ?c__law_side ?k__law_side ?a__law_world ?l__law_world ?c__law_world ?k__law_world ?a__law_word ?l__law_word ?c__law_word ?k__law_word ?a_sounds_in_shifts ?l_sounds_in_shifts ?c_sounds_in_shifts ?k_sounds_in_shifts ?l_Course_init ?c_Course_init ?k_Course_init ?a_is_sound ?l_is_sound ?c_is_sound ?k_is_sound ?a_is_new ?l_is_new ?c_is_new ?k_is_new ?a_is_side ?l_is_side ?c_is_side ?k_is_side ?l_Shift_init ?c_Shift_init ?dl_Shift_init ?dr_Shift_init ?k_Shift_init ?a__law_made ?l__law_made ?c__law_made ?k__law_made ?a_need_course ?l_need_course ?c_need_course ?k_need_course ?a_is_stock ?l_is_stock ?c_is_stock ?k_is_stock ?a_need_stock ?l_need_stock ?c_need_stock ?k_need_stock ?a_is_word ?l_is_word ?c_is_word ?k_is_word ?a_need_word ?l_need_word ?c_need_word ?k_need_word ?a_need_standing ?l_need_standing ?c_need_standing ?k_need_standing ?a_most_sounds ?l_most_sounds ?c_most_sounds ?k_most_sounds ?a_room_with ?l_room_with ?c_room_with ?k_room_with ?a_sounds_in_rooms ?l_sounds_in_rooms ?c_sounds_in_rooms ?k_sounds_in_rooms ?a_is_beside ?l_is_beside ?c_is_beside ?k_is_beside ?a_places_in ?l_places_in ?c_places_in ?k_places_in ?a_done_by ?l_done_by ?c_done_by ?k_done_by ?a_steps_of ?l_steps_of ?c_steps_of ?k_steps_of ?a_outcome_of ?l_outcome_of ?c_outcome_of ?k_outcome_of ?a_step_in ?l_step_in ?c_step_in ?k_step_in ?a_rest_in ?l_rest_in ?c_rest_in ?k_rest_in ?a_mothers_of ?l_mothers_of ?c_mothers_of ?k_mothers_of ?a__law_long ?l__law_long ?c__law_long ?k__law_long ?a__law_done ?l__law_done ?c__law_done ?k__law_done ?l_Course_done ?c_Course_done ?k_Course_done ?a__law_sent_right ?l__law_sent_right ?c__law_sent_right ?k__law_sent_right ?a_law ?l_law ?c_law ?k_law ?z_abs ?z_all ?z_any ?z_enumerate ?z_int ?z_isinstance ?z_len ?z_list ?z_max ?z_range ?z_sorted ?z_str ?z_tuple ?z_zip ?kc_BEGIN ?kc_EDGE ?kc_LETTERS ?kc_MOST_SHIFTS ?kc_MOST_SOUNDS_checks ?kc_MOST_SOUNDS_fallen ?kc_MOST_STOCK ?aC_BadWord ?xL_BadWord ?bm_ok_BadWord ?sa_BadWord ?ex_BadWord ?ty_BadWord ?kC_BadWord ?i_BadWord ?ga_BadWord ?gg_BadWord ?hd_BadWord ?ic_BadWord ?xn_BadWord_part ?aC_BadStock ?xL_BadStock ?bm_ok_BadStock ?sa_BadStock ?ex_BadStock ?ty_BadStock ?kC_BadStock ?i_BadStock ?ga_BadStock ?gg_BadStock ?hd_BadStock ?ic_BadStock ?xn_BadStock_part ?aC_BadCourse ?xL_BadCourse ?bm_ok_BadCourse ?sa_BadCourse ?ex_BadCourse ?ty_BadCourse ?kC_BadCourse ?i_BadCourse ?ga_BadCourse ?gg_BadCourse ?hd_BadCourse ?ic_BadCourse ?xn_BadCourse_part ?aC_TooMany ?xL_TooMany ?bm_ok_TooMany ?sa_TooMany ?ex_TooMany ?ty_TooMany ?kC_TooMany ?i_TooMany ?ga_TooMany ?gg_TooMany ?hd_TooMany ?ic_TooMany ?xn_TooMany_what ?xn_TooMany_most ?aC_BadText ?xL_BadText ?bm_ok_BadText ?sa_BadText ?ex_BadText ?ty_BadText ?kC_BadText ?i_BadText ?ga_BadText ?gg_BadText ?hd_BadText ?ic_BadText ?xn_BadText_line ?xn_BadText_item ?aC_BadShift ?xL_BadShift ?bm_ok_BadShift ?sa_BadShift ?ex_BadShift ?ty_BadShift ?kC_BadShift ?i_BadShift ?ga_BadShift ?gg_BadShift ?hd_BadShift ?ic_BadShift ?xn_BadShift_part ?aC_NoShift ?xL_NoShift ?bm_ok_NoShift ?sa_NoShift ?ex_NoShift ?ty_NoShift ?kC_NoShift ?i_NoShift ?ga_NoShift ?gg_NoShift ?hd_NoShift ?ic_NoShift ?xn_NoShift_value ?ti_BadWord ?li_BadWord ?ci_BadWord ?ki_BadWord ?ti_BadStock ?li_BadStock ?ci_BadStock ?ki_BadStock ?ti_BadCourse ?li_BadCourse ?ci_BadCourse ?ki_BadCourse ?ti_TooMany ?li_TooMany ?ci_TooMany ?ki_TooMany ?ti_BadText ?li_BadText ?ci_BadText ?ki_BadText ?ti_BadShift ?li_BadShift ?ci_BadShift ?ki_BadShift ?ti_Missing ?li_Missing ?ci_Missing ?ki_Missing ?e_BadWord_BadWord ?e_BadWord_BadStock ?e_BadWord_BadCourse ?e_BadWord_TooMany ?e_BadWord_BadText ?e_BadWord_BadShift ?e_BadWord_NoShift ?e_BadStock_BadWord ?e_BadStock_BadStock ?e_BadStock_BadCourse ?e_BadStock_TooMany ?e_BadStock_BadText ?e_BadStock_BadShift ?e_BadStock_NoShift ?e_BadCourse_BadWord ?e_BadCourse_BadStock ?e_BadCourse_BadCourse ?e_BadCourse_TooMany ?e_BadCourse_BadText ?e_BadCourse_BadShift ?e_BadCourse_NoShift ?e_TooMany_BadWord ?e_TooMany_BadStock ?e_TooMany_BadCourse ?e_TooMany_TooMany ?e_TooMany_BadText ?e_TooMany_BadShift ?e_TooMany_NoShift ?e_BadText_BadWord ?e_BadText_BadStock ?e_BadText_BadCourse ?e_BadText_TooMany ?e_BadText_BadText ?e_BadText_BadShift ?e_BadText_NoShift ?e_BadShift_BadWord ?e_BadShift_BadStock ?e_BadShift_BadCourse ?e_BadShift_TooMany ?e_BadShift_BadText ?e_BadShift_BadShift ?e_BadShift_NoShift ?e_NoShift_BadWord ?e_NoShift_BadStock ?e_NoShift_BadCourse ?e_NoShift_TooMany ?e_NoShift_BadText ?e_NoShift_BadShift ?e_NoShift_NoShift
    (case aC_Course => k_is)
    (case pg_Course => k_is)
    (case hd_Course => k_is)
    (case po_Course => k_is)
    (case sa_Course => k_is)
    (case oa_Course => k_is)
    (case om_Course => (first | k_is | rfl | decide +kernel))
    (case mm_Course => k_is)
    (case mi_Course => k_is)
    (case mf_Course => k_is)
    (case mp_Course => k_is)
    (case ma_Course_done => k_is)
    (case mn_Course_done => k_is)
    (case mk_Course_done => k_is)
    (case na_Course_shifts => k_is)
    (case na_Course_falls => k_is)
    (case na_Course_sounds => k_is)
    (case aC_Shift => k_is)
    (case pg_Shift => k_is)
    (case hd_Shift => k_is)
    (case po_Shift => k_is)
    (case sa_Shift => k_is)
    (case oa_Shift => k_is)
    (case om_Shift => (first | k_is | rfl | decide +kernel))
    (case mm_Shift => k_is)
    (case mi_Shift => k_is)
    (case mf_Shift => k_is)
    (case mp_Shift => k_is)
    (case na_Shift_falls => k_is)
    (case na_Shift_sounds => k_is)
    (case na_Shift_old => k_is)
    (case na_Shift_new => k_is)
    (case na_Shift_left => k_is)
    (case na_Shift_right => k_is)
    (case kn => (first | k_is | rfl | decide +kernel))
    (case kt => (first | k_is | rfl | decide +kernel))
    (case ki_Shift_Course => (first | k_is | rfl | decide +kernel))
    (case ki_Shift_Shift => (first | k_is | rfl | decide +kernel))
    (case kb_Shift_NoneType => (first | k_is | rfl | decide +kernel))
    (case kb_Shift_bool => (first | k_is | rfl | decide +kernel))
    (case kb_Shift_int => (first | k_is | rfl | decide +kernel))
    (case kb_Shift_str => (first | k_is | rfl | decide +kernel))
    (case kb_Shift_list => (first | k_is | rfl | decide +kernel))
    (case kb_Shift_tuple => (first | k_is | rfl | decide +kernel))
    (case ki_Course_Course => (first | k_is | rfl | decide +kernel))
    (case ki_Course_Shift => (first | k_is | rfl | decide +kernel))
    (case kb_Course_NoneType => (first | k_is | rfl | decide +kernel))
    (case kb_Course_bool => (first | k_is | rfl | decide +kernel))
    (case kb_Course_int => (first | k_is | rfl | decide +kernel))
    (case kb_Course_str => (first | k_is | rfl | decide +kernel))
    (case kb_Course_list => (first | k_is | rfl | decide +kernel))
    (case kb_Course_tuple => (first | k_is | rfl | decide +kernel))
    (case a__law_pen => k_is)
    (case l__law_pen => k_is)
    (case c__law_pen => k_is)
    (case k__law_pen => k_is)
    (case a__law_draw => k_is)
    (case l__law_draw => k_is)
    (case c__law_draw => k_is)
    (case k__law_draw => k_is)
    (case a__law_pick => k_is)
    (case l__law_pick => k_is)
    (case c__law_pick => k_is)
    (case k__law_pick => k_is)
    (case a__law_side => k_is)
    (case l__law_side => k_is)
    (case c__law_side => k_is)
    (case k__law_side => k_is)
    (case a__law_world => k_is)
    (case l__law_world => k_is)
    (case c__law_world => k_is)
    (case k__law_world => k_is)
    (case a__law_word => k_is)
    (case l__law_word => k_is)
    (case c__law_word => k_is)
    (case k__law_word => k_is)
    (case a_sounds_in_shifts => k_is)
    (case l_sounds_in_shifts => k_is)
    (case c_sounds_in_shifts => k_is)
    (case k_sounds_in_shifts => k_is)
    (case l_Course_init => k_is)
    (case c_Course_init => k_is)
    (case k_Course_init => k_is)
    (case a_is_sound => k_is)
    (case l_is_sound => k_is)
    (case c_is_sound => k_is)
    (case k_is_sound => k_is)
    (case a_is_new => k_is)
    (case l_is_new => k_is)
    (case c_is_new => k_is)
    (case k_is_new => k_is)
    (case a_is_side => k_is)
    (case l_is_side => k_is)
    (case c_is_side => k_is)
    (case k_is_side => k_is)
    (case l_Shift_init => k_is)
    (case c_Shift_init => k_is)
    (case dl_Shift_init => k_is)
    (case dr_Shift_init => (exact (.cons rfl (.cons rfl .nil))))
    (case k_Shift_init => k_is)
    (case a__law_made => k_is)
    (case l__law_made => k_is)
    (case c__law_made => k_is)
    (case k__law_made => k_is)
    (case a_need_course => k_is)
    (case l_need_course => k_is)
    (case c_need_course => k_is)
    (case k_need_course => k_is)
    (case a_is_stock => k_is)
    (case l_is_stock => k_is)
    (case c_is_stock => k_is)
    (case k_is_stock => k_is)
    (case a_need_stock => k_is)
    (case l_need_stock => k_is)
    (case c_need_stock => k_is)
    (case k_need_stock => k_is)
    (case a_is_word => k_is)
    (case l_is_word => k_is)
    (case c_is_word => k_is)
    (case k_is_word => k_is)
    (case a_need_word => k_is)
    (case l_need_word => k_is)
    (case c_need_word => k_is)
    (case k_need_word => k_is)
    (case a_need_standing => k_is)
    (case l_need_standing => k_is)
    (case c_need_standing => k_is)
    (case k_need_standing => k_is)
    (case a_most_sounds => k_is)
    (case l_most_sounds => k_is)
    (case c_most_sounds => k_is)
    (case k_most_sounds => k_is)
    (case a_room_with => k_is)
    (case l_room_with => k_is)
    (case c_room_with => k_is)
    (case k_room_with => k_is)
    (case a_sounds_in_rooms => k_is)
    (case l_sounds_in_rooms => k_is)
    (case c_sounds_in_rooms => k_is)
    (case k_sounds_in_rooms => k_is)
    (case a_is_beside => k_is)
    (case l_is_beside => k_is)
    (case c_is_beside => k_is)
    (case k_is_beside => k_is)
    (case a_places_in => k_is)
    (case l_places_in => k_is)
    (case c_places_in => k_is)
    (case k_places_in => k_is)
    (case a_done_by => k_is)
    (case l_done_by => k_is)
    (case c_done_by => k_is)
    (case k_done_by => k_is)
    (case a_steps_of => k_is)
    (case l_steps_of => k_is)
    (case c_steps_of => k_is)
    (case k_steps_of => k_is)
    (case a_outcome_of => k_is)
    (case l_outcome_of => k_is)
    (case c_outcome_of => k_is)
    (case k_outcome_of => k_is)
    (case a_step_in => k_is)
    (case l_step_in => k_is)
    (case c_step_in => k_is)
    (case k_step_in => k_is)
    (case a_rest_in => k_is)
    (case l_rest_in => k_is)
    (case c_rest_in => k_is)
    (case k_rest_in => k_is)
    (case a_mothers_of => k_is)
    (case l_mothers_of => k_is)
    (case c_mothers_of => k_is)
    (case k_mothers_of => k_is)
    (case a__law_long => k_is)
    (case l__law_long => k_is)
    (case c__law_long => k_is)
    (case k__law_long => k_is)
    (case a__law_done => k_is)
    (case l__law_done => k_is)
    (case c__law_done => k_is)
    (case k__law_done => k_is)
    (case l_Course_done => k_is)
    (case c_Course_done => k_is)
    (case k_Course_done => k_is)
    (case a__law_sent_right => k_is)
    (case l__law_sent_right => k_is)
    (case c__law_sent_right => k_is)
    (case k__law_sent_right => k_is)
    (case a_law => k_is)
    (case l_law => k_is)
    (case c_law => k_is)
    (case k_law => k_is)
    (case z_abs => k_is)
    (case z_all => k_is)
    (case z_any => k_is)
    (case z_enumerate => k_is)
    (case z_int => k_is)
    (case z_isinstance => k_is)
    (case z_len => k_is)
    (case z_list => k_is)
    (case z_max => k_is)
    (case z_range => k_is)
    (case z_sorted => k_is)
    (case z_str => k_is)
    (case z_tuple => k_is)
    (case z_zip => k_is)
    (case kc_BEGIN => k_is)
    (case kc_EDGE => k_is)
    (case kc_LETTERS => k_is)
    (case kc_MOST_SHIFTS => k_is)
    (case kc_MOST_SOUNDS_checks => k_is)
    (case kc_MOST_SOUNDS_fallen => k_is)
    (case kc_MOST_STOCK => k_is)
    (case aC_BadWord => k_is)
    (case xL_BadWord => k_is)
    (case bm_ok_BadWord => (first | rfl | decide +kernel | k_is))
    (case sa_BadWord => k_is)
    (case ex_BadWord => k_is)
    (case ty_BadWord => k_is)
    (case kC_BadWord => k_is)
    (case i_BadWord => k_is)
    (case ga_BadWord => k_is)
    (case gg_BadWord => k_is)
    (case hd_BadWord => k_is)
    (case ic_BadWord => k_is)
    (case xn_BadWord_part => k_is)
    (case aC_BadStock => k_is)
    (case xL_BadStock => k_is)
    (case bm_ok_BadStock => (first | rfl | decide +kernel | k_is))
    (case sa_BadStock => k_is)
    (case ex_BadStock => k_is)
    (case ty_BadStock => k_is)
    (case kC_BadStock => k_is)
    (case i_BadStock => k_is)
    (case ga_BadStock => k_is)
    (case gg_BadStock => k_is)
    (case hd_BadStock => k_is)
    (case ic_BadStock => k_is)
    (case xn_BadStock_part => k_is)
    (case aC_BadCourse => k_is)
    (case xL_BadCourse => k_is)
    (case bm_ok_BadCourse => (first | rfl | decide +kernel | k_is))
    (case sa_BadCourse => k_is)
    (case ex_BadCourse => k_is)
    (case ty_BadCourse => k_is)
    (case kC_BadCourse => k_is)
    (case i_BadCourse => k_is)
    (case ga_BadCourse => k_is)
    (case gg_BadCourse => k_is)
    (case hd_BadCourse => k_is)
    (case ic_BadCourse => k_is)
    (case xn_BadCourse_part => k_is)
    (case aC_TooMany => k_is)
    (case xL_TooMany => k_is)
    (case bm_ok_TooMany => (first | rfl | decide +kernel | k_is))
    (case sa_TooMany => k_is)
    (case ex_TooMany => k_is)
    (case ty_TooMany => k_is)
    (case kC_TooMany => k_is)
    (case i_TooMany => k_is)
    (case ga_TooMany => k_is)
    (case gg_TooMany => k_is)
    (case hd_TooMany => k_is)
    (case ic_TooMany => k_is)
    (case xn_TooMany_what => k_is)
    (case xn_TooMany_most => k_is)
    (case aC_BadText => k_is)
    (case xL_BadText => k_is)
    (case bm_ok_BadText => (first | rfl | decide +kernel | k_is))
    (case sa_BadText => k_is)
    (case ex_BadText => k_is)
    (case ty_BadText => k_is)
    (case kC_BadText => k_is)
    (case i_BadText => k_is)
    (case ga_BadText => k_is)
    (case gg_BadText => k_is)
    (case hd_BadText => k_is)
    (case ic_BadText => k_is)
    (case xn_BadText_line => k_is)
    (case xn_BadText_item => k_is)
    (case aC_BadShift => k_is)
    (case xL_BadShift => k_is)
    (case bm_ok_BadShift => (first | rfl | decide +kernel | k_is))
    (case sa_BadShift => k_is)
    (case ex_BadShift => k_is)
    (case ty_BadShift => k_is)
    (case kC_BadShift => k_is)
    (case i_BadShift => k_is)
    (case ga_BadShift => k_is)
    (case gg_BadShift => k_is)
    (case hd_BadShift => k_is)
    (case ic_BadShift => k_is)
    (case xn_BadShift_part => k_is)
    (case aC_NoShift => k_is)
    (case xL_NoShift => k_is)
    (case bm_ok_NoShift => (first | rfl | decide +kernel | k_is))
    (case sa_NoShift => k_is)
    (case ex_NoShift => k_is)
    (case ty_NoShift => k_is)
    (case kC_NoShift => k_is)
    (case i_NoShift => k_is)
    (case ga_NoShift => k_is)
    (case gg_NoShift => k_is)
    (case hd_NoShift => k_is)
    (case ic_NoShift => k_is)
    (case xn_NoShift_value => k_is)
    (case ti_BadWord => k_is)
    (case li_BadWord => k_is)
    (case ci_BadWord => k_is)
    (case ki_BadWord => k_is)
    (case ti_BadStock => k_is)
    (case li_BadStock => k_is)
    (case ci_BadStock => k_is)
    (case ki_BadStock => k_is)
    (case ti_BadCourse => k_is)
    (case li_BadCourse => k_is)
    (case ci_BadCourse => k_is)
    (case ki_BadCourse => k_is)
    (case ti_TooMany => k_is)
    (case li_TooMany => k_is)
    (case ci_TooMany => k_is)
    (case ki_TooMany => k_is)
    (case ti_BadText => k_is)
    (case li_BadText => k_is)
    (case ci_BadText => k_is)
    (case ki_BadText => k_is)
    (case ti_BadShift => k_is)
    (case li_BadShift => k_is)
    (case ci_BadShift => k_is)
    (case ki_BadShift => k_is)
    (case ti_Missing => k_is)
    (case li_Missing => k_is)
    (case ci_Missing => k_is)
    (case ki_Missing => k_is)
    (case e_BadWord_BadWord => (first | rfl | k_is))
    (case e_BadWord_BadStock => (first | rfl | k_is))
    (case e_BadWord_BadCourse => (first | rfl | k_is))
    (case e_BadWord_TooMany => (first | rfl | k_is))
    (case e_BadWord_BadText => (first | rfl | k_is))
    (case e_BadWord_BadShift => (first | rfl | k_is))
    (case e_BadWord_NoShift => (first | rfl | k_is))
    (case e_BadStock_BadWord => (first | rfl | k_is))
    (case e_BadStock_BadStock => (first | rfl | k_is))
    (case e_BadStock_BadCourse => (first | rfl | k_is))
    (case e_BadStock_TooMany => (first | rfl | k_is))
    (case e_BadStock_BadText => (first | rfl | k_is))
    (case e_BadStock_BadShift => (first | rfl | k_is))
    (case e_BadStock_NoShift => (first | rfl | k_is))
    (case e_BadCourse_BadWord => (first | rfl | k_is))
    (case e_BadCourse_BadStock => (first | rfl | k_is))
    (case e_BadCourse_BadCourse => (first | rfl | k_is))
    (case e_BadCourse_TooMany => (first | rfl | k_is))
    (case e_BadCourse_BadText => (first | rfl | k_is))
    (case e_BadCourse_BadShift => (first | rfl | k_is))
    (case e_BadCourse_NoShift => (first | rfl | k_is))
    (case e_TooMany_BadWord => (first | rfl | k_is))
    (case e_TooMany_BadStock => (first | rfl | k_is))
    (case e_TooMany_BadCourse => (first | rfl | k_is))
    (case e_TooMany_TooMany => (first | rfl | k_is))
    (case e_TooMany_BadText => (first | rfl | k_is))
    (case e_TooMany_BadShift => (first | rfl | k_is))
    (case e_TooMany_NoShift => (first | rfl | k_is))
    (case e_BadText_BadWord => (first | rfl | k_is))
    (case e_BadText_BadStock => (first | rfl | k_is))
    (case e_BadText_BadCourse => (first | rfl | k_is))
    (case e_BadText_TooMany => (first | rfl | k_is))
    (case e_BadText_BadText => (first | rfl | k_is))
    (case e_BadText_BadShift => (first | rfl | k_is))
    (case e_BadText_NoShift => (first | rfl | k_is))
    (case e_BadShift_BadWord => (first | rfl | k_is))
    (case e_BadShift_BadStock => (first | rfl | k_is))
    (case e_BadShift_BadCourse => (first | rfl | k_is))
    (case e_BadShift_TooMany => (first | rfl | k_is))
    (case e_BadShift_BadText => (first | rfl | k_is))
    (case e_BadShift_BadShift => (first | rfl | k_is))
    (case e_BadShift_NoShift => (first | rfl | k_is))
    (case e_NoShift_BadWord => (first | rfl | k_is))
    (case e_NoShift_BadStock => (first | rfl | k_is))
    (case e_NoShift_BadCourse => (first | rfl | k_is))
    (case e_NoShift_TooMany => (first | rfl | k_is))
    (case e_NoShift_BadText => (first | rfl | k_is))
    (case e_NoShift_BadShift => (first | rfl | k_is))
    (case e_NoShift_NoShift => (first | rfl | k_is)))
end
