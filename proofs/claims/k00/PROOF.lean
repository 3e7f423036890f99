import PyProof.Rows.All
import Wide.All
import OpenK.AllK
import Wide.FinOn
import HandS.ForMost
import HandS.IsInst
import HandS.TupAny
import HandS.Deep
import HandS.Style
import HandS.NoneIn
import HandS.ForExc
import HandS.Wide
import PySem.Challenge.RW_signedcorners_k00_points_and_classes
set_option Elab.async false
set_option linter.all false
set_option maxRecDepth 100000
set_option maxHeartbeats 4000000
/-! Pu: a layer over HandS in which each Python def gets a function of plain values. Values PV; what a value V stands for (Rep) in a frozen heap G;
  readings tG that carry a function m of the slots and of the draws. -/
namespace Pu
open PySem PySem.Spec PyProof.Rows L2

/-- the built-in types that laws ask for -/
inductive Tg where
  | non | bool | int | str | tuple | list | dict
  deriving DecidableEq
def Tg.name : Tg → String
  | .non => "NoneType" | .bool => "bool" | .int => "int" | .str => "str" | .tuple => "tuple" | .list => "list" | .dict => "dict"
inductive PV where
  | non | bl (b : Bool) | int (i : Int) | str (x : Str) | tup (xs : List PV) | lst (xs : List PV) | ty (n : Tg) | deal | scr (xs : List PV)

def Sub (H H' : Hp) : Prop := ∀ a o, H a = some o → H' a = some o
theorem Sub.refl (H : Hp) : Sub H H := fun _ _ h => h
theorem Sub.trans {A B C : Hp} (x : Sub A B) (y : Sub B C) : Sub A C := fun a o h => y a o (x a o h)
theorem Sub.new {H : Hp} {p : Addr} {o : HO} (h : H p = none) : Sub H (upd H p o) := fun a u e => by
  rw [upd_ne (ne_of_none e h)]; exact e
theorem Sub.free {A B : Hp} (x : Sub A B) {p : Addr} (h : B p = none) : A p = none := by
  cases q : A p with
  | none => rfl
  | some o => rw [x p o q] at h; cases h
theorem Sub.rd {A B : Hp} (x : Sub A B) {a : Addr} {u : HO} (h : Rd A a u) : Rd B a u := by
  rcases h with h | ⟨o, h⟩
  · exact .inl (x _ _ h)
  · exact .inr ⟨o, x _ _ h⟩
theorem Sub.sqT {K : PySem.W.Frag} {A B : Hp} (x : Sub A B) {a : Addr} {xs : List V} (h : SqT K A a xs) : SqT K B a xs := by
  rcases h with h | h
  · exact .inl (x.rd h)
  · exact .inr h

/-- a tuple: in the frozen heap, or one of the module's -/
def TupAt (K : PySem.W.Frag) (G : Hp) (a : Addr) (vs : List V) : Prop := G a = some (.tup vs) ∨ SqT K (fun _ => none) a vs
theorem TupAt.sq {K : PySem.W.Frag} {G H : Hp} {a : Addr} {vs : List V} (t : TupAt K G a vs) (s : Sub G H) : SqT K H a vs := by
  rcases t with t | t
  · exact .inl (.inl (s _ _ t))
  · exact Sub.sqT (A := fun _ => none) (fun _ _ z => nomatch z) t
theorem TupAt.mono {K : PySem.W.Frag} {G G' : Hp} {a : Addr} {vs : List V} (t : TupAt K G a vs) (s : Sub G G') : TupAt K G' a vs := t.imp (s _ _) id

/-- where the deal stands: its list and the list of its cells -/
abbrev DAt := Option (Addr × Addr)
def dlAt (dl : DAt) (a : Addr) : Prop := ∃ p, dl = some p ∧ (a = p.1 ∨ a = p.2)

mutual
inductive Rep (K : PySem.W.Frag) (dl : DAt) (G : Hp) : V → PV → Prop
  | non : Rep K dl G .non .non
  | bl (b : Bool) : Rep K dl G (.bl b) (.bl b)
  | int (i : Int) : Rep K dl G (.int i) (.int i)
  | str (x : Str) : Rep K dl G (.str x) (.str x)
  | ty (n : Tg) : Rep K dl G (.ty n.name) (.ty n)
  | tup {a : Addr} {vs : List V} {ps : List PV} : TupAt K G a vs → RepA K dl G vs ps → Rep K dl G (.ref a) (.tup ps)
  | lst {a : Addr} {vs : List V} {ps : List PV} : G a = some (.lst vs) → RepA K dl G vs ps → Rep K dl G (.ref a) (.lst ps)
  | deal {a l : Addr} : dl = some (a, l) → Rep K dl G (.ref a) .deal
  | scr {a : Addr} {vs : List V} {ps : List PV} : SqL K G a vs → RepA K dl G vs ps → Rep K dl G (.ref a) (.scr ps)
inductive RepA (K : PySem.W.Frag) (dl : DAt) (G : Hp) : List V → List PV → Prop
  | nil : RepA K dl G [] []
  | cons {v : V} {vs : List V} {p : PV} {ps : List PV} : Rep K dl G v p → RepA K dl G vs ps → RepA K dl G (v :: vs) (p :: ps)
end
section
variable {K : PySem.W.Frag} {dl : DAt} {G G' H : Hp} {v : V} {p : PV} {vs ws : List V} {ps qs : List PV}
mutual
theorem Rep.mono (s : Sub G G') : ∀ (p : PV) {v : V}, Rep K dl G v p → Rep K dl G' v p
  | .non, _, h => by cases h; exact .non
  | .bl b, _, h => by cases h; exact .bl _
  | .int i, _, h => by cases h; exact .int _
  | .str x, _, h => by cases h; exact .str _
  | .ty n, _, h => by cases h; exact .ty _
  | .tup xs, _, h => by cases h with | tup a b => exact .tup (a.mono s) (RepA.mono s xs b)
  | .lst xs, _, h => by cases h with | lst a b => exact .lst (s _ _ a) (RepA.mono s xs b)
  | .deal, _, h => by cases h with | deal a => exact .deal a
  | .scr xs, _, h => by cases h with | scr a b => exact .scr (a.imp (s.rd) id) (RepA.mono s xs b)
theorem RepA.mono (s : Sub G G') : ∀ (ps : List PV) {vs : List V}, RepA K dl G vs ps → RepA K dl G' vs ps
  | [], _, h => by cases h; exact .nil
  | p :: ps, _, h => by cases h with | cons a b => exact .cons (Rep.mono s p a) (RepA.mono s ps b)
end
theorem Rep.up (h : Rep K dl G v p) (s : Sub G G') : Rep K dl G' v p := Rep.mono s p h
theorem RepA.up (h : RepA K dl G vs ps) (s : Sub G G') : RepA K dl G' vs ps := RepA.mono s ps h
theorem RepA.length : ∀ {ps : List PV} {vs : List V}, RepA K dl G vs ps → vs.length = ps.length
  | [], _, h => by cases h; rfl
  | _ :: _, _, h => by cases h with | cons _ b => simp [RepA.length b]
theorem RepA.get : ∀ {ps : List PV} {vs : List V} {i : Nat} {p : PV}, RepA K dl G vs ps → ps[i]? = some p → ∃ v, vs[i]? = some v ∧ Rep K dl G v p
  | [], _, _, _, _, e => by simp at e
  | _ :: _, _, 0, _, h, e => by
    cases h with
    | cons a _ => simp at e; subst e; exact ⟨_, rfl, a⟩
  | _ :: _, _, i + 1, _, h, e => by
    cases h with
    | cons _ b =>
      obtain ⟨v, h1, h2⟩ := RepA.get (i := i) b (by simpa using e)
      exact ⟨v, by simpa using h1, h2⟩
theorem RepA.append : ∀ {ps : List PV} {vs : List V}, RepA K dl G vs ps → RepA K dl G ws qs → RepA K dl G (vs ++ ws) (ps ++ qs)
  | [], _, h, k => by cases h; exact k
  | _ :: _, _, h, k => by cases h with | cons a b => exact .cons a (RepA.append b k)
theorem RepA.take : ∀ (n : Nat) {ps : List PV} {vs : List V}, RepA K dl G vs ps → RepA K dl G (vs.take n) (ps.take n)
  | 0, _, _, _ => by simp; exact .nil
  | _ + 1, [], _, h => by cases h; exact .nil
  | n + 1, _ :: _, _, h => by cases h with | cons a b => exact .cons a (RepA.take n b)
theorem RepA.drop : ∀ (n : Nat) {ps : List PV} {vs : List V}, RepA K dl G vs ps → RepA K dl G (vs.drop n) (ps.drop n)
  | 0, _, _, h => by simpa using h
  | _ + 1, [], _, h => by cases h; exact .nil
  | n + 1, _ :: _, _, h => by cases h with | cons _ b => exact RepA.drop n b
theorem RepA.set (h1 : Rep K dl G v p) : ∀ (n : Nat) {ps : List PV} {vs : List V}, RepA K dl G vs ps → RepA K dl G (vs.set n v) (ps.set n p)
  | _, [], _, h => by cases h; exact .nil
  | 0, _ :: _, _, h => by cases h with | cons a b => exact .cons h1 b
  | n + 1, _ :: _, _, h => by cases h with | cons a b => exact .cons a (RepA.set h1 n b)
theorem RepA.rev : ∀ {ps : List PV} {vs : List V}, RepA K dl G vs ps → RepA K dl G vs.reverse ps.reverse
  | [], _, h => by cases h; exact .nil
  | _ :: _, _, h => by
    cases h with
    | cons a b => rw [List.reverse_cons, List.reverse_cons]; exact RepA.append (RepA.rev b) (.cons a .nil)
theorem RepA.one (h : Rep K dl G v p) : RepA K dl G [v] [p] := .cons h .nil
theorem RepA.ints : ∀ {ns : List Int}, RepA K dl G (ns.map V.int) (ns.map PV.int)
  | [] => .nil
  | _ :: _ => .cons (.int _) RepA.ints
theorem RepA.unints : ∀ {ns : List Int} {vs : List V}, RepA K dl G vs (ns.map PV.int) → vs = ns.map V.int
  | [], _, h => by cases h; rfl
  | _ :: _, _, h => by
    cases h with
    | cons a b => cases a; rw [RepA.unints b]; rfl
theorem RepA.unstrs : ∀ {ns : List Str} {vs : List V}, RepA K dl G vs (ns.map PV.str) → vs = ns.map V.str
  | [], _, h => by cases h; rfl
  | _ :: _, _, h => by
    cases h with
    | cons a b => cases a; rw [RepA.unstrs b]; rfl
theorem RepA.strs : ∀ {ns : List Str}, RepA K dl G (ns.map V.str) (ns.map PV.str)
  | [] => .nil
  | _ :: _ => .cons (.str _) RepA.strs
end

/-! ### the draws -/
structure Deal where
  cells : List Int
  mix : Int
  ok : ∀ c ∈ cells, 0 ≤ c ∧ c < 10 ^ 384
  mok : 0 ≤ mix ∧ mix < 2147483647
  len : cells.length ≤ 63
abbrev Dl := Option Deal
def DlOk (G H : Hp) : DAt → Dl → Prop
  | none, none => True
  | some (a, l), some d => G a = none ∧ G l = none ∧ a ≠ l ∧ H a = some (.lst [.ref l, .int d.mix]) ∧ H l = some (.lst (d.cells.map V.int))
  | _, _ => False
theorem DlOk.there {G H : Hp} {dl : DAt} {D : Dl} (h : DlOk G H dl D) {a : Addr} (x : dlAt dl a) : (∃ xs, H a = some (.lst xs)) ∧ G a = none := by
  obtain ⟨⟨b, l⟩, rfl, x⟩ := x
  cases D with
  | none => exact h.elim
  | some d =>
    obtain ⟨h1, h2, h3, h4, h5⟩ := h
    rcases x with rfl | rfl
    · exact ⟨⟨_, h4⟩, h1⟩
    · exact ⟨⟨_, h5⟩, h2⟩

theorem DlOk.off {G H : Hp} {dl : DAt} {D : Dl} (h : DlOk G H dl D) {p : Addr} (hp : H p = none) : ¬ dlAt dl p := fun x => by
  obtain ⟨⟨xs, z⟩, _⟩ := h.there x
  rw [hp] at z; cases z

/-! ### results -/
/-- an exception: its class's name, its fields -/
structure Xc where
  cl : Str
  fs : List (Str × PV)
inductive Rs (α : Type) where
  | ok (a : α) | ex (x : Xc)
abbrev Ev := List (Option PV)
abbrev M (α : Type) := Ev → Dl → Option (Rs α × Dl)
def mPure {α : Type} (a : α) : M α := fun _ D => some (.ok a, D)
def mLift {α : Type} (o : Option α) : M α := fun _ D => match o with
  | some a => some (.ok a, D)
  | none => none
def mBind {α β : Type} (m : M α) (f : α → M β) : M β := fun ε D => match m ε D with
  | none => none
  | some (.ex x, D') => some (.ex x, D')
  | some (.ok a, D') => f a ε D'

/-! ### what a reading keeps -/
structure RE (K : PySem.W.Frag) (G : Hp) (dl : DAt) (ε : Ev) (D : Dl) (σ : L2.St) (H : Hp) : Prop where
  sub : Sub G H
  len : ε.length = σ.length
  sl : ∀ (i : Nat) (p : PV), ε[i]? = some (some p) → ∃ v, σ[i]? = some (some v) ∧ Rep K dl G v p
  dok : DlOk G H dl D
structure Post (G : Hp) (dl : DAt) (D' : Dl) (H G' H' : Hp) : Prop where
  sg : Sub G G'
  sub : Sub G' H'
  fr : ∀ a, H a ≠ none → G' a = G a
  keep : ∀ a o, H a = some o → ¬ dlAt dl a → H' a = some o
  dok : DlOk G' H' dl D'
section
variable {K : PySem.W.Frag} {G G1 G2 H H1 H2 : Hp} {dl : DAt} {ε : Ev} {D D1 D2 : Dl} {σ : L2.St}
theorem RE.step (r : RE K G dl ε D σ H) (p : Post G dl D1 H G1 H1) : RE K G1 dl ε D1 σ H1 :=
  ⟨p.sub, r.len, fun i q h => let ⟨v, a, b⟩ := r.sl i q h; ⟨v, a, b.up p.sg⟩, p.dok⟩
theorem Post.refl (s : Sub G H) (d : DlOk G H dl D) : Post G dl D H G H := ⟨Sub.refl _, s, fun _ _ => rfl, fun _ _ h _ => h, d⟩
theorem RE.refl (r : RE K G dl ε D σ H) : Post G dl D H G H := .refl r.sub r.dok
theorem Post.there (p : Post G dl D1 H G1 H1) {a : Addr} (h : H a ≠ none) : H1 a ≠ none := by
  by_cases x : dlAt dl a
  · obtain ⟨⟨xs, e⟩, _⟩ := p.dok.there x
    rw [e]; simp
  · cases q : H a with
    | none => exact absurd q h
    | some o => rw [p.keep a o q x]; simp
theorem Post.trans (p : Post G dl D1 H G1 H1) (q : Post G1 dl D2 H1 G2 H2) : Post G dl D2 H G2 H2 :=
  ⟨p.sg.trans q.sg, q.sub, fun a h => (q.fr a (p.there h)).trans (p.fr a h), fun a o h x => q.keep a o (p.keep a o h x) x, q.dok⟩
/-- a new object that is never written -/
theorem Post.new (s : Sub G H) (d : DlOk G H dl D) {p : Addr} {o : HO} (h : H p = none) : Post G dl D H (upd G p o) (upd H p o) := by
  have hg : G p = none := s.free h
  refine ⟨Sub.new hg, fun a u e => ?_, fun a n => upd_ne fun z => n (z ▸ h), fun a u e _ => by rw [upd_ne (ne_of_none e h)]; exact e, ?_⟩
  · by_cases z : a = p
    · subst z; rw [upd_same] at e ⊢; exact e
    · rw [upd_ne z] at e ⊢; exact s a u e
  · cases dl with
    | none => cases D with
      | none => trivial
      | some _ => exact d.elim
    | some q =>
      obtain ⟨a, l⟩ := q
      cases D with
      | none => exact d.elim
      | some d' =>
        obtain ⟨h1, h2, h3, h4, h5⟩ := d
        refine ⟨by rw [upd_ne (ne_of_none h4 h)]; exact h1, by rw [upd_ne (ne_of_none h5 h)]; exact h2, h3, by rw [upd_ne (ne_of_none h4 h)]; exact h4, by rw [upd_ne (ne_of_none h5 h)]; exact h5⟩
/-- a new object that may be written later: it is not frozen -/
theorem Post.newOwn (s : Sub G H) (d : DlOk G H dl D) {p : Addr} {o : HO} (h : H p = none) : Post G dl D H G (upd H p o) := by
  refine ⟨Sub.refl _, s.trans (Sub.new h), fun _ _ => rfl, fun a u e _ => by rw [upd_ne (ne_of_none e h)]; exact e, ?_⟩
  cases dl with
  | none => cases D with
    | none => trivial
    | some _ => exact d.elim
  | some q =>
    obtain ⟨a, l⟩ := q
    cases D with
    | none => exact d.elim
    | some d' =>
      obtain ⟨h1, h2, h3, h4, h5⟩ := d
      exact ⟨h1, h2, h3, by rw [upd_ne (ne_of_none h4 h)]; exact h4, by rw [upd_ne (ne_of_none h5 h)]; exact h5⟩
end

/-! ### readings -/
/-- the relation of what an expression gives: ahead heap, behind frozen, behind heap, what, value -/
abbrev RR (β α : Type) := DAt → Hp → Hp → Hp → β → α → Prop
/-- the module's classes -/
abbrev Mg := Str → Option Value
def RepX (K : PySem.W.Frag) (mg : Mg) (dl : DAt) (G : Hp) (H : Hp) (c : Value) (od : Option Addr) (x : Xc) : Prop :=
  ∃ C : Addr, mg x.cl = some (.ref C) ∧ c = .ref C ∧ ((od = none ∧ x.fs = []) ∨ ∃ d fs, od = some d ∧ H d = some (.xd fs) ∧ fs.map (·.1) = x.fs.map (·.1) ∧ RepA K dl G (fs.map (·.2)) (x.fs.map (·.2)))
def tGc {α β : Type} (K : PySem.W.Frag) (mg : Mg) (E : XK) (R : RR β α) (m : M α) (G : Hp) (dl : DAt) (ε : Ev) (D : Dl) (σ : L2.St) (H : Hp) (Q : β → Hp → Prop) : Prop :=
  RE K G dl ε D σ H ∧ ∃ r D', m ε D = some (r, D') ∧ match r with
    | .ok p => ∀ v G' H', Post G dl D' H G' H' → R dl H G' H' v p → Q v H'
    | .ex x => ∀ c od G' H', Post G dl D' H G' H' → RepX K mg dl G' H' c od x → E c od H'
def tG {α β : Type} (K : PySem.W.Frag) (mg : Mg) (E : XK) (R : RR β α) (m : M α) : L2.St → Hp → (β → Hp → Prop) → Prop :=
  fun σ H Q => ∃ G dl ε D, tGc K mg E R m G dl ε D σ H Q
/-- what is new behind a later heap is new behind an earlier one -/
structure RMono {β α : Type} (R : RR β α) : Prop where
  go : ∀ {dl : DAt} {D1 : Dl} {G G1 H H1 G' H' : Hp} {v : β} {p : α}, Post G dl D1 H G1 H1 → R dl H1 G' H' v p → R dl H G' H' v p
section
variable {α β γ δ : Type} {K : PySem.W.Frag} {mg : Mg} {E : XK} {R : RR β α} {R2 : RR δ γ} {m : M α} {f : α → M γ} {G H : Hp} {dl : DAt} {ε : Ev} {D : Dl} {σ : L2.St} {Q : δ → Hp → Prop} {Q1 : β → Hp → Prop}
/-- one part, then the rest -/
theorem step' (hm : RMono R2) (h : tGc K mg E R2 (mBind m f) G dl ε D σ H Q)
    (k : ∀ v p G1 H1 D1, m ε D = some (.ok p, D1) → RE K G1 dl ε D1 σ H1 → Post G dl D1 H G1 H1 → R dl H G1 H1 v p → tGc K mg E R2 (f p) G1 dl ε D1 σ H1 Q → Q1 v H1) : tG K mg E R m σ H Q1 := by
  obtain ⟨re, r, D', e, hr⟩ := h
  refine ⟨G, dl, ε, D, re, ?_⟩
  unfold mBind at e
  split at e
  · cases e
  · rename_i x D1 e1
    cases e
    exact ⟨.ex x, _, e1, hr⟩
  · rename_i p D1 e1
    refine ⟨.ok p, D1, e1, fun v G1 H1 P1 rv => k v p G1 H1 D1 e1 (re.step P1) P1 rv ⟨re.step P1, r, D', e, ?_⟩⟩
    cases r with
    | ok q => exact fun v' G2 H2 P2 rv2 => hr v' G2 H2 (P1.trans P2) (hm.go P1 rv2)
    | ex x => exact fun c od G2 H2 P2 rx => hr c od G2 H2 (P1.trans P2) rx
theorem step (hm : RMono R2) (h : tGc K mg E R2 (mBind m f) G dl ε D σ H Q)
    (k : ∀ v p G1 H1 D1, RE K G1 dl ε D1 σ H1 → Post G dl D1 H G1 H1 → R dl H G1 H1 v p → tGc K mg E R2 (f p) G1 dl ε D1 σ H1 Q → Q1 v H1) : tG K mg E R m σ H Q1 :=
  step' hm h fun v p G1 H1 D1 _ => k v p G1 H1 D1
/-- the end: a value that a partial function gives -/
theorem done {o : Option γ} (h : tGc K mg E R2 (mLift o) G dl ε D σ H Q) : ∃ z, o = some z ∧ RE K G dl ε D σ H ∧ ∀ v G' H', Post G dl D H G' H' → R2 dl H G' H' v z → Q v H' := by
  obtain ⟨re, r, D', e, hr⟩ := h
  unfold mLift at e
  cases o with
  | none => cases e
  | some z => cases e; exact ⟨z, rfl, re, hr⟩
theorem donep {z : γ} (h : tGc K mg E R2 (mPure z) G dl ε D σ H Q) : RE K G dl ε D σ H ∧ ∀ v G' H', Post G dl D H G' H' → R2 dl H G' H' v z → Q v H' := by
  obtain ⟨re, r, D', e, hr⟩ := h
  cases e
  exact ⟨re, hr⟩
end
abbrev RV (K : PySem.W.Frag) : RR V PV := fun dl _ G' _ v p => Rep K dl G' v p
abbrev RVs (K : PySem.W.Frag) : RR (List V) (List PV) := fun dl _ G' _ v p => RepA K dl G' v p
abbrev RB : RR Bool Bool := fun _ _ _ _ b c => b = c
/-- a new list that may be written later -/
def RL (K : PySem.W.Frag) : RR V (List PV) := fun dl H G' H' v ps => ∃ a vs, v = .ref a ∧ H a = none ∧ G' a = none ∧ ¬ dlAt dl a ∧ H' a = some (.lst vs) ∧ RepA K dl G' vs ps
theorem mono_V {K : PySem.W.Frag} : RMono (RV K) := ⟨fun _ h => h⟩
theorem mono_Vs {K : PySem.W.Frag} : RMono (RVs K) := ⟨fun _ h => h⟩
theorem mono_B : RMono RB := ⟨fun _ h => h⟩
theorem mono_L {K : PySem.W.Frag} : RMono (RL K) := ⟨fun {_ _ _ _ H _ _ _ _ _} p ⟨a, vs, h1, h2, h3, h4, h5, h6⟩ => ⟨a, vs, h1, by
  cases q : H a with
  | none => rfl
  | some o => exact absurd h2 (p.there (by rw [q]; simp)), h3, h4, h5, h6⟩⟩

/-! ### the judgements -/
def DE (X : Cx) (E : XK) (e : Expr) (m : M PV) : Prop := PE X e (tG X.K X.mg E (RV X.K) m)
def DL (X : Cx) (E : XK) (e : Expr) (m : M (List PV)) : Prop := PE X e (tG X.K X.mg E (RL X.K) m)
def DT (X : Cx) (E : XK) (e : Expr) (m : M Bool) : Prop := PT X e (tG X.K X.mg E RB m)
def DW (X : Cx) (E : XK) (e : Expr) (m : M Bool) : Prop := PW X e (tG X.K X.mg E RB m)
def DA (X : Cx) (E : XK) (es : List Expr) (m : M (List PV)) : Prop := PA X es (tG X.K X.mg E (RVs X.K) m)
theorem pe_to {X : Cx} {e : Expr} {t u : TE} (h : PE X e t) (i : ∀ σ H Q, u σ H Q → t σ H Q) : PE X e u := ⟨fun pins s σ H Q I hu => h.run pins s σ H Q I (i σ H Q hu)⟩
theorem pt_to {X : Cx} {e : Expr} {t u : TT} (h : PT X e t) (i : ∀ σ H Q, u σ H Q → t σ H Q) : PT X e u := ⟨fun pins s σ H Q I hu => h.run pins s σ H Q I (i σ H Q hu)⟩
theorem pw_to {X : Cx} {e : Expr} {t u : TT} (h : PW X e t) (i : ∀ σ H Q, u σ H Q → t σ H Q) : PW X e u := ⟨fun wh pins s σ H Q I hu => h.run wh pins s σ H Q I (i σ H Q hu)⟩
theorem pa_to {X : Cx} {e : List Expr} {t u : TA} (h : PA X e t) (i : ∀ σ H Q, u σ H Q → t σ H Q) : PA X e u := ⟨fun pos pins s σ H Q I hu => h.run pos pins s σ H Q I (i σ H Q hu)⟩
theorem pi_to {X : Cx} {tg e : Expr} {t u : TI} (h : PI X tg e t) (i : ∀ σ H Q, u σ H Q → t σ H Q) : PI X tg e u := ⟨fun pins s σ H Q I hu => h.run pins s σ H Q I (i σ H Q hu)⟩
theorem ps_to {X : Cx} {e : Stmt} {t u : TS} (h : PS X e t) (i : ∀ D σ H, u D σ H → t D σ H) : PS X e u := ⟨fun pins s σ H D I hu => h.run pins s σ H D I (i D σ H hu)⟩
theorem pss_to {X : Cx} {e : List Stmt} {t u : TS} (h : PSs X e t) (i : ∀ D σ H, u D σ H → t D σ H) : PSs X e u := ⟨fun pins s σ H D I hu => h.run pins s σ H D I (i D σ H hu)⟩
theorem pe_or {X : Cx} {e : Expr} {t u : TE} (h : PE X e t) (k : PE X e u) : PE X e (fun σ H Q => t σ H Q ∨ u σ H Q) := ⟨fun pins s σ H Q I hu => hu.elim (h.run pins s σ H Q I) (k.run pins s σ H Q I)⟩
theorem pi_or {X : Cx} {tg e : Expr} {t u : TI} (h : PI X tg e t) (k : PI X tg e u) : PI X tg e (fun σ H Q => t σ H Q ∨ u σ H Q) := ⟨fun pins s σ H Q I hu => hu.elim (h.run pins s σ H Q I) (k.run pins s σ H Q I)⟩

/-! ### names, constants -/
section
variable {X : Cx} {E : XK} {pos : Pos} {a b c e : Expr} {es : List Expr} {ma mb mc : M PV} {mt mt' : M Bool} {ms : M (List PV)}
def eVar (i : Nat) : M PV := fun ε D => match ε[i]? with
  | some (some p) => some (.ok p, D)
  | _ => none
@[reducible] def eC (p : PV) : M PV := mPure p
theorem eVar_of {i : Nat} {ε : Ev} {D D' : Dl} {r : Rs PV} (e : eVar i ε D = some (r, D')) : ∃ p, ε[i]? = some (some p) ∧ r = .ok p ∧ D' = D := by
  unfold eVar at e
  split at e
  · rename_i p h; cases e; exact ⟨p, h, rfl, rfl⟩
  · cases e
theorem de_var {i : Nat} (h : PE X e (tVar i)) : DE X E e (eVar i) := pe_to h fun σ H Q ⟨G, dl, ε, D, re, r, D', e, hr⟩ => by
  obtain ⟨p, h1, rfl, rfl⟩ := eVar_of e
  obtain ⟨v, h2, h3⟩ := re.sl i p h1
  exact ⟨v, h2, hr v G H re.refl h3⟩
theorem de_c {v : V} {p : PV} (h : PE X e (tC v)) (r : ∀ dl G, Rep X.K dl G v p) : DE X E e (eC p) := pe_to h fun σ H Q ⟨G, dl, ε, D, re, r', D', e, hr⟩ => by
  cases e
  exact hr v G H re.refl (r dl G)
theorem de_int {i : Int} {j : Nat} : DE X E (.Constant (.int i) j pos) (eC (.int i)) := de_c pe_int fun _ _ => .int i
theorem de_bl {b : Bool} {j : Nat} : DE X E (.Constant (.bool b) j pos) (eC (.bl b)) := de_c pe_bl fun _ _ => .bl b
theorem de_non {j : Nat} : DE X E (.Constant .none j pos) (eC .non) := de_c pe_non fun _ _ => .non
theorem de_str {x : Str} {j : Nat} : DE X E (.Constant (.str x) j pos) (eC (.str x)) := de_c pe_str fun _ _ => .str x

/-! ### arguments, tuples, lists -/
@[reducible] def eNil : M (List PV) := mPure []
@[reducible] def eCons (m : M PV) (ms : M (List PV)) : M (List PV) := mBind m fun p => mBind ms fun ps => mPure (p :: ps)
theorem da_nil : DA X E [] eNil := pa_to pa_nil fun σ H Q ⟨G, dl, ε, D, h⟩ => by
  obtain ⟨re, q⟩ := donep h
  exact q [] G H re.refl .nil
theorem da_cons (h1 : DE X E e ma) (h2 : DA X E es ms) (hs : starEach (e :: es) X.env = (false, eval e X.env) :: starEach es X.env := by rfl) : DA X E (e :: es) (eCons ma ms) := by
  refine pa_to (pa_cons h1 h2 hs) ?_
  rintro σ H Q ⟨G, dl, ε, D, h⟩
  refine step mono_Vs h ?_
  intro v p G1 H1 D1 re1 P1 r1 h1
  refine step mono_Vs h1 ?_
  intro vs ps G2 H2 D2 re2 P2 r2 h2
  obtain ⟨re, q⟩ := donep h2
  exact q _ G2 H2 re2.refl (.cons (r1.up P2.sg) r2)
@[reducible] def eTup (ms : M (List PV)) : M PV := mBind ms fun ps => mLift (if ps.length ≤ 1000000 then some (.tup ps) else none)
@[reducible] def eLstL (ms : M (List PV)) : M (List PV) := mBind ms fun ps => mLift (if ps.length ≤ 1000000 then some ps else none)
theorem line_of {n : Nat} (h : n ≤ 1000000) : n ≤ sizeLine := Nat.le_trans h (by decide)
theorem guard_of {α : Type} {c : Prop} [Decidable c] {a z : α} (h : (if c then some a else none) = some z) : c ∧ a = z := by
  by_cases hc : c
  · rw [if_pos hc] at h; exact ⟨hc, Option.some.inj h⟩
  · rw [if_neg hc] at h; cases h
theorem de_tup {k : Nat} (h : DA X E es ms) : DE X E (.Tuple es k pos) (eTup ms) := by
  refine pe_to (pe_tup h) ?_
  rintro σ H Q ⟨G, dl, ε, D, h⟩
  refine step mono_V h ?_
  intro vs ps G1 H1 D1 re1 P1 r1 h1
  obtain ⟨z, e, re, q⟩ := done h1
  obtain ⟨hl, rfl⟩ := guard_of e
  refine ⟨by rw [r1.length]; exact line_of hl, fun p hp => ?_⟩
  have N := Post.new (o := .tup vs) re1.sub re1.dok hp
  exact q _ _ _ N (.tup (.inl upd_same) (r1.up N.sg))
/-- a new list is frozen -/
@[reducible] def eFrz (m : M (List PV)) : M PV := mBind m fun ps => mPure (.lst ps)
theorem DlOk.more {G H : Hp} {dl : DAt} {D : Dl} (d : DlOk G H dl D) {a : Addr} {o : HO} (n : ¬ dlAt dl a) : DlOk (upd G a o) H dl D := by
  cases dl with
  | none => cases D with
    | none => trivial
    | some _ => exact d.elim
  | some q =>
    obtain ⟨b, l⟩ := q
    cases D with
    | none => exact d.elim
    | some d' =>
      obtain ⟨h1, h2, h3, h4, h5⟩ := d
      exact ⟨by rw [upd_ne fun z => n ⟨_, rfl, .inl z.symm⟩]; exact h1, by rw [upd_ne fun z => n ⟨_, rfl, .inr z.symm⟩]; exact h2, h3, h4, h5⟩
theorem frz_imp {K : PySem.W.Frag} {mg : Mg} {ml : M (List PV)} : ∀ σ H Q, tG K mg E (RV K) (eFrz ml) σ H Q → tG K mg E (RL K) ml σ H Q := fun σ H Q ⟨G, dl, ε, D, re, r, D', e, hr⟩ => by
  unfold eFrz mBind at e
  refine ⟨G, dl, ε, D, re, ?_⟩
  split at e
  · cases e
  · rename_i x D1 e1
    cases e
    exact ⟨.ex x, _, e1, hr⟩
  · rename_i ps D1 e1
    cases e
    refine ⟨.ok ps, _, e1, fun v G1 H1 P1 ⟨a, vs, e2, n1, n2, n3, e3, r⟩ => ?_⟩
    subst e2
    have sg : Sub G1 (upd G1 a (.lst vs)) := Sub.new n2
    refine hr _ (upd G1 a (.lst vs)) H1 ⟨P1.sg.trans sg, fun b o q => ?_, fun b n => ?_, P1.keep, P1.dok.more n3⟩ (.lst upd_same (r.up sg))
    · by_cases z : b = a
      · subst z; rw [upd_same] at q; cases q; exact e3
      · rw [upd_ne z] at q; exact P1.sub b o q
    · rw [upd_ne fun z => n (by rw [z]; exact n1)]; exact P1.fr b n
theorem de_frz {ml : M (List PV)} (h : DL X E e ml) : DE X E e (eFrz ml) := pe_to h frz_imp
theorem ps_frz {st : Stmt} {ml : M (List PV)} {g : TG} (h : PS X st (tAsg (tG X.K X.mg E (RL X.K) ml) g)) : PS X st (tAsg (tG X.K X.mg E (RV X.K) (eFrz ml)) g) := ps_to h fun D σ H h => frz_imp _ _ _ h
theorem dl_lst (h : DA X E es ms) : DL X E (.List es pos) (eLstL ms) := by
  refine pe_to (pe_lst h) ?_
  rintro σ H Q ⟨G, dl, ε, D, h⟩
  refine step mono_L h ?_
  intro vs ps G1 H1 D1 re1 P1 r1 h1
  obtain ⟨z, e, re, q⟩ := done h1
  obtain ⟨hl, rfl⟩ := guard_of e
  refine ⟨by rw [r1.length]; exact line_of hl, fun p hp => ?_⟩
  have N := Post.newOwn (o := .lst vs) re1.sub re1.dok hp
  exact q _ _ _ N ⟨p, vs, rfl, hp, re1.sub.free hp, re1.dok.off hp, upd_same, r1⟩
theorem de_lst (h : DA X E es ms) : DE X E (.List es pos) (eFrz (eLstL ms)) := de_frz (dl_lst h)
end
end Pu
set_option Elab.async false
set_option linter.all false
set_option maxRecDepth 100000
set_option maxHeartbeats 4000000
namespace Pu
open PySem PySem.Spec PyProof.Rows L2

/-! ### two-place operators -/
structure BinOk (K : PySem.W.Frag) (r : R2) (f : PV → PV → Option PV) : Prop where
  go : ∀ {dl : DAt} {G H : Hp} {D : Dl} {x y : V} {p q z : PV} {Q : VK}, Sub G H → DlOk G H dl D → Rep K dl G x p → Rep K dl G y q → f p q = some z →
    (∀ v G' H', Post G dl D H G' H' → Rep K dl G' v z → Q v H') → r x y H Q
@[reducible] def eBin (f : PV → PV → Option PV) (ma mb : M PV) : M PV := mBind ma fun p => mBind mb fun q => mLift (f p q)
section
variable {X : Cx} {E : XK} {pos : Pos} {a b c e : Expr} {es rest : List Expr} {ma mb mc : M PV} {mt mu : M Bool} {ms : M (List PV)}
theorem tOp_of {r : R2} {f : PV → PV → Option PV} (hf : BinOk X.K r f) {σ : L2.St} {H : Hp} {Q : VK} (h : tG X.K X.mg E (RV X.K) (eBin f ma mb) σ H Q) :
    tOp r (tG X.K X.mg E (RV X.K) ma) (tG X.K X.mg E (RV X.K) mb) σ H Q := by
  obtain ⟨G, dl, ε, D, h⟩ := h
  refine step mono_V h ?_
  intro v p G1 H1 D1 re1 P1 r1 h1
  refine step mono_V h1 ?_
  intro u q G2 H2 D2 re2 P2 r2 h2
  obtain ⟨z, e, re, k⟩ := done h2
  exact hf.go re.sub re.dok (r1.up P2.sg) r2 e fun v G' H' P R => k v G' H' P R
theorem de_bin {op : Operator} {r : R2} {f : PV → PV → Option PV} (ho : OpR X (binaryOp op) r) (hf : BinOk X.K r f) (ha : DE X E a ma) (hb : DE X E b mb) : DE X E (.BinOp a op b pos) (eBin f ma mb) :=
  pe_to (pe_op ho ha hb) fun σ H Q h => tOp_of hf h
theorem de_cmp {op : CmpOp} {r : R2} {f : PV → PV → Option PV} (ho : OpR X (compareOp op) r) (hf : BinOk X.K r f) (ha : DE X E a ma) (hb : DE X E b mb) (hm : behindInMarks op b = false) : DE X E (.Compare a [op] [b] pos) (eBin f ma mb) :=
  pe_to (pe_cmpR ho ha hb hm) fun σ H Q h => tOp_of hf h
def asB : PV → Option Bool
  | .bl b => some b
  | _ => none
theorem asB_of {p : PV} {b : Bool} (h : asB p = some b) : p = .bl b := by
  cases p <;> simp [asB] at h
  rw [h]
@[reducible] def eB (m : M PV) : M Bool := mBind m fun p => mLift (asB p)
theorem tTest_of {t : TE} {m : M PV} (ht : ∀ σ H Q, tG X.K X.mg E (RV X.K) m σ H Q → t σ H Q) {σ : L2.St} {H : Hp} {Q : Bool → Hp → Prop} (h : tG X.K X.mg E RB (eB m) σ H Q) : tTest t σ H Q := by
  obtain ⟨G, dl, ε, D, h⟩ := h
  refine ht _ _ _ (step mono_B h ?_)
  intro v p G1 H1 D1 re1 P1 r1 h1
  obtain ⟨z, e, re, k⟩ := done h1
  have e2 := asB_of e
  subst e2
  cases r1
  exact ⟨z, rfl, k z G1 H1 re.refl rfl⟩
theorem dt_cmp {op : CmpOp} {r : R2} {f : PV → PV → Option PV} (ho : OpR X (compareOp op) r) (hf : BinOk X.K r f) (ha : DE X E a ma) (hb : DE X E b mb) (hm : behindInMarks op b = false) : DT X E (.Compare a [op] [b] pos) (eB (eBin f ma mb)) :=
  pt_to (pt_cmpR ho ha hb hm) fun σ H Q h => tTest_of (fun σ H Q h => tOp_of hf h) h
/-- an expression whose value is a bool, as a test -/
theorem dt_val (h : DE X E e ma) (he : ∀ whole, isTrue e X.env whole = (do let v ← whole; standAt e.pos; holding [v] (truthy v)) := by intro _; rfl) : DT X E e (eB ma) :=
  pt_to (pt_val h he) fun σ H Q h => tTest_of (fun σ H Q h => h) h

/-! ### and, or, not, if .. else -/
@[reducible] def tAndM (mt mu : M Bool) : M Bool := mBind mt fun b => if b = true then mu else mPure false
@[reducible] def tOrM (mt mu : M Bool) : M Bool := mBind mt fun b => if b = true then mPure true else mu
@[reducible] def tNotM (mt : M Bool) : M Bool := mBind mt fun b => mPure (!b)
theorem dw_and1 (h : DT X E a mt) : DW X E (.BoolOp .And [a] pos) mt := pw_and1 h
theorem dw_or1 (h : DT X E a mt) : DW X E (.BoolOp .Or [a] pos) mt := pw_or1 h
theorem dt_w (h : DW X E a mt) : DT X E a mt := h.pt
theorem dw_and (h1 : DT X E a mt) (h2 : DW X E (.BoolOp .And (b :: rest) pos) mu) : DW X E (.BoolOp .And (a :: b :: rest) pos) (tAndM mt mu) := by
  refine pw_to (pw_and h1 h2) ?_
  rintro σ H Q ⟨G, dl, ε, D, h⟩
  refine step mono_B h ?_
  intro v p G1 H1 D1 re1 P1 r1 h1
  cases r1
  cases v with
  | true => exact ⟨_, _, _, _, h1⟩
  | false => obtain ⟨re, q⟩ := donep h1; exact q false G1 H1 re.refl rfl
theorem dw_or (h1 : DT X E a mt) (h2 : DW X E (.BoolOp .Or (b :: rest) pos) mu) : DW X E (.BoolOp .Or (a :: b :: rest) pos) (tOrM mt mu) := by
  refine pw_to (pw_or h1 h2) ?_
  rintro σ H Q ⟨G, dl, ε, D, h⟩
  refine step mono_B h ?_
  intro v p G1 H1 D1 re1 P1 r1 h1
  cases r1
  cases v with
  | false => exact ⟨_, _, _, _, h1⟩
  | true => obtain ⟨re, q⟩ := donep h1; exact q true G1 H1 re.refl rfl
theorem dt_not (h1 : DT X E a mt) : DT X E (.UnaryOp .Not a pos) (tNotM mt) := by
  refine pt_to (pt_not h1) ?_
  rintro σ H Q ⟨G, dl, ε, D, h⟩
  refine step mono_B h ?_
  intro v p G1 H1 D1 re1 P1 r1 h1
  cases r1
  obtain ⟨re, q⟩ := donep h1
  exact q _ G1 H1 re.refl rfl
@[reducible] def eAnd (ma mb : M PV) : M PV := mBind ma fun p => mBind (mLift (asB p)) fun c => if c = true then mb else mPure (.bl false)
@[reducible] def eOr (ma mb : M PV) : M PV := mBind ma fun p => mBind (mLift (asB p)) fun c => if c = true then mPure (.bl true) else mb
@[reducible] def eNot (ma : M PV) : M PV := mBind ma fun p => mBind (mLift (asB p)) fun c => mPure (.bl (!c))
theorem lift_step {α γ δ : Type} {K : PySem.W.Frag} {mg : Mg} {R2 : RR δ γ} {o : Option α} {f : α → M γ} {G H : Hp} {dl : DAt} {ε : Ev} {D : Dl} {σ : L2.St} {Q : δ → Hp → Prop}
    (h : tGc K mg E R2 (mBind (mLift o) f) G dl ε D σ H Q) : ∃ z, o = some z ∧ tGc K mg E R2 (f z) G dl ε D σ H Q := by
  obtain ⟨re, r, D', e, hr⟩ := h
  cases o with
  | none => simp [mBind, mLift] at e
  | some z => exact ⟨z, rfl, re, r, D', e, hr⟩
theorem de_one {op : BoolOp} (h : DE X E a ma) : DE X E (.BoolOp op [a] pos) ma := pe_one h
theorem de_and (h1 : DE X E a ma) (h2 : DE X E (.BoolOp .And (b :: rest) pos) mb) : DE X E (.BoolOp .And (a :: b :: rest) pos) (eAnd ma mb) := by
  refine pe_to (pe_and h1 h2) ?_
  rintro σ H Q ⟨G, dl, ε, D, h⟩
  refine step mono_V h ?_
  intro v p G1 H1 D1 re1 P1 r1 h1
  obtain ⟨z, e, h2⟩ := lift_step h1
  have e2 := asB_of e
  subst e2
  cases r1
  refine ⟨z, rfl, ?_⟩
  cases z with
  | true => exact ⟨_, _, _, _, h2⟩
  | false => obtain ⟨re, q⟩ := donep h2; exact q _ G1 H1 re.refl (.bl false)
theorem de_or (h1 : DE X E a ma) (h2 : DE X E (.BoolOp .Or (b :: rest) pos) mb) : DE X E (.BoolOp .Or (a :: b :: rest) pos) (eOr ma mb) := by
  refine pe_to (L2.pe_or h1 h2) ?_
  rintro σ H Q ⟨G, dl, ε, D, h⟩
  refine step mono_V h ?_
  intro v p G1 H1 D1 re1 P1 r1 h1
  obtain ⟨z, e, h2⟩ := lift_step h1
  have e2 := asB_of e
  subst e2
  cases r1
  refine ⟨z, rfl, ?_⟩
  cases z with
  | false => exact ⟨_, _, _, _, h2⟩
  | true => obtain ⟨re, q⟩ := donep h2; exact q _ G1 H1 re.refl (.bl true)
theorem de_not (h1 : DE X E a ma) : DE X E (.UnaryOp .Not a pos) (eNot ma) := by
  refine pe_to (pe_not h1) ?_
  rintro σ H Q ⟨G, dl, ε, D, h⟩
  refine step mono_V h ?_
  intro v p G1 H1 D1 re1 P1 r1 h1
  obtain ⟨z, e, h2⟩ := lift_step h1
  have e2 := asB_of e
  subst e2
  cases r1
  obtain ⟨re, q⟩ := donep h2
  exact ⟨z, rfl, q _ G1 H1 re.refl (.bl _)⟩
@[reducible] def eIf (mt : M Bool) (ma mb : M PV) : M PV := mBind mt fun c => if c = true then ma else mb
theorem de_if (hc : DT X E c mt) (ha : DE X E a ma) (hb : DE X E b mb) : DE X E (.IfExp c a b pos) (eIf mt ma mb) := by
  refine pe_to (pe_ifExp hc ha hb) ?_
  rintro σ H Q ⟨G, dl, ε, D, h⟩
  refine step mono_V h ?_
  intro v p G1 H1 D1 re1 P1 r1 h1
  cases r1
  cases v with
  | true => exact ⟨_, _, _, _, h1⟩
  | false => exact ⟨_, _, _, _, h1⟩

/-! ### a leaf: the value at once -/
theorem leaf {K : PySem.W.Frag} {G H : Hp} {dl : DAt} {D : Dl} {v : V} {p : PV} {Q : VK} (s : Sub G H) (d : DlOk G H dl D) (r : Rep K dl G v p) (k : ∀ v G' H', Post G dl D H G' H' → Rep K dl G' v p → Q v H') : Q v H := k v G H (.refl s d) r
/-- .. a new tuple, a new list that is frozen at once -/
theorem leafT {K : PySem.W.Frag} {G H : Hp} {dl : DAt} {D : Dl} {vs : List V} {ps : List PV} {Q : VK} (s : Sub G H) (d : DlOk G H dl D) (r : RepA K dl G vs ps) (k : ∀ v G' H', Post G dl D H G' H' → Rep K dl G' v (.tup ps) → Q v H') :
    ∀ p, H p = none → Q (.ref p) (upd H p (.tup vs)) := fun p hp => by
  have N := Post.new (o := .tup vs) s d hp
  exact k _ _ _ N (.tup (.inl upd_same) (r.up N.sg))
theorem leafL {K : PySem.W.Frag} {G H : Hp} {dl : DAt} {D : Dl} {vs : List V} {ps : List PV} {Q : VK} (s : Sub G H) (d : DlOk G H dl D) (r : RepA K dl G vs ps) (k : ∀ v G' H', Post G dl D H G' H' → Rep K dl G' v (.lst ps) → Q v H') :
    ∀ p, H p = none → Q (.ref p) (upd H p (.lst vs)) := fun p hp => by
  have N := Post.new (o := .lst vs) s d hp
  exact k _ _ _ N (.lst upd_same (r.up N.sg))

/-! ### ints -/
def int2 (C : Int → Int → Bool) (g : Int → Int → PV) : PV → PV → Option PV
  | .int i, .int j => if C i j = true then some (g i j) else none
  | _, _ => none
theorem int2_of {C : Int → Int → Bool} {g : Int → Int → PV} {p q z : PV} (h : int2 C g p q = some z) : ∃ i j, p = .int i ∧ q = .int j ∧ C i j = true ∧ g i j = z := by
  unfold int2 at h
  split at h
  · rename_i i j
    obtain ⟨h1, h2⟩ := guard_of h
    exact ⟨i, j, rfl, rfl, h1, h2⟩
  · cases h
theorem bin_I {K : PySem.W.Frag} {C : Int → Int → Bool} {C' : Int → Int → Prop} {g : Int → Int → Int} (hC : ∀ i j, C i j = true → C' i j) : BinOk K (rI C' fun i j => .int (g i j)) (int2 C fun i j => .int (g i j)) :=
  ⟨fun s d rx ry h k => by
    obtain ⟨i, j, rfl, rfl, hc, rfl⟩ := int2_of h
    cases rx; cases ry
    exact ⟨i, j, rfl, rfl, hC i j hc, leaf s d (.int _) k⟩⟩
theorem bin_I0 {K : PySem.W.Frag} {g : Int → Int → Int} : BinOk K (rI0 fun i j => .int (g i j)) (int2 (fun _ _ => true) fun i j => .int (g i j)) :=
  ⟨fun s d rx ry h k => by
    obtain ⟨i, j, rfl, rfl, hc, rfl⟩ := int2_of h
    cases rx; cases ry
    exact ⟨i, j, rfl, rfl, leaf s d (.int _) k⟩⟩
theorem bin_B0 {K : PySem.W.Frag} {g : Int → Int → Bool} : BinOk K (rI0 fun i j => .bl (g i j)) (int2 (fun _ _ => true) fun i j => .bl (g i j)) :=
  ⟨fun s d rx ry h k => by
    obtain ⟨i, j, rfl, rfl, hc, rfl⟩ := int2_of h
    cases rx; cases ry
    exact ⟨i, j, rfl, rfl, leaf s d (.bl _) k⟩⟩
theorem BinOk.or {K : PySem.W.Frag} {r r' : R2} {f g h : PV → PV → Option PV} (x : BinOk K r f) (y : BinOk K r' g) (e : ∀ p q z, h p q = some z → f p q = some z ∨ g p q = some z) : BinOk K (fun x y H Q => r x y H Q ∨ r' x y H Q) h :=
  ⟨fun s d rx ry hz k => by
    rcases e _ _ _ hz with q | q
    · exact .inl (x.go s d rx ry q k)
    · exact .inr (y.go s d rx ry q k)⟩
@[reducible] def pvSub := int2 (fun _ _ => true) fun i j => .int (i - j)
def mulC (i j : Int) : Bool := decide (i.natAbs < 2 ^ 64 ∨ j.natAbs < 2 ^ 64)
@[reducible] def pvMul := int2 mulC fun i j => .int (i * j)
@[reducible] def pvMod := int2 (fun _ j => decide (0 < j)) fun i j => .int (i % j)
@[reducible] def pvDiv := int2 (fun _ j => decide (0 < j ∧ j < 1073741824)) fun i j => .int (i / j)
@[reducible] def pvDivN := int2 (fun _ j => decide (j ≠ 0 ∧ j.natAbs < 1073741824)) fun i j => .int (i.fdiv j)
@[reducible] def pvModN := int2 (fun _ j => decide (j ≠ 0)) fun i j => .int (i.fmod j)
@[reducible] def pvPow := int2 (fun i j => decide (0 ≤ j ∧ j ≤ 1000000 ∧ i.natAbs < 2 ^ 64)) fun i j => .int (i ^ j.toNat)
theorem de_sub (ha : DE X E a ma) (hb : DE X E b mb) : DE X E (.BinOp a .Sub b pos) (eBin pvSub ma mb) := de_bin op_sub bin_I0 ha hb
theorem de_mul (ha : DE X E a ma) (hb : DE X E b mb) : DE X E (.BinOp a .Mult b pos) (eBin pvMul ma mb) := de_bin op_mul (bin_I fun i j h => by
  have h := of_decide_eq_true h
  unfold CMul
  omega) ha hb
theorem de_mod (ha : DE X E a ma) (hb : DE X E b mb) : DE X E (.BinOp a .Mod b pos) (eBin pvMod ma mb) := de_bin op_mod (bin_I fun i j h => of_decide_eq_true h) ha hb
theorem de_div (ha : DE X E a ma) (hb : DE X E b mb) : DE X E (.BinOp a .FloorDiv b pos) (eBin pvDiv ma mb) := de_bin op_fdiv (bin_I fun i j h => (of_decide_eq_true h : 0 < j ∧ j < 1073741824)) ha hb
theorem de_divN (ha : DE X E a ma) (hb : DE X E b mb) : DE X E (.BinOp a .FloorDiv b pos) (eBin pvDivN ma mb) := de_bin op_fdivN (bin_I fun i j h => (of_decide_eq_true h : j ≠ 0 ∧ j.natAbs < 1073741824)) ha hb
theorem de_modN (ha : DE X E a ma) (hb : DE X E b mb) : DE X E (.BinOp a .Mod b pos) (eBin pvModN ma mb) := de_bin op_modN (bin_I fun i j h => of_decide_eq_true h) ha hb
theorem de_pow (ha : DE X E a ma) (hb : DE X E b mb) : DE X E (.BinOp a .Pow b pos) (eBin pvPow ma mb) := de_bin op_pow (bin_I fun i j h => (of_decide_eq_true h : 0 ≤ j ∧ j ≤ 1000000 ∧ i.natAbs < 2 ^ 64)) ha hb
@[reducible] def pvLt := int2 (fun _ _ => true) fun i j => .bl (decide (i < j))
@[reducible] def pvLe := int2 (fun _ _ => true) fun i j => .bl (decide (i ≤ j))
@[reducible] def pvGt := int2 (fun _ _ => true) fun i j => .bl (decide (j < i))
@[reducible] def pvGe := int2 (fun _ _ => true) fun i j => .bl (decide (j ≤ i))
theorem de_lt (ha : DE X E a ma) (hb : DE X E b mb) : DE X E (.Compare a [.Lt] [b] pos) (eBin pvLt ma mb) := de_cmp op_lt bin_B0 ha hb (nomark _)
theorem de_le (ha : DE X E a ma) (hb : DE X E b mb) : DE X E (.Compare a [.LtE] [b] pos) (eBin pvLe ma mb) := de_cmp op_le bin_B0 ha hb (nomark _)
theorem de_gt (ha : DE X E a ma) (hb : DE X E b mb) : DE X E (.Compare a [.Gt] [b] pos) (eBin pvGt ma mb) := de_cmp op_gt bin_B0 ha hb (nomark _)
theorem de_ge (ha : DE X E a ma) (hb : DE X E b mb) : DE X E (.Compare a [.GtE] [b] pos) (eBin pvGe ma mb) := de_cmp op_ge bin_B0 ha hb (nomark _)
theorem dt_lt (ha : DE X E a ma) (hb : DE X E b mb) : DT X E (.Compare a [.Lt] [b] pos) (eB (eBin pvLt ma mb)) := dt_cmp op_lt bin_B0 ha hb (nomark _)
theorem dt_le (ha : DE X E a ma) (hb : DE X E b mb) : DT X E (.Compare a [.LtE] [b] pos) (eB (eBin pvLe ma mb)) := dt_cmp op_le bin_B0 ha hb (nomark _)
theorem dt_gt (ha : DE X E a ma) (hb : DE X E b mb) : DT X E (.Compare a [.Gt] [b] pos) (eB (eBin pvGt ma mb)) := dt_cmp op_gt bin_B0 ha hb (nomark _)
theorem dt_ge (ha : DE X E a ma) (hb : DE X E b mb) : DT X E (.Compare a [.GtE] [b] pos) (eB (eBin pvGe ma mb)) := dt_cmp op_ge bin_B0 ha hb (nomark _)
def pvNeg : PV → Option PV
  | .int i => some (.int (-i))
  | _ => none
@[reducible] def eUn (f : PV → Option PV) (ma : M PV) : M PV := mBind ma fun p => mLift (f p)
theorem de_neg (ha : DE X E a ma) : DE X E (.UnaryOp .USub a pos) (eUn pvNeg ma) := by
  refine pe_to (pe_un un_neg ha) ?_
  rintro σ H Q ⟨G, dl, ε, D, h⟩
  refine step mono_V h ?_
  intro v p G1 H1 D1 re1 P1 r1 h1
  obtain ⟨z, e, re, q⟩ := done h1
  cases r1 <;> simp [pvNeg] at e
  subst e
  exact ⟨_, rfl, leaf re.sub re.dok (.int _) q⟩

/-! ### == of data -/
mutual
def toD : PV → Option PyData
  | .non => some .none
  | .bl b => some (.bool b)
  | .int i => some (.int i)
  | .str x => if PyData.strOk x = true then some (.str x) else none
  | .tup xs => (toDs xs).map .tuple
  | .lst xs => (toDs xs).map .list
  | .ty _ => none
  | .deal => none
  | .scr _ => none
def toDs : List PV → Option (List PyData)
  | [] => some []
  | p :: ps => match toD p, toDs ps with
    | some d, some ds => some (d :: ds)
    | _, _ => none
end
mutual
theorem dp_of {K : PySem.W.Frag} {dl : DAt} {G : Hp} : ∀ (p : PV) {v : V} {d : PyData}, Rep K dl G v p → toD p = some d → Dp K G v d ∧ d.canLay0 = true
  | .non, _, _, h, e => by cases h; simp [toD] at e; subst e; exact ⟨.non, rfl⟩
  | .bl b, _, _, h, e => by cases h; simp [toD] at e; subst e; exact ⟨.bl b, rfl⟩
  | .int i, _, _, h, e => by cases h; simp [toD] at e; subst e; exact ⟨.int i, rfl⟩
  | .str x, _, _, h, e => by
    cases h
    simp only [toD] at e
    obtain ⟨h1, h2⟩ := guard_of e
    subst h2
    exact ⟨.str x, by simpa [PyData.canLay0] using h1⟩
  | .tup xs, _, _, h, e => by
    cases h with
    | tup a b =>
      simp only [toD, Option.map_eq_some_iff] at e
      obtain ⟨ds, e1, rfl⟩ := e
      obtain ⟨h1, h2⟩ := dps_of xs b e1
      exact ⟨.tup (a.sq (Sub.refl _)) h1, by simpa [PyData.canLay0] using h2⟩
  | .lst xs, _, _, h, e => by
    cases h with
    | lst a b =>
      simp only [toD, Option.map_eq_some_iff] at e
      obtain ⟨ds, e1, rfl⟩ := e
      obtain ⟨h1, h2⟩ := dps_of xs b e1
      exact ⟨.lst (.inl (.inl a)) h1, by simpa [PyData.canLay0] using h2⟩
  | .ty n, _, _, h, e => by simp [toD] at e
  | .deal, _, _, h, e => by simp [toD] at e
  | .scr _, _, _, h, e => by simp [toD] at e
theorem dps_of {K : PySem.W.Frag} {dl : DAt} {G : Hp} : ∀ (ps : List PV) {vs : List V} {ds : List PyData}, RepA K dl G vs ps → toDs ps = some ds → DpAll K G vs ds ∧ PyData.canLayAll0 ds = true
  | [], _, _, h, e => by cases h; simp [toDs] at e; subst e; exact ⟨.nil, rfl⟩
  | p :: ps, _, _, h, e => by
    cases h with
    | cons a b =>
      simp only [toDs] at e
      split at e
      · rename_i d ds e1 e2
        cases e
        obtain ⟨h1, h2⟩ := dp_of p a e1
        obtain ⟨h3, h4⟩ := dps_of ps b e2
        exact ⟨.cons h1 h3, by simp [PyData.canLayAll0, h2, h4]⟩
      · cases e
end
mutual
theorem Dp.mono {K : PySem.W.Frag} {G H : Hp} (s : Sub G H) : ∀ (d : PyData) {v : V}, Dp K G v d → Dp K H v d
  | .none, _, h => by cases h; exact .non
  | .bool b, _, h => by cases h; exact .bl b
  | .int i, _, h => by cases h; exact .int i
  | .str x, _, h => by cases h; exact .str x
  | .list ds, _, h => by
    cases h with
    | lst a b => exact .lst (by
        rcases a with a | a
        · exact .inl (s.rd a)
        · exact .inr a) (DpAll.mono s ds b)
  | .tuple ds, _, h => by
    cases h with
    | tup a b => exact .tup (s.sqT a) (DpAll.mono s ds b)
  | .dict _, _, h => by cases h
theorem DpAll.mono {K : PySem.W.Frag} {G H : Hp} (s : Sub G H) : ∀ (ds : List PyData) {vs : List V}, DpAll K G vs ds → DpAll K H vs ds
  | [], _, h => by cases h; exact .nil
  | d :: ds, _, h => by cases h with | cons a b => exact .cons (Dp.mono s d a) (DpAll.mono s ds b)
end
mutual
/-- == of two values (True is 1) -/
def pvEq : PV → PV → Bool
  | .non, .non => true
  | .bl a, .bl b => a == b
  | .bl a, .int j => (if a then 1 else 0) == j
  | .int i, .bl b => i == (if b then 1 else 0)
  | .int i, .int j => i == j
  | .str x, .str y => x == y
  | .tup xs, .tup ys => pvEqs xs ys
  | .lst xs, .lst ys => pvEqs xs ys
  | _, _ => false
def pvEqs : List PV → List PV → Bool
  | [], [] => true
  | x :: xs, y :: ys => pvEq x y && pvEqs xs ys
  | _, _ => false
end
mutual
theorem eqv_pv : ∀ (p q : PV) {d e : PyData}, toD p = some d → toD q = some e → PyData.eqv d e = pvEq p q
  | .non, q, d, e, h, k => by
    simp [toD] at h; subst h
    cases q <;> simp [toD] at k <;> first | (subst k; simp [PyData.eqv, pvEq]) | (obtain ⟨a, _, rfl⟩ := k; simp [PyData.eqv, pvEq]) | (obtain ⟨_, rfl⟩ := k; simp [PyData.eqv, pvEq])
  | .bl b, q, d, e, h, k => by
    simp [toD] at h; subst h
    cases q <;> simp [toD] at k <;> first | (subst k; simp [PyData.eqv, pvEq]) | (obtain ⟨a, _, rfl⟩ := k; simp [PyData.eqv, pvEq]) | (obtain ⟨_, rfl⟩ := k; simp [PyData.eqv, pvEq])
  | .int b, q, d, e, h, k => by
    simp [toD] at h; subst h
    cases q <;> simp [toD] at k <;> first | (subst k; simp [PyData.eqv, pvEq]) | (obtain ⟨a, _, rfl⟩ := k; simp [PyData.eqv, pvEq]) | (obtain ⟨_, rfl⟩ := k; simp [PyData.eqv, pvEq])
  | .str b, q, d, e, h, k => by
    simp [toD] at h; obtain ⟨_, rfl⟩ := h
    cases q <;> simp [toD] at k <;> first | (subst k; simp [PyData.eqv, pvEq]) | (obtain ⟨a, _, rfl⟩ := k; simp [PyData.eqv, pvEq]) | (obtain ⟨_, rfl⟩ := k; simp [PyData.eqv, pvEq])
  | .tup xs, q, d, e, h, k => by
    simp only [toD, Option.map_eq_some_iff] at h
    obtain ⟨ds, h1, rfl⟩ := h
    cases q with
    | tup ys =>
      simp only [toD, Option.map_eq_some_iff] at k
      obtain ⟨es, k1, rfl⟩ := k
      simp only [PyData.eqv, pvEq]
      exact eqvs_pv xs ys h1 k1
    | lst ys =>
      simp only [toD, Option.map_eq_some_iff] at k
      obtain ⟨es, k1, rfl⟩ := k
      simp [PyData.eqv, pvEq]
    | str y => simp [toD] at k; obtain ⟨_, rfl⟩ := k; simp [PyData.eqv, pvEq]
    | non => simp [toD] at k; subst k; simp [PyData.eqv, pvEq]
    | bl _ => simp [toD] at k; subst k; simp [PyData.eqv, pvEq]
    | int _ => simp [toD] at k; subst k; simp [PyData.eqv, pvEq]
    | ty _ => simp [toD] at k
    | deal => simp [toD] at k
    | scr _ => simp [toD] at k
  | .lst xs, q, d, e, h, k => by
    simp only [toD, Option.map_eq_some_iff] at h
    obtain ⟨ds, h1, rfl⟩ := h
    cases q with
    | lst ys =>
      simp only [toD, Option.map_eq_some_iff] at k
      obtain ⟨es, k1, rfl⟩ := k
      simp only [PyData.eqv, pvEq]
      exact eqvs_pv xs ys h1 k1
    | tup ys =>
      simp only [toD, Option.map_eq_some_iff] at k
      obtain ⟨es, k1, rfl⟩ := k
      simp [PyData.eqv, pvEq]
    | str y => simp [toD] at k; obtain ⟨_, rfl⟩ := k; simp [PyData.eqv, pvEq]
    | non => simp [toD] at k; subst k; simp [PyData.eqv, pvEq]
    | bl _ => simp [toD] at k; subst k; simp [PyData.eqv, pvEq]
    | int _ => simp [toD] at k; subst k; simp [PyData.eqv, pvEq]
    | ty _ => simp [toD] at k
    | deal => simp [toD] at k
    | scr _ => simp [toD] at k
  | .ty _, q, d, e, h, k => by simp [toD] at h
  | .deal, q, d, e, h, k => by simp [toD] at h
  | .scr _, q, d, e, h, k => by simp [toD] at h
theorem eqvs_pv : ∀ (ps qs : List PV) {ds es : List PyData}, toDs ps = some ds → toDs qs = some es → PyData.eqvAll ds es = pvEqs ps qs
  | [], [], ds, es, h, k => by simp [toDs] at h k; subst h; subst k; rfl
  | [], q :: qs, ds, es, h, k => by
    simp [toDs] at h; subst h
    simp only [toDs] at k
    split at k
    · cases k; simp [PyData.eqvAll, pvEqs]
    · cases k
  | p :: ps, [], ds, es, h, k => by
    simp [toDs] at k; subst k
    simp only [toDs] at h
    split at h
    · cases h; simp [PyData.eqvAll, pvEqs]
    · cases h
  | p :: ps, q :: qs, ds, es, h, k => by
    simp only [toDs] at h k
    split at h
    · rename_i d ds' e1 e2
      cases h
      split at k
      · rename_i e es' f1 f2
        cases k
        simp only [PyData.eqvAll, pvEqs]
        rw [eqv_pv p q e1 f1, eqvs_pv ps qs e2 f2]
      · cases k
    · cases h
end
/-- data that == may be asked of -/
def plainD (p : PV) : Bool := match toD p with
  | some d => decide (d.depth ≤ 64)
  | none => false
theorem plainD_of {p : PV} (h : plainD p = true) : ∃ d, toD p = some d ∧ d.depth ≤ 64 := by
  unfold plainD at h
  split at h
  · rename_i d e; exact ⟨d, e, of_decide_eq_true h⟩
  · cases h
def pvEqO (p q : PV) : Option PV := if (plainD p && plainD q) = true then some (.bl (pvEq p q)) else none
def pvNeO (p q : PV) : Option PV := if (plainD p && plainD q) = true then some (.bl (!pvEq p q)) else none
theorem bin_eq {K : PySem.W.Frag} : BinOk K (rEqD K) pvEqO :=
  ⟨fun s d rx ry h k => by
    obtain ⟨h1, rfl⟩ := guard_of h
    rw [Bool.and_eq_true] at h1
    obtain ⟨d1, e1, g1⟩ := plainD_of h1.1
    obtain ⟨d2, e2, g2⟩ := plainD_of h1.2
    obtain ⟨a1, b1⟩ := dp_of _ rx e1
    obtain ⟨a2, b2⟩ := dp_of _ ry e2
    refine ⟨d1, d2, Dp.mono s _ a1, Dp.mono s _ a2, by simp [SeqAt.shaped, b1, g1], by simp [SeqAt.shaped, b2, g2], ?_⟩
    rw [eqv_pv _ _ e1 e2]
    exact leaf s d (.bl _) k⟩
theorem bin_ne {K : PySem.W.Frag} : BinOk K (rNeD K) pvNeO :=
  ⟨fun s d rx ry h k => by
    obtain ⟨h1, rfl⟩ := guard_of h
    rw [Bool.and_eq_true] at h1
    obtain ⟨d1, e1, g1⟩ := plainD_of h1.1
    obtain ⟨d2, e2, g2⟩ := plainD_of h1.2
    obtain ⟨a1, b1⟩ := dp_of _ rx e1
    obtain ⟨a2, b2⟩ := dp_of _ ry e2
    refine ⟨d1, d2, Dp.mono s _ a1, Dp.mono s _ a2, by simp [SeqAt.shaped, b1, g1], by simp [SeqAt.shaped, b2, g2], ?_⟩
    rw [eqv_pv _ _ e1 e2]
    exact leaf s d (.bl _) k⟩
/-- there is room -/
def Rm (X : Cx) : Prop := X.A.units + 100 < cLine
theorem Rm.u64 (r : Rm X) : X.A.units + 64 < cLine := by unfold Rm at r; omega
theorem Rm.u65 (r : Rm X) : X.A.units + 65 < cLine := by unfold Rm at r; omega
theorem Rm.u1 (r : Rm X) : X.A.units + 1 < cLine := by unfold Rm at r; omega
theorem Rm.u0 (r : Rm X) : X.A.units < cLine := by unfold Rm at r; omega
theorem de_eq (hu : Rm X) (ha : DE X E a ma) (hb : DE X E b mb) : DE X E (.Compare a [.Eq] [b] pos) (eBin pvEqO ma mb) := de_cmp (op_eqD hu.u64) bin_eq ha hb (nomark _)
theorem de_ne (hu : Rm X) (ha : DE X E a ma) (hb : DE X E b mb) : DE X E (.Compare a [.NotEq] [b] pos) (eBin pvNeO ma mb) := de_cmp (op_neD hu.u64) bin_ne ha hb (nomark _)
theorem dt_eq (hu : Rm X) (ha : DE X E a ma) (hb : DE X E b mb) : DT X E (.Compare a [.Eq] [b] pos) (eB (eBin pvEqO ma mb)) := dt_cmp (op_eqD hu.u64) bin_eq ha hb (nomark _)
theorem dt_ne (hu : Rm X) (ha : DE X E a ma) (hb : DE X E b mb) : DT X E (.Compare a [.NotEq] [b] pos) (eB (eBin pvNeO ma mb)) := dt_cmp (op_neD hu.u64) bin_ne ha hb (nomark _)

/-! ### is None, is True, is False -/
def isNonP : PV → Bool
  | .non => true
  | _ => false
def pvIsN (p q : PV) : Option PV := if isNonP q = true then some (.bl (isNonP p)) else none
def pvNotN (p q : PV) : Option PV := if isNonP q = true then some (.bl (!isNonP p)) else none
theorem isNonP_of {K : PySem.W.Frag} {dl : DAt} {G : Hp} {v : V} {p : PV} (r : Rep K dl G v p) : decide (v = .non) = isNonP p := by
  cases r <;> simp [isNonP]
theorem bin_isN {K : PySem.W.Frag} : BinOk K (fun x y H Q => y = .non ∧ Q (.bl (decide (x = .non))) H) pvIsN :=
  ⟨fun s d rx ry h k => by
    obtain ⟨h1, rfl⟩ := guard_of h
    cases ry <;> simp [isNonP] at h1
    refine ⟨rfl, ?_⟩
    rw [isNonP_of rx]
    exact leaf s d (.bl _) k⟩
theorem bin_notN {K : PySem.W.Frag} : BinOk K (fun x y H Q => y = .non ∧ Q (.bl (!decide (x = .non))) H) pvNotN :=
  ⟨fun s d rx ry h k => by
    obtain ⟨h1, rfl⟩ := guard_of h
    cases ry <;> simp [isNonP] at h1
    refine ⟨rfl, ?_⟩
    rw [isNonP_of rx]
    exact leaf s d (.bl _) k⟩
theorem de_isN (ha : DE X E a ma) (hb : DE X E b mb) : DE X E (.Compare a [.Is] [b] pos) (eBin pvIsN ma mb) := de_cmp op_isN bin_isN ha hb (nomark _)
theorem dt_isN (ha : DE X E a ma) (hb : DE X E b mb) : DT X E (.Compare a [.Is] [b] pos) (eB (eBin pvIsN ma mb)) := dt_cmp op_isN bin_isN ha hb (nomark _)
theorem de_notN (ha : DE X E a ma) (hb : DE X E b mb) : DE X E (.Compare a [.IsNot] [b] pos) (eBin pvNotN ma mb) := de_cmp op_notN bin_notN ha hb (nomark _)
theorem dt_notN (ha : DE X E a ma) (hb : DE X E b mb) : DT X E (.Compare a [.IsNot] [b] pos) (eB (eBin pvNotN ma mb)) := dt_cmp op_notN bin_notN ha hb (nomark _)
end
end Pu
set_option Elab.async false
set_option linter.all false
set_option maxRecDepth 100000
set_option maxHeartbeats 4000000
namespace Pu
open PySem PySem.Spec PyProof.Rows L2
section
variable {X : Cx} {E : XK} {pos p2 : Pos} {a b c e : Expr} {es rest : List Expr} {ma mb mc : M PV} {mt mu : M Bool} {ms : M (List PV)}

/-! ### +: ints, texts, tuples, lists -/
def pvAdd : PV → PV → Option PV
  | .int i, .int j => some (.int (i + j))
  | .str i, .str j => if i.length + j.length ≤ 1000000 then some (.str (i ++ j)) else none
  | .tup i, .tup j => if i.length + j.length ≤ 1000000 then some (.tup (i ++ j)) else none
  | .lst i, .lst j => if i.length + j.length ≤ 1000000 then some (.lst (i ++ j)) else none
  | _, _ => none
def rAddA (K : PySem.W.Frag) : R2 := fun x y H Q => (rI0 fun i j => .int (i + j)) x y H Q ∨ ((∃ i j, x = .str i ∧ y = .str j ∧ i.length + j.length ≤ sizeLine ∧ Q (.str (i ++ j)) H) ∨ (rCatA K x y H Q ∨ rCat x y H Q))
theorem op_addA : OpR X (binaryOp .Add) (rAddA X.K) := op_add.or (op_add_str.or (op_catA.or op_cat))
theorem bin_add {K : PySem.W.Frag} : BinOk K (rAddA K) pvAdd :=
  ⟨fun s d rx ry h k => by
    unfold pvAdd at h
    split at h
    · cases h; cases rx; cases ry
      exact .inl ⟨_, _, rfl, rfl, leaf s d (.int _) k⟩
    · obtain ⟨h1, rfl⟩ := guard_of h
      cases rx; cases ry
      exact .inr (.inl ⟨_, _, rfl, rfl, line_of h1, leaf s d (.str _) k⟩)
    · obtain ⟨h1, rfl⟩ := guard_of h
      cases rx with
      | tup a1 b1 =>
        cases ry with
        | tup a2 b2 =>
          refine .inr (.inr (.inl ⟨_, _, _, _, rfl, rfl, (a1.sq s), (a2.sq s), by rw [b1.length, b2.length]; exact line_of h1, fun e => ?_, fun _ e => ?_, fun _ _ => ?_⟩))
          · subst e
            cases b1
            exact leaf s d (.tup a2 (by simpa using b2)) k
          · subst e
            cases b2
            exact leaf s d (.tup a1 (by simpa using b1)) k
          · exact leafT s d (b1.append b2) k
    · obtain ⟨h1, rfl⟩ := guard_of h
      cases rx with
      | lst a1 b1 =>
        cases ry with
        | lst a2 b2 => exact .inr (.inr (.inr ⟨_, _, _, _, rfl, rfl, s _ _ a1, s _ _ a2, by rw [b1.length, b2.length]; exact line_of h1, leafL s d (b1.append b2) k⟩))
    · cases h⟩
theorem de_add (ha : DE X E a ma) (hb : DE X E b mb) : DE X E (.BinOp a .Add b pos) (eBin pvAdd ma mb) := de_bin op_addA bin_add ha hb

/-! ### is True, is False, is None -/
def rIsC : R2 := fun x y H Q => (y = .non ∨ ∃ b, y = .bl b) ∧ Q (.bl (decide (x = y))) H
theorem plainIs_nb {v u : Value} (hu : u = .none ∨ ∃ b, u = .bool b) (hv : ∀ n, v ≠ .builtin n) : plainIs v u = true := by
  rcases hu with rfl | ⟨b, rfl⟩ <;> cases v <;> first | rfl | exact absurd rfl (hv _)
theorem rel_nb {x : V} {v : Value} (r : RelV x v) : ∀ n, v ≠ .builtin n := by
  intro n z
  subst z
  cases x with
  | non => exact absurd (show Value.builtin n = Value.none from r) (by simp)
  | bl b => exact absurd (show Value.builtin n = Value.bool b from r) (by simp)
  | int i => obtain ⟨t, h⟩ := r; exact absurd h (by simp)
  | str i => obtain ⟨t, h⟩ := r; exact absurd h (by simp)
  | byt i => obtain ⟨t, h⟩ := r; exact absurd h (by simp)
  | flt i => obtain ⟨t, h⟩ := r; exact absurd h (by simp)
  | ref a => exact absurd (show Value.builtin n = Value.ref a from r) (by simp)
  | ty a => exact absurd (show Value.builtin n = Value.type a from r) (by simp)
theorem op_isC : OpR X (compareOp .Is) rIsC := by
  intro pins s σ H x y v u Q I rx ry h
  obtain ⟨hy, q⟩ := h
  have hu : u = .none ∨ ∃ b, u = .bool b := by
    rcases hy with rfl | ⟨b, rfl⟩
    · exact .inl ry
    · exact .inr ⟨b, ry⟩
  refine wpAny_is_plain (plainIs_nb hu (rel_nb rx)) ⟨.bl _, H, I, rfl, ?_⟩
  have e : (v == u) = decide (x = y) := by
    by_cases z : x = y
    · subst z
      have : v = u := by
        rcases hy with rfl | ⟨b, rfl⟩
        · exact (show v = Value.none from rx).trans (show u = Value.none from ry).symm
        · exact (show v = Value.bool b from rx).trans (show u = Value.bool b from ry).symm
      subst this
      simp
    · have : v ≠ u := fun w => z (rx.inj (w ▸ ry))
      rw [beq_eq_false_iff_ne.mpr this, decide_eq_false z]
  rw [e]
  exact q
def pvIsC (p : PV) : PV → Option PV
  | .non => some (.bl (match p with | .non => true | _ => false))
  | .bl b => some (.bl (match p with | .bl c => decide (c = b) | _ => false))
  | _ => none
theorem bin_isC {K : PySem.W.Frag} : BinOk K rIsC pvIsC :=
  ⟨fun s d rx ry h k => by
    unfold pvIsC at h
    split at h
    · cases h; cases ry
      refine ⟨.inl rfl, ?_⟩
      have := leaf s d (.bl _) k
      cases rx <;> simpa using this
    · cases h; cases ry
      refine ⟨.inr ⟨_, rfl⟩, ?_⟩
      have := leaf s d (.bl _) k
      cases rx <;> simp at this ⊢ <;> simpa using this
    · cases h⟩
theorem de_is (ha : DE X E a ma) (hb : DE X E b mb) : DE X E (.Compare a [.Is] [b] pos) (eBin pvIsC ma mb) := de_cmp op_isC bin_isC ha hb (nomark _)
theorem dt_is (ha : DE X E a ma) (hb : DE X E b mb) : DT X E (.Compare a [.Is] [b] pos) (eB (eBin pvIsC ma mb)) := dt_cmp op_isC bin_isC ha hb (nomark _)

/-! ### x[i] -/
theorem RepA.at {K : PySem.W.Frag} {dl : DAt} {G : Hp} {vs : List V} {ps : List PV} {i : Int} {p : PV} (r : RepA K dl G vs ps) (h : atI ps i = some p) : ∃ v, atI vs i = some v ∧ Rep K dl G v p := by
  unfold atI at h ⊢
  rw [Option.bind_eq_some_iff] at h
  obtain ⟨j, h1, h2⟩ := h
  obtain ⟨v, h3, h4⟩ := r.get h2
  exact ⟨v, by rw [r.length, h1]; exact h3, h4⟩
def pvIx : PV → PV → Option PV
  | .tup xs, .int i => atI xs i
  | .lst xs, .int i => atI xs i
  | .str z, .int i => if z.length ≤ 1000000 then (atI z.cps.toList i).map fun c => .str ⟨#[c]⟩ else none
  | _, _ => none
theorem bin_ix {K : PySem.W.Frag} : BinOk K (rIx K) pvIx :=
  ⟨fun s d rx ry h k => by
    unfold pvIx at h
    split at h
    · cases ry
      cases rx with
      | tup a1 b1 =>
        obtain ⟨v, h1, h2⟩ := b1.at h
        exact .inr (.inl ⟨_, _, _, v, rfl, rfl, (a1.sq s), h1, leaf s d h2 k⟩)
    · cases ry
      cases rx with
      | lst a1 b1 =>
        obtain ⟨v, h1, h2⟩ := b1.at h
        exact .inl ⟨_, _, _, v, rfl, rfl, .inl (.inl (s _ _ a1)), h1, leaf s d h2 k⟩
    · split at h
      · rename_i hl
        rw [Option.map_eq_some_iff] at h
        obtain ⟨c, h1, rfl⟩ := h
        cases rx; cases ry
        exact .inr (.inr ⟨_, _, c, rfl, rfl, line_of hl, h1, leaf s d (.str _) k⟩)
      · cases h
    · cases h⟩
theorem de_ix (ha : DE X E a ma) (hb : DE X E b mb) (hs : PlainIx b := by exact fun _ _ => rfl) : DE X E (.Subscript a b pos) (eBin pvIx ma mb) :=
  pe_to (pe_ix ix_seq ha hb hs) fun σ H Q h => tOp_of bin_ix h

/-! ### x[i:j] -/
def DO (X : Cx) (E : XK) (e : Option Expr) (m : M (Option Int)) : Prop := PO X e (tG X.K X.mg E (fun _ _ _ _ a b => a = b) m)
def asI : PV → Option Int
  | .int i => some i
  | _ => none
theorem asI_of {p : PV} {i : Int} (h : asI p = some i) : p = .int i := by
  cases p <;> simp [asI] at h
  rw [h]
@[reducible] def oNone : M (Option Int) := mPure none
@[reducible] def oSome (m : M PV) : M (Option Int) := mBind m fun p => mLift ((asI p).map some)
theorem mono_E {α : Type} : RMono (fun (_ : DAt) (_ _ _ : Hp) (a b : α) => a = b) := ⟨fun _ h => h⟩
theorem po_to {X : Cx} {e : Option Expr} {t u : TO} (h : PO X e t) (i : ∀ σ H Q, u σ H Q → t σ H Q) : PO X e u := ⟨fun pins s σ H Q I hu => h.run pins s σ H Q I (i σ H Q hu)⟩
theorem do_none : DO X E none oNone := by
  refine po_to po_none ?_
  rintro σ H Q ⟨G, dl, ε, D, h⟩
  obtain ⟨re, q⟩ := donep h
  exact q none G H re.refl rfl
theorem do_some (h : DE X E e ma) : DO X E (some e) (oSome ma) := by
  refine po_to (po_some h) ?_
  rintro σ H Q ⟨G, dl, ε, D, h⟩
  refine step mono_E h ?_
  intro v p G1 H1 D1 re1 P1 r1 h1
  obtain ⟨z, e, re, k⟩ := done h1
  rw [Option.map_eq_some_iff] at e
  obtain ⟨i, e1, rfl⟩ := e
  have e2 := asI_of e1
  subst e2
  cases r1
  exact ⟨i, rfl, k _ G1 H1 re.refl rfl⟩
/-- the part of a list, of a text -/
def cutL {α : Type} (xs : List α) (lo hi : Option Int) : List α := (xs.drop (HT.sIx xs.length 0 lo)).take (HT.sIx xs.length xs.length hi - HT.sIx xs.length 0 lo)
def pvCut : PV → Option Int → Option Int → Option PV
  | .tup xs, lo, hi => some (.tup (cutL xs lo hi))
  | .lst xs, lo, hi => some (.lst (cutL xs lo hi))
  | .str z, lo, hi => if z.length ≤ 1000000 then some (.str (L2.cutS z lo hi)) else none
  | .scr xs, lo, hi => some (.lst (cutL xs lo hi))
  | _, _, _ => none
theorem RepA.cut {K : PySem.W.Frag} {dl : DAt} {G : Hp} {vs : List V} {ps : List PV} (r : RepA K dl G vs ps) (lo hi : Option Int) : RepA K dl G (cutV vs lo hi) (cutL ps lo hi) := by
  unfold cutV cutL
  rw [r.length]
  exact (r.drop _).take _
theorem cutL_all {α : Type} {xs : List α} {lo hi : Option Int} (h : HT.sIx xs.length 0 lo = 0 ∧ HT.sIx xs.length xs.length hi = xs.length) : cutL xs lo hi = xs := by
  unfold cutL
  rw [h.1, h.2]
  simp
@[reducible] def eCut (m : M PV) (ml mh : M (Option Int)) : M PV := mBind m fun p => mBind ml fun lo => mBind mh fun hi => mLift (pvCut p lo hi)
theorem de_cut {lo hi : Option Expr} {ml mh : M (Option Int)} (he : DE X E e ma) (hl : DO X E lo ml) (hu : DO X E hi mh) : DE X E (.Subscript e (.Slice lo hi none p2) pos) (eCut ma ml mh) := by
  refine pe_to (pe_slice (sl_list.or (sl_tupA.or sl_str)) he hl hu) ?_
  rintro σ H Q ⟨G, dl, ε, D, h⟩
  refine step mono_V h ?_
  intro v p G1 H1 D1 re1 P1 r1 h1
  refine step mono_V h1 ?_
  intro lo' lo2 G2 H2 D2 re2 P2 r2 h2
  subst r2
  refine step mono_V h2 ?_
  intro hi' hi2 G3 H3 D3 re3 P3 r3 h3
  subst r3
  obtain ⟨z, e, re, k⟩ := done h3
  have r := r1.up (P2.sg.trans P3.sg)
  unfold pvCut at e
  split at e
  · cases e
    cases r with
    | tup a1 b1 =>
      refine .inr (.inl ⟨_, _, rfl, (a1.sq re.sub), fun hw => ?_, fun _ => leafT re.sub re.dok (b1.cut _ _) k⟩)
      rw [b1.length] at hw
      rw [cutL_all hw] at k
      exact leaf re.sub re.dok (.tup a1 b1) k
  · cases e
    cases r with
    | lst a1 b1 => exact .inl ⟨_, _, rfl, .inl (.inl (re.sub _ _ a1)), leafL re.sub re.dok (b1.cut _ _) k⟩
  · obtain ⟨hl, rfl⟩ := guard_of e
    cases r
    exact .inr (.inr ⟨_, rfl, line_of hl, leaf re.sub re.dok (.str _) k⟩)
  · cases e
    cases r with
    | scr a1 b1 => exact .inl ⟨_, _, rfl, a1.imp re.sub.rd id, leafL re.sub re.dok (b1.cut _ _) k⟩
  · cases e

/-! ### built-in functions -/
structure CallOk (K : PySem.W.Frag) (r : List V → Hp → VK → Prop) (f : List PV → Option PV) : Prop where
  go : ∀ {dl : DAt} {G H : Hp} {D : Dl} {xs : List V} {ps : List PV} {z : PV} {Q : VK}, Sub G H → DlOk G H dl D → RepA K dl G xs ps → f ps = some z →
    (∀ v G' H', Post G dl D H G' H' → Rep K dl G' v z → Q v H') → r xs H Q
@[reducible] def eFn (f : List PV → Option PV) (ms : M (List PV)) : M PV := mBind ms fun ps => mLift (f ps)
theorem tCB_of {r : List V → Hp → VK → Prop} {f : List PV → Option PV} (hf : CallOk X.K r f) {σ : L2.St} {H : Hp} {Q : VK} (h : tG X.K X.mg E (RV X.K) (eFn f ms) σ H Q) : tCB r (tG X.K X.mg E (RVs X.K) ms) σ H Q := by
  obtain ⟨G, dl, ε, D, h⟩ := h
  refine step mono_V h ?_
  intro v p G1 H1 D1 re1 P1 r1 h1
  obtain ⟨z, e, re, k⟩ := done h1
  exact hf.go re.sub re.dok r1 e k
theorem de_fn {r : List V → Hp → VK → Prop} {f : List PV → Option PV} (h : PE X e (tCB r (tG X.K X.mg E (RVs X.K) ms))) (hf : CallOk X.K r f) : DE X E e (eFn f ms) := pe_to h fun σ H Q h => tCB_of hf h
def pvLen : List PV → Option PV
  | [.tup xs] => some (.int xs.length)
  | [.lst xs] => some (.int xs.length)
  | [.str z] => if z.length ≤ 1000000 then some (.int z.length) else none
  | _ => none
theorem repA1 {K : PySem.W.Frag} {dl : DAt} {G : Hp} {xs : List V} {p : PV} (h : RepA K dl G xs [p]) : ∃ v, xs = [v] ∧ Rep K dl G v p := by
  cases h with
  | cons a b => cases b; exact ⟨_, rfl, a⟩
theorem repA2 {K : PySem.W.Frag} {dl : DAt} {G : Hp} {xs : List V} {p q : PV} (h : RepA K dl G xs [p, q]) : ∃ v w, xs = [v, w] ∧ Rep K dl G v p ∧ Rep K dl G w q := by
  cases h with
  | cons a b => obtain ⟨w, rfl, r⟩ := repA1 b; exact ⟨_, w, rfl, a, r⟩
theorem ok_len {K : PySem.W.Frag} : CallOk K (fun xs H Q => ∃ x n, xs = [x] ∧ LenV K x H n ∧ Q (.int n) H) pvLen :=
  ⟨fun s d r h k => by
    unfold pvLen at h
    split at h
    · obtain ⟨v, rfl, r1⟩ := repA1 r
      cases h
      cases r1 with
      | tup a1 b1 =>
        refine ⟨_, _, rfl, .inr ⟨_, (a1.sq s), rfl⟩, ?_⟩
        rw [b1.length]
        exact leaf s d (.int _) k
    · obtain ⟨v, rfl, r1⟩ := repA1 r
      cases h
      cases r1 with
      | lst a1 b1 =>
        refine ⟨_, _, rfl, .inl ⟨_, .inl (.inl (s _ _ a1)), rfl⟩, ?_⟩
        rw [b1.length]
        exact leaf s d (.int _) k
    · obtain ⟨v, rfl, r1⟩ := repA1 r
      obtain ⟨h1, rfl⟩ := guard_of h
      cases r1
      exact ⟨_, _, rfl, ⟨line_of h1, rfl⟩, leaf s d (.int _) k⟩
    · cases h⟩
def pvInt : List PV → Option PV
  | [.int i] => some (.int i)
  | [.bl b] => some (.int (if b then 1 else 0))
  | _ => none
theorem ok_int {K : PySem.W.Frag} : CallOk K (fun xs H Q => (∃ i, xs = [.int i] ∧ Q (.int i) H) ∨ ∃ k, xs = [.bl k] ∧ Q (.int (if k then 1 else 0)) H) pvInt :=
  ⟨fun s d r h k => by
    unfold pvInt at h
    split at h
    · obtain ⟨v, rfl, r1⟩ := repA1 r
      cases h; cases r1
      exact .inl ⟨_, rfl, leaf s d (.int _) k⟩
    · obtain ⟨v, rfl, r1⟩ := repA1 r
      cases h; cases r1
      exact .inr ⟨_, rfl, leaf s d (.int _) k⟩
    · cases h⟩
def pvAbs : List PV → Option PV
  | [.int i] => some (.int (if i < 0 then -i else i))
  | _ => none
theorem ok_abs {K : PySem.W.Frag} : CallOk K (fun xs H Q => ∃ i, xs = [.int i] ∧ Q (.int (if i < 0 then -i else i)) H) pvAbs :=
  ⟨fun s d r h k => by
    unfold pvAbs at h
    split at h
    · obtain ⟨v, rfl, r1⟩ := repA1 r
      cases h; cases r1
      exact ⟨_, rfl, leaf s d (.int _) k⟩
    · cases h⟩
def pvMax2 : List PV → Option PV
  | [.int i, .int j] => some (.int (if j > i then j else i))
  | _ => none
def pvMin2 : List PV → Option PV
  | [.int i, .int j] => some (.int (if j < i then j else i))
  | _ => none
theorem ok_max2 {K : PySem.W.Frag} : CallOk K (fun xs H Q => ∃ i j, xs = [.int i, .int j] ∧ Q (.int (if j > i then j else i)) H) pvMax2 :=
  ⟨fun s d r h k => by
    unfold pvMax2 at h
    split at h
    · obtain ⟨v, w, rfl, r1, r2⟩ := repA2 r
      cases h; cases r1; cases r2
      exact ⟨_, _, rfl, leaf s d (.int _) k⟩
    · cases h⟩
theorem ok_min2 {K : PySem.W.Frag} : CallOk K (fun xs H Q => ∃ i j, xs = [.int i, .int j] ∧ Q (.int (if j < i then j else i)) H) pvMin2 :=
  ⟨fun s d r h k => by
    unfold pvMin2 at h
    split at h
    · obtain ⟨v, w, rfl, r1, r2⟩ := repA2 r
      cases h; cases r1; cases r2
      exact ⟨_, _, rfl, leaf s d (.int _) k⟩
    · cases h⟩
/-- all of some values are ints -/
def asInts : List PV → Option (List Int)
  | [] => some []
  | .int i :: ps => (asInts ps).map (i :: ·)
  | _ :: _ => none
theorem asInts_of : ∀ {ps : List PV} {ns : List Int}, asInts ps = some ns → ps = ns.map PV.int
  | [], ns, h => by cases h; rfl
  | p :: ps, ns, h => by
    cases p <;> simp only [asInts] at h <;> try cases h
    rw [Option.map_eq_some_iff] at h
    obtain ⟨ms, e, rfl⟩ := h
    rw [asInts_of e]; rfl
theorem asInts_map (ns : List Int) : asInts (ns.map PV.int) = some ns := by
  induction ns with
  | nil => rfl
  | cons n ns ih => simp [asInts, ih]
def maxI : List Int → Int
  | [] => 0
  | [x] => x
  | x :: xs => if maxI xs > x then maxI xs else x
def minI : List Int → Int
  | [] => 0
  | [x] => x
  | x :: xs => if minI xs < x then minI xs else x
theorem maxI_spec : ∀ {ns : List Int} {m : Int}, m ∈ ns → (∀ y, y ∈ ns → y ≤ m) → maxI ns = m
  | [], _, h, _ => nomatch h
  | [x], m, h, _ => by simp at h; exact h.symm
  | x :: y :: r, m, h, g => by
    show (if maxI (y :: r) > x then maxI (y :: r) else x) = m
    have hx := g x (by simp)
    have hin : ∀ (l : List Int), l ≠ [] → maxI l ∈ l := by
      intro l
      induction l with
      | nil => intro h; exact absurd rfl h
      | cons a t ih =>
        intro _
        cases t with
        | nil => simp [maxI]
        | cons b t =>
          show (if maxI (b :: t) > a then maxI (b :: t) else a) ∈ _
          split
          · exact List.mem_cons_of_mem _ (ih (by simp))
          · simp
    have h1 := g _ (List.mem_cons_of_mem x (hin (y :: r) (by simp)))
    by_cases hm : m ∈ y :: r
    · have := maxI_spec hm fun z hz => g z (List.mem_cons_of_mem _ hz)
      split <;> omega
    · have : m = x := by simpa [hm] using h
      split <;> omega
theorem minI_spec : ∀ {ns : List Int} {m : Int}, m ∈ ns → (∀ y, y ∈ ns → m ≤ y) → minI ns = m
  | [], _, h, _ => nomatch h
  | [x], m, h, _ => by simp at h; exact h.symm
  | x :: y :: r, m, h, g => by
    show (if minI (y :: r) < x then minI (y :: r) else x) = m
    have hx := g x (by simp)
    have hin : ∀ (l : List Int), l ≠ [] → minI l ∈ l := by
      intro l
      induction l with
      | nil => intro h; exact absurd rfl h
      | cons a t ih =>
        intro _
        cases t with
        | nil => simp [minI]
        | cons b t =>
          show (if minI (b :: t) < a then minI (b :: t) else a) ∈ _
          split
          · exact List.mem_cons_of_mem _ (ih (by simp))
          · simp
    have h1 := g _ (List.mem_cons_of_mem x (hin (y :: r) (by simp)))
    by_cases hm : m ∈ y :: r
    · have := minI_spec hm fun z hz => g z (List.mem_cons_of_mem _ hz)
      split <;> omega
    · have : m = x := by simpa [hm] using h
      split <;> omega
def pvMaxL : List PV → Option PV
  | [.lst ps] => match asInts ps with
    | some (n :: ns) => some (.int (maxI (n :: ns)))
    | _ => none
  | _ => none
def pvMinL : List PV → Option PV
  | [.lst ps] => match asInts ps with
    | some (n :: ns) => some (.int (minI (n :: ns)))
    | _ => none
  | _ => none
def pvSum : List PV → Option PV
  | [.lst ps] => (asInts ps).map fun ns => .int ns.sum
  | _ => none
theorem ok_maxL {K : PySem.W.Frag} : CallOk K (rMax K) pvMaxL :=
  ⟨fun s d r h k => by
    unfold pvMaxL at h
    split at h
    · obtain ⟨v, rfl, r1⟩ := repA1 r
      split at h
      · rename_i n ns e
        cases h
        have e2 := asInts_of e
        subst e2
        cases r1 with
        | lst a1 b1 =>
          have := b1.unints
          subst this
          refine ⟨_, n :: ns, rfl, .inl (.inl (s _ _ a1)), by simp, fun m hm hg => ?_⟩
          rw [← maxI_spec hm hg]
          exact leaf s d (.int _) k
      · cases h
    · cases h⟩
theorem ok_minL {K : PySem.W.Frag} : CallOk K (rMin K) pvMinL :=
  ⟨fun s d r h k => by
    unfold pvMinL at h
    split at h
    · obtain ⟨v, rfl, r1⟩ := repA1 r
      split at h
      · rename_i n ns e
        cases h
        have e2 := asInts_of e
        subst e2
        cases r1 with
        | lst a1 b1 =>
          have := b1.unints
          subst this
          refine ⟨_, n :: ns, rfl, .inl (.inl (s _ _ a1)), by simp, fun m hm hg => ?_⟩
          rw [← minI_spec hm hg]
          exact leaf s d (.int _) k
      · cases h
    · cases h⟩
theorem ok_sum {K : PySem.W.Frag} : CallOk K (rSum K) pvSum :=
  ⟨fun s d r h k => by
    unfold pvSum at h
    split at h
    · obtain ⟨v, rfl, r1⟩ := repA1 r
      rw [Option.map_eq_some_iff] at h
      obtain ⟨ns, e, rfl⟩ := h
      have e2 := asInts_of e
      subst e2
      cases r1 with
      | lst a1 b1 =>
        have := b1.unints
        subst this
        exact ⟨_, ns, rfl, .inl (.inl (s _ _ a1)), leaf s d (.int _) k⟩
    · cases h⟩
def pvTupleOf : List PV → Option PV
  | [.tup ps] => some (.tup ps)
  | [.lst ps] => some (.tup ps)
  | _ => none
theorem ok_tuple {K : PySem.W.Frag} : CallOk K (fun xs H Q => ∃ p ys, xs = [.ref p] ∧ ((SqL K H p ys ∧ ∀ l, H l = none → Q (.ref l) (upd H l (.tup ys))) ∨ (SqT K H p ys ∧ Q (.ref p) H))) pvTupleOf :=
  ⟨fun s d r h k => by
    unfold pvTupleOf at h
    split at h
    · obtain ⟨v, rfl, r1⟩ := repA1 r
      cases h
      cases r1 with
      | tup a1 b1 => exact ⟨_, _, rfl, .inr ⟨(a1.sq s), leaf s d (.tup a1 b1) k⟩⟩
    · obtain ⟨v, rfl, r1⟩ := repA1 r
      cases h
      cases r1 with
      | lst a1 b1 => exact ⟨_, _, rfl, .inl ⟨.inl (.inl (s _ _ a1)), leafT s d b1 k⟩⟩
    · cases h⟩
/-- a value's built-in type -/
def pvTy : PV → Option Tg
  | .non => some .non
  | .bl _ => some .bool
  | .int _ => some .int
  | .str _ => some .str
  | .tup _ => some .tuple
  | .lst _ => some .list
  | _ => none
theorem tyx_of {K : PySem.W.Frag} {dl : DAt} {G H : Hp} {v : V} {p : PV} {n : Tg} (s : Sub G H) (r : Rep K dl G v p) (h : pvTy p = some n) : TyX K H v (.type n.name) := by
  cases r with
  | non => cases h; exact .base .non
  | bl b => cases h; exact .base (.bl b)
  | int b => cases h; exact .base (.int b)
  | str b => cases h; exact .base (.str b)
  | lst a b => cases h; exact .base (.lst (s _ _ a))
  | tup a b =>
    cases h
    rcases a with a | (z | ⟨_, z⟩) | ⟨o, its, m, hk, hc, _⟩
    · exact .base (.tup (s _ _ a))
    · cases z
    · cases z
    · exact .kTuple hk hc
  | ty _ => cases h
  | deal _ => cases h
  | scr _ _ => cases h
/-- is an instance of the one also one of the other -/
def isiTab : Tg → Tg → Bool
  | .bool, .int => true
  | a, b => decide (a = b)
def Tg.all : List Tg := [.non, .bool, .int, .str, .tuple, .list, .dict]
theorem Tg.mem (t : Tg) : t ∈ Tg.all := by cases t <;> simp [Tg.all]
theorem isiTab_all : (Tg.all.all fun a => (Tg.all.drop 1).all fun b => decide (kitB a.name b.name = some (isiTab a b))) = true := by decide +kernel
theorem isiTab_of {a b : Tg} (hb : b ≠ .non) : kitB a.name b.name = some (isiTab a b) := by
  have := isiTab_all
  rw [List.all_eq_true] at this
  have := this a a.mem
  rw [List.all_eq_true] at this
  exact of_decide_eq_true (this b (by cases b <;> simp [Tg.all] at hb ⊢))
def asTys : List PV → Option (List Tg)
  | [] => some []
  | .ty .non :: _ => none
  | .ty n :: ps => (asTys ps).map (n :: ·)
  | _ :: _ => none
theorem asTys_of {K : PySem.W.Frag} {dl : DAt} {G : Hp} : ∀ {ps : List PV} {vs : List V} {ns : List Tg}, RepA K dl G vs ps → asTys ps = some ns → Paired ClsV vs (ns.map fun n => Value.type n.name) ∧ ∀ n ∈ ns, n ≠ .non
  | [], _, ns, r, h => by cases r; cases h; exact ⟨.nil, fun _ z => nomatch z⟩
  | p :: ps, _, ns, r, h => by
    cases r with
    | cons a b =>
      obtain ⟨t, rfl, ht, h'⟩ : ∃ t, p = .ty t ∧ t ≠ .non ∧ (asTys ps).map (t :: ·) = some ns := by
        cases p with
        | ty t => exact ⟨t, rfl, fun z => (by subst z; cases h), by cases t <;> first | exact h | cases h⟩
        | _ => cases h
      rw [Option.map_eq_some_iff] at h'
      obtain ⟨ms, e, rfl⟩ := h'
      cases a
      obtain ⟨q1, q2⟩ := asTys_of b e
      exact ⟨.cons (.ty _) q1, fun n hn => (List.mem_cons.mp hn).elim (fun z => by rw [z]; exact ht) (q2 n)⟩
theorem isiAny_of {K : PySem.W.Frag} {t : Tg} : ∀ {ns : List Tg}, (∀ n ∈ ns, n ≠ .non) → PySem.W.kitAny K (.type t.name) (ns.map fun n => Value.type n.name) = some (ns.any (isiTab t))
  | [], _ => rfl
  | n :: r, h => by
    refine kitAny_cons (b := isiTab t n) (kit_ty (isiTab_of (h n List.mem_cons_self))) (fun e => ?_) fun e => ?_
    · rw [isiAny_of fun m hm => h m (List.mem_cons_of_mem _ hm), List.any_cons, e, Bool.false_or]
    · rw [List.any_cons, e, Bool.true_or]
def pvIsi : List PV → Option PV
  | [_, .ty .non] => none
  | [p, .ty n] => (pvTy p).map fun t => .bl (isiTab t n)
  | [p, .tup cs] => match asTys cs with
    | some ns => (pvTy p).map fun t => .bl (ns.any (isiTab t))
    | none => none
  | _ => none
def rIsiA (K : PySem.W.Frag) : List V → Hp → VK → Prop := fun xs H Q => rIsi K xs H Q ∨ (rIsiT K xs H Q ∨ rIsiK K xs H Q)
theorem call_isiA : CallR X (.builtin "isinstance") (rIsiA X.K) := call_isi.or (call_isiT.or call_isiK)
theorem ok_isi {K : PySem.W.Frag} : CallOk K (rIsiA K) pvIsi :=
  ⟨fun s d r h k => by
    unfold pvIsi at h
    split at h
    · cases h
    · rename_i n hn
      obtain ⟨v, w, rfl, r1, r2⟩ := repA2 r
      rw [Option.map_eq_some_iff] at h
      obtain ⟨t, h1, rfl⟩ := h
      cases r2
      exact .inl ⟨_, _, _, _, _, rfl, .ty _, tyx_of s r1 h1, kit_ty (isiTab_of fun z => hn (by rw [z])), leaf s d (.bl _) k⟩
    · obtain ⟨v, w, rfl, r1, r2⟩ := repA2 r
      split at h
      · rename_i ns e2
        rw [Option.map_eq_some_iff] at h
        obtain ⟨t, h1, rfl⟩ := h
        cases r2 with
        | tup a1 b1 =>
          obtain ⟨q1, q2⟩ := asTys_of b1 e2
          rcases a1 with a1 | (z | ⟨_, z⟩) | ⟨o, its, m, hk, hc, hd, hz, hv⟩
          · exact .inr (.inl ⟨_, _, _, _, _, _, rfl, s _ _ a1, q1, tyx_of s r1 h1, isiAny_of q2, leaf s d (.bl _) k⟩)
          · cases z
          · cases z
          · have e3 := ClsV.all q1 hv
            obtain ⟨oc, od, dd, sl⟩ := o
            cases (show oc = _ from hc)
            cases (show dd = _ from hd)
            have e4 : its = (ns.map fun n => Value.type n.name).toArray := by rw [← e3]
            subst e4
            exact .inr (.inr ⟨_, _, _, _, _, sl, _, _, rfl, hk, tyx_of s r1 h1, isiAny_of q2, leaf s d (.bl _) k⟩)
      · cases h
    · cases h⟩
theorem de_ty {n : Tg} (h : PE X e (tC (.ty n.name))) : DE X E e (eC (.ty n)) := de_c h fun _ _ => .ty n
end
end Pu
set_option Elab.async false
set_option linter.all false
set_option maxRecDepth 100000
set_option maxHeartbeats 4000000
namespace Pu
open PySem PySem.Spec PyProof.Rows L2

theorem ifs_of {α : Type} {c : Prop} [Decidable c] {a : Option α} {z : α} (h : (if c then a else none) = some z) : c ∧ a = some z := by
  by_cases hc : c
  · rw [if_pos hc] at h; exact ⟨hc, h⟩
  · rw [if_neg hc] at h; cases h
/-! ### calls of defs -/
abbrev FM := List PV → Dl → Option (Rs PV × Dl)
def spF (K : PySem.W.Frag) (mg : Mg) (n : Nat) (m : FM) : Sp := fun vs H Q E => ∃ G dl D ps r D', Sub G H ∧ DlOk G H dl D ∧ RepA K dl G vs ps ∧ ps.length = n ∧ m ps D = some (r, D') ∧ match r with
  | .ok p => ∀ v G' H', Post G dl D' H G' H' → Rep K dl G' v p → Q v H'
  | .ex x => ∀ c od G' H', Post G dl D' H G' H' → RepX K mg dl G' H' c od x → E c od H'
def mCall (n : Nat) (m : FM) (ps : List PV) : M PV := fun _ D => if ps.length = n then m ps D else none
@[reducible] def eCall (n : Nat) (m : FM) (ms : M (List PV)) : M PV := mBind ms fun ps => mCall n m ps
section
variable {X : Cx} {E : XK} {pos p2 : Pos} {a b c e : Expr} {es rest : List Expr} {ma mb mc : M PV} {mt mu : M Bool} {ms mk : M (List PV)}
theorem call_core {n : Nat} {m : FM} {K : PySem.W.Frag} {mg : Mg} {G H : Hp} {dl : DAt} {ε : Ev} {D : Dl} {σ : L2.St} {Q : VK} {vs : List V} {ps : List PV} (h1 : tGc K mg E (RV K) (fun _ D => if ps.length = n then m ps D else none) G dl ε D σ H Q) (r1 : RepA K dl G vs ps) : spF K mg n m vs H Q E := by
  obtain ⟨re, r, D', e, hr⟩ := h1
  by_cases hl : ps.length = n
  · simp only [if_pos hl] at e
    refine ⟨G, dl, D, ps, r, D', re.sub, re.dok, r1, hl, e, ?_⟩
    cases r <;> exact hr
  · simp only [if_neg hl] at e
    cases e
theorem de_call {n : Nat} {m : FM} (h : PE X e (tCall (spF X.K X.mg n m) [] E (tG X.K X.mg E (RVs X.K) ms))) : DE X E e (eCall n m ms) := by
  refine pe_to h ?_
  rintro σ H Q ⟨G, dl, ε, D, h⟩
  refine step mono_V h ?_
  intro v p G1 H1 D1 re1 P1 r1 h1
  rw [List.append_nil]
  exact call_core h1 r1
/-- keywords: the arguments by places in what was given -/
def pick {α : Type} (xs : List α) (perm : List Nat) : List α := perm.filterMap fun i => xs[i]?
@[reducible] def eCallK (n : Nat) (m : FM) (perm : List Nat) (ms mk : M (List PV)) : M PV := mBind ms fun ps => mBind mk fun qs => mCall n m (pick (ps ++ qs) perm)
theorem RepA.pick {K : PySem.W.Frag} {dl : DAt} {G : Hp} {vs : List V} {ps : List PV} (r : RepA K dl G vs ps) : ∀ perm : List Nat, RepA K dl G (Pu.pick vs perm) (Pu.pick ps perm)
  | [] => .nil
  | i :: is => by
    have ih := RepA.pick r is
    unfold Pu.pick at ih ⊢
    rw [List.filterMap_cons, List.filterMap_cons]
    cases h : ps[i]? with
    | none =>
      have : vs[i]? = none := by
        rw [List.getElem?_eq_none_iff] at h ⊢
        rw [r.length]; exact h
      rw [this]
      exact ih
    | some p =>
      obtain ⟨v, h1, h2⟩ := r.get h
      rw [h1]
      exact .cons h2 ih
def DK (X : Cx) (E : XK) (kws : List Keyword) (m : M (List PV)) : Prop := PK X kws (tG X.K X.mg E (RVs X.K) m)
theorem pk_to {X : Cx} {e : List Keyword} {t u : TA} (h : PK X e t) (i : ∀ σ H Q, u σ H Q → t σ H Q) : PK X e u := ⟨fun pos pins s σ H Q I hu => h.run pos pins s σ H Q I (i σ H Q hu)⟩
theorem dk_nil : DK X E [] eNil := by
  refine pk_to pk_nil ?_
  rintro σ H Q ⟨G, dl, ε, D, h⟩
  obtain ⟨re, q⟩ := donep h
  exact q [] G H re.refl .nil
theorem dk_cons {nm : Option Str} {kpos : Pos} {kws : List Keyword} (h1 : DE X E e ma) (h2 : DK X E kws ms) : DK X E (⟨nm, e, kpos⟩ :: kws) (eCons ma ms) := by
  refine pk_to (pk_cons h1 h2) ?_
  rintro σ H Q ⟨G, dl, ε, D, h⟩
  refine step mono_Vs h ?_
  intro v p G1 H1 D1 re1 P1 r1 h1
  refine step mono_Vs h1 ?_
  intro vs ps G2 H2 D2 re2 P2 r2 h2
  obtain ⟨re, q⟩ := donep h2
  exact q _ G2 H2 re2.refl (.cons (r1.up P2.sg) r2)
/-- how keywords bind -/
def KBi (fd : FuncData) (ps ks : List Str) (a : Nat) (perm : List Nat) : Prop := ∀ us ws : List Value, us.length = a → ws.length = ks.length → bindArgs fd ⟨us, ks.zip ws⟩ = pure (ps.zip (pick (us ++ ws) perm))
theorem vals_pick {vs : List V} {us : List Value} (r : Vals vs us) : ∀ perm : List Nat, Vals (Pu.pick vs perm) (Pu.pick us perm)
  | [] => .nil
  | i :: is => by
    have ih := vals_pick r is
    unfold Pu.pick at ih ⊢
    rw [List.filterMap_cons, List.filterMap_cons]
    cases h : vs[i]? with
    | none => rw [r.none_of h]; exact ih
    | some p =>
      obtain ⟨v, h1, h2⟩ := r.get h
      rw [h1]
      exact .cons h2 ih
def tCallP (sp : Sp) (perm : List Nat) (n j : Nat) (E : XK) (t tk : TA) : TE := fun σ H Q => t σ H fun vs H1 => tk σ H1 fun zs H2 => vs.length = n ∧ zs.length = j ∧ sp (pick (vs ++ zs) perm) H2 Q E
theorem run_fnp {CX : CXT} {k : Nat} {f : Addr} {fd : FuncData} {ps ks : List Str} {sp : Sp} {perm : List Nat} {pins : List (Addr × Obj)} {σ : L2.St} {H : Hp} {s : Shared} {Q : VK} {us ws : List Value} {vs zs : List V} {n : Nat} (F : FnOk X.prog X.w X.K X.mg X.base CX k f fd ps sp) (hr : Room k X.A) (hb : KBi fd ps ks n perm) (hx : Passes CX X E)
    (I : Inv X pins σ H s) (r : Vals vs us) (rz : Vals zs ws) (hn : vs.length = n) (hk : zs.length = ks.length) (h : sp (pick (vs ++ zs) perm) H Q E) : wpAny (model X.prog X.w) X.A (call (.ref f) us (ks.zip ws)) (EP X pins σ Q) X.xe s := by
  have r2 := vals_pick (r.append rz) perm
  refine wpAny_call (codeAny_mono (F.run X.A X.stack s H ⟨us, ks.zip ws⟩ (pick (us ++ ws) perm) (pick (vs ++ zs) perm) Q E hr I.env0 (.of_eq (hb us ws (by rw [← r.length]; exact hn) (by rw [← rz.length]; exact hk))) r2 h) fun r s' hq => ?_)
  cases r with
  | error e => exact hx pins σ H s e s' I hq
  | ok fl =>
    cases fl with
    | ret u => exact I.after hq
    | next => exact False.elim hq
    | brk => exact False.elim hq
    | cont => exact False.elim hq
theorem pe_callP {CX : CXT} {k : Nat} {f : Addr} {fd : FuncData} {ps ks : List Str} {sp : Sp} {perm : List Nat} {x : Str} {p : Pos} {kws : List Keyword} {t tk : TA} {n : Nat} (F : FnOk X.prog X.w X.K X.mg X.base CX k f fd ps sp) (hr : Room k X.A) (hg : Gl X x) (hm : X.mg x = some (.ref f)) (hk : PySem.W.keepIn X.K (.ref f) = true) (hb : KBi fd ps ks n perm) (hx : Passes CX X E)
    (ha : PA X (e :: es) t) (hkw : PK X kws tk) (hall : (backToKw pos (keywordEach kws X.env)).all (·.1.isSome) = true := by rfl) (hks : (backToKw pos (keywordEach kws X.env)).filterMap (·.1) = ks := by rfl)
    (hdb : (x == ("__debug__" : Str)) = false := by decide) (he : starEach (e :: es) X.env = (false, eval e X.env) :: starEach es X.env := by rfl)
    (hpl : ((backTo pos (starEach (e :: es) X.env)).any (·.1) || (backToKw pos (keywordEach kws X.env)).any (·.1.isNone)) = false := by rfl) :
    PE X (.Call (.Name x p) (e :: es) kws pos) (tCallP sp perm n ks.length E t tk) := by
  refine ⟨fun pins s σ H Q I h => ?_⟩
  refine wpAny_Call_Name_kw (ld_glob I hg hm ?_ hdb)
  refine PySem.W.callWith_KW (h₀ := X.base) I.ok.mod.kin hk hall (thn (ha.run pos pins s σ H _ I h) fun us s1 ⟨vs, H1, I1, r, q⟩ => ?_) hpl he
  refine thn (hkw.run pos pins s1 σ H1 _ I1 q) fun ws s2 ⟨zs, H2, I2, rz, l1, l2, q2⟩ => ⟨I2.kIn, ?_⟩
  rw [hks]
  exact run_fnp F hr hb hx I2 r rz l1 l2 q2
theorem pe_callP0 {CX : CXT} {k : Nat} {f : Addr} {fd : FuncData} {ps ks : List Str} {sp : Sp} {perm : List Nat} {x : Str} {p : Pos} {kws : List Keyword} {tk : TA} (F : FnOk X.prog X.w X.K X.mg X.base CX k f fd ps sp) (hr : Room k X.A) (hg : Gl X x) (hm : X.mg x = some (.ref f)) (hk : PySem.W.keepIn X.K (.ref f) = true) (hb : KBi fd ps ks 0 perm) (hx : Passes CX X E)
    (hkw : PK X kws tk) (hall : (backToKw pos (keywordEach kws X.env)).all (·.1.isSome) = true := by rfl) (hks : (backToKw pos (keywordEach kws X.env)).filterMap (·.1) = ks := by rfl)
    (hdb : (x == ("__debug__" : Str)) = false := by decide)
    (hpl : ((backTo pos (starEach [] X.env)).any (·.1) || (backToKw pos (keywordEach kws X.env)).any (·.1.isNone)) = false := by rfl) :
    PE X (.Call (.Name x p) [] kws pos) (tCallP sp perm 0 ks.length E tNil tk) := by
  refine ⟨fun pins s σ H Q I h => ?_⟩
  refine wpAny_Call_Name_kw (ld_glob I hg hm ?_ hdb)
  refine PySem.W.callWith_KW0 (h₀ := X.base) I.ok.mod.kin hk hall ?_ hpl
  refine thn (hkw.run pos pins s σ H _ I h) fun ws s2 ⟨zs, H2, I2, rz, l1, l2, q2⟩ => ⟨I2.kIn, ?_⟩
  rw [hks]
  exact run_fnp (us := []) (vs := []) F hr hb hx I2 .nil rz l1 l2 q2
@[reducible] def eLen (n : Nat) (ms : M (List PV)) : M (List PV) := mBind ms fun ps => mLift (if ps.length = n then some ps else none)
theorem de_callP {n j k : Nat} {m : FM} {perm : List Nat} (h : PE X e (tCallP (spF X.K X.mg n m) perm j k E (tG X.K X.mg E (RVs X.K) ms) (tG X.K X.mg E (RVs X.K) mk))) (hj : ∀ ε D ps D', ms ε D = some (.ok ps, D') → ps.length = j) (hk : ∀ ε D ps D', mk ε D = some (.ok ps, D') → ps.length = k) : DE X E e (eCallK n m perm ms mk) := by
  refine pe_to h ?_
  rintro σ H Q ⟨G, dl, ε, D, h⟩
  obtain ⟨re, r, D', e, hr⟩ := h
  refine ⟨G, dl, ε, D, re, ?_⟩
  unfold eCallK mBind at e
  split at e
  · cases e
  · rename_i x D1 e1
    cases e
    exact ⟨.ex x, _, e1, hr⟩
  · rename_i ps D1 e1
    refine ⟨.ok ps, D1, e1, fun vs G1 H1 P1 r1 => ?_⟩
    refine ⟨G1, dl, ε, D1, re.step P1, ?_⟩
    dsimp only at e
    split at e
    · cases e
    · rename_i x D2 e2
      cases e
      exact ⟨.ex x, _, e2, fun c od G2 H2 P2 rx => hr c od G2 H2 (P1.trans P2) rx⟩
    · rename_i qs D2 e2
      refine ⟨.ok qs, D2, e2, fun zs G2 H2 P2 r2 => ?_⟩
      have hh : RepA X.K dl G2 (vs ++ zs) (ps ++ qs) := (r1.up P2.sg).append r2
      refine ⟨by rw [r1.length]; exact hj _ _ _ _ e1, by rw [r2.length]; exact hk _ _ _ _ e2, ?_⟩
      unfold mCall at e
      by_cases hl : (pick (ps ++ qs) perm).length = n
      · simp only [if_pos hl] at e
        refine ⟨G2, dl, D2, _, r, D', P2.sub, P2.dok, hh.pick perm, hl, e, ?_⟩
        cases r with
        | ok q => exact fun v G3 H3 P3 r3 => hr v G3 H3 ((P1.trans P2).trans P3) r3
        | ex x => exact fun c od G3 H3 P3 r3 => hr c od G3 H3 ((P1.trans P2).trans P3) r3
      · simp only [if_neg hl] at e
        cases e
theorem len_nil {ε : Ev} {D D' : Dl} {ps : List PV} (h : eNil ε D = some (.ok ps, D')) : ps.length = 0 := by cases h; rfl
theorem len_cons {n : Nat} (hm : ∀ ε D ps D', ms ε D = some (.ok ps, D') → ps.length = n) {ε : Ev} {D D' : Dl} {ps : List PV} (h : eCons ma ms ε D = some (.ok ps, D')) : ps.length = n + 1 := by
  unfold eCons mBind at h
  split at h
  · cases h
  · cases h
  · rename_i p D1 e1
    dsimp only at h
    split at h
    · cases h
    · cases h
    · rename_i qs D2 e2
      cases h
      rw [List.length_cons, hm _ _ _ _ e2]

/-! ### targets -/
abbrev Asg := List (Nat × PV)
def setE (ε : Ev) : Asg → Ev
  | [] => ε
  | (i, p) :: r => setE (ε.set i (some p)) r
def setV (σ : L2.St) : List (Nat × V) → L2.St
  | [] => σ
  | (i, v) :: r => setV (σ.set i (some v)) r
theorem setE_len (ε : Ev) : ∀ as : Asg, (setE ε as).length = ε.length
  | [] => rfl
  | (i, p) :: r => by unfold setE; rw [setE_len _ r, List.length_set]
theorem setV_len (σ : L2.St) : ∀ as : List (Nat × V), (setV σ as).length = σ.length
  | [] => rfl
  | (i, p) :: r => by unfold setV; rw [setV_len _ r, List.length_set]
theorem setV_append (σ : L2.St) : ∀ as bs : List (Nat × V), setV σ (as ++ bs) = setV (setV σ as) bs
  | [], _ => rfl
  | (i, p) :: r, bs => by show setV _ (r ++ bs) = _; rw [setV_append _ r bs]; rfl
theorem setV_off {σ : L2.St} {j : Nat} : ∀ {as : List (Nat × V)}, j ∉ as.map (·.1) → (setV σ as)[j]? = σ[j]?
  | [], _ => rfl
  | (i, p) :: r, h => by
    unfold setV
    rw [setV_off fun z => h (List.mem_cons_of_mem _ z), List.getElem?_set_ne fun z => h (by simp [z])]
theorem RE.setV {K : PySem.W.Frag} {G H : Hp} {dl : DAt} {D : Dl} : ∀ {as : Asg} {avs : List (Nat × V)} {ε : Ev} {σ : L2.St}, RE K G dl ε D σ H → avs.map (·.1) = as.map (·.1) → RepA K dl G (avs.map (·.2)) (as.map (·.2)) → RE K G dl (setE ε as) D (Pu.setV σ avs) H
  | [], avs, ε, σ, re, e, _ => by
    cases avs with
    | nil => exact re
    | cons _ _ => cases e
  | (i, p) :: r, avs, ε, σ, re, e, ra => by
    cases avs with
    | nil => cases e
    | cons q s =>
      obtain ⟨j, v⟩ := q
      rw [List.map_cons, List.map_cons] at e
      injection e with e1 e2
      have e1' : j = i := e1
      subst e1'
      cases ra with
      | cons r1 r2 =>
        refine RE.setV (as := r) (avs := s) ⟨re.sub, by rw [List.length_set, List.length_set]; exact re.len, fun k q hk => ?_, re.dok⟩ e2 r2
        by_cases z : k = j
        · subst z
          have hlt : k < ε.length := by
            have := List.getElem?_eq_some_iff.mp hk
            obtain ⟨h, _⟩ := this
            simpa using h
          rw [List.getElem?_set_self hlt] at hk
          cases hk
          exact ⟨v, by rw [List.getElem?_set_self (by rw [← re.len]; exact hlt)], r1⟩
        · rw [List.getElem?_set_ne (Ne.symm z)] at hk ⊢
          exact re.sl k q hk
/-- a target: which slots get what -/
def tgG (K : PySem.W.Frag) (gp : PV → Option Asg) : TG := fun v σ H Q => ∃ G dl D p as, Sub G H ∧ DlOk G H dl D ∧ Rep K dl G v p ∧ gp p = some as ∧ ∀ avs : List (Nat × V), avs.map (·.1) = as.map (·.1) → RepA K dl G (avs.map (·.2)) (as.map (·.2)) → Q (setV σ avs) H
def tgGs (K : PySem.W.Frag) (gp : List PV → Option Asg) : TGs := fun vs σ H Q => ∃ G dl D ps as, Sub G H ∧ DlOk G H dl D ∧ RepA K dl G vs ps ∧ gp ps = some as ∧ ∀ avs : List (Nat × V), avs.map (·.1) = as.map (·.1) → RepA K dl G (avs.map (·.2)) (as.map (·.2)) → Q (setV σ avs) H
def DG (X : Cx) (tg : Expr) (gp : PV → Option Asg) : Prop := PG X tg (tgG X.K gp)
def DGs (X : Cx) (tgs : List Expr) (gp : List PV → Option Asg) : Prop := PGs X tgs (tgGs X.K gp)
theorem pg_to {tg : Expr} {t u : TG} (h : PG X tg t) (i : ∀ v σ H Q, u v σ H Q → t v σ H Q) : PG X tg u := ⟨fun pins s σ H v uu Q I r hu => h.run pins s σ H v uu Q I r (i v σ H Q hu)⟩
theorem pgs_to {tg : List Expr} {t u : TGs} (h : PGs X tg t) (i : ∀ v σ H Q, u v σ H Q → t v σ H Q) : PGs X tg u := ⟨fun pins s σ H v uu Q I r hu => h.run pins s σ H v uu Q I r (i v σ H Q hu)⟩
@[reducible] def gpN (i : Nat) : PV → Option Asg := fun p => some [(i, p)]
def gpT (g : List PV → Option Asg) : PV → Option Asg
  | .tup ps => g ps
  | .lst ps => g ps
  | _ => none
@[reducible] def gpNil : List PV → Option Asg
  | [] => some []
  | _ => none
@[reducible] def gpCons (g : PV → Option Asg) (gs : List PV → Option Asg) : List PV → Option Asg
  | p :: ps => match g p, gs ps with
    | some a, some b => some (a ++ b)
    | _, _ => none
  | [] => none
theorem dg_name {i : Nat} (h : PG X a (gName i)) : DG X a (gpN i) := pg_to h fun v σ H Q ⟨G, dl, D, p, as, s, d, r, e, q⟩ => by
  cases e
  exact q [(i, v)] rfl (.one r)
theorem dgs_nil : DGs X [] gpNil := pgs_to pgs_nil fun vs σ H Q ⟨G, dl, D, ps, as, s, d, r, e, q⟩ => by
  cases ps with
  | nil => cases e; cases r; exact ⟨rfl, q [] rfl .nil⟩
  | cons _ _ => cases e
theorem split_map {α : Type} : ∀ {as bs : Asg} {cs : List (Nat × α)}, cs.map (·.1) = (as ++ bs).map (·.1) → ∃ c1 c2, cs = c1 ++ c2 ∧ c1.map (·.1) = as.map (·.1) ∧ c2.map (·.1) = bs.map (·.1)
  | [], bs, cs, h => ⟨[], cs, rfl, rfl, h⟩
  | a :: as, bs, cs, h => by
    cases cs with
    | nil => cases h
    | cons c cs =>
      rw [List.cons_append, List.map_cons, List.map_cons] at h
      injection h with h1 h2
      obtain ⟨c1, c2, rfl, e1, e2⟩ := split_map h2
      exact ⟨c :: c1, c2, rfl, by rw [List.map_cons, List.map_cons, h1, e1], e2⟩
theorem dgs_cons {tgs : List Expr} {g : PV → Option Asg} {gs : List PV → Option Asg} (h1 : DG X a g) (h2 : DGs X tgs gs) (hs : (assignEach (a :: tgs) X.env).map (·.2) = assign a X.env :: (assignEach tgs X.env).map (·.2) := by rfl) : DGs X (a :: tgs) (gpCons g gs) := by
  refine pgs_to (pgs_cons h1 h2 hs) ?_
  rintro vs σ H Q ⟨G, dl, D, ps, as, s, d, r, e, q⟩
  cases ps with
  | nil => cases e
  | cons p ps =>
    cases r with
    | cons r1 r2 =>
      change (match g p, gs ps with | some a, some b => some (a ++ b) | _, _ => none) = some as at e
      split at e
      · rename_i a1 b1 e1 e2
        cases e
        refine ⟨_, _, rfl, G, dl, D, p, a1, s, d, r1, e1, fun avs f1 f2 => ⟨G, dl, D, ps, b1, s, d, r2, e2, fun bvs g1 g2 => ?_⟩⟩
        rw [← setV_append]
        exact q _ (by rw [List.map_append, List.map_append, f1, g1]) (by rw [List.map_append, List.map_append]; exact f2.append g2)
      · cases e
theorem pg_or {t u : TG} {tg : Expr} (h : PG X tg t) (k : PG X tg u) : PG X tg (fun v σ H Q => t v σ H Q ∨ u v σ H Q) := ⟨fun pins s σ H v uu Q I r hu => hu.elim (h.run pins s σ H v uu Q I r) (k.run pins s σ H v uu Q I r)⟩
theorem dg_tup {tgs : List Expr} {k n : Nat} {gs : List PV → Option Asg} (hc : X.calm = true) (h : DGs X tgs gs) (hl : ∀ ps as, gs ps = some as → ps.length = n) (hn : (assignEach tgs X.env).length = n := by rfl) (hst : (assignEach tgs X.env).findIdx? (·.1) = none := by rfl) : DG X (.Tuple tgs k pos) (gpT gs) := by
  refine pg_to (pg_or (pg_tup hc h hn hst) (pg_unl hc h hn hst)) ?_
  rintro v σ H Q ⟨G, dl, D, p, as, s, d, r, e, q⟩
  cases p <;> simp only [gpT] at e <;> try cases e
  · cases r with
    | tup a1 b1 => exact .inl ⟨_, _, rfl, a1.sq s, by rw [b1.length]; exact hl _ _ e, G, dl, D, _, as, s, d, b1, e, q⟩
  · cases r with
    | lst a1 b1 => exact .inr ⟨_, _, rfl, .inl (.inl (s _ _ a1)), by rw [b1.length]; exact hl _ _ e, G, dl, D, _, as, s, d, b1, e, q⟩
theorem gpLen_nil {ps : List PV} {as : Asg} (h : gpNil ps = some as) : ps.length = 0 := by
  cases ps with
  | nil => rfl
  | cons _ _ => cases h
theorem gpLen_cons {n : Nat} {g : PV → Option Asg} {gs : List PV → Option Asg} (h : ∀ ps as, gs ps = some as → ps.length = n) : ∀ (ps : List PV) (as : Asg), gpCons g gs ps = some as → ps.length = n + 1 := fun ps as e => by
  cases ps with
  | nil => cases e
  | cons p ps =>
    change (match g p, gs ps with | some a, some b => some (a ++ b) | _, _ => none) = some as at e
    split at e
    · rename_i a1 b1 e1 e2
      rw [List.length_cons, h _ _ e2]
    · cases e

/-! ### what is walked -/
structure Wk (K : PySem.W.Frag) (dl : DAt) (J : It) (G : Hp) (ps : List PV) : Prop where
  go : ∀ {i : Nat} {H : Hp}, Sub G H → i < ps.length → J.go i H
  yld : ∀ {i : Nat} {H H' G1 : Hp} {x : V} {p : PV} {D : Dl}, Sub G G1 → Sub G1 H → DlOk G1 H dl D → J.yld i H x H' → ps[i]? = some p → ∃ G2, Post G1 dl D H G2 H' ∧ Rep K dl G2 x p
  stop : ∀ {i : Nat} {H : Hp}, Sub G H → ps.length ≤ i → J.stop i H
abbrev RW (K : PySem.W.Frag) : RR It (List PV) := fun dl _ G' _ J ps => Wk K dl J G' ps
theorem mono_W {K : PySem.W.Frag} : RMono (RW K) := ⟨fun _ h => h⟩
def DI (X : Cx) (E : XK) (tg e : Expr) (m : M (List PV)) : Prop := PI X tg e (tG X.K X.mg E (RW X.K) m)
def pvItems : PV → Option (List PV)
  | .tup xs => some xs
  | .lst xs => some xs
  | _ => none
@[reducible] def iSeq (m : M PV) : M (List PV) := mBind m fun p => mLift (pvItems p)
theorem walk_lst {K : PySem.W.Frag} {dl : DAt} {G : Hp} {a : Addr} {vs : List V} {ps : List PV} (h : G a = some (.lst vs)) (r : RepA K dl G vs ps) : Wk K dl (Itl K a) G ps where
  go := fun {i H} s hi => ⟨vs, vs[i]'(by rw [r.length]; exact hi), .inl (.inl (s _ _ h)), List.getElem?_eq_getElem _⟩
  yld := fun {i H H' G1 x p D} s1 s2 d y e => by
    obtain ⟨rfl, y⟩ := y
    obtain ⟨v, h1, h2⟩ := r.get e
    have := y vs (.inl (.inl (s2 _ _ (s1 _ _ h))))
    rw [h1] at this
    cases this
    exact ⟨G1, .refl s2 d, h2.up s1⟩
  stop := fun {i H} s hi => ⟨vs, .inl (.inl (s _ _ h)), by rw [r.length]; exact hi⟩
theorem walk_tup {K : PySem.W.Frag} {dl : DAt} {G : Hp} {a : Addr} {vs : List V} {ps : List PV} (h : TupAt K G a vs) (r : RepA K dl G vs ps) : Wk K dl (Itt K a) G ps where
  go := fun {i H} s hi => ⟨vs, vs[i]'(by rw [r.length]; exact hi), h.sq s, List.getElem?_eq_getElem _⟩
  yld := fun {i H H' G1 x p D} s1 s2 d y e => by
    obtain ⟨rfl, y⟩ := y
    obtain ⟨v, h1, h2⟩ := r.get e
    have := y vs (h.sq (s1.trans s2))
    rw [h1] at this
    cases this
    exact ⟨G1, .refl s2 d, h2.up s1⟩
  stop := fun {i H} s hi => ⟨vs, h.sq s, by rw [r.length]; exact hi⟩
theorem di_seq {tg : Expr} (h : DE X E e ma) : DI X E tg e (iSeq ma) := by
  refine pi_to (pi_or (pi_list h) (pi_tup h)) ?_
  rintro σ H Q ⟨G, dl, ε, D, h⟩
  -- which one it is, is known ahead
  by_cases key : ∃ D1 ps, ma ε D = some (.ok (.lst ps), D1)
  · obtain ⟨D1', qs, key⟩ := key
    refine .inl (step' mono_W h ?_)
    intro v p G1 H1 D1 e0 re1 P1 r1 h1
    rw [key] at e0
    cases e0
    obtain ⟨z, e1, re', k⟩ := done h1
    cases e1
    cases r1 with
    | lst a1 b1 => exact ⟨_, rfl, ⟨_, .inl (.inl (re'.sub _ _ a1))⟩, k _ G1 H1 re'.refl (walk_lst a1 b1)⟩
  · refine .inr (step' mono_W h ?_)
    intro v p G1 H1 D1 e0 re1 P1 r1 h1
    obtain ⟨z, e1, re', k⟩ := done h1
    cases p <;> simp only [pvItems] at e1 <;> try cases e1
    · cases r1 with
      | tup a1 b1 => exact ⟨_, rfl, ⟨_, a1.sq re'.sub⟩, k _ G1 H1 re'.refl (walk_tup a1 b1)⟩
    · exact (key ⟨_, _, e0⟩).elim
/-- range -/
def rngP (lo : Int) : Nat → List PV
  | 0 => []
  | n + 1 => .int lo :: rngP (lo + 1) n
theorem rngP_len : ∀ (n : Nat) (lo : Int), (rngP lo n).length = n
  | 0, _ => rfl
  | n + 1, lo => by simp [rngP, rngP_len n]
theorem rngP_get : ∀ (n : Nat) (lo : Int) (i : Nat), i < n → (rngP lo n)[i]? = some (.int (lo + i))
  | n + 1, lo, 0, _ => by simp [rngP]
  | n + 1, lo, i + 1, h => by
    have := rngP_get n (lo + 1) i (by omega)
    simp only [rngP, List.getElem?_cons_succ, this]
    congr 2
    omega
theorem walk_rng {K : PySem.W.Frag} {dl : DAt} {G : Hp} {lo : Int} {n : Nat} : Wk K dl (Itr lo n) G (rngP lo n) where
  go := fun {i H} s hi => by rw [rngP_len] at hi; exact hi
  yld := fun {i H H' G1 x p D} s1 s2 d y e => by
    obtain ⟨rfl, rfl⟩ := y
    have hi : i < n := by
      have := (List.getElem?_eq_some_iff.mp e).1
      rw [rngP_len] at this; exact this
    rw [rngP_get n lo i hi] at e
    cases e
    exact ⟨G1, .refl s2 d, .int _⟩
  stop := fun {i H} s hi => by rw [rngP_len] at hi; exact hi
def pvRng1 : List PV → Option (List PV)
  | [.int n] => if -1000000 ≤ n ∧ n ≤ 1000000 then some (rngP 0 n.toNat) else none
  | _ => none
def pvRng2 : List PV → Option (List PV)
  | [.int i, .int j] => if -1000000 ≤ i ∧ i ≤ 1000000 ∧ -1000000 ≤ j ∧ j ≤ 1000000 then some (rngP i (j - i).toNat) else none
  | _ => none
@[reducible] def iFn (f : List PV → Option (List PV)) (ms : M (List PV)) : M (List PV) := mBind ms fun ps => mLift (f ps)
theorem di_range1 {tg : Expr} (h : PI X tg e (iRng1 (tG X.K X.mg E (RVs X.K) ms))) : DI X E tg e (iFn pvRng1 ms) := by
  refine pi_to h ?_
  rintro σ H Q ⟨G, dl, ε, D, h⟩
  refine step mono_W h ?_
  intro v p G1 H1 D1 re1 P1 r1 h1
  obtain ⟨z, e1, re', k⟩ := done h1
  unfold pvRng1 at e1
  split at e1
  · obtain ⟨v, rfl, r2⟩ := repA1 r1
    cases r2
    obtain ⟨h2, rfl⟩ := guard_of e1
    exact ⟨_, rfl, by omega, by omega, k _ G1 H1 re'.refl walk_rng⟩
  · cases e1
theorem di_range2 {tg : Expr} (h : PI X tg e (iRng2 (tG X.K X.mg E (RVs X.K) ms))) : DI X E tg e (iFn pvRng2 ms) := by
  refine pi_to h ?_
  rintro σ H Q ⟨G, dl, ε, D, h⟩
  refine step mono_W h ?_
  intro v p G1 H1 D1 re1 P1 r1 h1
  obtain ⟨z, e1, re', k⟩ := done h1
  unfold pvRng2 at e1
  split at e1
  · obtain ⟨v, w, rfl, r2, r3⟩ := repA2 r1
    cases r2; cases r3
    obtain ⟨h2, rfl⟩ := guard_of e1
    exact ⟨_, _, rfl, ⟨by omega, by omega, by omega, by omega⟩, k _ G1 H1 re'.refl walk_rng⟩
  · cases e1

/-! ### [elt for tg in iter if ..] -/
def wipeE (ε : Ev) : List Nat → Ev
  | [] => ε
  | v :: vs => (wipeE ε vs).set v none
def lcGo (own : List Nat) (gp : PV → Option Asg) (mt : M Bool) (me : M PV) : List PV → List PV → M (List PV)
  | [], acc => mPure acc
  | p :: ps, acc => fun ε D => match gp p with
    | none => none
    | some as => match mt (setE (wipeE ε own) as) D with
      | some (.ok true, D1) => match me (setE (wipeE ε own) as) D1 with
        | some (.ok q, D2) => if acc.length < 1000000 then lcGo own gp mt me ps (acc ++ [q]) ε D2 else none
        | _ => none
      | some (.ok false, D1) => lcGo own gp mt me ps acc ε D1
      | _ => none
@[reducible] def eLc (own : List Nat) (mi : M (List PV)) (gp : PV → Option Asg) (mt : M Bool) (me : M PV) : M (List PV) := mBind mi fun ps => lcGo own gp mt me ps []
theorem wipe_len (σ : L2.St) : ∀ vs : List Nat, (wipe σ vs).length = σ.length := wipe_length σ
theorem wipeE_len (ε : Ev) : ∀ vs : List Nat, (wipeE ε vs).length = ε.length
  | [] => rfl
  | v :: vs => by unfold wipeE; rw [List.length_set, wipeE_len ε vs]
theorem RE.wipe {K : PySem.W.Frag} {G H : Hp} {dl : DAt} {D : Dl} {ε : Ev} {σ : L2.St} (re : RE K G dl ε D σ H) (own : List Nat) : RE K G dl (wipeE ε own) D (L2.wipe σ own) H := by
  refine ⟨re.sub, by rw [wipeE_len, wipe_length]; exact re.len, ?_, re.dok⟩
  induction own with
  | nil => exact re.sl
  | cons v vs ih =>
    intro i p h
    unfold wipeE at h
    unfold L2.wipe
    by_cases z : i = v
    · subst z
      by_cases hl : i < (wipeE ε vs).length
      · rw [List.getElem?_set_self hl] at h; cases h
      · rw [List.getElem?_eq_none (by rw [List.length_set]; omega)] at h; cases h
    · rw [List.getElem?_set_ne (Ne.symm z)] at h ⊢
      exact ih i p h
theorem wipe_get_off {σ : L2.St} {j : Nat} : ∀ {vs : List Nat}, j ∉ vs → (wipe σ vs)[j]? = σ[j]?
  | [], _ => rfl
  | v :: vs, h => by
    unfold L2.wipe
    rw [List.getElem?_set_ne fun z => h (by simp [z]), wipe_get_off fun z => h (List.mem_cons_of_mem _ z)]
theorem wipe_get_on {σ : L2.St} {j : Nat} : ∀ {vs : List Nat}, j ∈ vs → j < σ.length → (wipe σ vs)[j]? = some none
  | v :: vs, h, hl => by
    unfold L2.wipe
    by_cases z : j = v
    · subst z
      rw [List.getElem?_set_self (by rw [wipe_length]; exact hl)]
    · rw [List.getElem?_set_ne (Ne.symm z)]
      exact wipe_get_on (by simpa [z] using h) hl
theorem wipe_setV {σ : L2.St} {own : List Nat} {avs : List (Nat × V)} (h : ∀ i ∈ avs.map (·.1), i ∈ own) : wipe (setV (wipe σ own) avs) own = wipe σ own := by
  apply List.ext_getElem?
  intro j
  by_cases hj : j ∈ own
  · by_cases hl : j < σ.length
    · rw [wipe_get_on hj (by rw [setV_len, wipe_length]; exact hl), wipe_get_on hj hl]
    · rw [List.getElem?_eq_none (by rw [wipe_length, setV_len, wipe_length]; omega), List.getElem?_eq_none (by rw [wipe_length]; omega)]
  · rw [wipe_get_off hj, setV_off fun z => hj (h j z), wipe_get_off hj]
theorem Post.setOwn {G H G1 H1 : Hp} {dl : DAt} {D : Dl} {L : Addr} {o : HO} (p : Post G dl D H G1 H1) (h0 : H L = none) (g : G1 L = none) (n : ¬ dlAt dl L) : Post G dl D H G1 (upd H1 L o) := by
  refine ⟨p.sg, fun a u e => ?_, p.fr, fun a u e x => ?_, ?_⟩
  · rw [upd_ne fun z => by subst z; rw [g] at e; cases e]; exact p.sub a u e
  · rw [upd_ne fun z => by subst z; rw [h0] at e; cases e]; exact p.keep a u e x
  · have d := p.dok
    cases dl with
    | none => cases D with
      | none => trivial
      | some _ => exact d.elim
    | some q =>
      obtain ⟨a, l⟩ := q
      cases D with
      | none => exact d.elim
      | some d' =>
        obtain ⟨h1, h2, h3, h4, h5⟩ := d
        exact ⟨h1, h2, h3, by rw [upd_ne fun z => n ⟨_, rfl, .inl z.symm⟩]; exact h4, by rw [upd_ne fun z => n ⟨_, rfl, .inr z.symm⟩]; exact h5⟩
def DTs (X : Cx) (E : XK) (es : List Expr) (m : M Bool) : Prop := PTs X es (tG X.K X.mg E RB m)
theorem pts_to {e : List Expr} {t u : TT} (h : PTs X e t) (i : ∀ σ H Q, u σ H Q → t σ H Q) : PTs X e u := ⟨fun pins s σ H Q I hu => h.run pins s σ H Q I (i σ H Q hu)⟩
@[reducible] def tYesM : M Bool := mPure true
theorem dts_nil : DTs X E [] tYesM := by
  refine pts_to pts_nil ?_
  rintro σ H Q ⟨G, dl, ε, D, h⟩
  obtain ⟨re, q⟩ := donep h
  exact q true G H re.refl rfl
theorem dts_one (h : DT X E e mt) : DTs X E [e] mt := pts_one h
theorem lc_imp {K : PySem.W.Frag} {mg : Mg} {own : List Nat} {mi : M (List PV)} {gp : PV → Option Asg} {me : M PV} (ha : ∀ p as, gp p = some as → ∀ i ∈ as.map (·.1), i ∈ own) : ∀ σ H Q, tG K mg E (RL K) (eLc own mi gp mt me) σ H Q → tLc (tG K mg E (RW K) mi) (tgG K gp) (tG K mg E0 RB mt) (tG K mg E0 (RV K) me) own σ H Q := by
  rintro σ H Q ⟨G, dl, ε, D, h⟩
  refine step mono_L h ?_
  intro J ps G1 H1 D1 re1 P1 wk h1
  intro L hL
  obtain ⟨_, r, D', e, hr⟩ := h1
  have oL := re1.dok.off hL
  refine ⟨fun i m H => m = ps.length - i ∧ i ≤ ps.length ∧ ∃ G2 D2 acc vs, Post G1 dl D2 H1 G2 H ∧ G2 L = none ∧ H L = some (.lst vs) ∧ RepA K dl G2 vs acc ∧ lcGo own gp mt me (ps.drop i) acc ε D2 = some (r, D'),
    ⟨ps.length, by simp, Nat.zero_le _, G1, D1, [], [], .newOwn re1.sub re1.dok hL, re1.sub.free hL, upd_same, .nil, by simpa using e⟩, ?_⟩
  rintro i m H2 ⟨rfl, hi, G2, D2, acc, vs, P2, gL, eL, ra, ego⟩
  by_cases hlt : i < ps.length
  · -- one more
    refine .inr ⟨wk.go (P2.sg.trans P2.sub) hlt, fun H' => ∃ G3 D3 acc vs, Post G1 dl D3 H1 G3 H' ∧ G3 L = none ∧ H' L = some (.lst vs) ∧ RepA K dl G3 vs acc ∧ lcGo own gp mt me (ps.drop (i + 1)) acc ε D3 = some (r, D'), fun H' hN => ?_, fun x H3 hy => ?_⟩
    · obtain ⟨G3, D3, acc3, vs3, a1, a2, a3, a4, a5⟩ := hN
      exact ⟨ps.length - (i + 1), by omega, rfl, hlt, G3, D3, acc3, vs3, a1, a2, a3, a4, a5⟩
    · have eg : ps[i]? = some ps[i] := List.getElem?_eq_getElem hlt
      obtain ⟨G3, P3, rx⟩ := wk.yld P2.sg P2.sub P2.dok hy eg
      have ed : ps.drop i = ps[i] :: ps.drop (i + 1) := List.drop_eq_getElem_cons hlt
      rw [ed] at ego
      simp only [lcGo] at ego
      split at ego
      · cases ego
      · rename_i as eas
        have P13 := P2.trans P3
        have re3 : RE K G3 dl ε D2 σ H3 := re1.step P13
        have nL : H2 L ≠ none := by rw [eL]; simp
        have e3 : H3 L = some (.lst vs) := P3.keep _ _ eL oL
        have g3 : G3 L = none := (P3.fr L nL).trans gL
        refine ⟨G3, dl, D2, _, as, P3.sub, P3.dok, rx, eas, fun avs f1 f2 => ⟨wipe_setV fun j hj => ha _ _ eas j (by rw [← f1]; exact hj), ?_⟩⟩
        have re4 : RE K G3 dl (setE (wipeE ε own) as) D2 (setV (wipe σ own) avs) H3 := (re3.wipe _).setV f1 f2
        split at ego
        · rename_i D4 e4
          refine ⟨G3, dl, _, D2, re4, .ok true, D4, e4, fun b G4 H4 P4 rb => ?_⟩
          cases (rb : b = true)
          rw [if_pos rfl]
          split at ego
          · rename_i q D5 e5
            refine ⟨G4, dl, _, D4, re4.step P4, .ok q, D5, e5, fun y G5 H5 P5 ry => ?_⟩
            obtain ⟨hz, ego⟩ := ifs_of ego
            have n3 : H3 L ≠ none := by rw [e3]; simp
            have e4' : H4 L = some (.lst vs) := P4.keep _ _ e3 oL
            have n4 : H4 L ≠ none := by rw [e4']; simp
            have e5' : H5 L = some (.lst vs) := P5.keep _ _ e4' oL
            have g4 : G4 L = none := (P4.fr L n3).trans g3
            have g5 : G5 L = none := (P5.fr L n4).trans g4
            refine ⟨vs, e5', ?_, G5, D5, acc ++ [q], vs ++ [y], ((P13.trans P4).trans P5).setOwn hL g5 oL, g5, upd_same, (ra.up ((P3.sg.trans P4.sg).trans P5.sg)).append (.one ry), ego⟩
            rw [ra.length]
            exact Nat.lt_of_lt_of_le hz (by decide)
          · cases ego
        · rename_i D4 e4
          refine ⟨G3, dl, _, D2, re4, .ok false, D4, e4, fun b G4 H4 P4 rb => ?_⟩
          cases (rb : b = false)
          rw [if_neg Bool.false_ne_true]
          have n3 : H3 L ≠ none := by rw [e3]; simp
          exact ⟨G4, D4, acc, vs, P13.trans P4, (P4.fr L n3).trans g3, P4.keep _ _ e3 oL, ra.up (P3.sg.trans P4.sg), ego⟩
        · cases ego
  · refine .inl ⟨wk.stop (P2.sg.trans P2.sub) (by omega), ?_⟩
    have ed : ps.drop i = [] := List.drop_eq_nil_iff.mpr (by omega)
    rw [ed] at ego
    cases ego
    refine hr _ G2 H2 P2 ⟨L, vs, rfl, ?_, gL, oL, eL, ra⟩
    exact hL
theorem dl_lc {elt tg iter : Expr} {ifs : List Expr} {scope : Scope} {own : List (Str × Nat)} {mi : M (List PV)} {gp : PV → Option Asg} {me : M PV} (hc : X.calm = true) (hN : X.N.Nodup) (hi : DI X E tg iter mi) (ok : BlkOk X.N X.env.scope scope own)
    (hg : ∀ (s : Shared) (H : Hp) (C : Addr) (cl : List (Str × Addr)) (fp : List Addr), DG (X.blk s H scope (compEnvC scope cl C X.env) fp) tg gp) (ht : ∀ (s : Shared) (H : Hp) (C : Addr) (cl : List (Str × Addr)) (fp : List Addr), DTs (X.blk s H scope (compEnvC scope cl C X.env) fp) E0 ifs mt)
    (he : ∀ (s : Shared) (H : Hp) (C : Addr) (cl : List (Str × Addr)) (fp : List Addr), DE (X.blk s H scope (compEnvC scope cl C X.env) fp) E0 elt me) (ha : ∀ p as, gp p = some as → ∀ i ∈ as.map (·.1), i ∈ own.map (·.2)) (hs : ∀ x, foldedSetIterable iter X.env x = pure x := by intro _; rfl) :
    DL X E (.ListComp elt [⟨tg, iter, ifs, 0⟩] scope pos) (eLc (own.map (·.2)) mi gp mt me) :=
  pe_to (pe_lc (wi := tG X.K X.mg E (RW X.K) mi) (g := tgG X.K gp) (tt := tG X.K X.mg E0 RB mt) (te := tG X.K X.mg E0 (RV X.K) me) hc hN hi ok hg ht he hs) (lc_imp ha)
/-- name = [..], the name a local -/
theorem ps_lcs {i : Nat} {y : Str} {py spos : Pos} {elt tg iter : Expr} {ifs : List Expr} {scope : Scope} {own : List (Str × Nat)} {mi : M (List PV)} {gp : PV → Option Asg} {me : M PV} (hc : X.calm = true) (hN : X.N.Nodup) (hy : X.N[i]? = some y) (hyl : X.env.scope.names.lookup y = some .local)
    (hsw : swapsWith (.ListComp elt [⟨tg, iter, ifs, 0⟩] scope pos) (some (.Name y py)) spos.line X.env = pure true) (hi : DI X E tg iter mi) (ok : BlkOk X.N X.env.scope scope own)
    (hg : ∀ (s : Shared) (H : Hp) (C : Addr) (cl : List (Str × Addr)) (fp : List Addr), DG (X.blk s H scope (compEnvC scope cl C X.env) fp) tg gp) (ht : ∀ (s : Shared) (H : Hp) (C : Addr) (cl : List (Str × Addr)) (fp : List Addr), DTs (X.blk s H scope (compEnvC scope cl C X.env) fp) E0 ifs mt)
    (he : ∀ (s : Shared) (H : Hp) (C : Addr) (cl : List (Str × Addr)) (fp : List Addr), DE (X.blk s H scope (compEnvC scope cl C X.env) fp) E0 elt me) (ha : ∀ p as, gp p = some as → ∀ i ∈ as.map (·.1), i ∈ own.map (·.2)) (hs : ∀ x, foldedSetIterable iter X.env x = pure x := by intro _; rfl) :
    PS X (.Assign [.Name y py] (.ListComp elt [⟨tg, iter, ifs, 0⟩] scope pos) spos) (tAsg (tG X.K X.mg E (RL X.K) (eLc (own.map (·.2)) mi gp mt me)) (gName i)) :=
  ps_to (ps_setLc (wi := tG X.K X.mg E (RW X.K) mi) (g := tgG X.K gp) (tt := tG X.K X.mg E0 RB mt) (te := tG X.K X.mg E0 (RV X.K) me) hc hN hy hyl hsw hi ok hg ht he hs) fun D σ H h => lc_imp ha _ _ _ h
end
end Pu
set_option Elab.async false
set_option linter.all false
set_option maxRecDepth 100000
set_option maxHeartbeats 4000000
namespace Pu
open PySem PySem.Spec PyProof.Rows L2

/-! ### slots: a value, or a list of the def's own that may be changed -/
inductive Slot where
  | un | val (p : PV) | own (ps : List PV)
abbrev Sv := List Slot
def Slot.hid : Slot → Option PV
  | .val p => some p
  | _ => none
def Slot.shw : Slot → Option PV
  | .val p => some p
  | .own ps => some (.lst ps)
  | .un => none
def hide (ε : Sv) : Ev := ε.map Slot.hid
def shw (ε : Sv) : Ev := ε.map Slot.shw
structure RG (K : PySem.W.Frag) (Hb Gb : Hp) (dl : DAt) (G : Hp) (ε : Sv) (D : Dl) (σ : L2.St) (H : Hp) : Prop where
  len : ε.length = σ.length
  post : Post Gb dl D Hb G H
  val : ∀ (i : Nat) (p : PV), ε[i]? = some (.val p) → ∃ v, σ[i]? = some (some v) ∧ Rep K dl G v p
  own : ∀ (i : Nat) (ps : List PV), ε[i]? = some (.own ps) → ∃ a vs, σ[i]? = some (some (.ref a)) ∧ Hb a = none ∧ G a = none ∧ ¬ dlAt dl a ∧ H a = some (.lst vs) ∧ RepA K dl G vs ps
  dis : ∀ (i j : Nat) (a : Addr) (ps qs : List PV), ε[i]? = some (.own ps) → ε[j]? = some (.own qs) → σ[i]? = some (some (.ref a)) → σ[j]? = some (some (.ref a)) → i = j
/-- F: what is frozen for sure -/
def RS (K : PySem.W.Frag) (Hb Gb F : Hp) (dl : DAt) (ε : Sv) (D : Dl) (σ : L2.St) (H : Hp) : Prop := ∃ G, RG K Hb Gb dl G ε D σ H ∧ Sub F G
section
variable {K : PySem.W.Frag} {Hb Gb G H G1 H1 : Hp} {dl : DAt} {ε : Sv} {D D1 : Dl} {σ : L2.St}
theorem RG.hide (r : RG K Hb Gb dl G ε D σ H) : RE K G dl (Pu.hide ε) D σ H :=
  ⟨r.post.sub, by unfold Pu.hide; rw [List.length_map]; exact r.len, fun i p h => by
    unfold Pu.hide at h
    rw [List.getElem?_map, Option.map_eq_some_iff] at h
    obtain ⟨s, h1, h2⟩ := h
    cases s <;> simp [Slot.hid] at h2
    subst h2
    exact r.val i _ h1, r.post.dok⟩
theorem RG.sub (r : RG K Hb Gb dl G ε D σ H) : Sub G H := r.post.sub
theorem RG.step (r : RG K Hb Gb dl G ε D σ H) (p : Post G dl D1 H G1 H1) : RG K Hb Gb dl G1 ε D1 σ H1 :=
  ⟨r.len, r.post.trans p, fun i q h => let ⟨v, a, b⟩ := r.val i q h; ⟨v, a, b.up p.sg⟩, fun i ps h => by
    obtain ⟨a, vs, h1, h2, h3, h4, h5, h6⟩ := r.own i ps h
    exact ⟨a, vs, h1, h2, (p.fr a (by rw [h5]; simp)).trans h3, h4, p.keep a _ h5 h4, h6.up p.sg⟩, r.dis⟩
theorem RG.setVal (r : RG K Hb Gb dl G ε D σ H) {i : Nat} {v : V} {p : PV} (h : Rep K dl G v p) : RG K Hb Gb dl G (ε.set i (.val p)) D (σ.set i (some v)) H := by
  have hl := r.len
  refine ⟨by rw [List.length_set, List.length_set]; exact hl, r.post, fun j q hj => ?_, fun j ps hj => ?_, fun j k a ps qs hj hk h1 h2 => ?_⟩
  · by_cases z : i = j
    · subst z
      by_cases hi : i < ε.length
      · rw [List.getElem?_set_self hi] at hj
        cases hj
        exact ⟨v, by rw [List.getElem?_set_self (by omega)], h⟩
      · rw [List.getElem?_eq_none (by rw [List.length_set]; omega)] at hj; cases hj
    · rw [List.getElem?_set_ne z] at hj ⊢
      exact r.val j q hj
  · by_cases z : i = j
    · subst z
      by_cases hi : i < ε.length
      · rw [List.getElem?_set_self hi] at hj; cases hj
      · rw [List.getElem?_eq_none (by rw [List.length_set]; omega)] at hj; cases hj
    · rw [List.getElem?_set_ne z] at hj ⊢
      exact r.own j ps hj
  · have nj : i ≠ j := fun z => by
      subst z
      by_cases hi : i < ε.length
      · rw [List.getElem?_set_self hi] at hj; cases hj
      · rw [List.getElem?_eq_none (by rw [List.length_set]; omega)] at hj; cases hj
    have nk : i ≠ k := fun z => by
      subst z
      by_cases hi : i < ε.length
      · rw [List.getElem?_set_self hi] at hk; cases hk
      · rw [List.getElem?_eq_none (by rw [List.length_set]; omega)] at hk; cases hk
    rw [List.getElem?_set_ne nj] at hj h1
    rw [List.getElem?_set_ne nk] at hk h2
    exact r.dis j k a ps qs hj hk h1 h2
def ownAt (ε : Sv) (σ : L2.St) (a : Addr) : Prop := ∃ (i : Nat) (ps : List PV), ε[i]? = some (.own ps) ∧ σ[i]? = some (some (.ref a))
theorem RG.setOwn (r : RG K Hb Gb dl G ε D σ H) {i : Nat} {a : Addr} {vs : List V} {ps : List PV} (hb : Hb a = none) (hg : G a = none) (hd : ¬ dlAt dl a) (he : H a = some (.lst vs)) (h : RepA K dl G vs ps) (no : ∀ (j : Nat) (qs : List PV), j ≠ i → ε[j]? = some (.own qs) → σ[j]? ≠ some (some (.ref a))) :
    RG K Hb Gb dl G (ε.set i (.own ps)) D (σ.set i (some (.ref a))) H := by
  have hl := r.len
  have on : ∀ {s : Slot}, (ε.set i (.own ps))[i]? = some s → i < ε.length ∧ s = .own ps := fun {s} hj => by
    by_cases hi : i < ε.length
    · rw [List.getElem?_set_self hi] at hj; cases hj; exact ⟨hi, rfl⟩
    · rw [List.getElem?_eq_none (by rw [List.length_set]; omega)] at hj; cases hj
  refine ⟨by rw [List.length_set, List.length_set]; exact hl, r.post, fun j q hj => ?_, fun j qs hj => ?_, fun j k b qs rs hj hk h1 h2 => ?_⟩
  · by_cases z : i = j
    · subst z
      obtain ⟨_, z⟩ := on hj; cases z
    · rw [List.getElem?_set_ne z] at hj ⊢
      exact r.val j q hj
  · by_cases z : i = j
    · subst z
      obtain ⟨hi, z⟩ := on hj
      cases z
      exact ⟨a, vs, by rw [List.getElem?_set_self (by omega)], hb, hg, hd, he, h⟩
    · rw [List.getElem?_set_ne z] at hj ⊢
      exact r.own j qs hj
  · by_cases zj : i = j
    · by_cases zk : i = k
      · rw [← zj, ← zk]
      · subst zj
        obtain ⟨hi, _⟩ := on hj
        rw [List.getElem?_set_self (by omega)] at h1
        rw [List.getElem?_set_ne zk] at hk h2
        cases h1
        exact absurd h2 (no k rs (Ne.symm zk) hk)
    · by_cases zk : i = k
      · subst zk
        obtain ⟨hi, _⟩ := on hk
        rw [List.getElem?_set_self (by omega)] at h2
        rw [List.getElem?_set_ne zj] at hj h1
        cases h2
        exact absurd h1 (no j qs (Ne.symm zj) hj)
      · rw [List.getElem?_set_ne zj] at hj h1
        rw [List.getElem?_set_ne zk] at hk h2
        exact r.dis j k b qs rs hj hk h1 h2
/-- an own list is changed -/
theorem RG.write (r : RG K Hb Gb dl G ε D σ H) {i : Nat} {a : Addr} {vs : List V} {ps qs : List PV} (hi : ε[i]? = some (.own qs)) (ha : σ[i]? = some (some (.ref a))) (h : RepA K dl G vs ps) : RG K Hb Gb dl G (ε.set i (.own ps)) D σ (upd H a (.lst vs)) := by
  have hl := r.len
  obtain ⟨a', vs', e1, hb, hg, hd, he, _⟩ := r.own i qs hi
  rw [ha] at e1
  cases e1
  have hlt : i < ε.length := (List.getElem?_eq_some_iff.mp hi).1
  refine ⟨by rw [List.length_set]; exact hl, r.post.setOwn hb hg hd, fun j q hj => ?_, fun j rs hj => ?_, fun j k b xs ys hj hk h1 h2 => ?_⟩
  · by_cases z : i = j
    · subst z
      rw [List.getElem?_set_self hlt] at hj; cases hj
    · rw [List.getElem?_set_ne z] at hj
      exact r.val j q hj
  · by_cases z : i = j
    · subst z
      rw [List.getElem?_set_self hlt] at hj
      cases hj
      exact ⟨a, vs, ha, hb, hg, hd, upd_same, h⟩
    · rw [List.getElem?_set_ne z] at hj
      obtain ⟨b, ws, h1, h2, h3, h4, h5, h6⟩ := r.own j rs hj
      refine ⟨b, ws, h1, h2, h3, h4, ?_, h6⟩
      rw [upd_ne fun y => z (r.dis i j a qs rs hi hj ha (by rw [← y]; exact h1))]
      exact h5
  · have key : ∀ {m : Nat} {zs : List PV}, (ε.set i (.own ps))[m]? = some (.own zs) → ∃ ws, ε[m]? = some (.own ws) := fun {m zs} hm => by
      by_cases z : i = m
      · subst z; exact ⟨qs, hi⟩
      · rw [List.getElem?_set_ne z] at hm; exact ⟨zs, hm⟩
    obtain ⟨_, k1⟩ := key hj
    obtain ⟨_, k2⟩ := key hk
    exact r.dis j k b _ _ k1 k2 h1 h2

/-! ### reading own lists -/
noncomputable def opn (G : Hp) (ε : Sv) (σ : L2.St) (H : Hp) : Hp := fun a => by
  classical exact if ownAt ε σ a then H a else G a
noncomputable def cls (G : Hp) (ε : Sv) (σ : L2.St) : Hp := fun a => by
  classical exact if ownAt ε σ a then none else G a
theorem opn_on {a : Addr} (h : ownAt ε σ a) : opn G ε σ H a = H a := by unfold opn; exact if_pos h
theorem opn_off {a : Addr} (h : ¬ ownAt ε σ a) : opn G ε σ H a = G a := by unfold opn; exact if_neg h
theorem cls_on {a : Addr} (h : ownAt ε σ a) : cls G ε σ a = none := by unfold cls; exact if_pos h
theorem cls_off {a : Addr} (h : ¬ ownAt ε σ a) : cls G ε σ a = G a := by unfold cls; exact if_neg h
theorem RG.at (r : RG K Hb Gb dl G ε D σ H) {a : Addr} (h : ownAt ε σ a) : Hb a = none ∧ G a = none ∧ ¬ dlAt dl a ∧ ∃ vs, H a = some (.lst vs) := by
  obtain ⟨i, ps, h1, h2⟩ := h
  obtain ⟨b, vs, e1, e2, e3, e4, e5, e6⟩ := r.own i ps h1
  rw [h2] at e1
  cases e1
  exact ⟨e2, e3, e4, vs, e5⟩
theorem RG.sgx (r : RG K Hb Gb dl G ε D σ H) : Sub G (opn G ε σ H) := fun a o h => by
  rw [opn_off fun z => by rw [(r.at z).2.1] at h; cases h]; exact h
theorem RG.shw (r : RG K Hb Gb dl G ε D σ H) : RE K (opn G ε σ H) dl (Pu.shw ε) D σ H := by
  refine ⟨fun a o h => ?_, by unfold Pu.shw; rw [List.length_map]; exact r.len, fun i p h => ?_, ?_⟩
  · by_cases z : ownAt ε σ a
    · rw [opn_on z] at h; exact h
    · rw [opn_off z] at h; exact r.post.sub a o h
  · unfold Pu.shw at h
    rw [List.getElem?_map, Option.map_eq_some_iff] at h
    obtain ⟨s, h1, h2⟩ := h
    cases s <;> simp [Slot.shw] at h2
    · subst h2
      obtain ⟨v, e1, e2⟩ := r.val i _ h1
      exact ⟨v, e1, e2.up r.sgx⟩
    · subst h2
      obtain ⟨a, vs, e1, e2, e3, e4, e5, e6⟩ := r.own i _ h1
      exact ⟨_, e1, .lst (by rw [opn_on ⟨i, _, h1, e1⟩]; exact e5) (e6.up r.sgx)⟩
  · have d := r.post.dok
    cases dl with
    | none => cases D with
      | none => trivial
      | some _ => exact d.elim
    | some q =>
      obtain ⟨a, l⟩ := q
      cases D with
      | none => exact d.elim
      | some d' =>
        obtain ⟨h1, h2, h3, h4, h5⟩ := d
        exact ⟨by rw [opn_off fun z => (r.at z).2.2.1 ⟨_, rfl, .inl rfl⟩]; exact h1, by rw [opn_off fun z => (r.at z).2.2.1 ⟨_, rfl, .inr rfl⟩]; exact h2, h3, h4, h5⟩
theorem RG.close (r : RG K Hb Gb dl G ε D σ H) (p : Post (opn G ε σ H) dl D1 H G1 H1) : RG K Hb Gb dl (cls G1 ε σ) ε D1 σ H1 ∧ Post G dl D1 H (cls G1 ε σ) H1 := by
  have sg : Sub G (cls G1 ε σ) := fun a o h => by
    have z : ¬ ownAt ε σ a := fun z => by rw [(r.at z).2.1] at h; cases h
    rw [cls_off z]
    exact p.sg a o (by rw [opn_off z]; exact h)
  have q : Post G dl D1 H (cls G1 ε σ) H1 := by
    refine ⟨sg, fun a o h => ?_, fun a h => ?_, p.keep, ?_⟩
    · by_cases z : ownAt ε σ a
      · rw [cls_on z] at h; cases h
      · rw [cls_off z] at h; exact p.sub a o h
    · by_cases z : ownAt ε σ a
      · rw [cls_on z, (r.at z).2.1]
      · rw [cls_off z, p.fr a h, opn_off z]
    · have d := p.dok
      cases dl with
      | none => cases D1 with
        | none => trivial
        | some _ => exact d.elim
      | some q =>
        obtain ⟨a, l⟩ := q
        cases D1 with
        | none => exact d.elim
        | some d' =>
          obtain ⟨h1, h2, h3, h4, h5⟩ := d
          exact ⟨by rw [cls_off fun z => (r.at z).2.2.1 ⟨_, rfl, .inl rfl⟩]; exact h1, by rw [cls_off fun z => (r.at z).2.2.1 ⟨_, rfl, .inr rfl⟩]; exact h2, h3, h4, h5⟩
  exact ⟨r.step q, q⟩
mutual
/-- a value without lists -/
def noL : PV → Bool
  | .non => true
  | .bl _ => true
  | .int _ => true
  | .str _ => true
  | .ty _ => true
  | .deal => true
  | .tup ps => noLs ps
  | .lst _ => false
  | .scr _ => false
def noLs : List PV → Bool
  | [] => true
  | p :: ps => noL p && noLs ps
end
mutual
theorem Rep.close (hx : ∀ a, ownAt ε σ a → ∀ vs, G1 a ≠ some (.tup vs)) : ∀ (p : PV) {v : V}, Rep K dl G1 v p → noL p = true → Rep K dl (cls G1 ε σ) v p
  | .non, _, h, _ => by cases h; exact .non
  | .bl _, _, h, _ => by cases h; exact .bl _
  | .int _, _, h, _ => by cases h; exact .int _
  | .str _, _, h, _ => by cases h; exact .str _
  | .ty _, _, h, _ => by cases h; exact .ty _
  | .deal, _, h, _ => by cases h with | deal a => exact .deal a
  | .tup ps, _, h, n => by
    cases h with
    | tup a b =>
      refine .tup ?_ (RepA.close hx ps b (by simpa [noL] using n))
      rcases a with a | a
      · exact .inl (by rw [cls_off fun z => hx _ z _ a]; exact a)
      · exact .inr a
  | .lst ps, _, h, n => by simp [noL] at n
  | .scr ps, _, h, n => by simp [noL] at n
theorem RepA.close (hx : ∀ a, ownAt ε σ a → ∀ vs, G1 a ≠ some (.tup vs)) : ∀ (ps : List PV) {vs : List V}, RepA K dl G1 vs ps → noLs ps = true → RepA K dl (cls G1 ε σ) vs ps
  | [], _, h, _ => by cases h; exact .nil
  | p :: ps, _, h, n => by
    cases h with
    | cons a b =>
      simp only [noLs, Bool.and_eq_true] at n
      exact .cons (Rep.close hx p a n.1) (RepA.close hx ps b n.2)
end
theorem RG.noT (r : RG K Hb Gb dl G ε D σ H) (p : Post (opn G ε σ H) dl D1 H G1 H1) : ∀ a, ownAt ε σ a → ∀ vs, G1 a ≠ some (.tup vs) := fun a z vs h => by
  obtain ⟨_, _, _, ws, e⟩ := r.at z
  have := p.sg a _ (by rw [opn_on z]; exact e)
  rw [h] at this
  cases this
end

/-! ### statements -/
inductive Fl where
  | nx | bk | ct | rt (p : PV)
abbrev SM := Sv → Dl → Option (Rs Fl × Sv × Dl)
def SEnd (K : PySem.W.Frag) (mg : Mg) (E : XK) (Hb Gb F : Hp) (dl : DAt) (ε : Sv) (D : Dl) (Dn : Ends) : Rs Fl → Prop
  | .ok .nx => ∀ σ H, RS K Hb Gb F dl ε D σ H → Dn.nx σ H
  | .ok .bk => ∀ σ H, RS K Hb Gb F dl ε D σ H → Dn.bk σ H
  | .ok .ct => ∀ σ H, RS K Hb Gb F dl ε D σ H → Dn.ct σ H
  | .ok (.rt p) => ∀ v G H, Post Gb dl D Hb G H → Rep K dl G v p → Dn.rt v H
  | .ex x => ∀ c od G H, Post Gb dl D Hb G H → RepX K mg dl G H c od x → E c od H
def tSc (K : PySem.W.Frag) (mg : Mg) (E : XK) (m : SM) (Hb Gb F : Hp) (dl : DAt) (ε : Sv) (D : Dl) (Dn : Ends) (σ : L2.St) (H : Hp) : Prop :=
  RS K Hb Gb F dl ε D σ H ∧ ∃ r ε' D', m ε D = some (r, ε', D') ∧ SEnd K mg E Hb Gb F dl ε' D' Dn r
def tS (K : PySem.W.Frag) (mg : Mg) (E : XK) (m : SM) : TS := fun Dn σ H => ∃ Hb Gb F dl ε D, tSc K mg E m Hb Gb F dl ε D Dn σ H
def DS (X : Cx) (E : XK) (st : Stmt) (m : SM) : Prop := PS X st (tS X.K X.mg E m)
def DSs (X : Cx) (E : XK) (sts : List Stmt) (m : SM) : Prop := PSs X sts (tS X.K X.mg E m)
section
variable {X : Cx} {E : XK} {pos p2 : Pos} {a b c e : Expr} {es rest : List Expr} {st : Stmt} {sts : List Stmt} {ma mb mc : M PV} {mt mu : M Bool} {ms mk : M (List PV)} {m1 m2 : SM}
@[reducible] def sNil : SM := fun ε D => some (.ok .nx, ε, D)
def sSeq (m1 m2 : SM) : SM := fun ε D => match m1 ε D with
  | some (.ok .nx, ε1, D1) => m2 ε1 D1
  | r => r
theorem dss_nil : DSs X E [] sNil := pss_to pss_nil fun Dn σ H ⟨Hb, Gb, F, dl, ε, D, rs, r, ε', D', e, q⟩ => by
  cases e
  exact q σ H rs
theorem dss_cons (h1 : DS X E st m1) (h2 : DSs X E sts m2) : DSs X E (st :: sts) (sSeq m1 m2) := pss_to (pss_cons h1 h2) fun Dn σ H ⟨Hb, Gb, F, dl, ε, D, rs, r, ε', D', e, q⟩ => by
  unfold sSeq at e
  refine ⟨Hb, Gb, F, dl, ε, D, rs, ?_⟩
  split at e
  · rename_i ε1 D1 e1
    exact ⟨_, _, _, e1, fun σ1 H1 rs1 => ⟨Hb, Gb, F, dl, ε1, D1, rs1, r, ε', D', e, q⟩⟩
  · rename_i hn
    refine ⟨r, ε', D', e, ?_⟩
    cases r with
    | ex x => exact q
    | ok f =>
      cases f with
      | nx => exact absurd e (hn _ _)
      | bk => exact q
      | ct => exact q
      | rt p => exact q
theorem dss_one (h1 : DS X E st m1) : DSs X E [st] m1 := pss_one h1
end
end Pu
set_option Elab.async false
set_option linter.all false
set_option maxRecDepth 100000
set_option maxHeartbeats 4000000
namespace Pu
open PySem PySem.Spec PyProof.Rows L2

/-! ### an expression within a statement -/
/-- evaluated with the own lists hidden -/
def sX {α : Type} (m : M α) (k : α → SM) : SM := fun ε D => match m (hide ε) D with
  | some (.ok p, D1) => k p ε D1
  | some (.ex x, D1) => some (.ex x, ε, D1)
  | none => none
/-- .. with the own lists shown as values; nothing of them may stay in what is told -/
def sXs {α : Type} (m : M α) (k : α → SM) : SM := fun ε D => match m (shw ε) D with
  | some (.ok p, D1) => k p ε D1
  | _ => none
section
variable {X : Cx} {E : XK} {pos p2 : Pos} {a b c e : Expr} {es rest : List Expr} {st : Stmt} {sts : List Stmt} {ma mb mc : M PV} {mt mu : M Bool} {ms mk : M (List PV)} {m1 m2 : SM}
theorem sX_of {α β : Type} {K : PySem.W.Frag} {mg : Mg} {R : RR β α} {m : M α} {k : α → SM} {Hb Gb F : Hp} {dl : DAt} {ε : Sv} {D : Dl} {Dn : Ends} {σ : L2.St} {H : Hp} {Q : β → Hp → Prop} (h : tSc K mg E (sX m k) Hb Gb F dl ε D Dn σ H)
    (f : ∀ v p G G1 H1 D1, RG K Hb Gb dl G ε D σ H → Post G dl D1 H G1 H1 → RG K Hb Gb dl G1 ε D1 σ H1 → Sub F G1 → R dl H G1 H1 v p → tSc K mg E (k p) Hb Gb F dl ε D1 Dn σ H1 → Q v H1) : tG K mg E R m σ H Q := by
  obtain ⟨⟨G, rg, sf⟩, r, ε', D', e, q⟩ := h
  refine ⟨G, dl, hide ε, D, rg.hide, ?_⟩
  unfold sX at e
  split at e
  · rename_i p D1 e1
    exact ⟨.ok p, D1, e1, fun v G1 H1 P1 r1 => f v p G G1 H1 D1 rg P1 (rg.step P1) (sf.trans P1.sg) r1 ⟨⟨G1, rg.step P1, sf.trans P1.sg⟩, r, ε', D', e, q⟩⟩
  · rename_i x D1 e1
    cases e
    exact ⟨.ex x, _, e1, fun c od G1 H1 P1 rx => q c od G1 H1 (rg.post.trans P1) rx⟩
  · cases e
theorem sub_cls {G G1 F : Hp} {ε : Sv} {σ : L2.St} {K : PySem.W.Frag} {Hb Gb H : Hp} {dl : DAt} {D D1 : Dl} {H1 : Hp} (rg : RG K Hb Gb dl G ε D σ H) (sf : Sub F G) (P : Post G dl D1 H (cls G1 ε σ) H1) : Sub F (cls G1 ε σ) := sf.trans P.sg
theorem sXs_of {α β : Type} {K : PySem.W.Frag} {mg : Mg} {R : RR β α} {m : M α} {k : α → SM} {Hb Gb F : Hp} {dl : DAt} {ε : Sv} {D : Dl} {Dn : Ends} {σ : L2.St} {H : Hp} {Q : β → Hp → Prop} (h : tSc K mg E (sXs m k) Hb Gb F dl ε D Dn σ H)
    (f : ∀ v p Gx G1 H1 D1, (∀ a, ownAt ε σ a → ∀ vs, Gx a ≠ some (.tup vs)) → G1 = cls Gx ε σ → RG K Hb Gb dl G1 ε D1 σ H1 → Sub F G1 → R dl H Gx H1 v p → tSc K mg E (k p) Hb Gb F dl ε D1 Dn σ H1 → Q v H1) : tG K mg E R m σ H Q := by
  obtain ⟨⟨G, rg, sf⟩, r, ε', D', e, q⟩ := h
  refine ⟨opn G ε σ H, dl, shw ε, D, rg.shw, ?_⟩
  unfold sXs at e
  split at e
  · rename_i p D1 e1
    refine ⟨.ok p, D1, e1, fun v Gx H1 P1 r1 => ?_⟩
    obtain ⟨rg1, P2⟩ := rg.close P1
    exact f v p Gx _ H1 D1 (rg.noT P1) rfl rg1 (sf.trans P2.sg) r1 ⟨⟨_, rg1, sf.trans P2.sg⟩, r, ε', D', e, q⟩
  · cases e
theorem tSc_of {K : PySem.W.Frag} {mg : Mg} {m : SM} {Hb Gb F : Hp} {dl : DAt} {ε : Sv} {D : Dl} {Dn : Ends} {σ : L2.St} {H : Hp} (h : tSc K mg E m Hb Gb F dl ε D Dn σ H) : tS K mg E m Dn σ H := ⟨Hb, Gb, F, dl, ε, D, h⟩

/-! ### assignments -/
def setS (ε : Sv) : Asg → Sv
  | [] => ε
  | (i, p) :: r => setS (ε.set i (.val p)) r
def sSet (gp : PV → Option Asg) (p : PV) : SM := fun ε D => match gp p with
  | some as => some (.ok .nx, setS ε as, D)
  | none => none
def sSetB (gp : PV → Option Asg) (p : PV) : SM := fun ε D => if noL p = true then sSet gp p ε D else none
theorem RG.setAs {K : PySem.W.Frag} {Hb Gb G H : Hp} {dl : DAt} {D : Dl} : ∀ {as : Asg} {avs : List (Nat × V)} {ε : Sv} {σ : L2.St}, RG K Hb Gb dl G ε D σ H → avs.map (·.1) = as.map (·.1) → RepA K dl G (avs.map (·.2)) (as.map (·.2)) → RG K Hb Gb dl G (setS ε as) D (setV σ avs) H
  | [], avs, ε, σ, re, e, _ => by
    cases avs with
    | nil => exact re
    | cons _ _ => cases e
  | (i, p) :: r, avs, ε, σ, re, e, ra => by
    cases avs with
    | nil => cases e
    | cons q s =>
      obtain ⟨j, v⟩ := q
      rw [List.map_cons, List.map_cons] at e
      injection e with e1 e2
      have e1' : j = i := e1
      subst e1'
      cases ra with
      | cons r1 r2 => exact RG.setAs (as := r) (avs := s) (re.setVal r1) e2 r2
theorem set_core {K : PySem.W.Frag} {mg : Mg} {gp : PV → Option Asg} {p : PV} {v : V} {Hb Gb F G H : Hp} {dl : DAt} {ε : Sv} {D : Dl} {Dn : Ends} {σ : L2.St} (rg : RG K Hb Gb dl G ε D σ H) (sf : Sub F G) (rv : Rep K dl G v p) (h : tSc K mg E (sSet gp p) Hb Gb F dl ε D Dn σ H) : tgG K gp v σ H Dn.nx := by
  obtain ⟨_, r, ε', D', e, q⟩ := h
  unfold sSet at e
  split at e
  · rename_i as ea
    cases e
    exact ⟨G, dl, D, p, as, rg.post.sub, rg.post.dok, rv, ea, fun avs f1 f2 => q _ _ ⟨G, rg.setAs f1 f2, sf⟩⟩
  · cases e
theorem ds_asg {gp : PV → Option Asg} {g : TG} (h : PS X st (tAsg (tG X.K X.mg E (RV X.K) ma) g)) (hg : ∀ v σ H Q, tgG X.K gp v σ H Q → g v σ H Q) : DS X E st (sX ma (sSet gp)) := ps_to h fun Dn σ H ⟨Hb, Gb, F, dl, ε, D, h⟩ => by
  refine sX_of h ?_
  intro v p G G1 H1 D1 rg P1 rg1 sf r1 h1
  exact hg _ _ _ _ (set_core rg1 sf r1 h1)
theorem ds_asgB {gp : PV → Option Asg} {g : TG} (h : PS X st (tAsg (tG X.K X.mg E (RV X.K) ma) g)) (hg : ∀ v σ H Q, tgG X.K gp v σ H Q → g v σ H Q) : DS X E st (sXs ma (sSetB gp)) := ps_to h fun Dn σ H ⟨Hb, Gb, F, dl, ε, D, h⟩ => by
  refine sXs_of h ?_
  intro v p Gx G1 H1 D1 nt eG rg1 sf r1 h1
  obtain ⟨rs, r, ε', D', e, q⟩ := h1
  obtain ⟨hl, e⟩ := ifs_of e
  subst eG
  exact hg _ _ _ _ (set_core rg1 sf (Rep.close nt p r1 hl) ⟨rs, r, ε', D', e, q⟩)
theorem g_name {K : PySem.W.Frag} {i : Nat} : ∀ v σ H Q, tgG K (gpN i) v σ H Q → gName i v σ H Q := fun v σ H Q ⟨G, dl, D, p, as, s, d, r, e, q⟩ => by
  cases e
  exact q [(i, v)] rfl (.one r)
theorem g_id {K : PySem.W.Frag} {gp : PV → Option Asg} : ∀ v σ H Q, tgG K gp v σ H Q → tgG K gp v σ H Q := fun _ _ _ _ h => h
/-- name = a new list, of the def's own -/
def sOwn (i : Nat) (ps : List PV) : SM := fun ε D => some (.ok .nx, ε.set i (.own ps), D)
theorem RG.fresh {K : PySem.W.Frag} {Hb Gb G H : Hp} {dl : DAt} {ε : Sv} {D : Dl} {σ : L2.St} (rg : RG K Hb Gb dl G ε D σ H) {a : Addr} (h : H a = none) : Hb a = none ∧ ∀ (j : Nat) (qs : List PV), ε[j]? = some (.own qs) → σ[j]? ≠ some (some (.ref a)) := by
  refine ⟨?_, fun j qs hj hs => ?_⟩
  · cases q : Hb a with
    | none => rfl
    | some o => exact absurd h (rg.post.there (by rw [q]; simp))
  · obtain ⟨b, vs, h1, _, _, _, h5, _⟩ := rg.own j qs hj
    rw [hs] at h1
    cases h1
    rw [h] at h5
    cases h5
theorem own_core {K : PySem.W.Frag} {mg : Mg} {i : Nat} {ps : List PV} {v : V} {Hb Gb F G G1 H H1 : Hp} {dl : DAt} {ε : Sv} {D D1 : Dl} {Dn : Ends} {σ : L2.St} (rg : RG K Hb Gb dl G ε D σ H) (rg1 : RG K Hb Gb dl G1 ε D1 σ H1) (sf : Sub F G1) (rv : RL K dl H G1 H1 v ps) (h : tSc K mg E (sOwn i ps) Hb Gb F dl ε D1 Dn σ H1) : gName i v σ H1 Dn.nx := by
  obtain ⟨a, vs, rfl, n1, n2, n3, e1, r1⟩ := rv
  obtain ⟨_, r, ε', D', e, q⟩ := h
  cases e
  obtain ⟨hb, no⟩ := rg.fresh n1
  exact q _ _ ⟨G1, rg1.setOwn hb n2 n3 e1 r1 fun j qs _ hj => no j qs hj, sf⟩
theorem ds_own {i : Nat} {ml : M (List PV)} (h : PS X st (tAsg (tG X.K X.mg E (RL X.K) ml) (gName i))) : DS X E st (sX ml (sOwn i)) := ps_to h fun Dn σ H ⟨Hb, Gb, F, dl, ε, D, h⟩ => by
  refine sX_of h ?_
  intro v p G G1 H1 D1 rg P1 rg1 sf r1 h1
  exact own_core rg rg1 sf r1 h1
/-- something with an own list -/
def sAt (j : Nat) (k : List PV → SM) : SM := fun ε D => match ε[j]? with
  | some (.own ps) => k ps ε D
  | _ => none
theorem sAt_of {K : PySem.W.Frag} {mg : Mg} {j : Nat} {k : List PV → SM} {Hb Gb F : Hp} {dl : DAt} {ε : Sv} {D : Dl} {Dn : Ends} {σ : L2.St} {H : Hp} (h : tSc K mg E (sAt j k) Hb Gb F dl ε D Dn σ H) : ∃ ps, ε[j]? = some (.own ps) ∧ tSc K mg E (k ps) Hb Gb F dl ε D Dn σ H := by
  obtain ⟨rs, r, ε', D', e, q⟩ := h
  unfold sAt at e
  split at e
  · rename_i ps e1
    exact ⟨ps, e1, rs, r, ε', D', e, q⟩
  · cases e
/-- name = own list + list -/
def sOwnCat (i : Nat) (ps : List PV) (p : PV) : SM := fun ε D => match p with
  | .lst qs => if ps.length + qs.length ≤ 1000000 then some (.ok .nx, ε.set i (.own (ps ++ qs)), D) else none
  | _ => none
def sOwnAdd (i j : Nat) (m : M PV) : SM := sAt j fun ps => sX m (sOwnCat i ps)
theorem ds_ownAdd {i j : Nat} (h : PS X st (tAsg (tOp rCat (tVar j) (tG X.K X.mg E (RV X.K) ma)) (gName i))) : DS X E st (sOwnAdd i j ma) := ps_to h fun Dn σ H ⟨Hb, Gb, F, dl, ε, D, h⟩ => by
  obtain ⟨ps, ej, h⟩ := sAt_of h
  obtain ⟨⟨G0, rg0, _⟩, _⟩ := id h
  obtain ⟨a0, vs0, e0, _⟩ := rg0.own j ps ej
  refine ⟨.ref a0, e0, sX_of h ?_⟩
  intro v p G G1 H1 D1 rg P1 rg1 sf r1 h1
  obtain ⟨_, r, ε', D', e, q⟩ := h1
  unfold sOwnCat at e
  split at e
  · rename_i qs
    obtain ⟨hl, e⟩ := ifs_of e
    cases e
    obtain ⟨a, vs, f1, hb, g1, nd, e1, ra⟩ := rg1.own j ps ej
    rw [e0] at f1
    cases f1
    cases r1 with
    | lst a1 b1 =>
      rename_i a2 ws
      refine ⟨_, _, vs, ws, rfl, rfl, e1, rg1.sub _ _ a1, by rw [ra.length, b1.length]; exact line_of hl, fun p hp => ?_⟩
      have hpG : G1 p = none := rg1.sub.free hp
      have nL := rg1.post.dok.off hp
      obtain ⟨hb2, no⟩ := rg1.fresh hp
      have rg2 : RG X.K Hb Gb dl G1 ε D1 σ (upd H1 p (.lst (vs ++ ws))) := rg1.step (.newOwn rg1.sub rg1.post.dok hp)
      exact q _ _ ⟨G1, rg2.setOwn hb2 hpG nL upd_same (ra.append b1) fun j qs _ hj => no j qs hj, sf⟩
  · cases e

/-! ### xs.append(e), xs.pop() -/
def sPut (i : Nat) (ps : List PV) : SM := fun ε D => some (.ok .nx, ε.set i (.own ps), D)
def sAppP (i : Nat) (p : PV) : SM := sAt i fun ps ε D => if ps.length < 1000000 then some (.ok .nx, ε.set i (.own (ps ++ [p])), D) else none
def sApp (i : Nat) (m : M PV) : SM := sAt i fun _ => sX m (sAppP i)
def sAppB (i : Nat) (m : M PV) : SM := sAt i fun _ => sXs m fun p => if noL p = true then sAppP i p else fun _ _ => none
theorem app_core {K : PySem.W.Frag} {mg : Mg} {i : Nat} {p : PV} {v : V} {a0 : Addr} {Hb Gb F G H : Hp} {dl : DAt} {ε : Sv} {D : Dl} {Dn : Ends} {σ : L2.St} (e0 : σ[i]? = some (some (.ref a0))) (rg : RG K Hb Gb dl G ε D σ H) (sf : Sub F G) (rv : Rep K dl G v p) (h : tSc K mg E (sAppP i p) Hb Gb F dl ε D Dn σ H) : rAppend (.ref a0) [v] H fun _ H' => Dn.nx σ H' := by
  obtain ⟨ps, ej, _, r, ε', D', e, q⟩ := sAt_of h
  obtain ⟨hl, e⟩ := ifs_of e
  cases e
  obtain ⟨a, vs, f1, hb, g1, nd, e1, ra⟩ := rg.own i ps ej
  rw [e0] at f1
  cases f1
  refine ⟨_, vs, v, rfl, rfl, e1, by rw [ra.length]; exact Nat.lt_of_lt_of_le hl (by decide), ?_⟩
  exact q _ _ ⟨G, rg.write ej e0 (ra.append (.one rv)), sf⟩
theorem tyV_own {K : PySem.W.Frag} {H : Hp} {a : Addr} {vs : List V} (h : H a = some (.lst vs)) : tyV K "list" (.ref a) H := .inl ⟨rfl, vs, .inl (.inl h)⟩
theorem ds_app {i : Nat} (h : PS X st (tDrop (tBM X.K "list" rAppend (tVar i) (tCons (tG X.K X.mg E (RV X.K) ma) tNil)))) : DS X E st (sApp i ma) := ps_to h fun Dn σ H ⟨Hb, Gb, F, dl, ε, D, h⟩ => by
  obtain ⟨ps, ej, h⟩ := sAt_of h
  obtain ⟨⟨G0, rg0, _⟩, _⟩ := id h
  obtain ⟨a0, vs0, e0, _, _, _, e1, _⟩ := rg0.own i ps ej
  refine ⟨.ref a0, e0, tyV_own e1, sX_of h ?_⟩
  intro v p G G1 H1 D1 rg P1 rg1 sf r1 h1
  exact app_core e0 rg1 sf r1 h1
theorem ds_appB {i : Nat} (h : PS X st (tDrop (tBM X.K "list" rAppend (tVar i) (tCons (tG X.K X.mg E (RV X.K) ma) tNil)))) : DS X E st (sAppB i ma) := ps_to h fun Dn σ H ⟨Hb, Gb, F, dl, ε, D, h⟩ => by
  obtain ⟨ps, ej, h⟩ := sAt_of h
  obtain ⟨⟨G0, rg0, _⟩, _⟩ := id h
  obtain ⟨a0, vs0, e0, _, _, _, e1, _⟩ := rg0.own i ps ej
  refine ⟨.ref a0, e0, tyV_own e1, sXs_of h ?_⟩
  intro v p Gx G1 H1 D1 nt eG rg1 sf r1 h1
  by_cases hl : noL p = true
  · rw [if_pos hl] at h1
    subst eG
    exact app_core e0 rg1 sf (Rep.close nt p r1 hl) h1
  · rw [if_neg hl] at h1
    obtain ⟨_, r, ε', D', e, q⟩ := h1
    cases e
/-- target = own.pop() -/
def sPop (i : Nat) (gp : PV → Option Asg) : SM := sAt i fun ps ε D => match ps.getLast? with
  | some p => sSet gp p (ε.set i (.own ps.dropLast)) D
  | none => none
theorem getLast_ix {α : Type} (xs : List α) : xs[xs.length - 1]? = xs.getLast? := by rw [List.getLast?_eq_getElem?]
theorem RepA.dropLast {K : PySem.W.Frag} {dl : DAt} {G : Hp} {vs : List V} {ps : List PV} (r : RepA K dl G vs ps) : RepA K dl G vs.dropLast ps.dropLast := by
  rw [List.dropLast_eq_take, List.dropLast_eq_take, r.length]
  exact r.take _
theorem ds_pop {i : Nat} {gp : PV → Option Asg} {g : TG} (h : PS X st (tAsg (tBM0 X.K "list" rPop (tVar i)) g)) (hg : ∀ v σ H Q, tgG X.K gp v σ H Q → g v σ H Q) : DS X E st (sPop i gp) := ps_to h fun Dn σ H ⟨Hb, Gb, F, dl, ε, D, h⟩ => by
  obtain ⟨ps, ej, rs, r, ε', D', e, q⟩ := sAt_of h
  obtain ⟨G, rg, sf⟩ := rs
  obtain ⟨a0, vs, e0, _, _, _, e1, ra⟩ := rg.own i ps ej
  split at e
  · rename_i p el
    obtain ⟨v, f1, f2⟩ := ra.get (by rw [getLast_ix]; exact el : ps[ps.length - 1]? = some p)
    refine ⟨.ref a0, e0, tyV_own e1, a0, vs, v, rfl, rfl, e1, by rw [ra.length]; exact f1, ?_⟩
    have rg2 := rg.write ej e0 ra.dropLast
    exact hg _ _ _ _ (set_core rg2 sf f2 ⟨⟨G, rg2, sf⟩, r, ε', D', e, q⟩)
  · cases e
/-- own.pop() dropped -/
def sPopD (i : Nat) : SM := sAt i fun ps ε D => match ps with
  | [] => none
  | _ => some (.ok .nx, ε.set i (.own ps.dropLast), D)
theorem ds_popD {i : Nat} (h : PS X st (tDrop (tBM0 X.K "list" rPop (tVar i)))) : DS X E st (sPopD i) := ps_to h fun Dn σ H ⟨Hb, Gb, F, dl, ε, D, h⟩ => by
  obtain ⟨ps, ej, rs, r, ε', D', e, q⟩ := sAt_of h
  obtain ⟨G, rg, sf⟩ := rs
  obtain ⟨a0, vs, e0, _, _, _, e1, ra⟩ := rg.own i ps ej
  cases ps with
  | nil => cases e
  | cons p0 pr =>
    cases e
    have hx : ((p0 :: pr)[(p0 :: pr).length - 1]?) = some ((p0 :: pr).getLast (by simp)) := by rw [getLast_ix, List.getLast?_eq_getLast (by simp)]
    obtain ⟨v, f1, f2⟩ := ra.get hx
    refine ⟨.ref a0, e0, tyV_own e1, a0, vs, v, rfl, rfl, e1, by rw [ra.length]; exact f1, ?_⟩
    exact q _ _ ⟨G, rg.write ej e0 ra.dropLast, sf⟩

/-! ### freezing -/
def sFrz (i : Nat) (m : SM) : SM := fun ε D => match ε[i]? with
  | some (.own ps) => m (ε.set i (.val (.lst ps))) D
  | _ => none
theorem RG.frz {K : PySem.W.Frag} {Hb Gb G H : Hp} {dl : DAt} {ε : Sv} {D : Dl} {σ : L2.St} (rg : RG K Hb Gb dl G ε D σ H) {i : Nat} {ps : List PV} (h : ε[i]? = some (.own ps)) : ∃ G', Sub G G' ∧ RG K Hb Gb dl G' (ε.set i (.val (.lst ps))) D σ H := by
  obtain ⟨a, vs, e1, hb, g1, nd, e2, ra⟩ := rg.own i ps h
  have sg : Sub G (upd G a (.lst vs)) := Sub.new g1
  have hlt : i < ε.length := (List.getElem?_eq_some_iff.mp h).1
  have el : σ.set i (some (.ref a)) = σ := by
    apply List.ext_getElem?
    intro j
    by_cases z : i = j
    · subst z; rw [List.getElem?_set_self (by rw [← rg.len]; exact hlt), e1]
    · rw [List.getElem?_set_ne z]
  have P : Post Gb dl D Hb (upd G a (.lst vs)) H := by
    refine ⟨rg.post.sg.trans sg, fun b o q => ?_, fun b n => ?_, rg.post.keep, rg.post.dok.more nd⟩
    · by_cases z : b = a
      · subst z; rw [upd_same] at q; cases q; exact e2
      · rw [upd_ne z] at q; exact rg.sub b o q
    · rw [upd_ne fun z => n (by rw [z]; exact hb)]; exact rg.post.fr b n
  refine ⟨_, sg, by rw [List.length_set]; exact rg.len, P, fun j q hj => ?_, fun j qs hj => ?_, fun j k b xs ys hj hk h1 h2 => ?_⟩
  · by_cases z : i = j
    · subst z
      rw [List.getElem?_set_self hlt] at hj
      cases hj
      exact ⟨_, e1, .lst upd_same (ra.up sg)⟩
    · rw [List.getElem?_set_ne z] at hj
      obtain ⟨v, f1, f2⟩ := rg.val j q hj
      exact ⟨v, f1, f2.up sg⟩
  · by_cases z : i = j
    · subst z
      rw [List.getElem?_set_self hlt] at hj
      cases hj
    · rw [List.getElem?_set_ne z] at hj
      obtain ⟨b, ws, h1, h2, h3, h4, h5, h6⟩ := rg.own j qs hj
      exact ⟨b, ws, h1, h2, by rw [upd_ne fun y => z (rg.dis i j a ps qs h hj e1 (by rw [← y]; exact h1))]; exact h3, h4, h5, h6.up sg⟩
  · have nj : i ≠ j := fun z => by subst z; rw [List.getElem?_set_self hlt] at hj; cases hj
    have nk : i ≠ k := fun z => by subst z; rw [List.getElem?_set_self hlt] at hk; cases hk
    rw [List.getElem?_set_ne nj] at hj
    rw [List.getElem?_set_ne nk] at hk
    exact rg.dis j k b xs ys hj hk h1 h2
theorem ds_frz {i : Nat} (h : DS X E st m1) : DS X E st (sFrz i m1) := ps_to h fun Dn σ H ⟨Hb, Gb, F, dl, ε, D, ⟨G, rg, sf⟩, r, ε', D', e, q⟩ => by
  unfold sFrz at e
  split at e
  · rename_i ps ei
    obtain ⟨G', sg, rg'⟩ := rg.frz ei
    exact ⟨Hb, Gb, F, dl, _, D, ⟨G', rg', sf.trans sg⟩, r, ε', D', e, q⟩
  · cases e
theorem dss_frz {i : Nat} (h : DSs X E sts m1) : DSs X E sts (sFrz i m1) := pss_to h fun Dn σ H ⟨Hb, Gb, F, dl, ε, D, ⟨G, rg, sf⟩, r, ε', D', e, q⟩ => by
  unfold sFrz at e
  split at e
  · rename_i ps ei
    obtain ⟨G', sg, rg'⟩ := rg.frz ei
    exact ⟨Hb, Gb, F, dl, _, D, ⟨G', rg', sf.trans sg⟩, r, ε', D', e, q⟩
  · cases e

/-! ### e, pass, return, if -/
def sDropK (_ : PV) : SM := fun ε D => some (.ok .nx, ε, D)
theorem ds_expr (h : PS X st (tDrop (tG X.K X.mg E (RV X.K) ma))) : DS X E st (sX ma sDropK) := ps_to h fun Dn σ H ⟨Hb, Gb, F, dl, ε, D, h⟩ => by
  refine sX_of h ?_
  intro v p G G1 H1 D1 rg P1 rg1 sf r1 ⟨_, r, ε', D', e, q⟩
  cases e
  exact q _ _ ⟨G1, rg1, sf⟩
theorem ds_pass (h : PS X st tNext) : DS X E st sNil := ps_to h fun Dn σ H ⟨Hb, Gb, F, dl, ε, D, rs, r, ε', D', e, q⟩ => by
  cases e
  exact q _ _ rs
def sBrk : SM := fun ε D => some (.ok .bk, ε, D)
def sCont : SM := fun ε D => some (.ok .ct, ε, D)
theorem ds_break (h : PS X st tBreak) : DS X E st sBrk := ps_to h fun Dn σ H ⟨Hb, Gb, F, dl, ε, D, rs, r, ε', D', e, q⟩ => by
  cases e
  exact q _ _ rs
theorem ds_continue (h : PS X st tCont) : DS X E st sCont := ps_to h fun Dn σ H ⟨Hb, Gb, F, dl, ε, D, rs, r, ε', D', e, q⟩ => by
  cases e
  exact q _ _ rs
def sRetK (p : PV) : SM := fun ε D => some (.ok (.rt p), ε, D)
def sRetB (p : PV) : SM := fun ε D => if noL p = true then some (.ok (.rt p), ε, D) else none
theorem ds_ret (h : PS X st (tRet (tG X.K X.mg E (RV X.K) ma))) : DS X E st (sX ma sRetK) := ps_to h fun Dn σ H ⟨Hb, Gb, F, dl, ε, D, h⟩ => by
  refine sX_of h ?_
  intro v p G G1 H1 D1 rg P1 rg1 sf r1 ⟨_, r, ε', D', e, q⟩
  cases e
  exact q v G1 H1 rg1.post r1
theorem ds_retB (h : PS X st (tRet (tG X.K X.mg E (RV X.K) ma))) : DS X E st (sXs ma sRetB) := ps_to h fun Dn σ H ⟨Hb, Gb, F, dl, ε, D, h⟩ => by
  refine sXs_of h ?_
  intro v p Gx G1 H1 D1 nt eG rg1 sf r1 ⟨_, r, ε', D', e, q⟩
  obtain ⟨hl, e⟩ := ifs_of e
  cases e
  subst eG
  exact q v _ H1 rg1.post (Rep.close nt p r1 hl)
theorem ds_retN (h : PS X st tRetN) : DS X E st (fun ε D => some (.ok (.rt .non), ε, D)) := ps_to h fun Dn σ H ⟨Hb, Gb, F, dl, ε, D, ⟨G, rg, sf⟩, r, ε', D', e, q⟩ => by
  cases e
  exact q .non G H rg.post .non
def sIf (mt : M Bool) (m1 m2 : SM) : SM := sXs mt fun b => if b = true then m1 else m2
theorem ds_if {as bs : List Stmt} (hc : DT X E c mt) (h1 : DSs X E as m1) (h2 : DSs X E bs m2) : DS X E (.If c as bs pos) (sIf mt m1 m2) := ps_to (ps_if hc h1 h2) fun Dn σ H ⟨Hb, Gb, F, dl, ε, D, h⟩ => by
  refine sXs_of h ?_
  intro v p Gx G1 H1 D1 nt eG rg1 sf r1 h1
  cases (r1 : v = p)
  cases v with
  | true => exact tSc_of h1
  | false => exact tSc_of h1

/-! ### for -/
def forGo (gp : PV → Option Asg) (mb : SM) : List PV → SM
  | [] => fun ε D => some (.ok .nx, ε, D)
  | p :: ps => fun ε D => match gp p with
    | none => none
    | some as => match mb (setS ε as) D with
      | some (.ok .nx, ε1, D1) => forGo gp mb ps ε1 D1
      | some (.ok .ct, ε1, D1) => forGo gp mb ps ε1 D1
      | some (.ok .bk, ε1, D1) => some (.ok .nx, ε1, D1)
      | r => r
def sFor (gp : PV → Option Asg) (mi : M (List PV)) (mb : SM) : SM := sX mi fun ps => forGo gp mb ps
theorem ds_for {tg iter : Expr} {body : List Stmt} {mi : M (List PV)} {gp : PV → Option Asg} {mb : SM} (hp : PassesOwn (model X.prog X.w) X.A X.env X.xe) (hc : X.calm = true) (hi : DI X E tg iter mi) (hg : DG X tg gp) (hb : DSs X E body mb)
    (hs : ∀ x, foldedSetIterable iter X.env x = pure x := by intro _; rfl) : DS X E (.For tg iter body [] pos) (sFor gp mi mb) := ps_to (ps_for hp hc hi hg hb hs) fun Dn σ H ⟨Hb, Gb, F, dl, ε, D, h⟩ => by
  refine sX_of h ?_
  intro J ps G G1 H1 D1 rg P1 rg1 sf wk h1
  obtain ⟨_, r, ε', D', e, q⟩ := h1
  refine ⟨fun i m σ H => m = ps.length - i ∧ i ≤ ps.length ∧ ∃ ε2 D2, RS X.K Hb Gb G1 dl ε2 D2 σ H ∧ forGo gp mb (ps.drop i) ε2 D2 = some (r, ε', D'), ⟨ps.length, by simp, Nat.zero_le _, ε, D1, ⟨G1, rg1, Sub.refl _⟩, by simpa using e⟩, ?_⟩
  have low : ∀ {ε D σ H}, RS X.K Hb Gb G1 dl ε D σ H → RS X.K Hb Gb F dl ε D σ H := fun ⟨G, rg, s⟩ => ⟨G, rg, sf.trans s⟩
  rintro i m σ2 H2 ⟨rfl, hi, ε2, D2, ⟨G2, rg2, s2⟩, ego⟩
  by_cases hlt : i < ps.length
  · refine .inr ⟨wk.go (s2.trans rg2.sub) hlt, fun σ' H' => ∃ ε3 D3, RS X.K Hb Gb G1 dl ε3 D3 σ' H' ∧ forGo gp mb (ps.drop (i + 1)) ε3 D3 = some (r, ε', D'), fun σ' H' hN => ?_, fun x H3 hy => ?_⟩
    · obtain ⟨ε3, D3, a1, a2⟩ := hN
      exact ⟨ps.length - (i + 1), by omega, rfl, hlt, ε3, D3, a1, a2⟩
    · have eg : ps[i]? = some ps[i] := List.getElem?_eq_getElem hlt
      obtain ⟨G3, P3, rx⟩ := wk.yld s2 rg2.sub rg2.post.dok hy eg
      have rg3 := rg2.step P3
      have ed : ps.drop i = ps[i] :: ps.drop (i + 1) := List.drop_eq_getElem_cons hlt
      rw [ed] at ego
      simp only [forGo] at ego
      split at ego
      · cases ego
      · rename_i as eas
        refine ⟨G3, dl, D2, _, as, rg3.sub, rg3.post.dok, rx, eas, fun avs f1 f2 => ?_⟩
        have rs4 : RS X.K Hb Gb G1 dl (setS ε2 as) D2 (setV σ2 avs) H3 := ⟨G3, rg3.setAs f1 f2, s2.trans P3.sg⟩
        refine ⟨Hb, Gb, G1, dl, _, D2, rs4, ?_⟩
        split at ego
        · rename_i ε5 D5 e5
          exact ⟨_, _, _, e5, fun σ' H' rs => ⟨ε5, D5, rs, ego⟩⟩
        · rename_i ε5 D5 e5
          exact ⟨_, _, _, e5, fun σ' H' rs => ⟨ε5, D5, rs, ego⟩⟩
        · rename_i ε5 D5 e5
          cases ego
          exact ⟨_, _, _, e5, fun σ' H' rs => q σ' H' (low rs)⟩
        · rename_i n1 n2 n3
          refine ⟨r, ε', D', ego, ?_⟩
          cases r with
          | ex x => exact q
          | ok f =>
            cases f with
            | nx => exact absurd ego (n1 _ _)
            | ct => exact absurd ego (n2 _ _)
            | bk => exact absurd ego (n3 _ _)
            | rt p => exact q
  · have ed : ps.drop i = [] := List.drop_eq_nil_iff.mpr (by omega)
    rw [ed] at ego
    cases ego
    exact .inl ⟨wk.stop (s2.trans rg2.sub) (by omega), q _ _ (low ⟨G2, rg2, s2⟩)⟩

/-! ### while -/
def whileGo (mt : M Bool) (mb : SM) : Nat → SM
  | 0 => fun _ _ => none
  | n + 1 => sXs mt fun b => if b = true then (fun ε D => match mb ε D with
      | some (.ok .nx, ε1, D1) => whileGo mt mb n ε1 D1
      | some (.ok .ct, ε1, D1) => whileGo mt mb n ε1 D1
      | some (.ok .bk, ε1, D1) => some (.ok .nx, ε1, D1)
      | r => r) else fun ε D => some (.ok .nx, ε, D)
theorem ds_while {body : List Stmt} {mb : SM} (n : Nat) (hp : PassesOwn (model X.prog X.w) X.A X.env X.xe) (hc : DT X E c mt) (hb : DSs X E body mb) : DS X E (.While c body [] pos) (whileGo mt mb n) := ps_to (ps_while hp hc hb) fun Dn σ H ⟨Hb, Gb, F, dl, ε, D, h⟩ => by
  refine ⟨fun m σ H => ∃ ε2 D2, tSc X.K X.mg E (whileGo mt mb m) Hb Gb F dl ε2 D2 Dn σ H, ⟨n, ε, D, h⟩, ?_⟩
  rintro m σ2 H2 ⟨ε2, D2, h2⟩
  cases m with
  | zero => obtain ⟨_, r, ε', D', e, q⟩ := h2; cases e
  | succ m =>
    refine sXs_of h2 ?_
    intro v p Gx G1 H1 D1 nt eG rg1 sf r1 h1
    cases (r1 : v = p)
    obtain ⟨rs1, r, ε', D', ego, q⟩ := h1
    cases v with
    | true =>
      rw [if_pos rfl] at ego ⊢
      refine ⟨fun σ' H' => ∃ ε4 D4, tSc X.K X.mg E (whileGo mt mb m) Hb Gb F dl ε4 D4 Dn σ' H', fun σ' H' hN => ⟨m, Nat.lt_succ_self m, hN⟩, ?_⟩
      refine ⟨Hb, Gb, F, dl, ε2, D1, rs1, ?_⟩
      split at ego
      · rename_i ε5 D5 e5
        exact ⟨_, _, _, e5, fun σ' H' rs => ⟨ε5, D5, rs, r, ε', D', ego, q⟩⟩
      · rename_i ε5 D5 e5
        exact ⟨_, _, _, e5, fun σ' H' rs => ⟨ε5, D5, rs, r, ε', D', ego, q⟩⟩
      · rename_i ε5 D5 e5
        cases ego
        exact ⟨_, _, _, e5, fun σ' H' rs => q σ' H' rs⟩
      · rename_i n1 n2 n3
        refine ⟨r, ε', D', ego, ?_⟩
        cases r with
        | ex x => exact q
        | ok f =>
          cases f with
          | nx => exact absurd ego (n1 _ _)
          | ct => exact absurd ego (n2 _ _)
          | bk => exact absurd ego (n3 _ _)
          | rt p => exact q
    | false =>
      rw [if_neg Bool.false_ne_true] at ego ⊢
      cases ego
      exact q _ _ ⟨G1, rg1, sf⟩

/-! ### a, b = e1, e2: values and new lists -/
/-- what arguments give: values, new lists -/
structure SlA (K : PySem.W.Frag) (dl : DAt) (H G' H' : Hp) (vs : List V) (ss : List Slot) : Prop where
  len : vs.length = ss.length
  val : ∀ (k : Nat) (p : PV), ss[k]? = some (.val p) → ∃ v, vs[k]? = some v ∧ Rep K dl G' v p
  own : ∀ (k : Nat) (ps : List PV), ss[k]? = some (.own ps) → ∃ v, vs[k]? = some v ∧ RL K dl H G' H' v ps
  dis : ∀ (k l : Nat) (a : Addr) (ps qs : List PV), ss[k]? = some (.own ps) → ss[l]? = some (.own qs) → vs[k]? = some (.ref a) → vs[l]? = some (.ref a) → k = l
abbrev RSl (K : PySem.W.Frag) : RR (List V) (List Slot) := fun dl H G' H' vs ss => SlA K dl H G' H' vs ss
theorem mono_Sl {K : PySem.W.Frag} : RMono (RSl K) := ⟨fun p h => ⟨h.len, h.val, fun k ps e => let ⟨v, a, b⟩ := h.own k ps e; ⟨v, a, mono_L.go p b⟩, h.dis⟩⟩
def DM (X : Cx) (E : XK) (es : List Expr) (m : M (List Slot)) : Prop := PA X es (tG X.K X.mg E (RSl X.K) m)
@[reducible] def mNil : M (List Slot) := mPure []
@[reducible] def mVal (m : M PV) (ms : M (List Slot)) : M (List Slot) := mBind m fun p => mBind ms fun ss => mPure (.val p :: ss)
@[reducible] def mOwn (m : M (List PV)) (ms : M (List Slot)) : M (List Slot) := mBind m fun ps => mBind ms fun ss => mPure (.own ps :: ss)
theorem dm_nil : DM X E [] mNil := by
  refine pa_to pa_nil ?_
  rintro σ H Q ⟨G, dl, ε, D, h⟩
  obtain ⟨re, q⟩ := donep h
  exact q [] G H re.refl ⟨rfl, fun _ _ e => (by simp at e), fun _ _ e => (by simp at e), fun _ _ _ _ _ e => (by simp at e)⟩
/-- two parts, then a pure end: all told of the ahead heap -/
theorem two {α β γ α' β' γ' : Type} {K : PySem.W.Frag} {mg : Mg} {R1 : RR β α} {R2 : RR β' α'} {R : RR γ' γ} {m : M α} {ms : M α'} {f : α → α' → γ} {G H : Hp} {dl : DAt} {ε : Ev} {D : Dl} {σ : L2.St} {Q : γ' → Hp → Prop} {g : β → β' → γ'}
    (h : tGc K mg E R (mBind m fun p => mBind ms fun q => mPure (f p q)) G dl ε D σ H Q)
    (k : ∀ {v p w q G1 H1 D1 G2 H2 D2}, Post G dl D1 H G1 H1 → R1 dl H G1 H1 v p → Post G1 dl D2 H1 G2 H2 → R2 dl H1 G2 H2 w q → R dl H G2 H2 (g v w) (f p q)) :
    tG K mg E R1 m σ H fun v H1 => tG K mg E R2 ms σ H1 fun w H2 => Q (g v w) H2 := by
  obtain ⟨re, r, D', e, hr⟩ := h
  refine ⟨G, dl, ε, D, re, ?_⟩
  unfold mBind at e
  split at e
  · cases e
  · rename_i x D1 e1
    cases e
    exact ⟨.ex x, _, e1, hr⟩
  · rename_i p D1 e1
    refine ⟨.ok p, D1, e1, fun v G1 H1 P1 r1 => ⟨G1, dl, ε, D1, re.step P1, ?_⟩⟩
    dsimp only at e
    split at e
    · cases e
    · rename_i x D2 e2
      cases e
      exact ⟨.ex x, _, e2, fun c od G2 H2 P2 rx => hr c od G2 H2 (P1.trans P2) rx⟩
    · rename_i q D2 e2
      cases e
      exact ⟨.ok q, _, e2, fun w G2 H2 P2 r2 => hr _ G2 H2 (P1.trans P2) (k P1 r1 P2 r2)⟩
theorem SlA.mono {K : PySem.W.Frag} {dl : DAt} {D1 : Dl} {G G1 H H1 G2 H2 : Hp} {vs : List V} {ss : List Slot} (p : Post G dl D1 H G1 H1) (h : SlA K dl H1 G2 H2 vs ss) : SlA K dl H G2 H2 vs ss := mono_Sl.go p h
theorem sl_val {K : PySem.W.Frag} {dl : DAt} {H G2 H2 : Hp} {v : V} {p : PV} {vs : List V} {ss : List Slot} (r : Rep K dl G2 v p) (s : SlA K dl H G2 H2 vs ss) : SlA K dl H G2 H2 (v :: vs) (.val p :: ss) := by
  refine ⟨by simp [s.len], fun k p e => ?_, fun k ps e => ?_, fun k l a ps qs e1 e2 f1 f2 => ?_⟩
  · cases k with
    | zero => simp at e; subst e; exact ⟨v, rfl, r⟩
    | succ k => exact s.val k p (by simpa using e)
  · cases k with
    | zero => simp at e
    | succ k => exact s.own k ps (by simpa using e)
  · cases k with
    | zero => simp at e1
    | succ k =>
      cases l with
      | zero => simp at e2
      | succ l => rw [s.dis k l a ps qs (by simpa using e1) (by simpa using e2) (by simpa using f1) (by simpa using f2)]
theorem sl_own {K : PySem.W.Frag} {dl : DAt} {H G2 H2 : Hp} {v : V} {p : List PV} {vs : List V} {ss : List Slot} (r : RL K dl H G2 H2 v p) (s : SlA K dl H G2 H2 vs ss) (n : ∀ (k : Nat) (ps : List PV), ss[k]? = some (.own ps) → vs[k]? ≠ some v) : SlA K dl H G2 H2 (v :: vs) (.own p :: ss) := by
  refine ⟨by simp [s.len], fun k p e => ?_, fun k ps e => ?_, fun k l a ps qs e1 e2 f1 f2 => ?_⟩
  · cases k with
    | zero => simp at e
    | succ k => exact s.val k p (by simpa using e)
  · cases k with
    | zero => simp at e; subst e; exact ⟨v, rfl, r⟩
    | succ k => exact s.own k ps (by simpa using e)
  · cases k with
    | zero =>
      cases l with
      | zero => rfl
      | succ l =>
        simp at f1
        subst f1
        exact absurd (by simpa using f2) (n l qs (by simpa using e2))
    | succ k =>
      cases l with
      | zero =>
        simp at f2
        subst f2
        exact absurd (by simpa using f1) (n k ps (by simpa using e1))
      | succ l => rw [s.dis k l a ps qs (by simpa using e1) (by simpa using e2) (by simpa using f1) (by simpa using f2)]
theorem RL.keep {K : PySem.W.Frag} {dl : DAt} {D2 : Dl} {H G1 H1 G2 H2 : Hp} {v : V} {ps : List PV} (r : RL K dl H G1 H1 v ps) (P : Post G1 dl D2 H1 G2 H2) : RL K dl H G2 H2 v ps := by
  obtain ⟨a, vs, rfl, n1, n2, n3, n4, n5⟩ := r
  exact ⟨a, vs, rfl, n1, (P.fr a (by rw [n4]; simp)).trans n2, n3, P.keep a _ n4 n3, n5.up P.sg⟩
theorem dm_val {mm : M (List Slot)} (h1 : DE X E e ma) (h2 : DM X E es mm) (hs : starEach (e :: es) X.env = (false, eval e X.env) :: starEach es X.env := by rfl) : DM X E (e :: es) (mVal ma mm) := by
  refine pa_to (pa_cons h1 h2 hs) ?_
  rintro σ H Q ⟨G, dl, ε, D, h⟩
  exact two (R1 := RV X.K) (R2 := RSl X.K) (g := fun v vs => v :: vs) h fun P1 r1 P2 r2 => sl_val (Rep.up r1 P2.sg) (SlA.mono P1 r2)
theorem dm_own {mm : M (List Slot)} {ml : M (List PV)} (h1 : DL X E e ml) (h2 : DM X E es mm) (hs : starEach (e :: es) X.env = (false, eval e X.env) :: starEach es X.env := by rfl) : DM X E (e :: es) (mOwn ml mm) := by
  refine pa_to (pa_cons h1 h2 hs) ?_
  rintro σ H Q ⟨G, dl, ε, D, h⟩
  refine two (R1 := RL X.K) (R2 := RSl X.K) (g := fun v vs => v :: vs) h fun P1 r1 P2 r2 => sl_own (RL.keep r1 P2) (SlA.mono P1 r2) fun k ps e hv => ?_
  obtain ⟨w, e1, b, ws, rfl, m1, _⟩ := r2.own k ps e
  obtain ⟨a, vs, rfl, n1, n2, n3, n4, n5⟩ := r1
  rw [hv] at e1
  cases e1
  rw [n4] at m1
  cases m1

/-! ### stored at places -/
def setSl (ε : Sv) : List (Nat × Slot) → Sv
  | [] => ε
  | (i, s) :: r => setSl (ε.set i s) r
/-- all own ones among the rest are new to the slots -/
theorem RG.setSl {K : PySem.W.Frag} {Hb Gb G H : Hp} {dl : DAt} {D : Dl} : ∀ {is : List Nat} {ss : List Slot} {vs : List V} {ε : Sv} {σ : L2.St}, RG K Hb Gb dl G ε D σ H → is.length = ss.length → vs.length = ss.length → (∀ s ∈ ss, s ≠ .un) →
    (∀ (k : Nat) (p : PV), ss[k]? = some (.val p) → ∃ v, vs[k]? = some v ∧ Rep K dl G v p) →
    (∀ (k : Nat) (ps : List PV), ss[k]? = some (.own ps) → ∃ a ws, vs[k]? = some (.ref a) ∧ Hb a = none ∧ G a = none ∧ ¬ dlAt dl a ∧ H a = some (.lst ws) ∧ RepA K dl G ws ps ∧ ∀ (j : Nat) (qs : List PV), ε[j]? = some (.own qs) → σ[j]? ≠ some (some (.ref a))) →
    (∀ (k l : Nat) (a : Addr) (ps qs : List PV), ss[k]? = some (.own ps) → ss[l]? = some (.own qs) → vs[k]? = some (.ref a) → vs[l]? = some (.ref a) → k = l) →
    RG K Hb Gb dl G (Pu.setSl ε (is.zip ss)) D (setV σ (is.zip vs)) H
  | [], [], [], ε, σ, rg, _, _, _, _, _, _ => rg
  | [], [], _ :: _, _, _, _, _, h, _, _, _, _ => by cases h
  | [], _ :: _, _, _, _, _, h, _, _, _, _, _ => by cases h
  | _ :: _, [], _, _, _, _, h, _, _, _, _, _ => by cases h
  | _ :: _, _ :: _, [], _, _, _, _, h, _, _, _, _ => by cases h
  | i :: is, s :: ss, v :: vs, ε, σ, rg, hi, hv, hu, h1, h2, h3 => by
    show RG K Hb Gb dl G (Pu.setSl (ε.set i s) (is.zip ss)) D (setV (σ.set i (some v)) (is.zip vs)) H
    have hv' : ∀ (k : Nat) (p : PV), ss[k]? = some (.val p) → ∃ v, vs[k]? = some v ∧ Rep K dl G v p := fun k p e => h1 (k + 1) p (by simpa using e)
    have hd' : ∀ (k l : Nat) (a : Addr) (ps qs : List PV), ss[k]? = some (.own ps) → ss[l]? = some (.own qs) → vs[k]? = some (.ref a) → vs[l]? = some (.ref a) → k = l := fun k l a ps qs e1 e2 f1 f2 => by
      have := h3 (k + 1) (l + 1) a ps qs (by simpa using e1) (by simpa using e2) (by simpa using f1) (by simpa using f2)
      omega
    have new' : ∀ {a : Addr} {b : Addr} {k : Nat} {ps : List PV}, vs[k]? = some (.ref a) → ss[k]? = some (.own ps) → (∀ (j : Nat) (qs : List PV), ε[j]? = some (.own qs) → σ[j]? ≠ some (some (.ref a))) → (∀ ps', s = .own ps' → v ≠ .ref a) →
        ∀ (j : Nat) (qs : List PV), (ε.set i s)[j]? = some (.own qs) → (σ.set i (some v))[j]? ≠ some (some (.ref a)) := fun {a b k ps} hk hs hn hne j qs hj hx => by
      by_cases z : i = j
      · subst z
        have hl : i < ε.length := by
          have := (List.getElem?_eq_some_iff.mp hj).1
          simpa using this
        rw [List.getElem?_set_self hl] at hj
        cases hj
        rw [List.getElem?_set_self (by rw [← rg.len]; exact hl)] at hx
        injection hx with hx
        injection hx with hx
        exact hne _ rfl hx
      · rw [List.getElem?_set_ne z] at hj hx
        exact hn j qs hj hx
    cases s with
    | un => exact absurd rfl (hu _ List.mem_cons_self)
    | val p =>
      obtain ⟨w, e, r⟩ := h1 0 p rfl
      cases e
      refine RG.setSl (rg.setVal r) (by simpa using hi) (by simpa using hv) (fun s hs => hu s (List.mem_cons_of_mem _ hs)) hv' (fun k ps e => ?_) hd'
      obtain ⟨a, ws, e1, e2, e3, e4, e5, e6, e7⟩ := h2 (k + 1) ps (by simpa using e)
      exact ⟨a, ws, by simpa using e1, e2, e3, e4, e5, e6, new' (b := a) (by simpa using e1) e e7 fun _ z => nomatch z⟩
    | own ps0 =>
      obtain ⟨a0, ws0, e1, e2, e3, e4, e5, e6, e7⟩ := h2 0 ps0 rfl
      cases e1
      refine RG.setSl (rg.setOwn e2 e3 e4 e5 e6 fun j qs _ hj => e7 j qs hj) (by simpa using hi) (by simpa using hv) (fun s hs => hu s (List.mem_cons_of_mem _ hs)) hv' (fun k ps e => ?_) hd'
      obtain ⟨a, ws, f1, f2, f3, f4, f5, f6, f7⟩ := h2 (k + 1) ps (by simpa using e)
      refine ⟨a, ws, by simpa using f1, f2, f3, f4, f5, f6, new' (b := a) (by simpa using f1) e f7 fun _ _ z => ?_⟩
      cases z
      have := h3 0 (k + 1) _ ps0 ps rfl (by simpa using e) rfl (by simpa using f1)
      omega
def noUn : Slot → Bool
  | .un => false
  | _ => true
def sPar (is : List Nat) (ss : List Slot) : SM := fun ε D => if (decide (is.length = ss.length) && ss.all noUn) = true then some (.ok .nx, setSl ε (is.zip ss), D) else none
theorem par_core {K : PySem.W.Frag} {mg : Mg} {is : List Nat} {vs : List V} {ss : List Slot} {Hb Gb F G G1 H H1 : Hp} {dl : DAt} {ε : Sv} {D D1 : Dl} {Dn : Ends} {σ : L2.St} (rg : RG K Hb Gb dl G ε D σ H) (rg1 : RG K Hb Gb dl G1 ε D1 σ H1) (sf : Sub F G1) (rv : SlA K dl H G1 H1 vs ss) (h : tSc K mg E (sPar is ss) Hb Gb F dl ε D1 Dn σ H1) :
    is.length = vs.length ∧ Dn.nx (setV σ (is.zip vs)) H1 := by
  obtain ⟨_, r, ε', D', e, q⟩ := h
  obtain ⟨hl, e⟩ := ifs_of e
  cases e
  rw [Bool.and_eq_true] at hl
  have hl1 : is.length = ss.length := of_decide_eq_true hl.1
  refine ⟨by rw [hl1, rv.len], q _ _ ⟨G1, rg1.setSl hl1 rv.len (fun s hs z => ?_) rv.val (fun k ps e => ?_) rv.dis, sf⟩⟩
  · have := List.all_eq_true.mp hl.2 s hs
    subst z
    cases this
  · obtain ⟨v, e1, a, ws, rfl, n1, n2, n3, n4, n5⟩ := rv.own k ps e
    obtain ⟨hb, no⟩ := rg.fresh n1
    exact ⟨a, ws, e1, hb, n2, n3, n4, n5, no⟩
theorem ds_par {i j : Nat} {mm : M (List Slot)} (h : PS X st (tPar i j (tG X.K X.mg E (RSl X.K) mm))) : DS X E st (sX mm (sPar [i, j])) := ps_to h fun Dn σ H ⟨Hb, Gb, F, dl, ε, D, h⟩ => by
  refine sX_of h ?_
  intro vs ss G G1 H1 D1 rg P1 rg1 sf r1 h1
  obtain ⟨hl, q⟩ := par_core rg rg1 sf r1 h1
  match vs, hl with
  | [v, w], _ => exact ⟨v, w, rfl, q⟩
end
end Pu
set_option Elab.async false
set_option linter.all false
set_option maxRecDepth 100000
set_option maxHeartbeats 4000000
namespace Pu
open PySem PySem.Spec PyProof.Rows L2
section
variable {X : Cx} {E : XK} {pos p2 : Pos} {a b c e : Expr} {es rest : List Expr} {st : Stmt} {sts : List Stmt} {ma mb mc : M PV} {mt mu : M Bool} {ms mk : M (List PV)} {m1 m2 : SM}
/-! ### a, b = e1, e2 by a tuple -/
def gNames : List Nat → TGs
  | [] => gNil
  | i :: is => gCons (gName i) (gNames is)
theorem gNames_of {H : Hp} {Q : L2.St → Hp → Prop} : ∀ {is : List Nat} {vs : List V} {σ : L2.St}, is.length = vs.length → Q (setV σ (is.zip vs)) H → gNames is vs σ H Q
  | [], [], _, _, q => ⟨rfl, q⟩
  | [], _ :: _, _, h, _ => by cases h
  | _ :: _, [], _, h, _ => by cases h
  | i :: is, v :: vs, σ, h, q => ⟨v, vs, rfl, gNames_of (by simpa using h) q⟩
theorem SlA.keep {K : PySem.W.Frag} {dl : DAt} {D2 : Dl} {H G1 H1 G2 H2 : Hp} {vs : List V} {ss : List Slot} (s : SlA K dl H G1 H1 vs ss) (P : Post G1 dl D2 H1 G2 H2) : SlA K dl H G2 H2 vs ss :=
  ⟨s.len, fun k p e => let ⟨v, a, b⟩ := s.val k p e; ⟨v, a, b.up P.sg⟩, fun k ps e => let ⟨v, a, b⟩ := s.own k ps e; ⟨v, a, b.keep P⟩, s.dis⟩
theorem ds_parT {is : List Nat} {n : Nat} {mm : M (List Slot)} (hn : is.length = n) (hz : n ≤ 1000) (h : PS X st (tAsg (tTup (tG X.K X.mg E (RSl X.K) mm)) (gTup X.K n (gNames is)))) : DS X E st (sX mm (sPar is)) := ps_to h fun Dn σ H ⟨Hb, Gb, F, dl, ε, D, h⟩ => by
  refine sX_of h ?_
  intro vs ss G G1 H1 D1 rg P1 rg1 sf r1 h1
  obtain ⟨hl, _⟩ := par_core (Dn := Dn) rg rg1 sf r1 h1
  refine ⟨by rw [← hl, hn]; exact Nat.le_trans hz (by decide), fun p hp => ⟨p, vs, rfl, .inl (.inl upd_same), by rw [← hl, hn], ?_⟩⟩
  have N := Post.newOwn (o := .tup vs) rg1.sub rg1.post.dok hp
  have rg2 := rg1.step N
  obtain ⟨_, r, ε', D', e, q⟩ := h1
  exact gNames_of hl (par_core (Dn := Dn) rg rg2 sf (SlA.keep r1 N) ⟨⟨_, rg2, sf⟩, r, ε', D', e, q⟩).2

/-! ### a def -/
def initS (n : Nat) (ps : List PV) : Sv := ps.map Slot.val ++ List.replicate (n - ps.length) .un
def fnM (n : Nat) (m : SM) : FM := fun ps D => match m (initS n ps) D with
  | some (.ok (.rt p), _, D') => some (.ok p, D')
  | some (.ok .nx, _, D') => some (.ok .non, D')
  | some (.ex x, _, D') => some (.ex x, D')
  | _ => none
theorem init_val {n : Nat} {ps : List PV} {i : Nat} {s : Slot} (h : (initS n ps)[i]? = some s) : (∃ p, s = .val p ∧ ps[i]? = some p) ∨ s = .un := by
  unfold initS at h
  by_cases hi : i < ps.length
  · rw [List.getElem?_append_left (by simpa using hi), List.getElem?_map, Option.map_eq_some_iff] at h
    obtain ⟨p, h1, h2⟩ := h
    exact .inl ⟨p, h2.symm, h1⟩
  · rw [List.getElem?_append_right (by simpa using hi), List.getElem?_replicate] at h
    split at h
    · exact .inr (Option.some.inj h).symm
    · cases h
theorem start_val {N : List Str} {vs : List V} {i : Nat} {v : V} (h : vs[i]? = some v) : (L2.start N vs)[i]? = some (some v) := by
  unfold L2.start
  rw [List.getElem?_append_left (by
    have := (List.getElem?_eq_some_iff.mp h).1
    simpa using this), List.getElem?_map, h]
  rfl
theorem fn_ok {P : Program} {w : World} {K : PySem.W.Frag} {mg : Str → Option Value} {base : Heap} {x qual : Str} {st : Stmt} {f : Addr} {fd : FuncData} {N ps : List Str} {k n : Nat} {m : SM} (F : Fun K x qual st f fd) (S : FnScope N ps (defScope st)) (hn : ps.length = n)
    (body : ∀ (cdv : Value) (A : Around) (outer : List Env) (s : Shared) (H : Hp) (E : XK), Room k (A.deeper (envOfC qual (defScope st) s.heap.objs.size f cdv)) → DSs (cxOf (L2.CX P w) P w K mg base N qual (defScope st) f cdv A outer s H E) E (defBody st) m) :
    FnOk P w K mg base (L2.CX P w) (k + 1) f fd ps (spF K mg n (fnM N.length m)) := by
  refine F.okX S (fun vs H Q E ⟨G, dl, D, qs, r, D', s, d, ra, hl, _⟩ => by rw [ra.length, hl, hn]) fun cdv A outer s H vs Q E hr ⟨G, dl, D, qs, r, D', sG, d, ra, hl, e, hr2⟩ => ⟨_, body cdv A outer s H E hr, ?_⟩
  have hle : ps.length ≤ N.length := by
    have := congrArg List.length S.pre
    rw [List.length_take] at this
    omega
  have hvs : vs.length = ps.length := by rw [ra.length, hl, hn]
  have rs : RS K H G G dl (initS N.length qs) D (L2.start N vs) H := by
    refine ⟨G, ⟨?_, .refl sG d, fun i p h => ?_, fun i ps h => ?_, fun i j a ps qs h => ?_⟩, Sub.refl _⟩
    · unfold initS L2.start
      simp only [List.length_append, List.length_map, List.length_replicate]
      have := ra.length
      omega
    · rcases init_val h with ⟨q, h1, h2⟩ | h1
      · cases h1
        obtain ⟨v, f1, f2⟩ := ra.get h2
        exact ⟨v, start_val f1, f2⟩
      · cases h1
    · rcases init_val h with ⟨q, h1, h2⟩ | h1 <;> cases h1
    · rcases init_val h with ⟨q, h1, h2⟩ | h1 <;> cases h1
  refine ⟨H, G, G, dl, _, D, rs, ?_⟩
  unfold fnM at e
  split at e
  · rename_i p ε1 D1 e1
    cases e
    exact ⟨_, _, _, e1, hr2⟩
  · rename_i ε1 D1 e1
    cases e
    refine ⟨_, _, _, e1, fun σ1 H1 ⟨G1, rg1, _⟩ => hr2 .non G1 H1 rg1.post .non⟩
  · rename_i x ε1 D1 e1
    cases e
    exact ⟨_, _, _, e1, hr2⟩
  · cases e
theorem rm_of {X : Cx} {k : Nat} (hr : Room k X.A) : Rm X := by
  have := hr.un
  unfold Rm
  omega
end
end Pu
set_option Elab.async false
set_option linter.all false
set_option maxRecDepth 100000
set_option maxHeartbeats 4000000
namespace Pu
open PySem PySem.Spec PyProof.Rows L2
section
variable {prog : Program} {w : World} {A : Around} {E : Value → Shared → Prop} {s : Shared}
open HT
theorem adjust_rev (n : Nat) : Builtin.Slice.sliceAdjust none none (-1) (n : Int) = ((n : Int) - 1, -1) := by
  unfold Builtin.Slice.sliceAdjust
  simp
theorem places_rev (n : Nat) : Builtin.Slice.slicePlaces ((n : Int) - 1) (-1) (-1) = n := by
  unfold Builtin.Slice.slicePlaces
  simp
  omega
theorem sliceApplied_rev {sl : Addr} {vl vu vs : Value} {n : Nat} {Q : Int × Int × Nat → Shared → Prop} (hs : s.heap.IsSliceOf sl vl vu vs) (pl : IsPart vl none) (pu : IsPart vu none) (ps : IsPart vs (some (-1)))
    (h : Q ((n : Int) - 1, -1, n) s) : wpAny (model prog w) A (Builtin.Slice.sliceApplied (.ref sl) (pure (n : Int))) Q E s := by
  obtain ⟨os, hos, hcs, hds⟩ := id hs
  unfold Builtin.Slice.sliceApplied Builtin.Slice.sliceFields
  refine wpAny_bind (wpAny_bind (wpAny_field hos hds (x := vl) rfl (wpAny_bind (wpAny_field hos hds (x := vu) rfl (wpAny_bind (wpAny_field hos hds (x := vs) rfl (wpAny_pure ?_)))))))
  refine wpAny_bind (slicePart_ ps ?_)
  show wpAny _ _ (if ((-1 : Int) == 0) = true then _ else _) _ _ s
  rw [if_neg (by decide)]
  refine wpAny_bind (slicePart_ pl (wpAny_bind (slicePart_ pu (wpAny_bind (wpAny_pure ?_)))))
  show wpAny _ _ (match Builtin.Slice.sliceAdjust none none (-1) (n : Int) with | (lo, hi) => pure (lo, (-1 : Int), Builtin.Slice.slicePlaces lo hi (-1))) _ _ s
  rw [adjust_rev n]
  show wpAny _ _ (pure ((n : Int) - 1, (-1 : Int), Builtin.Slice.slicePlaces ((n : Int) - 1) (-1) (-1))) _ _ s
  rw [places_rev]
  exact wpAny_pure h
theorem pick_rev (xs : Array Value) : ((List.range xs.size).filterMap fun (m : Nat) => xs[((xs.size : Int) - 1 + (m : Int) * (-1)).toNat]?).toArray = xs.toList.reverse.toArray := by
  congr 1
  have e : ∀ (n : Nat) (ys : List Value), ys.length = n → (∀ m, m < n → xs[((xs.size : Int) - 1 + (m : Int) * (-1)).toNat]? = ys[m]?) → ((List.range n).filterMap fun (m : Nat) => xs[((xs.size : Int) - 1 + (m : Int) * (-1)).toNat]?) = ys := by
    intro n
    induction n with
    | zero => intro ys h _; simp at h; subst h; rfl
    | succ n ih =>
      intro ys h g
      rw [List.range_succ, List.filterMap_append, ih (ys.take n) (by simp; omega) fun m hm => by rw [g m (by omega), List.getElem?_take_of_lt hm]]
      have hn : ys[n]? = some (ys[n]'(by omega)) := List.getElem?_eq_getElem _
      simp only [List.filterMap_cons, List.filterMap_nil]
      rw [g n (by omega), hn]
      simp only
      have := List.take_append_getElem (l := ys) (i := n) (by omega)
      rw [this, List.take_of_length_le (by omega)]
  refine e _ _ (by simp) fun m hm => ?_
  rw [List.getElem?_reverse (by simpa using hm)]
  have : ((xs.size : Int) - 1 + (m : Int) * (-1)).toNat = xs.toList.length - 1 - m := by simp; omega
  rw [this]
  simp
theorem getItem_tuple_rev {t sl : Addr} {items : Array Value} {vl vu vs : Value} {Q : Value → Shared → Prop} (ht : IsTup s.heap t items) (hs : s.heap.IsSliceOf sl vl vu vs) (pl : IsPart vl none) (pu : IsPart vu none) (ps : IsPart vs (some (-1)))
    (h : Q (.ref s.heap.objs.size) { s with heap := s.heap.push { cls := .type "tuple", data := .seq items.toList.reverse.toArray } })
    (hsz : items.size ≤ sizeLine) : wpAny (model prog w) A (getItem (.ref t) (.ref sl)) Q E s := by
  have htake : sizeOk (.seq items.toList.reverse.toArray) := by
    show items.toList.reverse.toArray.size ≤ sizeLine
    simpa using hsz
  obtain ⟨os, hos, hcs, hds⟩ := id hs
  have hTs : s.TypeIs (.ref sl) "slice" := ⟨os, hos, hcs⟩
  unfold getItem
  try with_reducible refine wpAny_holding ?_
  first | refine wpAny_bind (wpAny_pure ?_) | skip
  refine wpAny_bind (wpAny_sequenceKey ht.typeIs (by decide) ?_)
  refine wpAny_bind (wpAny_callSpecial?_slot (name := Str.ofString "__getitem__") ht.typeIs PyProof.Rows.slot_tuple_getitem
    (wpAny_call_entry PyProof.Rows.slot_tuple_getitem ht.typeIs entry_tuple_getitem ?_ (args_tuple_getitem _ _)))
  show wpAny _ _ (Builtin.Tuple.tupleItemsOf (.ref t) >>= _) _ _ s
  refine wpAny_bind (tupleItemsOf_ ht ?_)
  refine wpAny_bind (wpAny_typeOf hTs ?_)
  rw [if_pos (by decide)]
  refine wpAny_bind (sliceApplied_rev hs pl pu ps ?_)
  have hno : ¬ ((((items.size : Int) - 1) == 0 && (-1 : Int) == 1 && items.size == items.size) = true) := by simp
  show wpAny _ _ (if (((items.size : Int) - 1) == 0 && (-1 : Int) == 1 && items.size == items.size) = true then _ else _) _ _ s
  rw [if_neg hno, pick_rev]
  first
    | exact wpAny_bind (m := Builtin.Tuple.tupleExact _) (wpAny_newObj_type (wpAny_pure ⟨_, rfl, wpAny_pure h⟩) htake)
    | exact wpAny_bind (m := Builtin.Tuple.tupleExact _) (wpAny_newObj_type (wpAny_bind (wpAny_pure (wpAny_pure ⟨_, rfl, wpAny_pure h⟩))) htake)
    | exact wpAny_bind (wpAny_bind (m := Builtin.Tuple.tupleExact _) (wpAny_newObj_type (wpAny_pure (wpAny_pure ⟨_, rfl, wpAny_pure h⟩)) htake))
    | exact wpAny_bind (wpAny_bind (m := Builtin.Tuple.tupleExact _) (wpAny_newObj_type (wpAny_pure ⟨_, rfl, wpAny_pure h⟩) htake))
end
section
variable {X : Cx} {E : XK} {pos p1 p2 p3 : Pos} {e : Expr} {ma : M PV} {te : TE}
def tRevT (K : PySem.W.Frag) (te : TE) : TE := fun σ H Q => te σ H fun x H1 => ∃ a xs, x = .ref a ∧ SqT K H1 a xs ∧ ∀ p, H1 p = none → Q (.ref p) (upd H1 p (.tup xs.reverse))
theorem pe_revT {k : Nat} (he : PE X e te) : PE X (.Subscript e (.Slice none none (some (.UnaryOp .USub (.Constant (.int 1) k p1) p2)) p3) pos) (tRevT X.K te) := by
  refine ⟨fun pins s σ H Q I h => ?_⟩
  refine Subscript_ (thn (he.run pins s σ H _ I h) fun v s1 ⟨x, H1, I1, r1, q1⟩ => ?_)
  obtain ⟨a, xs, ex, hx, q⟩ := q1
  subst ex
  cases r1
  have hst : PO X (some (.UnaryOp .USub (.Constant (.int 1) k p1) p2)) (tPart (tUn (rU fun i => .int (-i)) (tC (.int 1)))) := po_some (pe_un un_neg pe_int)
  refine wpAny_Slice (thn (po_none.run pins s1 σ H1 (fun o H2 => o = none ∧ H2 = H1) I1 ⟨rfl, rfl⟩) fun vl s2 ⟨l, H2, I2, pl, el, e2⟩ => ?_)
  subst el e2
  refine thn (po_none.run pins s2 σ H2 (fun o H3 => o = none ∧ H3 = H2) I2 ⟨rfl, rfl⟩) fun vu s3 ⟨u, H3, I3, pu, eu, e3⟩ => ?_
  subst eu e3
  refine thn (hst.run pins s3 σ H3 (fun o H4 => o = some (-1) ∧ H4 = H3) I3 ⟨1, rfl, -1, rfl, rfl, rfl⟩) fun vs s4 ⟨o, H4, I4, ps, eo, e4⟩ => ?_
  subst eo e4
  have I5 : Inv X pins σ H4 { s4 with heap := s4.heap.push { cls := .type "slice", data := .fields #[vl, vu, vs] } } := I4.kept (t' := s4.toks) fun b ob q => Heap.get?_push_of_some _ q
  obtain ⟨its, r, ht, hz⟩ := I5.tuple hx
  have hlen := r.length
  show wpAny (model X.prog X.w) X.A (subscriptTail e (.Slice none none (some (.UnaryOp .USub (.Constant (.int 1) k p1) p2)) p3) (.ref a) (.ref s4.heap.objs.size)) (EP X pins σ Q) X.xe { s4 with heap := s4.heap.push { cls := .type "slice", data := .fields #[vl, vu, vs] } }
  refine tail_any (ops := [.ref a, .ref s4.heap.objs.size]) ht.typeIs (PyProof.Rows.slot_tuple_getitem.lookup) ?_ (by with_unfolding_all rfl)
  refine getItem_tuple_rev ht (Heap.IsSliceOf.new _ vl vu vs) pl pu ps ?_ (by rw [List.size_toArray]; omega)
  refine ⟨.ref _, _, I5.laid (t' := s4.toks) (o := .tup xs.reverse) (fun b ob q => Heap.get?_push_of_some _ q) (Nat.le_refl _) ?_, rfl, q _ (I5.hok.fresh (Nat.le_refl _))⟩
  exact ⟨by rw [List.length_reverse]; exact hz, _, r.reverse, IsTup.new _ _⟩
def pvRev : PV → Option PV
  | .tup xs => some (.tup xs.reverse)
  | .lst xs => some (.lst xs.reverse)
  | _ => none
theorem de_rev {k : Nat} (he : DE X E e ma) : DE X E (.Subscript e (.Slice none none (some (.UnaryOp .USub (.Constant (.int 1) k p1) p2)) p3) pos) (eUn pvRev ma) := by
  refine pe_to (pe_or (pe_revL he) (pe_revT he)) ?_
  rintro σ H Q ⟨G, dl, ε, D, h⟩
  by_cases key : ∃ D1 ps, ma ε D = some (.ok (.lst ps), D1)
  · obtain ⟨D1', qs, key⟩ := key
    refine .inl (step' mono_V h ?_)
    intro v p G1 H1 D1 e0 re1 P1 r1 h1
    rw [key] at e0
    cases e0
    obtain ⟨z, e1, re', k⟩ := done h1
    cases e1
    cases r1 with
    | lst a1 b1 => exact ⟨_, _, rfl, .inl (.inl (re'.sub _ _ a1)), leafL re'.sub re'.dok b1.rev k⟩
  · refine .inr (step' mono_V h ?_)
    intro v p G1 H1 D1 e0 re1 P1 r1 h1
    obtain ⟨z, e1, re', k⟩ := done h1
    cases p <;> simp only [pvRev] at e1 <;> try cases e1
    · cases r1 with
      | tup a1 b1 => exact ⟨_, _, rfl, a1.sq re'.sub, leafT re'.sub re'.dok b1.rev k⟩
    · exact (key ⟨_, _, e0⟩).elim
end
end Pu
set_option Elab.async false
set_option linter.all false
set_option maxRecDepth 100000
set_option maxHeartbeats 4000000
namespace Pu
open PySem PySem.Spec PyProof.Rows L2

/-! ### the draws of the laws: _law_any -/
def strip (cs : List Int) : List Int := (cs.reverse.dropWhile (· == 0)).reverse
theorem strip_snoc0 (cs : List Int) : strip (cs ++ [0]) = strip cs := by simp [strip]
theorem strip_snoc (cs : List Int) {c : Int} (h : c ≠ 0) : strip (cs ++ [c]) = cs ++ [c] := by simp [strip, h]
theorem strip_nil : strip [] = [] := rfl
theorem strip_sub (cs : List Int) : ∀ c ∈ strip cs, c ∈ cs := fun c h => by
  unfold strip at h
  rw [List.mem_reverse] at h
  have := (List.dropWhile_sublist (fun x : Int => x == 0) (l := cs.reverse)).subset h
  simpa using this
theorem strip_len (cs : List Int) : (strip cs).length ≤ cs.length := by
  unfold strip
  rw [List.length_reverse]
  have := (List.dropWhile_sublist (fun x : Int => x == 0) (l := cs.reverse)).length_le
  simpa using this
def nextMix (m : Int) : Int := (m * 48271 + 31) % 2147483647
/-- a number below b (b from 1 on), and the deal behind -/
def anyD (d : Deal) (b : Int) : Int × Deal :=
  match h : (strip d.cells).getLast? with
  | none => (nextMix d.mix / 64 % b, ⟨[], nextMix d.mix, fun _ z => (by cases z), ⟨Int.emod_nonneg _ (by decide), Int.emod_lt_of_pos _ (by decide)⟩, by simp⟩)
  | some r => if hb : 0 < b then (r % b, ⟨(strip d.cells).dropLast ++ [r / b], d.mix, fun c hc => by
      have hr := d.ok r (strip_sub _ _ (List.mem_of_getLast? h))
      rcases List.mem_append.mp hc with q | q
      · exact d.ok c (strip_sub _ _ (List.dropLast_subset _ q))
      · rw [List.mem_singleton] at q
        subst q
        refine ⟨Int.ediv_nonneg hr.1 (by omega), Int.lt_of_le_of_lt (Int.ediv_le_self _ hr.1) hr.2⟩, d.mok, by
      have := strip_len d.cells
      have := d.len
      have h2 : strip d.cells ≠ [] := fun z => by rw [z] at h; cases h
      have : 0 < (strip d.cells).length := List.length_pos_iff.mpr h2
      simp
      omega⟩) else (0, d)
theorem anyD_lt (d : Deal) {b : Int} (hb : 0 < b) : 0 ≤ (anyD d b).1 ∧ (anyD d b).1 < b := by
  unfold anyD
  split
  · exact ⟨Int.emod_nonneg _ (by omega), Int.emod_lt_of_pos _ hb⟩
  · rw [dif_pos hb]
    exact ⟨Int.emod_nonneg _ (by omega), Int.emod_lt_of_pos _ hb⟩
def anyM : FM := fun ps D => match ps, D with
  | [.deal, .int b], some d => if 0 < b ∧ b < 1073741824 then some (.ok (.int (anyD d b).1), some (anyD d b).2) else none
  | _, _ => none
abbrev rLen1 (K : PySem.W.Frag) : List V → Hp → VK → Prop := fun xs H Q => ∃ p ys, xs = [.ref p] ∧ (SqL K H p ys ∨ SqT K H p ys) ∧ Q (.int ys.length) H
abbrev rInt1 : List V → Hp → VK → Prop := fun xs H Q => (∃ i, xs = [.int i] ∧ Q (.int i) H) ∨ ∃ k, xs = [.bl k] ∧ Q (.int (if k then 1 else 0)) H
abbrev tIx0 (K : PySem.W.Frag) : TE := tOp (rIxL K) (tVar 0) (tC (.int 0))
abbrev tIx1 (K : PySem.W.Frag) : TE := tOp (rIxL K) (tVar 0) (tC (.int 1))
abbrev tHas (K : PySem.W.Frag) : TT := tTest (tOp (rI0 fun i j => .bl (decide (j < i))) (tCB (rLen1 K) (tCons (tIx0 K) tNil)) (tC (.int 0)))
abbrev tLast0 (K : PySem.W.Frag) : TT := tTest (tOp rEq (tOp (rIxL K) (tIx0 K) (tUn (rU fun i => .int (-i)) (tC (.int 1)))) (tC (.int 0)))
abbrev tModE (ta tb : TE) : TE := tOp (rI (fun _ j => 0 < j) fun i j => .int (i % j)) ta tb
abbrev tDivE (ta tb : TE) : TE := tOp (rI CDiv fun i j => .int (i / j)) ta tb
abbrev tIntE (ta : TE) : TE := tCB rInt1 (tCons ta tNil)
abbrev tAny (K : PySem.W.Frag) : TS :=
  tSeq (tWhile (tAnd (tHas K) (tLast0 K)) (tDrop (tBM0 K "list" rPop (tIx0 K))))
  (tSeq (tIfS (tHas K) (tSeq (tAsg (tIntE (tBM0 K "list" rPop (tIx0 K))) (gName 2)) (tSeq (tDrop (tBM K "list" rAppend (tIx0 K) (tCons (tDivE (tVar 2) (tVar 1)) tNil))) (tRet (tModE (tVar 2) (tVar 1))))) tNext)
  (tSeq (tAsg (tModE (tIntE (tOp (rI0 fun i j => .int (i + j)) (tOp (rI CMul fun i j => .int (i * j)) (tIx1 K) (tC (.int 48271))) (tC (.int 31)))) (tC (.int 2147483647))) (gSub (tVar 0) (tC (.int 1)) rSetL))
  (tRet (tModE (tIntE (tDivE (tIx1 K) (tC (.int 64)))) (tVar 1)))))
theorem sqO {K : PySem.W.Frag} {H : Hp} {a : Addr} {vs : List V} (h : H a = some (.lst vs)) : SqL K H a vs := .inl (.inl h)
theorem ite_b {p : Bool} {A B : Prop} (h1 : p = true → A) (h2 : p = false → B) : if p = true then A else B := by
  cases p with
  | true => rw [if_pos rfl]; exact h1 rfl
  | false => rw [if_neg Bool.false_ne_true]; exact h2 rfl
theorem any_reads {K : PySem.W.Frag} {G H : Hp} {a l : Addr} {d : Deal} {b : Int} {Q : VK} {nx : L2.St → Hp → Prop} (s : Sub G H) (dk : DlOk G H (some (a, l)) (some d)) (hb : 0 < b) (hb2 : b < 1073741824)
    (q : ∀ H', Post G (some (a, l)) (some (anyD d b).2) H G H' → Q (.int (anyD d b).1) H') : tAny K { nx := nx, rt := Q } [some (.ref a), some (.int b), none] H := by
  obtain ⟨g1, g2, ne, ea, el⟩ := dk
  -- the zeros at the end fall
  let W : Nat → L2.St → Hp → Prop := fun m σ H1 => ∃ cs, σ = [some (.ref a), some (.int b), none] ∧ cs.length = m ∧ strip cs = strip d.cells ∧ H1 a = some (.lst [.ref l, .int d.mix]) ∧ H1 l = some (.lst (cs.map V.int)) ∧ (∀ x o, x ≠ a → x ≠ l → H x = some o → H1 x = some o) ∧ (∀ x, x ≠ a → x ≠ l → H x = none → H1 x = none)
  refine ⟨W, ⟨d.cells.length, d.cells, rfl, rfl, rfl, ea, el, fun _ _ _ _ h => h, fun _ _ _ h => h⟩, ?_⟩
  rintro m σ H1 ⟨cs, rfl, hm, hst, ea1, el1, k1, k2⟩
  have i0 : ∀ {Hx : Hp} {m : Int} {Qx : VK}, Hx a = some (.lst [.ref l, .int m]) → Qx (.ref l) Hx → tIx0 K [some (.ref a), some (.int b), none] Hx Qx := fun {Hx m Qx} e q => ⟨_, rfl, _, _, 0, .ref l, rfl, rfl, sqO e, rfl, q⟩
  -- what is done where the last cell is not 0, or none is left
  have rest : strip cs = cs → (tSeq (tIfS (tHas K) (tSeq (tAsg (tIntE (tBM0 K "list" rPop (tIx0 K))) (gName 2)) (tSeq (tDrop (tBM K "list" rAppend (tIx0 K) (tCons (tDivE (tVar 2) (tVar 1)) tNil))) (tRet (tModE (tVar 2) (tVar 1))))) tNext)
      (tSeq (tAsg (tModE (tIntE (tOp (rI0 fun i j => .int (i + j)) (tOp (rI CMul fun i j => .int (i * j)) (tIx1 K) (tC (.int 48271))) (tC (.int 31)))) (tC (.int 2147483647))) (gSub (tVar 0) (tC (.int 1)) rSetL))
      (tRet (tModE (tIntE (tDivE (tIx1 K) (tC (.int 64)))) (tVar 1))))) { nx := nx, rt := Q } [some (.ref a), some (.int b), none] H1 := fun hcs => by
    have hs2 : strip d.cells = cs := hst.symm.trans hcs
    refine i0 ea1 ⟨l, _, rfl, .inl (sqO el1), _, _, rfl, rfl, _, rfl, ?_⟩
    rw [List.length_map]
    by_cases hz : cs = []
    · -- no cell
      subst hz
      rw [if_neg (by simp)]
      have e1 : anyD d b = (nextMix d.mix / 64 % b, ⟨[], nextMix d.mix, fun _ z => (by cases z), ⟨Int.emod_nonneg _ (by decide), Int.emod_lt_of_pos _ (by decide)⟩, by simp⟩) := by
        unfold anyD
        split
        · rfl
        · rename_i r h; rw [hs2] at h; cases h
      refine ⟨_, rfl, _, _, 1, .int d.mix, rfl, rfl, sqO ea1, rfl, _, _, rfl, rfl, .inr ⟨by decide, by decide⟩, _, _, rfl, rfl, .inl ⟨_, rfl, _, _, rfl, rfl, (show (0 : Int) < 2147483647 by decide), _, rfl, _, _, 1, 1, rfl, rfl, ea1, rfl, ?_⟩⟩
      refine ⟨_, rfl, _, _, 1, .int (nextMix d.mix), rfl, rfl, sqO upd_same, rfl, _, _, rfl, rfl, ⟨by decide, by decide⟩, .inl ⟨_, rfl, _, rfl, _, _, rfl, rfl, hb, ?_⟩⟩
      rw [e1] at q
      refine q _ ⟨Sub.refl _, fun x o e => ?_, fun _ _ => rfl, fun x o e n => ?_, g1, g2, ne, upd_same, by rw [upd_ne ne.symm]; exact el1⟩
      · have n1 : x ≠ a := fun z => by subst z; rw [g1] at e; cases e
        have n2 : x ≠ l := fun z => by subst z; rw [g2] at e; cases e
        rw [upd_ne n1]
        exact k1 x o n1 n2 (s x o e)
      · have n1 : x ≠ a := fun z => n ⟨_, rfl, .inl z⟩
        have n2 : x ≠ l := fun z => n ⟨_, rfl, .inr z⟩
        rw [upd_ne n1]
        exact k1 x o n1 n2 e
    · obtain ⟨c0, r, hcr⟩ : ∃ c0 r, cs = c0 ++ [r] := ⟨cs.dropLast, cs.getLast hz, (List.dropLast_concat_getLast hz).symm⟩
      have hpos : 0 < cs.length := List.length_pos_iff.mpr hz
      rw [if_pos (by simpa using hpos)]
      have hlast : (strip d.cells).getLast? = some r := by rw [hs2, hcr]; simp
      have e1 : (anyD d b).1 = r % b ∧ (anyD d b).2.cells = c0 ++ [r / b] ∧ (anyD d b).2.mix = d.mix := by
        unfold anyD
        split
        · rename_i h; rw [hlast] at h; cases h
        · rename_i r' h
          rw [hlast] at h
          cases h
          rw [dif_pos hb]
          refine ⟨rfl, ?_, rfl⟩
          show (strip d.cells).dropLast ++ [r / b] = _
          rw [hs2, hcr]
          simp
      subst hcr
      have hg : ((c0 ++ [r]).map V.int)[((c0 ++ [r]).map V.int).length - 1]? = some (.int r) := by
        rw [getLast_ix]; simp
      refine i0 ea1 ⟨tyV_own el1, l, _, .int r, rfl, rfl, el1, hg, .inl ⟨r, rfl, ?_⟩⟩
      have ea2 : (upd H1 l (.lst (((c0 ++ [r]).map V.int).dropLast))) a = some (.lst [.ref l, .int d.mix]) := by rw [upd_ne ne]; exact ea1
      refine ⟨_, rfl, _, _, 0, .ref l, rfl, rfl, sqO ea2, rfl, tyV_own upd_same, _, rfl, _, rfl, r, b, rfl, rfl, ⟨hb, hb2⟩, l, _, .int (r / b), rfl, rfl, upd_same, ?_, _, rfl, _, rfl, r, b, rfl, rfl, hb, ?_⟩
      · have h1 := strip_len d.cells
        have h2 := d.len
        rw [hs2] at h1
        simp at h1 ⊢
        have : (63 : Nat) < sizeLine := by decide
        omega
      · show Q (.int (r % b)) _
        rw [← e1.1]
        refine q _ ⟨Sub.refl _, fun x o e => ?_, fun _ _ => rfl, fun x o e n => ?_, g1, g2, ne, ?_, ?_⟩
        · have n1 : x ≠ a := fun z => by subst z; rw [g1] at e; cases e
          have n2 : x ≠ l := fun z => by subst z; rw [g2] at e; cases e
          rw [upd_ne n2, upd_ne n2]
          exact k1 x o n1 n2 (s x o e)
        · have n1 : x ≠ a := fun z => n ⟨_, rfl, .inl z⟩
          have n2 : x ≠ l := fun z => n ⟨_, rfl, .inr z⟩
          rw [upd_ne n2, upd_ne n2]
          exact k1 x o n1 n2 e
        · rw [upd_ne ne, upd_ne ne, e1.2.2]; exact ea1
        · rw [upd_same, e1.2.1]
          simp
  -- the test
  refine i0 ea1 ⟨l, _, rfl, .inl (sqO el1), _, _, rfl, rfl, _, rfl, ?_⟩
  refine ite_b (fun e => ?_) fun e => ?_
  · have hz : cs ≠ [] := fun z => by subst z; simp at e
    have hpos : 0 < cs.length := List.length_pos_iff.mpr hz
    obtain ⟨c0, r, rfl⟩ : ∃ c0 r, cs = c0 ++ [r] := ⟨cs.dropLast, cs.getLast hz, (List.dropLast_concat_getLast hz).symm⟩
    have hat : atI ((c0 ++ [r]).map V.int) (-1) = some (.int r) := by
      rw [List.map_append]
      exact atI_last _ _
    refine i0 ea1 ⟨1, rfl, _, _, -1, .int r, rfl, rfl, sqO el1, hat, rfl, _, rfl, ?_⟩
    refine ite_b (fun e => ?_) fun e => ?_
    · have hr : r = 0 := V.int.inj (of_decide_eq_true e)
      subst hr
      refine ⟨fun σ' H' => W (m - 1) σ' H', fun σ' H' h => ⟨m - 1, by simp at hm; omega, h⟩, i0 ea1 ⟨tyV_own el1, l, _, .int 0, rfl, rfl, el1, by rw [getLast_ix]; simp, ?_⟩⟩
      refine ⟨c0, rfl, by simp at hm; omega, by rw [← hst, strip_snoc0], by rw [upd_ne ne]; exact ea1, by rw [upd_same]; simp, fun x o n1 n2 e => by rw [upd_ne n2]; exact k1 x o n1 n2 e, fun x n1 n2 e => by rw [upd_ne n2]; exact k2 x n1 n2 e⟩
    · have hr : r ≠ 0 := fun z => by subst z; simp at e
      exact rest (strip_snoc c0 hr)
  · have hz : cs = [] := by
      cases cs with
      | nil => rfl
      | cons _ _ => simp at e
    subst hz
    exact rest rfl
section
variable {P : Program} {w : World} {K : PySem.W.Frag} {mg : Str → Option Value} {base : Heap}
theorem any_ok {x qual : Str} {st : Stmt} {f : Addr} {fd : FuncData} {N ps : List Str} {k : Nat} (F : Fun K x qual st f fd) (S : FnScope N ps (defScope st)) (hn : ps.length = 2) (hN : N.length = 3)
    (body : ∀ (cdv : Value) (A : Around) (outer : List Env) (s : Shared) (H : Hp) (E : XK), PSs (cxOf (L2.CX P w) P w K mg base N qual (defScope st) f cdv A outer s H E) (defBody st) (tAny K)) :
    FnOk P w K mg base (L2.CX P w) (k + 1) f fd ps (spF K mg 2 anyM) := by
  refine F.okX S (fun vs H Q E ⟨G, dl, D, qs, r, D', s, d, ra, hl, _⟩ => by rw [ra.length, hl, hn]) fun cdv A outer s H vs Q E hr ⟨G, dl, D, qs, r, D', sG, d, ra, hl, e, hr2⟩ => ⟨_, body cdv A outer s H E, ?_⟩
  unfold anyM at e
  split at e
  · rename_i b d0
    obtain ⟨hb, e⟩ := guard_of e
    cases e
    obtain ⟨v, u, rfl, r1, r2⟩ := repA2 ra
    cases r1 with
    | deal ea =>
      cases r2
      subst ea
      have es : ∀ a : Addr, L2.start N [.ref a, .int b] = [some (.ref a), some (.int b), none] := fun a => by
        unfold L2.start
        rw [hN]
        rfl
      rw [es]
      exact any_reads sG d hb.1 hb.2 fun H' P => hr2 _ G H' P (.int _)
  · cases e

/-! ### _law_deal -/
def mulCW (i j : Int) : Bool := decide (i.natAbs.log2 + j.natAbs.log2 < 1000000)
@[reducible] def pvMulW := int2 mulCW fun i j => .int (i * j)
theorem de_mulW {X : Cx} {E : XK} {pos : Pos} {a b : Expr} {ma mb : M PV} (ha : DE X E a ma) (hb : DE X E b mb) : DE X E (.BinOp a .Mult b pos) (eBin pvMulW ma mb) := de_bin op_mulW (bin_I fun i j h => (of_decide_eq_true h : i.natAbs.log2 + j.natAbs.log2 < 1000000)) ha hb
def dMost : M PV := eBin pvMulW (eBin pvMulW (eBin pvMulW (eBin pvMulW (eBin pvMulW (eBin pvPow (eC (.int 10)) (eC (.int 64))) (eBin pvPow (eC (.int 10)) (eC (.int 64)))) (eBin pvPow (eC (.int 10)) (eC (.int 64)))) (eBin pvPow (eC (.int 10)) (eC (.int 64)))) (eBin pvPow (eC (.int 10)) (eC (.int 64)))) (eBin pvPow (eC (.int 10)) (eC (.int 64)))
def dCell : M PV := eBin pvMod (eFn pvInt (eCons (eFn pvAbs (eCons (eFn pvInt (eCons (eVar 5) eNil)) eNil)) eNil)) (eVar 2)
def dCells : M (List PV) := eLc [5] (iSeq (eCut (eVar 0) oNone (oSome (eC (.int 63))))) (gpN 5) tYesM dCell
def dMix : M PV := eBin pvAdd (eC (.int 70001)) (eBin pvMul (eC (.int 7919)) (eVar 1))
def dStep : M PV := eBin pvMod (eFn pvInt (eCons (eBin pvAdd (eBin pvAdd (eBin pvMul (eVar 4) (eC (.int 69621))) (eBin pvMod (eFn pvInt (eCons (eVar 5) eNil)) (eC (.int 2147483563)))) (eC (.int 23))) eNil)) (eC (.int 2147483647))
def dPre : SM := sSeq (sX dMost (sSet (gpN 2))) (sSeq (sX (eFrz dCells) (sSet (gpN 3))) (sSeq (sX dMix (sSet (gpN 4))) (sFor (gpN 5) (iSeq (eVar 3)) (sX dStep (sSet (gpN 4))))))
def dBig : M (List PV) := eLc [5] (iSeq (eVar 3)) (gpN 5) (eB (eBin pvGe (eVar 5) (eBin pvPow (eC (.int 10)) (eC (.int 18))))) (eVar 5)
abbrev tDealRet (K : PySem.W.Frag) (mg : Mg) (E : XK) : TS := tRet (tLst (tCons (tRevL K (tG K mg E (RL K) dBig)) (tCons (tVar 4) tNil)))
abbrev tDeal (K : PySem.W.Frag) (mg : Mg) (E : XK) : TS := tSeq (tS K mg E (sX dMost (sSet (gpN 2)))) (tSeq (tS K mg E (sX (eFrz dCells) (sSet (gpN 3)))) (tSeq (tS K mg E (sX dMix (sSet (gpN 4)))) (tSeq (tS K mg E (sFor (gpN 5) (iSeq (eVar 3)) (sX dStep (sSet (gpN 4))))) (tDealRet K mg E))))
/-- a new deal -/
def spDeal (K : PySem.W.Frag) : Sp := fun vs H Q _ => ∃ (a : Addr) (ns : List Int) (salt : Int), vs = [.ref a, .int salt] ∧ SqL K H a (ns.map V.int) ∧ ns.length ≤ 63 ∧ 0 ≤ salt ∧ salt ≤ 100000 ∧
  ∀ b l d H', Sub H H' → H b = none → H l = none → b ≠ l → H' b = some (.lst [.ref l, .int (Deal.mix d)]) → H' l = some (.lst (d.cells.map V.int)) → Q (.ref b) H'
theorem lcGo_spec {own : List Nat} {gp : PV → Option Asg} {mt : M Bool} {me : M PV} {b : PV → Bool} {f : PV → PV} {ε : Ev} {D : Dl} : ∀ {ps acc : List PV},
    (∀ p ∈ ps, ∃ as, gp p = some as ∧ mt (setE (wipeE ε own) as) D = some (.ok (b p), D) ∧ (b p = true → me (setE (wipeE ε own) as) D = some (.ok (f p), D))) → acc.length + ps.length ≤ 1000000 →
    lcGo own gp mt me ps acc ε D = some (.ok (acc ++ (ps.filter b).map f), D)
  | [], acc, _, _ => by simp [lcGo, mPure]
  | p :: ps, acc, h, hl => by
    obtain ⟨as, h1, h2, h3⟩ := h p List.mem_cons_self
    rw [List.length_cons] at hl
    simp only [lcGo, h1, h2]
    cases hb : b p with
    | true =>
      simp only [h3 hb]
      rw [if_pos (by omega), lcGo_spec (fun q hq => h q (List.mem_cons_of_mem _ hq)) (by simp; omega)]
      simp [hb]
    | false =>
      simp only
      rw [lcGo_spec (fun q hq => h q (List.mem_cons_of_mem _ hq)) (by omega)]
      simp [hb]
theorem dMost_eq {ε : Ev} {D : Dl} : dMost ε D = some (.ok (.int (10 ^ 384)), D) := by kernel_rfl
/-- mix, behind the cells -/
def mixes (m : Int) : List Int → Int
  | [] => m
  | c :: cs => mixes ((m * 69621 + c % 2147483563 + 23) % 2147483647) cs
theorem mixes_ok : ∀ (cs : List Int) {m : Int}, 0 ≤ m ∧ m < 2147483647 → 0 ≤ mixes m cs ∧ mixes m cs < 2147483647
  | [], _, h => h
  | c :: cs, m, _ => mixes_ok cs ⟨Int.emod_nonneg _ (by decide), Int.emod_lt_of_pos _ (by decide)⟩
theorem dCells_eq {ns : List Int} {salt : Int} {x y z : Option PV} {D : Dl} (hl : ns.length ≤ 63) : eFrz dCells [some (.scr (ns.map .int)), some (.int salt), some (.int (10 ^ 384)), x, y, z] D = some (.ok (.lst ((ns.map fun c => (if c < 0 then -c else c) % 10 ^ 384).map .int)), D) := by
  have hc : cutL (ns.map PV.int) none (some 63) = ns.map PV.int := by
    apply cutL_all
    rw [List.length_map]
    refine ⟨rfl, ?_⟩
    rw [show (some (63 : Int)) = some ((63 : Nat) : Int) from rfl, HT.sIx_nat]
    omega
  have h1 : lcGo [5] (gpN 5) tYesM dCell (ns.map PV.int) [] [some (.scr (ns.map .int)), some (.int salt), some (.int (10 ^ 384)), x, y, z] D = some (.ok ([] ++ ((ns.map PV.int).filter fun _ => true).map fun p => match p with | .int c => .int ((if c < 0 then -c else c) % 10 ^ 384) | q => q), D) := by
    refine lcGo_spec (fun p hp => ?_) (by simp; omega)
    rw [List.mem_map] at hp
    obtain ⟨c, _, rfl⟩ := hp
    refine ⟨_, rfl, rfl, fun _ => ?_⟩
    have hm : (0 : Int) < 10 ^ 384 := by decide +kernel
    simp [dCell, mBind, mLift, mPure, eVar, setE, wipeE, pvInt, pvAbs, int2, hm]
  unfold eFrz dCells eLc iSeq eCut mBind
  simp [mBind, mLift, mPure, eVar, eC, oNone, oSome, asI, pvCut, hc, pvItems]
  have h2 : (List.filter (fun _ : PV => true) (ns.map PV.int)) = ns.map PV.int := List.filter_eq_self.mpr fun _ _ => rfl
  rw [h2] at h1
  simp [h1, mPure]
theorem dMix_eq {ε : Ev} {salt : Int} {D : Dl} (h : ε[1]? = some (some (.int salt))) (h1 : 0 ≤ salt) (h2 : salt ≤ 100000) : dMix ε D = some (.ok (.int (70001 + 7919 * salt)), D) := by
  simp [dMix, mBind, mLift, mPure, eVar, h, int2, pvAdd, mulC]
theorem forStep {D : Dl} {a b c d : Slot} : ∀ (cs : List Int) {m : Int} {x : Slot}, 0 ≤ m ∧ m < 2147483647 → (x = .un ∨ ∃ p, x = .val p) →
    ∃ y, forGo (gpN 5) (sX dStep (sSet (gpN 4))) (cs.map PV.int) [a, b, c, d, .val (.int m), x] D = some (.ok .nx, [a, b, c, d, .val (.int (mixes m cs)), y], D)
  | [], m, x, _, _ => ⟨x, rfl⟩
  | e :: cs, m, x, hm, hx => by
    have hb : mulC m 69621 = true := by
      unfold mulC
      rw [decide_eq_true_eq]
      exact .inr (by decide)
    have key : sX dStep (sSet (gpN 4)) [a, b, c, d, .val (.int m), .val (.int e)] D = some (.ok .nx, [a, b, c, d, .val (.int ((m * 69621 + e % 2147483563 + 23) % 2147483647)), .val (.int e)], D) := by
      simp [sX, hide, Slot.hid, dStep, mBind, mLift, mPure, eVar, pvInt, int2, pvAdd, hb, sSet, setS]
    obtain ⟨y, ih⟩ := forStep (D := D) (a := a) (b := b) (c := c) (d := d) cs (m := (m * 69621 + e % 2147483563 + 23) % 2147483647) (x := .val (.int e)) ⟨Int.emod_nonneg _ (by decide), Int.emod_lt_of_pos _ (by decide)⟩ (.inr ⟨_, rfl⟩)
    refine ⟨y, ?_⟩
    rw [List.map_cons]
    simp only [forGo, gpN, setS, List.set_cons_succ, List.set_cons_zero]
    rw [key]
    exact ih
end
section
variable {P : Program} {w : World} {K : PySem.W.Frag} {mg : Str → Option Value} {base : Heap}
theorem sX_ok {α : Type} {m : M α} {k : α → SM} {ε : Sv} {D D1 : Dl} {p : α} (h : m (hide ε) D = some (.ok p, D1)) : sX m k ε D = k p ε D1 := by
  unfold sX
  rw [h]
theorem deal_reads {E : XK} {H : Hp} {a : Addr} {ns : List Int} {salt : Int} {Q : VK} {nx : L2.St → Hp → Prop} (hS : SqL K H a (ns.map V.int)) (hl : ns.length ≤ 63) (s0 : 0 ≤ salt) (s1 : salt ≤ 100000)
    (q : ∀ b l d H', Sub H H' → H b = none → H l = none → b ≠ l → H' b = some (.lst [.ref l, .int (Deal.mix d)]) → H' l = some (.lst (d.cells.map V.int)) → Q (.ref b) H') : tDeal K mg E { nx := nx, rt := Q } [some (.ref a), some (.int salt), none, none, none, none] H := by
  let ε0 : Sv := [.val (.scr (ns.map .int)), .val (.int salt), .un, .un, .un, .un]
  have rs0 : RS K H H H none ε0 none [some (.ref a), some (.int salt), none, none, none, none] H := by
    refine ⟨H, ⟨rfl, .refl (Sub.refl _) trivial, fun i p h => ?_, fun i ps h => ?_, fun i j b ps qs h => ?_⟩, Sub.refl _⟩
    · match i, h with
      | 0, h => simp [ε0] at h; subst h; exact ⟨_, rfl, .scr hS RepA.ints⟩
      | 1, h => simp [ε0] at h; subst h; exact ⟨_, rfl, .int _⟩
      | 2, h => simp [ε0] at h
      | 3, h => simp [ε0] at h
      | 4, h => simp [ε0] at h
      | 5, h => simp [ε0] at h
      | _ + 6, h => simp [ε0] at h
    · match i, h with
      | 0, h => simp [ε0] at h
      | 1, h => simp [ε0] at h
      | 2, h => simp [ε0] at h
      | 3, h => simp [ε0] at h
      | 4, h => simp [ε0] at h
      | 5, h => simp [ε0] at h
      | _ + 6, h => simp [ε0] at h
    · match i, h with
      | 0, h => simp [ε0] at h
      | 1, h => simp [ε0] at h
      | 2, h => simp [ε0] at h
      | 3, h => simp [ε0] at h
      | 4, h => simp [ε0] at h
      | 5, h => simp [ε0] at h
      | _ + 6, h => simp [ε0] at h
  let cs : List Int := ns.map fun c => (if c < 0 then -c else c) % 10 ^ 384
  -- most
  refine ⟨H, H, H, none, ε0, none, rs0, _, [.val (.scr (ns.map .int)), .val (.int salt), .val (.int (10 ^ 384)), .un, .un, .un], none, (sX_ok dMost_eq).trans rfl, fun σ1 H1 rs1 => ?_⟩
  refine ⟨H, H, H, none, _, none, rs1, _, [.val (.scr (ns.map .int)), .val (.int salt), .val (.int (10 ^ 384)), .val (.lst (cs.map .int)), .un, .un], none, (sX_ok (dCells_eq hl)).trans rfl, fun σ2 H2 rs2 => ?_⟩
  refine ⟨H, H, H, none, _, none, rs2, _, [.val (.scr (ns.map .int)), .val (.int salt), .val (.int (10 ^ 384)), .val (.lst (cs.map .int)), .val (.int (70001 + 7919 * salt)), .un], none, (sX_ok (dMix_eq rfl s0 s1)).trans rfl, fun σ3 H3 rs3 => ?_⟩
  have hm0 : (0 : Int) ≤ 70001 + 7919 * salt ∧ 70001 + 7919 * salt < 2147483647 := by omega
  obtain ⟨y, hy⟩ := forStep (D := none) (a := .val (.scr (ns.map .int))) (b := .val (.int salt)) (c := .val (.int (10 ^ 384))) (d := .val (.lst (cs.map .int))) cs (x := .un) hm0 (.inl rfl)
  refine ⟨H, H, H, none, _, none, rs3, _, _, none, (sX_ok (show iSeq (eVar 3) _ none = some (.ok (cs.map .int), none) from rfl)).trans hy, fun σ4 H4 rs4 => ?_⟩
  -- the list of the great ones, turned about, and mix
  obtain ⟨G4, rg4, _⟩ := rs4
  have hmx := mixes_ok cs hm0
  have h18 : (eBin pvPow (eC (.int 10)) (eC (.int 18)) : M PV) = fun _ D => some (.ok (.int (10 ^ 18)), D) := by funext ε D; kernel_rfl
  have hbig : ∀ x6 : Option PV, dBig [some (.scr (ns.map .int)), some (.int salt), some (.int (10 ^ 384)), some (.lst (cs.map .int)), some (.int (mixes (70001 + 7919 * salt) cs)), x6] none = some (.ok ((cs.filter fun c => decide (10 ^ 18 ≤ c)).map .int), none) := fun x6 => by
    have h1 : lcGo [5] (gpN 5) (eB (eBin pvGe (eVar 5) (eBin pvPow (eC (.int 10)) (eC (.int 18))))) (eVar 5) (cs.map PV.int) [] [some (.scr (ns.map .int)), some (.int salt), some (.int (10 ^ 384)), some (.lst (cs.map .int)), some (.int (mixes (70001 + 7919 * salt) cs)), x6] none = some (.ok ([] ++ ((cs.map PV.int).filter fun p => match p with | .int c => decide (10 ^ 18 ≤ c) | _ => false).map id), none) := by
      refine lcGo_spec (fun p hp => ?_) (by simp [cs]; omega)
      rw [List.mem_map] at hp
      obtain ⟨c, _, rfl⟩ := hp
      refine ⟨_, rfl, ?_, fun _ => ?_⟩
      · rw [h18]
        simp [mBind, mLift, eVar, setE, wipeE, int2, asB]
      · simp [eVar, setE, wipeE]
    unfold dBig eLc
    have h2 : ∀ l : List Int, ((l.map PV.int).filter fun p => match p with | .int c => decide ((10 : Int) ^ 18 ≤ c) | _ => false) = (l.filter fun c => decide ((10 : Int) ^ 18 ≤ c)).map PV.int := fun l => by
      induction l with
      | nil => rfl
      | cons c l ih =>
        simp only [List.map_cons, List.filter_cons]
        split <;> simp_all
    simp only [mBind, iSeq, mLift, eVar, pvItems, List.getElem?_cons_succ, List.getElem?_cons_zero]
    rw [h1, h2]
    simp
  have re4 := rg4.hide
  have hy6 : ∃ x6, hide [.val (.scr (ns.map .int)), .val (.int salt), .val (.int (10 ^ 384)), .val (.lst (cs.map .int)), .val (.int (mixes (70001 + 7919 * salt) cs)), y] = [some (.scr (ns.map .int)), some (.int salt), some (.int (10 ^ 384)), some (.lst (cs.map .int)), some (.int (mixes (70001 + 7919 * salt) cs)), x6] := ⟨_, rfl⟩
  obtain ⟨x6, e6⟩ := hy6
  rw [e6] at re4
  obtain ⟨vm, em, rm⟩ := rg4.val 4 _ rfl
  cases rm
  refine ⟨G4, none, _, none, re4, _, _, hbig x6, fun v G5 H5 P5 ⟨b5, vs5, ev, n1, n2, n3, e5, r5⟩ => ?_⟩
  subst ev
  have := r5.unints
  subst this
  refine ⟨b5, _, rfl, sqO e5, fun p hp => ⟨_, em, by show (2 : Nat) ≤ sizeLine; decide, fun b hb => ?_⟩⟩
  have s5 : Sub H H5 := fun x o e => P5.keep x o (rg4.post.keep x o e (by rintro ⟨_, z, _⟩; cases z)) (by rintro ⟨_, z, _⟩; cases z)
  have hp5 : H5 p = none := hp
  have nb : p ≠ b := fun z => by subst z; rw [upd_same] at hb; cases hb
  have hb5 : H5 b = none := by rw [upd_ne nb.symm] at hb; exact hb
  refine q b p ⟨((cs.filter fun c => decide (10 ^ 18 ≤ c)).reverse), mixes (70001 + 7919 * salt) cs, fun c hc => ?_, hmx, ?_⟩ _ ((s5.trans (Sub.new hp5)).trans (Sub.new hb)) (s5.free hb5) (s5.free hp5) nb.symm upd_same ?_
  · rw [List.mem_reverse, List.mem_filter] at hc
    obtain ⟨hc, _⟩ := hc
    simp only [cs, List.mem_map] at hc
    obtain ⟨c0, _, rfl⟩ := hc
    have hpos : (0 : Int) < 10 ^ 384 := by decide +kernel
    exact ⟨Int.emod_nonneg _ (by omega), Int.emod_lt_of_pos _ hpos⟩
  · rw [List.length_reverse]
    refine Nat.le_trans (List.length_filter_le _ _) ?_
    simp [cs]
    exact hl
  · rw [upd_ne nb, upd_same, ← List.map_reverse]
end
end Pu
set_option Elab.async false
set_option linter.all false
set_option maxRecDepth 100000
set_option maxHeartbeats 4000000
namespace Pu
open PySem PySem.Spec PyProof.Rows L2
section
variable {P : Program} {w : World} {K : PySem.W.Frag} {mg : Str → Option Value} {base : Heap}
theorem deal_ok {x qual : Str} {st : Stmt} {f : Addr} {fd : FuncData} {N ps : List Str} {k : Nat} (F : Fun K x qual st f fd) (S : FnScope N ps (defScope st)) (hn : ps.length = 2) (hN : N.length = 6)
    (body : ∀ (cdv : Value) (A : Around) (outer : List Env) (s : Shared) (H : Hp) (E : XK), PSs (cxOf (L2.CX P w) P w K mg base N qual (defScope st) f cdv A outer s H E) (defBody st) (tDeal K mg E)) :
    FnOk P w K mg base (L2.CX P w) (k + 1) f fd ps (spDeal K) := by
  refine F.okX S (fun vs H Q E ⟨a, ns, salt, e, _⟩ => by rw [e, hn]; rfl) fun cdv A outer s H vs Q E hr ⟨a, ns, salt, e, hS, hl, s0, s1, q⟩ => ⟨_, body cdv A outer s H E, ?_⟩
  subst e
  have es : L2.start N [.ref a, .int salt] = [some (.ref a), some (.int salt), none, none, none, none] := by
    unfold L2.start
    rw [hN]
    rfl
  rw [es]
  exact deal_reads hS hl s0 s1 q

/-! ### the law -/
def spLaw (K : PySem.W.Frag) : Sp := fun vs H Q _ => ∃ (a : Addr) (ns : List Int), vs = [.ref a] ∧ SqL K H a (ns.map V.int) ∧ ns.length ≤ 63 ∧ ∀ H', Q (.bl true) H'
abbrev tLawA (K : PySem.W.Frag) (salt : Int) (E : XK) : TA := tCons (tCall (spDeal K) [] E (tCons (tVar 0) (tCons (tC (.int salt)) tNil))) (tCons (tLst tNil) tNil)
def lawS (n : Nat) : Sv := .un :: .val .deal :: .own [] :: List.replicate n .un
theorem law_rs {n : Nat} {a b l p : Addr} {d : Deal} {H H3 : Hp} (k : ∀ x o, H x = some o → H3 x = some o) (n1 : H b = none) (n2 : H l = none) (n3 : H p = none) (ne : b ≠ l) (pb : p ≠ b) (pl : p ≠ l) (eb : H3 b = some (.lst [.ref l, .int d.mix])) (el : H3 l = some (.lst (d.cells.map V.int))) (ep : H3 p = some (.lst [])) :
    RS K H (fun _ => none) (fun _ => none) (some (b, l)) (lawS n) (some d) (some (.ref a) :: some (.ref b) :: some (.ref p) :: List.replicate n none) H3 := by
  refine ⟨fun _ => none, ⟨by simp [lawS], ⟨Sub.refl _, fun _ _ z => (nomatch z), fun _ _ => rfl, fun x o e _ => k x o e, rfl, rfl, ne, eb, el⟩, fun i q h => ?_, fun i ps h => ?_, fun i j x ps qs h1 h2 h3 h4 => ?_⟩, Sub.refl _⟩
  · match i, h with
    | 0, h => simp [lawS] at h
    | 1, h => simp [lawS] at h; subst h; exact ⟨_, rfl, .deal rfl⟩
    | 2, h => simp [lawS] at h
    | i + 3, h =>
      simp only [lawS, List.getElem?_cons_succ, List.getElem?_replicate] at h
      split at h <;> cases h
  · match i, h with
    | 0, h => simp [lawS] at h
    | 1, h => simp [lawS] at h
    | 2, h =>
      simp [lawS] at h
      subst h
      refine ⟨p, [], rfl, n3, rfl, ?_, ep, .nil⟩
      rintro ⟨q, e, z | z⟩
      · cases e; exact pb z
      · cases e; exact pl z
    | i + 3, h =>
      simp only [lawS, List.getElem?_cons_succ, List.getElem?_replicate] at h
      split at h <;> cases h
  · have key : ∀ {i : Nat} {ps : List PV}, (lawS n)[i]? = some (.own ps) → i = 2 := fun {i ps} h => by
      match i, h with
      | 0, h => simp [lawS] at h
      | 1, h => simp [lawS] at h
      | 2, h => rfl
      | i + 3, h =>
        simp only [lawS, List.getElem?_cons_succ, List.getElem?_replicate] at h
        split at h <;> cases h
    rw [key h1, key h2]
/-- deal, pairs = _law_deal(script, salt), [] -/
theorem law_args {n : Nat} {m : SM} {salt : Int} {a : Addr} {ns : List Int} {H : Hp} {E E1 : XK} {Q : VK} (hS : SqL K H a (ns.map V.int)) (hl : ns.length ≤ 63) (s0 : 0 ≤ salt) (s1 : salt ≤ 100000) (q : ∀ H', Q (.bl true) H')
    (hm : ∀ d : Deal, ∃ ε' D', m (lawS n) (some d) = some (.ok (.rt (.bl true)), ε', D')) {nx : L2.St → Hp → Prop} {R : List V → Hp → Prop}
    (hR : ∀ b p H3, (∃ t, (H3 t).isSome = true) → (∀ H4, Sub H3 H4 → tS K mg E m { nx := nx, rt := Q } (some (.ref a) :: some (.ref b) :: some (.ref p) :: List.replicate n none) H4) → R [.ref b, .ref p] H3) :
    tLawA K salt E1 (some (.ref a) :: none :: none :: List.replicate n none) H R := by
  refine ⟨.ref a, rfl, a, ns, salt, rfl, hS, hl, s0, s1, fun b l d H1 k1 n1 n2 ne eb el => ?_⟩
  refine ⟨by show 0 ≤ sizeLine; decide, fun p hp => ?_⟩
  have pb : p ≠ b := (ne_of_none eb hp).symm
  have pl : p ≠ l := (ne_of_none el hp).symm
  refine hR b p _ ⟨p, by rw [upd_same]; rfl⟩ fun H4 s4 => ?_
  obtain ⟨ε', D', e⟩ := hm d
  refine ⟨H, _, _, _, _, _, law_rs (a := a) (n := n) (fun x o e => s4 _ _ (Sub.new hp _ _ (k1 x o e))) n1 n2 (k1.free hp) ne pb pl (s4 _ _ (by rw [upd_ne pb.symm]; exact eb)) (s4 _ _ (by rw [upd_ne pl.symm]; exact el)) (s4 _ _ upd_same), _, _, _, e, fun v G H' P r => ?_⟩
  cases r
  exact q _
abbrev tLawP (K : PySem.W.Frag) (salt : Int) (E : XK) : TS := tPar 1 2 (tLawA K salt E)
abbrev tLawT (K : PySem.W.Frag) (salt : Int) (E : XK) : TS := tAsg (tTup (tLawA K salt E)) (gTup K 2 (gCons (gName 1) (gCons (gName 2) gNil)))
theorem law_ok {t0 : XK → TS} {x qual : Str} {st s0 : Stmt} {sts : List Stmt} {f : Addr} {fd : FuncData} {N : List Str} {k n : Nat} {m : SM} {salt : Int} {E1 : XK} (F : Fun K x qual st f fd) (S : FnScope N ["script"] (defScope st)) (hN : N.length = n + 3) (hb : defBody st = s0 :: sts) (ht : t0 = (fun E => tLawP K salt E) ∨ t0 = (fun E => tLawT K salt E)) (h0 : 0 ≤ salt) (h1 : salt ≤ 100000)
    (hm : ∀ d : Deal, ∃ ε' D', m (lawS n) (some d) = some (.ok (.rt (.bl true)), ε', D'))
    (b0 : ∀ (cdv : Value) (A : Around) (outer : List Env) (s : Shared) (H : Hp) (E : XK), Room k (A.deeper (envOfC qual (defScope st) s.heap.objs.size f cdv)) → PS (cxOf (L2.CX P w) P w K mg base N qual (defScope st) f cdv A outer s H E) s0 (t0 E1))
    (bR : ∀ (cdv : Value) (A : Around) (outer : List Env) (s : Shared) (H : Hp) (E : XK), Room k (A.deeper (envOfC qual (defScope st) s.heap.objs.size f cdv)) → DSs (cxOf (L2.CX P w) P w K mg base N qual (defScope st) f cdv A outer s H E) E sts m) :
    FnOk P w K mg base (L2.CX P w) (k + 1) f fd ["script"] (spLaw K) := by
  refine F.okX S (fun vs H Q E ⟨a, ns, e, _⟩ => by rw [e]; rfl) fun cdv A outer s H vs Q E hr ⟨a, ns, e, hS, hl, q⟩ => ⟨_, by rw [hb]; exact pss_cons (b0 cdv A outer s H E hr) (bR cdv A outer s H E hr), ?_⟩
  subst e
  have es : L2.start N [.ref a] = some (.ref a) :: none :: none :: List.replicate n none := by
    unfold L2.start
    rw [hN]
    rfl
  rw [es]
  rcases ht with rfl | rfl
  · have := law_args (n := n) (mg := mg) (E := E) (E1 := E1) (nx := fun _ H' => Q .non H') (R := fun vs H1 => ∃ v w, vs = [v, w] ∧ tS K mg E m { nx := fun _ H' => Q .non H', rt := Q } (((some (V.ref a) :: none :: none :: List.replicate n none).set 1 (some v)).set 2 (some w)) H1) hS hl h0 h1 q hm fun b p H3 _ h => ⟨_, _, rfl, h H3 (Sub.refl _)⟩
    exact this
  · have := law_args (n := n) (mg := mg) (E := E) (E1 := E1) (nx := fun _ H' => Q .non H') (R := fun xs H1 => xs.length ≤ sizeLine ∧ ∀ p, H1 p = none → gTup K 2 (gCons (gName 1) (gCons (gName 2) gNil)) (.ref p) (some (V.ref a) :: none :: none :: List.replicate n none) (upd H1 p (.tup xs)) fun σ' H' => tS K mg E m { nx := fun _ H' => Q .non H', rt := Q } σ' H') hS hl h0 h1 q hm fun b p H3 _ h => ⟨by show 2 ≤ sizeLine; decide, fun t ht => ⟨t, _, rfl, .inl (.inl upd_same), rfl, _, _, rfl, _, _, rfl, rfl, h _ (Sub.new ht)⟩⟩
    exact this
end
/-! ### for printed proofs -/
theorem gin_name {i : Nat} {is : List Nat} (h : i ∈ is) : ∀ p as, gpN i p = some as → ∀ j ∈ as.map (·.1), j ∈ is := fun p as e j hj => by
  cases e
  simp at hj
  subst hj
  exact h
theorem gsin_nil {is : List Nat} : ∀ ps as, gpNil ps = some as → ∀ j ∈ as.map (·.1), j ∈ is := fun ps as e j hj => by
  cases ps with
  | nil => cases e; simp at hj
  | cons _ _ => cases e
theorem gsin_cons {is : List Nat} {g : PV → Option Asg} {gs : List PV → Option Asg} (h1 : ∀ p as, g p = some as → ∀ j ∈ as.map (·.1), j ∈ is) (h2 : ∀ ps as, gs ps = some as → ∀ j ∈ as.map (·.1), j ∈ is) : ∀ ps as, gpCons g gs ps = some as → ∀ j ∈ as.map (·.1), j ∈ is := fun ps as e j hj => by
  cases ps with
  | nil => cases e
  | cons p ps =>
    change (match g p, gs ps with | some a, some b => some (a ++ b) | _, _ => none) = some as at e
    split at e
    · rename_i a1 b1 e1 e2
      cases e
      rw [List.map_append, List.mem_append] at hj
      exact hj.elim (h1 _ _ e1 j) (h2 _ _ e2 j)
    · cases e
theorem gin_tup {is : List Nat} {gs : List PV → Option Asg} (h : ∀ ps as, gs ps = some as → ∀ j ∈ as.map (·.1), j ∈ is) : ∀ p as, gpT gs p = some as → ∀ j ∈ as.map (·.1), j ∈ is := fun p as e j hj => by
  cases p <;> simp only [gpT] at e <;> first | cases e | exact h _ _ e j hj
theorem kbi {K : PySem.W.Frag} {x qual : Str} {st : Stmt} {f : Addr} {fd : FuncData} {ps ks : List Str} {a : Nat} {perm : List Nat} (F : Fun K x qual st f fd)
    (h : ∀ (kV doc pm : Value) (an : Option Addr) (cdv ct : Value) (us ws : List Value), us.length = a → ws.length = ks.length → bindArgs (PySem.W.fnOf x qual (defArgs st) (defBody st) (defScope st) .none kV doc pm an cdv ct) ⟨us, ks.zip ws⟩ = pure (ps.zip (pick (us ++ ws) perm))) : KBi fd ps ks a perm := by
  obtain ⟨oc, od, kV, doc, pm, an, cdv, ct, osl, rfl, lk, hcd⟩ := F.ex
  exact h kV doc pm an cdv ct
theorem pe_nil0 {X : Cx} {E : XK} {e : Expr} {sp : Sp} {perm : List Nat} {j : Nat} {tk : TA} (h : PE X e (tCallP sp perm 0 j E tNil tk)) : PE X e (tCallP sp perm 0 j E (tG X.K X.mg E (RVs X.K) eNil) tk) := pe_to h fun σ H Q ⟨G, dl, ε, D, h⟩ => by
  obtain ⟨re, q⟩ := donep h
  exact q [] G H re.refl .nil
theorem ds_par3 {X : Cx} {E : XK} {st : Stmt} {i j l : Nat} {mm : M (List Slot)} (h : PS X st (tPar3 i j l (tG X.K X.mg E (RSl X.K) mm))) : DS X E st (sX mm (sPar [i, j, l])) := ps_to h fun Dn σ H ⟨Hb, Gb, F, dl, ε, D, h⟩ => by
  refine sX_of h ?_
  intro vs ss G G1 H1 D1 rg P1 rg1 sf r1 h1
  obtain ⟨hl, q⟩ := par_core rg rg1 sf r1 h1
  match vs, hl with
  | [u, v, w], _ => exact ⟨u, v, w, rfl, q⟩
@[reducible] def sRetN : SM := fun ε D => some (.ok (.rt .non), ε, D)
theorem cx_none {P : Program} {w : World} {H : Hp} {s : Shared} {e : Value} {s' : Shared} (h : L2.CX P w [] H s (fun _ _ _ => False) e s') : False := by
  obtain ⟨_, _, _, _, _, _, _, _, _, _, _, _, z⟩ := h
  exact z
end Pu
set_option Elab.async false
set_option linter.all false
set_option maxRecDepth 100000
set_option maxHeartbeats 4000000
/-! PuW: what the functions of plain values answer, step by step -/
namespace Pu
section
variable {α β : Type}
def runs (m : M α) (ε : Ev) (D : Dl) (Q : α → Dl → Prop) (X : Xc → Dl → Prop) : Prop := match m ε D with
  | some (.ok a, D') => Q a D'
  | some (.ex x, D') => X x D'
  | none => False
def runF (f : FM) (ps : List PV) (D : Dl) (Q : PV → Dl → Prop) (X : Xc → Dl → Prop) : Prop := match f ps D with
  | some (.ok a, D') => Q a D'
  | some (.ex x, D') => X x D'
  | none => False
def runS (m : SM) (ε : Sv) (D : Dl) (nx bk ct : Sv → Dl → Prop) (rt : PV → Dl → Prop) (X : Xc → Dl → Prop) : Prop := match m ε D with
  | some (.ok .nx, ε', D') => nx ε' D'
  | some (.ok .bk, ε', D') => bk ε' D'
  | some (.ok .ct, ε', D') => ct ε' D'
  | some (.ok (.rt p), _, D') => rt p D'
  | some (.ex x, _, D') => X x D'
  | none => False
def noX : Xc → Dl → Prop := fun _ _ => False
def noS : Sv → Dl → Prop := fun _ _ => False
variable {ε ε' : Ev} {D D' : Dl} {Q Q' : α → Dl → Prop} {R R' : PV → Dl → Prop} {X : Xc → Dl → Prop} {nx nx' bk ct : Sv → Dl → Prop} {rt : PV → Dl → Prop} {a : α} {p q : PV} {ps qs : List PV} {σ : Sv}
theorem runs_mono {m : M α} (h : runs m ε D Q X) (i : ∀ a D, Q a D → Q' a D) : runs m ε D Q' X := by
  unfold runs at h ⊢
  split at h
  · exact i _ _ h
  · exact h
  · exact h
theorem runs_pure (h : Q a D) : runs (mPure a) ε D Q X := h
theorem runs_bind {m : M β} {f : β → M α} (h : runs m ε D (fun a D1 => runs (f a) ε D1 Q X) X) : runs (mBind m f) ε D Q X := by
  unfold runs at h ⊢
  unfold mBind
  cases e : m ε D with
  | none => rw [e] at h; exact h
  | some z =>
    obtain ⟨z, D1⟩ := z
    rw [e] at h
    cases z with
    | ok a => exact h
    | ex x => exact h
theorem runs_lift {o : Option α} (e : o = some a) (h : Q a D) : runs (mLift o) ε D Q X := by subst e; exact h
theorem runs_var {i : Nat} (e : ε[i]? = some (some p)) (h : R p D) : runs (eVar i) ε D R X := by
  unfold runs eVar; rw [e]; exact h
theorem runs_ite_t {c : Bool} {m1 m2 : M α} (e : c = true) (h : runs m1 ε D Q X) : runs (if c = true then m1 else m2) ε D Q X := by subst e; exact h
theorem runs_ite_f {c : Bool} {m1 m2 : M α} (e : c = false) (h : runs m2 ε D Q X) : runs (if c = true then m1 else m2) ε D Q X := by subst e; exact h
theorem runs_ite {c : Bool} {m1 m2 : M α} (h1 : c = true → runs m1 ε D Q X) (h2 : c = false → runs m2 ε D Q X) : runs (if c = true then m1 else m2) ε D Q X := by
  cases c
  · exact h2 rfl
  · exact h1 rfl
theorem runs_call {n : Nat} {f : FM} (e : ps.length = n) (h : runF f ps D R X) : runs (mCall n f ps) ε D R X := by
  unfold runF at h; unfold runs mCall; rw [if_pos e]
  split at h <;> rename_i e <;> rw [e] <;> exact h
/-- the def answers r, no draw -/
def Ans (f : FM) (ps : List PV) (r : PV) : Prop := ∀ D, f ps D = some (.ok r, D)
theorem runF_ans {f : FM} {r : PV} (e : Ans f ps r) (h : R r D) : runF f ps D R X := by unfold runF; rw [e D]; exact h
theorem runs_ans {n : Nat} {f : FM} {r : PV} (e : ps.length = n) (e2 : Ans f ps r) (h : R r D) : runs (mCall n f ps) ε D R X := runs_call e (runF_ans e2 h)
theorem ans_of {f : FM} {r : PV} (h : ∀ D, runF f ps D (fun p D' => p = r ∧ D' = D) noX) : Ans f ps r := fun D => by
  have := h D
  unfold runF at this
  split at this
  · rename_i e; obtain ⟨rfl, rfl⟩ := this; exact e
  · exact this.elim
  · exact this.elim
theorem Ans.eq {f : FM} {r s : PV} (h : Ans f ps r) (e : r = s) : Ans f ps s := e ▸ h
/-! numbers -/
theorem mulC_l {i j : Int} (h1 : -18446744073709551616 < i) (h2 : i < 18446744073709551616) : mulC i j = true := by
  unfold mulC; exact decide_eq_true (.inl (by omega))
theorem mulC_r {i j : Int} (h1 : -18446744073709551616 < j) (h2 : j < 18446744073709551616) : mulC i j = true := by
  unfold mulC; exact decide_eq_true (.inr (by omega))
theorem runs_mul {i j : Int} (h : R (.int (i * j)) D) (e : mulC i j = true) : runs (mLift (pvMul (.int i) (.int j))) ε D R X := runs_lift (by unfold pvMul int2; exact if_pos e) h
theorem runs_mod {i j : Int} (h : R (.int (i % j)) D) (e : 0 < j) : runs (mLift (pvMod (.int i) (.int j))) ε D R X := runs_lift (by unfold pvMod int2; exact if_pos (decide_eq_true e)) h
theorem runs_div {i j : Int} (h : R (.int (i / j)) D) (e : 0 < j ∧ j < 1073741824) : runs (mLift (pvDiv (.int i) (.int j))) ε D R X := runs_lift (by unfold pvDiv int2; exact if_pos (decide_eq_true e)) h
theorem runs_eq (h : R (.bl (pvEq p q)) D) (e : (plainD p && plainD q) = true) : runs (mLift (pvEqO p q)) ε D R X := runs_lift (by unfold pvEqO; exact if_pos e) h
theorem runs_ne (h : R (.bl (!pvEq p q)) D) (e : (plainD p && plainD q) = true) : runs (mLift (pvNeO p q)) ε D R X := runs_lift (by unfold pvNeO; exact if_pos e) h
theorem runs_tup (h : R (.tup ps) D) (e : ps.length ≤ 1000000) : runs (mLift (if ps.length ≤ 1000000 then some (.tup ps) else none)) ε D R X := runs_lift (if_pos e) h
/-! a draw -/
theorem runs_any {d : Deal} {b : Int} (hb : 0 < b ∧ b < 1073741824) (h : ∀ r d', 0 ≤ r → r < b → R (.int r) (some d')) : runs (mCall 2 anyM [.deal, .int b]) ε (some d) R X :=
  runs_call rfl (by
    unfold runF anyM
    simp only
    rw [if_pos hb]
    exact h _ _ (anyD_lt d hb.1).1 (anyD_lt d hb.1).2)
/-! defs -/
theorem runF_fn {n : Nat} {m : SM} (h : runS m (initS n ps) D (fun _ D => R .non D) noS noS R X) : runF (fnM n m) ps D R X := by
  unfold runS at h
  unfold runF fnM
  split at h <;> rename_i e <;> first | exact h.elim | (rw [e]; exact h)
/-! statements -/
theorem runS_mono {m : SM} (h : runS m σ D nx bk ct rt X) (i : ∀ σ D, nx σ D → nx' σ D) : runS m σ D nx' bk ct rt X := by
  unfold runS at h ⊢
  split at h
  · exact i _ _ h
  all_goals exact h
theorem runS_nil (h : nx σ D) : runS sNil σ D nx bk ct rt X := h
theorem runS_seq {m1 m2 : SM} (h : runS m1 σ D (fun σ1 D1 => runS m2 σ1 D1 nx bk ct rt X) bk ct rt X) : runS (sSeq m1 m2) σ D nx bk ct rt X := by
  unfold runS at h ⊢
  unfold sSeq
  cases e : m1 σ D with
  | none => rw [e] at h; exact h
  | some z =>
    obtain ⟨z, σ1, D1⟩ := z
    rw [e] at h
    cases z with
    | ex x => exact h
    | ok f => cases f <;> exact h
theorem runS_X {m : M α} {k : α → SM} (h : runs m (hide σ) D (fun a D1 => runS (k a) σ D1 nx bk ct rt X) X) : runS (sX m k) σ D nx bk ct rt X := by
  unfold runs at h
  unfold runS sX
  cases e : m (hide σ) D with
  | none => rw [e] at h; exact h
  | some z =>
    obtain ⟨z, D1⟩ := z
    rw [e] at h
    cases z with
    | ok a => exact h
    | ex x => exact h
theorem runS_Xs {m : M α} {k : α → SM} (h : runs m (shw σ) D (fun a D1 => runS (k a) σ D1 nx bk ct rt X) noX) : runS (sXs m k) σ D nx bk ct rt X := by
  unfold runs at h
  unfold runS sXs
  cases e : m (shw σ) D with
  | none => rw [e] at h; exact h
  | some z =>
    obtain ⟨z, D1⟩ := z
    rw [e] at h
    cases z with
    | ok a => exact h
    | ex x => exact h.elim
theorem runS_set {gp : PV → Option Asg} {as : Asg} (e : gp p = some as) (h : nx (setS σ as) D) : runS (sSet gp p) σ D nx bk ct rt X := by
  unfold runS sSet; rw [e]; exact h
theorem runS_setB {gp : PV → Option Asg} {as : Asg} (n : noL p = true) (e : gp p = some as) (h : nx (setS σ as) D) : runS (sSetB gp p) σ D nx bk ct rt X := by
  unfold runS sSetB; rw [if_pos n]; unfold sSet; rw [e]; exact h
theorem runS_own {i : Nat} (h : nx (σ.set i (.own ps)) D) : runS (sOwn i ps) σ D nx bk ct rt X := h
theorem runS_at {j : Nat} {k : List PV → SM} (e : σ[j]? = some (.own ps)) (h : runS (k ps) σ D nx bk ct rt X) : runS (sAt j k) σ D nx bk ct rt X := by
  unfold runS at h ⊢
  unfold sAt; rw [e]; exact h
theorem runS_add {i j : Nat} {m : M PV} (e : σ[j]? = some (.own ps)) (h : runs m (hide σ) D (fun p D1 => ∃ qs, p = .lst qs ∧ ps.length + qs.length ≤ 1000000 ∧ nx (σ.set i (.own (ps ++ qs))) D1) X) : runS (sOwnAdd i j m) σ D nx bk ct rt X :=
  runS_at e (runS_X (runs_mono h fun p D1 ⟨qs, e, l, h⟩ => by
    subst e
    unfold runS sOwnCat
    simp only
    rw [if_pos l]; exact h))
theorem runS_app {i : Nat} {m : M PV} (e : σ[i]? = some (.own ps)) (h : runs m (hide σ) D (fun p D1 => ps.length < 1000000 ∧ nx (σ.set i (.own (ps ++ [p]))) D1) X) : runS (sApp i m) σ D nx bk ct rt X :=
  runS_at e (runS_X (runs_mono h fun p D1 ⟨l, h⟩ => runS_at e (by
    unfold runS
    simp only
    rw [if_pos l]; exact h)))
theorem runS_pop {i : Nat} {gp : PV → Option Asg} {as : Asg} (e : σ[i]? = some (.own (ps ++ [p]))) (e2 : gp p = some as) (h : nx (setS (σ.set i (.own ps)) as) D) : runS (sPop i gp) σ D nx bk ct rt X :=
  runS_at e (by
    unfold runS
    rw [List.getLast?_concat, List.dropLast_concat]
    unfold sSet
    simp only
    rw [e2]
    exact h)
theorem runS_frz {i : Nat} {m : SM} (e : σ[i]? = some (.own ps)) (h : runS m (σ.set i (.val (.lst ps))) D nx bk ct rt X) : runS (sFrz i m) σ D nx bk ct rt X := by
  unfold runS at h ⊢
  unfold sFrz; rw [e]; exact h
theorem runS_retK (h : rt p D) : runS (sRetK p) σ D nx bk ct rt X := h
theorem runS_retB (n : noL p = true) (h : rt p D) : runS (sRetB p) σ D nx bk ct rt X := by
  unfold runS sRetB; rw [if_pos n]; exact h
theorem runS_retN (h : rt .non D) : runS sRetN σ D nx bk ct rt X := h
theorem runS_brk (h : bk σ D) : runS sBrk σ D nx bk ct rt X := h
theorem runS_cont (h : ct σ D) : runS sCont σ D nx bk ct rt X := h
theorem runS_if {mt : M Bool} {m1 m2 : SM} (h : runs mt (shw σ) D (fun b D1 => runS (if b = true then m1 else m2) σ D1 nx bk ct rt X) noX) : runS (sIf mt m1 m2) σ D nx bk ct rt X := runS_Xs h
theorem runS_ite_t {c : Bool} {m1 m2 : SM} (e : c = true) (h : runS m1 σ D nx bk ct rt X) : runS (if c = true then m1 else m2) σ D nx bk ct rt X := by subst e; exact h
theorem runS_ite_f {c : Bool} {m1 m2 : SM} (e : c = false) (h : runS m2 σ D nx bk ct rt X) : runS (if c = true then m1 else m2) σ D nx bk ct rt X := by subst e; exact h
theorem runS_ite {c : Bool} {m1 m2 : SM} (h1 : c = true → runS m1 σ D nx bk ct rt X) (h2 : c = false → runS m2 σ D nx bk ct rt X) : runS (if c = true then m1 else m2) σ D nx bk ct rt X := by
  cases c
  · exact h2 rfl
  · exact h1 rfl
theorem runS_par {is : List Nat} {ss : List Slot} (e : (decide (is.length = ss.length) && ss.all noUn) = true) (h : nx (setSl σ (is.zip ss)) D) : runS (sPar is ss) σ D nx bk ct rt X := by
  unfold runS sPar; rw [if_pos e]; exact h
/-! for -/
theorem runS_forN {gp : PV → Option Asg} {mb : SM} (e : ps = []) (h : nx σ D) : runS (forGo gp mb ps) σ D nx bk ct rt X := by subst e; exact h
theorem runS_forC {gp : PV → Option Asg} {mb : SM} {as : Asg} (e : ps = p :: qs) (e2 : gp p = some as)
    (h : runS mb (setS σ as) D (fun σ1 D1 => runS (forGo gp mb qs) σ1 D1 nx bk ct rt X) nx (fun σ1 D1 => runS (forGo gp mb qs) σ1 D1 nx bk ct rt X) rt X) : runS (forGo gp mb ps) σ D nx bk ct rt X := by
  subst e
  unfold runS at h ⊢
  simp only [forGo, e2]
  cases e : mb (setS σ as) D with
  | none => rw [e] at h; exact h
  | some z =>
    obtain ⟨z, σ1, D1⟩ := z
    rw [e] at h
    cases z with
    | ex x => exact h
    | ok f => cases f <;> exact h
theorem runS_for {gp : PV → Option Asg} {mb : SM} (I : List PV → Sv → Dl → Prop) (h0 : I ps σ D) (step : ∀ p r σ D, I (p :: r) σ D → ∃ as, gp p = some as ∧ runS mb (setS σ as) D (I r) nx (I r) rt X)
    (done : ∀ σ D, I [] σ D → nx σ D) : runS (forGo gp mb ps) σ D nx bk ct rt X := by
  induction ps generalizing σ D with
  | nil => exact done _ _ h0
  | cons p r ih =>
    obtain ⟨as, e, h⟩ := step _ _ _ _ h0
    refine runS_forC rfl e ?_
    unfold runS at h ⊢
    split at h
    · exact ih h
    · exact h
    · exact ih h
    · exact h
    · exact h
    · exact h
theorem runS_sFor {gp : PV → Option Asg} {mi : M (List PV)} {mb : SM} (h : runs mi (hide σ) D (fun ps D1 => runS (forGo gp mb ps) σ D1 nx bk ct rt X) X) : runS (sFor gp mi mb) σ D nx bk ct rt X := runS_X h
theorem runS_while {mt : M Bool} {mb : SM} {N : Nat} (I : Nat → Sv → Dl → Prop) {n : Nat} (h0 : I n σ D) (hn : n < N)
    (step : ∀ n σ D, I n σ D → runs mt (shw σ) D (fun b D1 => (b = true → runS mb σ D1 (fun σ1 D2 => ∃ k, k < n ∧ I k σ1 D2) nx (fun σ1 D2 => ∃ k, k < n ∧ I k σ1 D2) rt X) ∧ (b = false → nx σ D1)) noX) : runS (whileGo mt mb N) σ D nx bk ct rt X := by
  induction N generalizing σ D n with
  | zero => omega
  | succ N ih =>
    refine runS_Xs (runs_mono (step n σ D h0) fun b D1 ⟨h1, h2⟩ => ?_)
    cases b with
    | false => exact h2 rfl
    | true =>
      have h := h1 rfl
      rw [if_pos rfl]
      unfold runS at h ⊢
      simp only
      cases e : mb σ D1 with
      | none => rw [e] at h; exact h
      | some z =>
        obtain ⟨z, σ1, D2⟩ := z
        rw [e] at h
        cases z with
        | ex x => exact h
        | ok f =>
          cases f with
          | nx => obtain ⟨k, hk, hI⟩ := h; exact ih hI (by omega)
          | ct => obtain ⟨k, hk, hI⟩ := h; exact ih hI (by omega)
          | bk => exact h
          | rt p => exact h
/-! list comprehensions -/
theorem runs_lcN {own : List Nat} {gp : PV → Option Asg} {mt : M Bool} {me : M PV} {acc : List PV} {Q : List PV → Dl → Prop} (e : ps = []) (h : Q acc D) : runs (lcGo own gp mt me ps acc) ε D Q X := by subst e; exact h
theorem runs_lcC {own : List Nat} {gp : PV → Option Asg} {mt : M Bool} {me : M PV} {acc : List PV} {as : Asg} {Q : List PV → Dl → Prop} (e : ps = p :: qs) (e2 : gp p = some as)
    (h : runs mt (setE (wipeE ε own) as) D (fun b D1 => (b = true → runs me (setE (wipeE ε own) as) D1 (fun q D2 => acc.length < 1000000 ∧ runs (lcGo own gp mt me qs (acc ++ [q])) ε D2 Q X) noX) ∧ (b = false → runs (lcGo own gp mt me qs acc) ε D1 Q X)) noX) : runs (lcGo own gp mt me ps acc) ε D Q X := by
  subst e
  unfold runs at h
  unfold runs
  simp only [lcGo, e2]
  cases e : mt (setE (wipeE ε own) as) D with
  | none => rw [e] at h; exact h.elim
  | some z =>
    obtain ⟨z, D1⟩ := z
    rw [e] at h
    cases z with
    | ex x => exact h.elim
    | ok b =>
      cases b with
      | false => exact h.2 rfl
      | true =>
        have h := h.1 rfl
        unfold runs at h
        simp only
        cases e : me (setE (wipeE ε own) as) D1 with
        | none => rw [e] at h; exact h.elim
        | some z =>
          obtain ⟨z, D1⟩ := z
          rw [e] at h
          cases z with
          | ex x => exact h.elim
          | ok b =>
            simp only at h ⊢
            rw [if_pos h.1]
            exact h.2
theorem runs_lc {own : List Nat} {gp : PV → Option Asg} {mt : M Bool} {me : M PV} {acc : List PV} {Q : List PV → Dl → Prop} (J : List PV → List PV → Dl → Prop) (h0 : J ps acc D)
    (step : ∀ p r acc D, J (p :: r) acc D → ∃ as, gp p = some as ∧ runs mt (setE (wipeE ε own) as) D (fun b D1 => (b = true → runs me (setE (wipeE ε own) as) D1 (fun q D2 => acc.length < 1000000 ∧ J r (acc ++ [q]) D2) noX) ∧ (b = false → J r acc D1)) noX)
    (done : ∀ acc D, J [] acc D → Q acc D) : runs (lcGo own gp mt me ps acc) ε D Q X := by
  induction ps generalizing acc D with
  | nil => exact done _ _ h0
  | cons p r ih =>
    obtain ⟨as, e, h⟩ := step _ _ _ _ h0
    exact runs_lcC rfl e (runs_mono h fun b D1 ⟨h1, h2⟩ => ⟨fun z => runs_mono (h1 z) fun q D2 ⟨l, h⟩ => ⟨l, ih h⟩, fun z => ih (h2 z)⟩)
theorem law_of {m : SM} (h : runS m σ D noS noS noS (fun p _ => p = .bl true) noX) : ∃ ε' D', m σ D = some (.ok (.rt (.bl true)), ε', D') := by
  unfold runS at h
  split at h
  · exact h.elim
  · exact h.elim
  · exact h.elim
  · rename_i e; subst h; exact ⟨_, _, e⟩
  · exact h.elim
  · exact h.elim
end
end Pu
set_option Elab.async false
set_option linter.all false
set_option maxRecDepth 100000
set_option maxHeartbeats 4000000
/-! PuV: plain values that laws compare -/
namespace Pu
open PySem L2
@[reducible] def pt (a b : Int) : PV := .tup [.int a, .int b]
mutual
def okV : PV → Bool
  | .non => true
  | .bl _ => true
  | .int _ => true
  | .str x => PyData.strOk x
  | .tup xs => okVs xs
  | _ => false
def okVs : List PV → Bool
  | [] => true
  | x :: xs => okV x && okVs xs
end
mutual
def sz : PV → Nat
  | .tup xs => 1 + szs xs
  | _ => 1
def szs : List PV → Nat
  | [] => 0
  | x :: xs => sz x + szs xs
end
theorem sz_pos (p : PV) : 0 < sz p := by cases p <;> simp [sz]; omega
theorem szs_len : ∀ xs : List PV, xs.length ≤ szs xs
  | [] => Nat.le_refl _
  | x :: xs => by
    have := szs_len xs
    have := sz_pos x
    simp [szs]; omega
theorem szs_app : ∀ xs ys : List PV, szs (xs ++ ys) = szs xs + szs ys
  | [], ys => by simp [szs]
  | x :: xs, ys => by simp [szs, szs_app xs ys]; omega
theorem okVs_all : ∀ {xs : List PV}, okVs xs = true → ∀ x ∈ xs, okV x = true
  | x :: xs, h, y, hy => by
    simp only [okVs, Bool.and_eq_true] at h
    rcases List.mem_cons.mp hy with rfl | hy
    · exact h.1
    · exact okVs_all h.2 y hy
@[reducible] def dup (v : PV) : PV := .tup [v, v]
def Good (p : PV) : Prop := ∃ v, p = dup v ∧ okV v = true ∧ sz v ≤ 1000000
theorem good_of {v w : PV} (e : v = w) (o : okV w = true) (s : sz w ≤ 1000000) : Good (.tup [v, w]) := ⟨w, by rw [e], o, s⟩
@[reducible] def Goods (ps : List PV) : Prop := ∀ p ∈ ps, Good p
theorem goods_nil : Goods [] := fun _ h => nomatch h
theorem goods_cons {p : PV} {ps : List PV} (h : Good p) (g : Goods ps) : Goods (p :: ps) := fun q hq => (List.mem_cons.mp hq).elim (fun e => e ▸ h) (g q)
theorem Goods.app {ps qs : List PV} (h : Goods ps) (g : Goods qs) : Goods (ps ++ qs) := fun q hq => (List.mem_append.mp hq).elim (h q) (g q)
theorem pt_eq {a b c d : Int} (h : a = c) (g : b = d) : pt a b = pt c d := by rw [h, g]
theorem int_eq {a c : Int} (h : a = c) : PV.int a = PV.int c := by rw [h]
theorem atI_nat {α : Type} {xs : List α} {i : Nat} (h : i < xs.length) : atI xs (i : Int) = xs[i]? := by
  unfold atI ixN
  rw [if_pos (by omega), if_pos (by omega)]
  rfl
section
variable {α : Type} {ε ε' : Ev} {D D' : Dl} {Q Q' : α → Dl → Prop} {R R' : PV → Dl → Prop} {X : Xc → Dl → Prop} {nx nx' bk ct : Sv → Dl → Prop} {rt : PV → Dl → Prop} {a : α} {p q : PV} {ps qs : List PV} {σ : Sv}
theorem runs_ite_val {m1 m2 : M α} {c : Bool} {r : α} (h1 : c = true → runs m1 ε D (fun a D' => a = r ∧ D' = D) noX) (h2 : c = false → runs m2 ε D (fun a D' => a = r ∧ D' = D) noX) (h : Q r D) : runs (if c = true then m1 else m2) ε D Q X := by
  have : runs (if c = true then m1 else m2) ε D (fun a D' => a = r ∧ D' = D) noX := by
    cases c
    · exact h2 rfl
    · exact h1 rfl
  unfold runs at this ⊢
  split at this
  · obtain ⟨rfl, rfl⟩ := this; exact h
  · exact this.elim
  · exact this.elim
/-- pairs that agree go behind the pairs -/
def AddG (k i : Nat) (σ : Sv) (nx : Sv → Dl → Prop) (p : PV) (D : Dl) : Prop := ∃ qs, p = .lst qs ∧ k + qs.length ≤ 1000000 ∧ Goods qs ∧ ∀ ps', Goods ps' → ps'.length ≤ k + qs.length → nx (σ.set i (.own ps')) D
theorem addG_of {k i n : Nat} (g : Goods qs) (hn : qs.length = n) (l : k + n ≤ 1000000) (h : ∀ ps', Goods ps' → ps'.length ≤ k + n → nx (σ.set i (.own ps')) D) : AddG k i σ nx (.lst qs) D := ⟨qs, rfl, by omega, g, fun ps' g' l' => h ps' g' (by omega)⟩
theorem runS_addG {i j k : Nat} {m : M PV} (e : σ[j]? = some (.own ps)) (g : Goods ps) (l : ps.length ≤ k) (h : runs m (hide σ) D (AddG k i σ nx) X) : runS (sOwnAdd i j m) σ D nx bk ct rt X :=
  runS_add e (runs_mono h fun _ _ ⟨qs, e, l2, g2, h⟩ => ⟨qs, e, by omega, h _ (g.app g2) (by simp; omega)⟩)
def AppG (k i : Nat) (σ : Sv) (nx : Sv → Dl → Prop) (p : PV) (D : Dl) : Prop := k < 1000000 ∧ Good p ∧ ∀ ps', Goods ps' → ps'.length ≤ k + 1 → nx (σ.set i (.own ps')) D
theorem appG_of {k i : Nat} (g : Good p) (l : k < 1000000) (h : ∀ ps', Goods ps' → ps'.length ≤ k + 1 → nx (σ.set i (.own ps')) D) : AppG k i σ nx p D := ⟨l, g, h⟩
theorem runS_appG {i k : Nat} {m : M PV} (e : σ[i]? = some (.own ps)) (g : Goods ps) (l : ps.length ≤ k) (h : runs m (hide σ) D (AppG k i σ nx) X) : runS (sApp i m) σ D nx bk ct rt X :=
  runS_app e (runs_mono h fun _ _ ⟨l2, g2, h⟩ => ⟨by omega, h _ (g.app (goods_cons g2 goods_nil)) (by simp; omega)⟩)
theorem runs_pick1 {n : Nat} {f : FM} {is : List Nat} {q0 : PV} (e : pick ps is = [q0]) (h : runs (mCall n f [q0]) ε D R X) : runs (mCall n f (pick ps is)) ε D R X := by rw [e]; exact h
theorem runs_pick2 {n : Nat} {f : FM} {is : List Nat} {q0 q1 : PV} (e : pick ps is = [q0, q1]) (h : runs (mCall n f [q0, q1]) ε D R X) : runs (mCall n f (pick ps is)) ε D R X := by rw [e]; exact h
theorem runs_pick3 {n : Nat} {f : FM} {is : List Nat} {q0 q1 q2 : PV} (e : pick ps is = [q0, q1, q2]) (h : runs (mCall n f [q0, q1, q2]) ε D R X) : runs (mCall n f (pick ps is)) ε D R X := by rw [e]; exact h
theorem runs_pick4 {n : Nat} {f : FM} {is : List Nat} {q0 q1 q2 q3 : PV} (e : pick ps is = [q0, q1, q2, q3]) (h : runs (mCall n f [q0, q1, q2, q3]) ε D R X) : runs (mCall n f (pick ps is)) ε D R X := by rw [e]; exact h
theorem runs_pick5 {n : Nat} {f : FM} {is : List Nat} {q0 q1 q2 q3 q4 : PV} (e : pick ps is = [q0, q1, q2, q3, q4]) (h : runs (mCall n f [q0, q1, q2, q3, q4]) ε D R X) : runs (mCall n f (pick ps is)) ε D R X := by rw [e]; exact h
theorem runs_pick6 {n : Nat} {f : FM} {is : List Nat} {q0 q1 q2 q3 q4 q5 : PV} (e : pick ps is = [q0, q1, q2, q3, q4, q5]) (h : runs (mCall n f [q0, q1, q2, q3, q4, q5]) ε D R X) : runs (mCall n f (pick ps is)) ε D R X := by rw [e]; exact h
theorem runS_nf {m : SM} {σ' : Sv} (e : σ = σ') (h : runS m σ' D nx bk ct rt X) : runS m σ D nx bk ct rt X := by rw [e]; exact h
/-- a test that only changes the pairs -/
theorem runS_iteG {i k : Nat} {c : Bool} {m1 m2 : SM} (h1 : c = true → runS m1 σ D (fun σ1 D1 => D1 = D ∧ ∃ ps', Goods ps' ∧ ps'.length ≤ k ∧ σ1 = σ.set i (.own ps')) noS noS (fun _ _ => False) noX) (h2 : c = false → runS m2 σ D (fun σ1 D1 => D1 = D ∧ ∃ ps', Goods ps' ∧ ps'.length ≤ k ∧ σ1 = σ.set i (.own ps')) noS noS (fun _ _ => False) noX)
    (h : ∀ ps', Goods ps' → ps'.length ≤ k → nx (σ.set i (.own ps')) D) : runS (if c = true then m1 else m2) σ D nx bk ct rt X := by
  have : runS (if c = true then m1 else m2) σ D (fun σ1 D1 => D1 = D ∧ ∃ ps', Goods ps' ∧ ps'.length ≤ k ∧ σ1 = σ.set i (.own ps')) noS noS (fun _ _ => False) noX := by
    cases c
    · exact h2 rfl
    · exact h1 rfl
  unfold runS at this ⊢
  split at this
  · obtain ⟨rfl, ps', g, l, rfl⟩ := this; exact h ps' g l
  all_goals exact this.elim
/-- one more -/
def AppK (ps : List PV) (i : Nat) (σ : Sv) (nx : Sv → Dl → Prop) (p : PV) (D : Dl) : Prop := ps.length < 1000000 ∧ nx (σ.set i (.own (ps ++ [p]))) D
theorem appK_of {i : Nat} (l : ps.length < 1000000) (h : nx (σ.set i (.own (ps ++ [p]))) D) : AppK ps i σ nx p D := ⟨l, h⟩
theorem runS_appK {i : Nat} {m : M PV} (e : σ[i]? = some (.own ps)) (h : runs m (hide σ) D (AppK ps i σ nx) X) : runS (sApp i m) σ D nx bk ct rt X := runS_app e h
end
end Pu
set_option Elab.async false
set_option linter.all false
set_option maxRecDepth 100000
set_option maxHeartbeats 4000000
namespace GG
open PySem PySem.Spec PyProof.Rows L2 Pu
def topS (i : Nat) : Stmt := PySem.Challenge.pw_signedcorners_k00_points_and_classes.main.body.getD i (.Pass ⟨0, 0, 0, 0⟩)
@[reducible] def fuel : Nat := 1000000000
abbrev s_is_integer : Stmt := topS 1
abbrev N_is_integer : List Str := ["value"]
theorem sc_is_integer : FnScope N_is_integer ["value"] (defScope s_is_integer) := ⟨rfl, rfl, rfl, by decide +kernel, rfl, by decide +kernel, by decide +kernel⟩
abbrev s_is_tuple_of : Stmt := topS 2
abbrev N_is_tuple_of : List Str := ["value", "many"]
theorem sc_is_tuple_of : FnScope N_is_tuple_of ["value", "many"] (defScope s_is_tuple_of) := ⟨rfl, rfl, rfl, by decide +kernel, rfl, by decide +kernel, by decide +kernel⟩
abbrev s_is_point : Stmt := topS 4
abbrev N_is_point : List Str := ["value"]
theorem sc_is_point : FnScope N_is_point ["value"] (defScope s_is_point) := ⟨rfl, rfl, rfl, by decide +kernel, rfl, by decide +kernel, by decide +kernel⟩
abbrev s_class_of : Stmt := topS 5
abbrev N_class_of : List Str := ["point"]
theorem sc_class_of : FnScope N_class_of ["point"] (defScope s_class_of) := ⟨rfl, rfl, rfl, by decide +kernel, rfl, by decide +kernel, by decide +kernel⟩
abbrev s_added_points : Stmt := topS 6
abbrev N_added_points : List Str := ["one", "other"]
theorem sc_added_points : FnScope N_added_points ["one", "other"] (defScope s_added_points) := ⟨rfl, rfl, rfl, by decide +kernel, rfl, by decide +kernel, by decide +kernel⟩
abbrev s_less : Stmt := topS 7
abbrev N_less : List Str := ["one", "other"]
theorem sc_less : FnScope N_less ["one", "other"] (defScope s_less) := ⟨rfl, rfl, rfl, by decide +kernel, rfl, by decide +kernel, by decide +kernel⟩
abbrev s_divisor_of : Stmt := topS 8
abbrev N_divisor_of : List Str := ["direction", "one", "other"]
theorem sc_divisor_of : FnScope N_divisor_of ["direction"] (defScope s_divisor_of) := ⟨rfl, rfl, rfl, by decide +kernel, rfl, by decide +kernel, by decide +kernel⟩
abbrev s_dot : Stmt := topS 9
abbrev N_dot : List Str := ["one", "other"]
theorem sc_dot : FnScope N_dot ["one", "other"] (defScope s_dot) := ⟨rfl, rfl, rfl, by decide +kernel, rfl, by decide +kernel, by decide +kernel⟩
abbrev s_right_class : Stmt := topS 10
abbrev N_right_class : List Str := ["direction"]
theorem sc_right_class : FnScope N_right_class ["direction"] (defScope s_right_class) := ⟨rfl, rfl, rfl, by decide +kernel, rfl, by decide +kernel, by decide +kernel⟩
abbrev s_doubled : Stmt := topS 11
abbrev N_doubled : List Str := ["one", "other", "third", "x", "y", "wide", "high"]
theorem sc_doubled : FnScope N_doubled ["one", "other", "third"] (defScope s_doubled) := ⟨rfl, rfl, rfl, by decide +kernel, rfl, by decide +kernel, by decide +kernel⟩
abbrev s__law_deal : Stmt := topS 13
abbrev N__law_deal : List Str := ["script", "salt", "most", "cells", "mix", "cell"]
theorem sc__law_deal : FnScope N__law_deal ["script", "salt"] (defScope s__law_deal) := ⟨rfl, rfl, rfl, by decide +kernel, rfl, by decide +kernel, by decide +kernel⟩
abbrev s__law_any : Stmt := topS 14
abbrev N__law_any : List Str := ["deal", "below", "rest"]
theorem sc__law_any : FnScope N__law_any ["deal", "below"] (defScope s__law_any) := ⟨rfl, rfl, rfl, by decide +kernel, rfl, by decide +kernel, by decide +kernel⟩
abbrev s__law_is_kind : Stmt := topS 15
abbrev N__law_is_kind : List Str := ["told", "right"]
theorem sc__law_is_kind : FnScope N__law_is_kind ["told", "right"] (defScope s__law_is_kind) := ⟨rfl, rfl, rfl, by decide +kernel, rfl, by decide +kernel, by decide +kernel⟩
abbrev s__law_same : Stmt := topS 16
abbrev N__law_same : List Str := ["told", "right", "todo", "one", "other", "at"]
theorem sc__law_same : FnScope N__law_same ["told", "right"] (defScope s__law_same) := ⟨rfl, rfl, rfl, by decide +kernel, rfl, by decide +kernel, by decide +kernel⟩
abbrev s__law_all : Stmt := topS 17
abbrev N__law_all : List Str := ["pairs", "told", "right"]
theorem sc__law_all : FnScope N__law_all ["pairs"] (defScope s__law_all) := ⟨rfl, rfl, rfl, by decide +kernel, rfl, by decide +kernel, by decide +kernel⟩
abbrev s__law_turn : Stmt := topS 18
abbrev N__law_turn : List Str := ["one", "other", "third"]
theorem sc__law_turn : FnScope N__law_turn ["one", "other", "third"] (defScope s__law_turn) := ⟨rfl, rfl, rfl, by decide +kernel, rfl, by decide +kernel, by decide +kernel⟩
abbrev s__law_divides : Stmt := topS 19
abbrev N__law_divides : List Str := ["number", "direction"]
theorem sc__law_divides : FnScope N__law_divides ["number", "direction"] (defScope s__law_divides) := ⟨rfl, rfl, rfl, by decide +kernel, rfl, by decide +kernel, by decide +kernel⟩
abbrev s_law : Stmt := topS 20
abbrev N_law : List Str := ["script", "deal", "pairs", "turn", "far", "one", "other", "third", "kind", "twice", "by", "small", "most", "many", "value", "again", "number"]
theorem sc_law : FnScope N_law ["script"] (defScope s_law) := ⟨rfl, rfl, rfl, by decide +kernel, rfl, by decide +kernel, by decide +kernel⟩
structure Txt (K : PySem.W.Frag) (mg : Str → Option Value) where
  a_is_integer : Addr
  d_is_integer : FuncData
  F_is_integer : Fun K "is_integer" "is_integer" s_is_integer a_is_integer d_is_integer
  g_is_integer : mg "is_integer" = some (.ref a_is_integer)
  a_is_tuple_of : Addr
  d_is_tuple_of : FuncData
  F_is_tuple_of : Fun K "is_tuple_of" "is_tuple_of" s_is_tuple_of a_is_tuple_of d_is_tuple_of
  g_is_tuple_of : mg "is_tuple_of" = some (.ref a_is_tuple_of)
  a_is_point : Addr
  d_is_point : FuncData
  F_is_point : Fun K "is_point" "is_point" s_is_point a_is_point d_is_point
  g_is_point : mg "is_point" = some (.ref a_is_point)
  a_class_of : Addr
  d_class_of : FuncData
  F_class_of : Fun K "class_of" "class_of" s_class_of a_class_of d_class_of
  g_class_of : mg "class_of" = some (.ref a_class_of)
  a_added_points : Addr
  d_added_points : FuncData
  F_added_points : Fun K "added_points" "added_points" s_added_points a_added_points d_added_points
  g_added_points : mg "added_points" = some (.ref a_added_points)
  a_less : Addr
  d_less : FuncData
  F_less : Fun K "less" "less" s_less a_less d_less
  g_less : mg "less" = some (.ref a_less)
  a_divisor_of : Addr
  d_divisor_of : FuncData
  F_divisor_of : Fun K "divisor_of" "divisor_of" s_divisor_of a_divisor_of d_divisor_of
  g_divisor_of : mg "divisor_of" = some (.ref a_divisor_of)
  a_dot : Addr
  d_dot : FuncData
  F_dot : Fun K "dot" "dot" s_dot a_dot d_dot
  g_dot : mg "dot" = some (.ref a_dot)
  a_right_class : Addr
  d_right_class : FuncData
  F_right_class : Fun K "right_class" "right_class" s_right_class a_right_class d_right_class
  g_right_class : mg "right_class" = some (.ref a_right_class)
  a_doubled : Addr
  d_doubled : FuncData
  F_doubled : Fun K "doubled" "doubled" s_doubled a_doubled d_doubled
  g_doubled : mg "doubled" = some (.ref a_doubled)
  a__law_deal : Addr
  d__law_deal : FuncData
  F__law_deal : Fun K "_law_deal" "_law_deal" s__law_deal a__law_deal d__law_deal
  g__law_deal : mg "_law_deal" = some (.ref a__law_deal)
  a__law_any : Addr
  d__law_any : FuncData
  F__law_any : Fun K "_law_any" "_law_any" s__law_any a__law_any d__law_any
  g__law_any : mg "_law_any" = some (.ref a__law_any)
  a__law_is_kind : Addr
  d__law_is_kind : FuncData
  F__law_is_kind : Fun K "_law_is_kind" "_law_is_kind" s__law_is_kind a__law_is_kind d__law_is_kind
  g__law_is_kind : mg "_law_is_kind" = some (.ref a__law_is_kind)
  a__law_same : Addr
  d__law_same : FuncData
  F__law_same : Fun K "_law_same" "_law_same" s__law_same a__law_same d__law_same
  g__law_same : mg "_law_same" = some (.ref a__law_same)
  a__law_all : Addr
  d__law_all : FuncData
  F__law_all : Fun K "_law_all" "_law_all" s__law_all a__law_all d__law_all
  g__law_all : mg "_law_all" = some (.ref a__law_all)
  a__law_turn : Addr
  d__law_turn : FuncData
  F__law_turn : Fun K "_law_turn" "_law_turn" s__law_turn a__law_turn d__law_turn
  g__law_turn : mg "_law_turn" = some (.ref a__law_turn)
  a__law_divides : Addr
  d__law_divides : FuncData
  F__law_divides : Fun K "_law_divides" "_law_divides" s__law_divides a__law_divides d__law_divides
  g__law_divides : mg "_law_divides" = some (.ref a__law_divides)
  a_law : Addr
  d_law : FuncData
  F_law : Fun K "law" "law" s_law a_law d_law
  g_law : mg "law" = some (.ref a_law)
  m_abs : mg "abs" = none
  m_bool : mg "bool" = none
  m_dict : mg "dict" = none
  m_int : mg "int" = none
  m_isinstance : mg "isinstance" = none
  m_len : mg "len" = none
  m_list : mg "list" = none
  m_max : mg "max" = none
  m_range : mg "range" = none
  m_str : mg "str" = none
  m_tuple : mg "tuple" = none
section
variable {P : Program} {w : World} {K : PySem.W.Frag} {mg : Str → Option Value} {base : Heap}
theorem b_is_integer {f : Addr} {fd : FuncData} (F : Fun K "is_integer" "is_integer" s_is_integer f fd) : Binds K fd ["value"] [] := F.binds fun _ _ _ _ _ _ us hl => match us, hl with | [_], _ => rfl
theorem b_is_tuple_of {f : Addr} {fd : FuncData} (F : Fun K "is_tuple_of" "is_tuple_of" s_is_tuple_of f fd) : Binds K fd ["value", "many"] [] := F.binds fun _ _ _ _ _ _ us hl => match us, hl with | [_, _], _ => rfl
theorem b_is_point {f : Addr} {fd : FuncData} (F : Fun K "is_point" "is_point" s_is_point f fd) : Binds K fd ["value"] [] := F.binds fun _ _ _ _ _ _ us hl => match us, hl with | [_], _ => rfl
theorem b_class_of {f : Addr} {fd : FuncData} (F : Fun K "class_of" "class_of" s_class_of f fd) : Binds K fd ["point"] [] := F.binds fun _ _ _ _ _ _ us hl => match us, hl with | [_], _ => rfl
theorem b_added_points {f : Addr} {fd : FuncData} (F : Fun K "added_points" "added_points" s_added_points f fd) : Binds K fd ["one", "other"] [] := F.binds fun _ _ _ _ _ _ us hl => match us, hl with | [_, _], _ => rfl
theorem b_less {f : Addr} {fd : FuncData} (F : Fun K "less" "less" s_less f fd) : Binds K fd ["one", "other"] [] := F.binds fun _ _ _ _ _ _ us hl => match us, hl with | [_, _], _ => rfl
theorem b_divisor_of {f : Addr} {fd : FuncData} (F : Fun K "divisor_of" "divisor_of" s_divisor_of f fd) : Binds K fd ["direction"] [] := F.binds fun _ _ _ _ _ _ us hl => match us, hl with | [_], _ => rfl
theorem b_dot {f : Addr} {fd : FuncData} (F : Fun K "dot" "dot" s_dot f fd) : Binds K fd ["one", "other"] [] := F.binds fun _ _ _ _ _ _ us hl => match us, hl with | [_, _], _ => rfl
theorem b_right_class {f : Addr} {fd : FuncData} (F : Fun K "right_class" "right_class" s_right_class f fd) : Binds K fd ["direction"] [] := F.binds fun _ _ _ _ _ _ us hl => match us, hl with | [_], _ => rfl
theorem b_doubled {f : Addr} {fd : FuncData} (F : Fun K "doubled" "doubled" s_doubled f fd) : Binds K fd ["one", "other", "third"] [] := F.binds fun _ _ _ _ _ _ us hl => match us, hl with | [_, _, _], _ => rfl
theorem b__law_deal {f : Addr} {fd : FuncData} (F : Fun K "_law_deal" "_law_deal" s__law_deal f fd) : Binds K fd ["script", "salt"] [] := F.binds fun _ _ _ _ _ _ us hl => match us, hl with | [_, _], _ => rfl
theorem b__law_any {f : Addr} {fd : FuncData} (F : Fun K "_law_any" "_law_any" s__law_any f fd) : Binds K fd ["deal", "below"] [] := F.binds fun _ _ _ _ _ _ us hl => match us, hl with | [_, _], _ => rfl
theorem b__law_is_kind {f : Addr} {fd : FuncData} (F : Fun K "_law_is_kind" "_law_is_kind" s__law_is_kind f fd) : Binds K fd ["told", "right"] [] := F.binds fun _ _ _ _ _ _ us hl => match us, hl with | [_, _], _ => rfl
theorem b__law_same {f : Addr} {fd : FuncData} (F : Fun K "_law_same" "_law_same" s__law_same f fd) : Binds K fd ["told", "right"] [] := F.binds fun _ _ _ _ _ _ us hl => match us, hl with | [_, _], _ => rfl
theorem b__law_all {f : Addr} {fd : FuncData} (F : Fun K "_law_all" "_law_all" s__law_all f fd) : Binds K fd ["pairs"] [] := F.binds fun _ _ _ _ _ _ us hl => match us, hl with | [_], _ => rfl
theorem b__law_turn {f : Addr} {fd : FuncData} (F : Fun K "_law_turn" "_law_turn" s__law_turn f fd) : Binds K fd ["one", "other", "third"] [] := F.binds fun _ _ _ _ _ _ us hl => match us, hl with | [_, _, _], _ => rfl
theorem b__law_divides {f : Addr} {fd : FuncData} (F : Fun K "_law_divides" "_law_divides" s__law_divides f fd) : Binds K fd ["number", "direction"] [] := F.binds fun _ _ _ _ _ _ us hl => match us, hl with | [_, _], _ => rfl
theorem b_law {f : Addr} {fd : FuncData} (F : Fun K "law" "law" s_law f fd) : Binds K fd ["script"] [] := F.binds fun _ _ _ _ _ _ us hl => match us, hl with | [_], _ => rfl
theorem k_class_of_0_point {f : Addr} {fd : FuncData} (F : Fun K "class_of" "class_of" s_class_of f fd) : KBi fd ["point"] ["point"] 0 [0] := kbi F fun _ _ _ _ _ _ us ws h1 h2 => match us, ws, h1, h2 with | [], [_], _, _ => rfl
theorem k_added_points_0_other_one {f : Addr} {fd : FuncData} (F : Fun K "added_points" "added_points" s_added_points f fd) : KBi fd ["one", "other"] ["other", "one"] 0 [1, 0] := kbi F fun _ _ _ _ _ _ us ws h1 h2 => match us, ws, h1, h2 with | [], [_, _], _, _ => rfl
theorem k_less_0_other_one {f : Addr} {fd : FuncData} (F : Fun K "less" "less" s_less f fd) : KBi fd ["one", "other"] ["other", "one"] 0 [1, 0] := kbi F fun _ _ _ _ _ _ us ws h1 h2 => match us, ws, h1, h2 with | [], [_, _], _, _ => rfl
theorem k_dot_0_other_one {f : Addr} {fd : FuncData} (F : Fun K "dot" "dot" s_dot f fd) : KBi fd ["one", "other"] ["other", "one"] 0 [1, 0] := kbi F fun _ _ _ _ _ _ us ws h1 h2 => match us, ws, h1, h2 with | [], [_, _], _, _ => rfl
theorem k_right_class_0_direction {f : Addr} {fd : FuncData} (F : Fun K "right_class" "right_class" s_right_class f fd) : KBi fd ["direction"] ["direction"] 0 [0] := kbi F fun _ _ _ _ _ _ us ws h1 h2 => match us, ws, h1, h2 with | [], [_], _, _ => rfl
theorem k_doubled_0_third_other_one {f : Addr} {fd : FuncData} (F : Fun K "doubled" "doubled" s_doubled f fd) : KBi fd ["one", "other", "third"] ["third", "other", "one"] 0 [2, 1, 0] := kbi F fun _ _ _ _ _ _ us ws h1 h2 => match us, ws, h1, h2 with | [], [_, _, _], _, _ => rfl
theorem k_divisor_of_0_direction {f : Addr} {fd : FuncData} (F : Fun K "divisor_of" "divisor_of" s_divisor_of f fd) : KBi fd ["direction"] ["direction"] 0 [0] := kbi F fun _ _ _ _ _ _ us ws h1 h2 => match us, ws, h1, h2 with | [], [_], _, _ => rfl
theorem k_is_point_0_value {f : Addr} {fd : FuncData} (F : Fun K "is_point" "is_point" s_is_point f fd) : KBi fd ["value"] ["value"] 0 [0] := kbi F fun _ _ _ _ _ _ us ws h1 h2 => match us, ws, h1, h2 with | [], [_], _, _ => rfl
def m_is_integer : SM := sX (eAnd (eFn pvIsi (eCons (eVar 0) (eCons (eC (.ty .int)) eNil))) (eNot (eFn pvIsi (eCons (eVar 0) (eCons (eC (.ty .bool)) eNil))))) sRetK
@[reducible] def f_is_integer : FM := fnM 1 m_is_integer
theorem ok_is_integer (T : Txt K mg) : FnOk P w K mg base (L2.CX P w) 1 T.a_is_integer T.d_is_integer ["value"] (spF K mg 1 f_is_integer) :=
  fn_ok T.F_is_integer sc_is_integer rfl fun cdv A outer s H E hr =>
    dss_one (ds_ret (ps_ret (de_and (de_fn (pe_callB call_isiA (by rfl) T.m_isinstance (by rfl) (da_cons (de_var (pv 0)) (da_cons (de_ty (n := .int) (pe_bltn (by rfl) T.m_int (by rfl) rfl)) da_nil))) ok_isi) (de_one (de_not (de_fn (pe_callB call_isiA (by rfl) T.m_isinstance (by rfl) (da_cons (de_var (pv 0)) (da_cons (de_ty (n := .bool) (pe_bltn (by rfl) T.m_bool (by rfl) rfl)) da_nil))) ok_isi))))))
def m_is_tuple_of : SM := sX (eAnd (eFn pvIsi (eCons (eVar 0) (eCons (eC (.ty .tuple)) eNil))) (eBin pvEqO (eFn pvLen (eCons (eVar 0) eNil)) (eVar 1))) sRetK
@[reducible] def f_is_tuple_of : FM := fnM 2 m_is_tuple_of
theorem ok_is_tuple_of (T : Txt K mg) : FnOk P w K mg base (L2.CX P w) 1 T.a_is_tuple_of T.d_is_tuple_of ["value", "many"] (spF K mg 2 f_is_tuple_of) :=
  fn_ok T.F_is_tuple_of sc_is_tuple_of rfl fun cdv A outer s H E hr =>
    dss_one (ds_ret (ps_ret (de_and (de_fn (pe_callB call_isiA (by rfl) T.m_isinstance (by rfl) (da_cons (de_var (pv 0)) (da_cons (de_ty (n := .tuple) (pe_bltn (by rfl) T.m_tuple (by rfl) rfl)) da_nil))) ok_isi) (de_one (de_eq (rm_of hr) (de_fn (pe_callB call_len (by rfl) T.m_len (by rfl) (da_cons (de_var (pv 0)) da_nil)) ok_len) (de_var (pv 1)))))))
def m_is_point : SM := sX (eAnd (eCall 2 f_is_tuple_of (eCons (eVar 0) (eCons (eC (.int 2)) eNil))) (eAnd (eCall 1 f_is_integer (eCons (eBin pvIx (eVar 0) (eC (.int 0))) eNil)) (eCall 1 f_is_integer (eCons (eBin pvIx (eVar 0) (eC (.int 1))) eNil)))) sRetK
@[reducible] def f_is_point : FM := fnM 1 m_is_point
theorem ok_is_point (T : Txt K mg) : FnOk P w K mg base (L2.CX P w) 2 T.a_is_point T.d_is_point ["value"] (spF K mg 1 f_is_point) :=
  fn_ok T.F_is_point sc_is_point rfl fun cdv A outer s H E hr =>
    dss_one (ds_ret (ps_ret (de_and (de_call (pe_call (ok_is_tuple_of T) (hr.mono (by decide)) (by rfl) T.g_is_tuple_of T.F_is_tuple_of.kp (b_is_tuple_of T.F_is_tuple_of) .nil (passes_call (takes_of rfl rfl rfl rfl) fun _ _ _ _ h => h) (da_cons (de_var (pv 0)) (da_cons (de_int) da_nil)))) (de_and (de_call (pe_call (ok_is_integer T) (hr.mono (by decide)) (by rfl) T.g_is_integer T.F_is_integer.kp (b_is_integer T.F_is_integer) .nil (passes_call (takes_of rfl rfl rfl rfl) fun _ _ _ _ h => h) (da_cons (de_ix (de_var (pv 0)) (de_int)) da_nil))) (de_one (de_call (pe_call (ok_is_integer T) (hr.mono (by decide)) (by rfl) T.g_is_integer T.F_is_integer.kp (b_is_integer T.F_is_integer) .nil (passes_call (takes_of rfl rfl rfl rfl) fun _ _ _ _ h => h) (da_cons (de_ix (de_var (pv 0)) (de_int)) da_nil))))))))
def m_class_of : SM := sX (eTup (eCons (eBin pvMod (eBin pvIx (eVar 0) (eC (.int 0))) (eC (.int 2))) (eCons (eBin pvMod (eBin pvIx (eVar 0) (eC (.int 1))) (eC (.int 2))) eNil))) sRetK
@[reducible] def f_class_of : FM := fnM 1 m_class_of
theorem ok_class_of (T : Txt K mg) : FnOk P w K mg base (L2.CX P w) 1 T.a_class_of T.d_class_of ["point"] (spF K mg 1 f_class_of) :=
  fn_ok T.F_class_of sc_class_of rfl fun cdv A outer s H E hr =>
    dss_one (ds_ret (ps_ret (de_tup (da_cons (de_mod (de_ix (de_var (pv 0)) (de_int)) (de_int)) (da_cons (de_mod (de_ix (de_var (pv 0)) (de_int)) (de_int)) da_nil)))))
def m_added_points : SM := sX (eTup (eCons (eBin pvAdd (eBin pvIx (eVar 0) (eC (.int 0))) (eBin pvIx (eVar 1) (eC (.int 0)))) (eCons (eBin pvAdd (eBin pvIx (eVar 0) (eC (.int 1))) (eBin pvIx (eVar 1) (eC (.int 1)))) eNil))) sRetK
@[reducible] def f_added_points : FM := fnM 2 m_added_points
theorem ok_added_points (T : Txt K mg) : FnOk P w K mg base (L2.CX P w) 1 T.a_added_points T.d_added_points ["one", "other"] (spF K mg 2 f_added_points) :=
  fn_ok T.F_added_points sc_added_points rfl fun cdv A outer s H E hr =>
    dss_one (ds_ret (ps_ret (de_tup (da_cons (de_add (de_ix (de_var (pv 0)) (de_int)) (de_ix (de_var (pv 1)) (de_int))) (da_cons (de_add (de_ix (de_var (pv 0)) (de_int)) (de_ix (de_var (pv 1)) (de_int))) da_nil)))))
def m_less : SM := sX (eTup (eCons (eBin pvSub (eBin pvIx (eVar 0) (eC (.int 0))) (eBin pvIx (eVar 1) (eC (.int 0)))) (eCons (eBin pvSub (eBin pvIx (eVar 0) (eC (.int 1))) (eBin pvIx (eVar 1) (eC (.int 1)))) eNil))) sRetK
@[reducible] def f_less : FM := fnM 2 m_less
theorem ok_less (T : Txt K mg) : FnOk P w K mg base (L2.CX P w) 1 T.a_less T.d_less ["one", "other"] (spF K mg 2 f_less) :=
  fn_ok T.F_less sc_less rfl fun cdv A outer s H E hr =>
    dss_one (ds_ret (ps_ret (de_tup (da_cons (de_sub (de_ix (de_var (pv 0)) (de_int)) (de_ix (de_var (pv 1)) (de_int))) (da_cons (de_sub (de_ix (de_var (pv 0)) (de_int)) (de_ix (de_var (pv 1)) (de_int))) da_nil)))))
def m_divisor_of : SM := sSeq (sX (mVal (eFn pvAbs (eCons (eBin pvIx (eVar 0) (eC (.int 0))) eNil)) (mVal (eFn pvAbs (eCons (eBin pvIx (eVar 0) (eC (.int 1))) eNil)) (mNil))) (sPar [1, 2]))
    (sSeq (whileGo (eB (eBin pvGt (eVar 2) (eC (.int 0)))) (sX (mVal (eVar 2) (mVal (eBin pvMod (eVar 1) (eVar 2)) (mNil))) (sPar [1, 2])) fuel)
    (sX (eVar 1) sRetK))
@[reducible] def f_divisor_of : FM := fnM 3 m_divisor_of
theorem ok_divisor_of (T : Txt K mg) : FnOk P w K mg base (L2.CX P w) 1 T.a_divisor_of T.d_divisor_of ["direction"] (spF K mg 1 f_divisor_of) :=
  fn_ok T.F_divisor_of sc_divisor_of rfl fun cdv A outer s H E hr =>
    dss_cons (ds_par (i := 1) (j := 2) (ps_par rfl sc_divisor_of.nd rfl rfl (by decide) rfl rfl (dm_val (de_fn (pe_callB call_abs (by rfl) T.m_abs (by rfl) (da_cons (de_ix (de_var (pv 0)) (de_int)) da_nil)) ok_abs) (dm_val (de_fn (pe_callB call_abs (by rfl) T.m_abs (by rfl) (da_cons (de_ix (de_var (pv 0)) (de_int)) da_nil)) ok_abs) (dm_nil))) (by rfl)))
    (dss_cons (ds_while fuel (passes_of rfl) (dt_gt (de_var (pv 2)) (de_int)) (dss_one (ds_par (i := 1) (j := 2) (ps_par rfl sc_divisor_of.nd rfl rfl (by decide) rfl rfl (dm_val (de_var (pv 2)) (dm_val (de_mod (de_var (pv 1)) (de_var (pv 2))) (dm_nil))) (by rfl)))))
    (dss_one (ds_ret (ps_ret (de_var (pv 1))))))
def m_dot : SM := sX (eBin pvMod (eBin pvAdd (eBin pvMul (eBin pvIx (eVar 0) (eC (.int 0))) (eBin pvIx (eVar 1) (eC (.int 0)))) (eBin pvMul (eBin pvIx (eVar 0) (eC (.int 1))) (eBin pvIx (eVar 1) (eC (.int 1))))) (eC (.int 2))) sRetK
@[reducible] def f_dot : FM := fnM 2 m_dot
theorem ok_dot (T : Txt K mg) : FnOk P w K mg base (L2.CX P w) 1 T.a_dot T.d_dot ["one", "other"] (spF K mg 2 f_dot) :=
  fn_ok T.F_dot sc_dot rfl fun cdv A outer s H E hr =>
    dss_one (ds_ret (ps_ret (de_mod (de_add (de_mul (de_ix (de_var (pv 0)) (de_int)) (de_ix (de_var (pv 1)) (de_int))) (de_mul (de_ix (de_var (pv 0)) (de_int)) (de_ix (de_var (pv 1)) (de_int)))) (de_int))))
def m_right_class : SM := sX (eCall 1 f_class_of (eCons (eTup (eCons (eBin pvIx (eVar 0) (eC (.int 1))) (eCons (eBin pvIx (eVar 0) (eC (.int 0))) eNil))) eNil)) sRetK
@[reducible] def f_right_class : FM := fnM 1 m_right_class
theorem ok_right_class (T : Txt K mg) : FnOk P w K mg base (L2.CX P w) 2 T.a_right_class T.d_right_class ["direction"] (spF K mg 1 f_right_class) :=
  fn_ok T.F_right_class sc_right_class rfl fun cdv A outer s H E hr =>
    dss_one (ds_ret (ps_ret (de_call (pe_call (ok_class_of T) (hr.mono (by decide)) (by rfl) T.g_class_of T.F_class_of.kp (b_class_of T.F_class_of) .nil (passes_call (takes_of rfl rfl rfl rfl) fun _ _ _ _ h => h) (da_cons (de_tup (da_cons (de_ix (de_var (pv 0)) (de_int)) (da_cons (de_ix (de_var (pv 0)) (de_int)) da_nil))) da_nil)))))
def m_doubled : SM := sSeq (sX (eCall 2 f_less (eCons (eVar 1) (eCons (eVar 0) eNil))) (sSet (gpT (gpCons (gpN 3) (gpCons (gpN 4) (gpNil))))))
    (sSeq (sX (eCall 2 f_less (eCons (eVar 2) (eCons (eVar 0) eNil))) (sSet (gpT (gpCons (gpN 5) (gpCons (gpN 6) (gpNil))))))
    (sX (eBin pvSub (eBin pvMul (eVar 3) (eVar 6)) (eBin pvMul (eVar 4) (eVar 5))) sRetK))
@[reducible] def f_doubled : FM := fnM 7 m_doubled
theorem ok_doubled (T : Txt K mg) : FnOk P w K mg base (L2.CX P w) 2 T.a_doubled T.d_doubled ["one", "other", "third"] (spF K mg 3 f_doubled) :=
  fn_ok T.F_doubled sc_doubled rfl fun cdv A outer s H E hr =>
    dss_cons (ds_asg (ps_asg (de_call (pe_call (ok_less T) (hr.mono (by decide)) (by rfl) T.g_less T.F_less.kp (b_less T.F_less) .nil (passes_call (takes_of rfl rfl rfl rfl) fun _ _ _ _ h => h) (da_cons (de_var (pv 1)) (da_cons (de_var (pv 0)) da_nil)))) (dg_tup rfl (dgs_cons (dg_name (pg_name (i := 3) sc_doubled.nd rfl (by first | exact .inl rfl | exact .inr rfl))) (dgs_cons (dg_name (pg_name (i := 4) sc_doubled.nd rfl (by first | exact .inl rfl | exact .inr rfl))) (dgs_nil))) (gpLen_cons (gpLen_cons (fun _ _ h => gpLen_nil h))))) g_id)
    (dss_cons (ds_asg (ps_asg (de_call (pe_call (ok_less T) (hr.mono (by decide)) (by rfl) T.g_less T.F_less.kp (b_less T.F_less) .nil (passes_call (takes_of rfl rfl rfl rfl) fun _ _ _ _ h => h) (da_cons (de_var (pv 2)) (da_cons (de_var (pv 0)) da_nil)))) (dg_tup rfl (dgs_cons (dg_name (pg_name (i := 5) sc_doubled.nd rfl (by first | exact .inl rfl | exact .inr rfl))) (dgs_cons (dg_name (pg_name (i := 6) sc_doubled.nd rfl (by first | exact .inl rfl | exact .inr rfl))) (dgs_nil))) (gpLen_cons (gpLen_cons (fun _ _ h => gpLen_nil h))))) g_id)
    (dss_one (ds_ret (ps_ret (de_sub (de_mul (de_var (pv 3)) (de_var (pv 6))) (de_mul (de_var (pv 4)) (de_var (pv 5))))))))
theorem ok__law_deal (T : Txt K mg) : FnOk P w K mg base (L2.CX P w) 1 T.a__law_deal T.d__law_deal ["script", "salt"] (spDeal K) := deal_ok T.F__law_deal sc__law_deal rfl rfl fun cdv A outer s H E => pss_cons (ds_asg (gp := gpN 2) (ps_set (i := 2) sc__law_deal.nd rfl (by first | exact .inl rfl | exact .inr rfl) (de_mulW (de_mulW (de_mulW (de_mulW (de_mulW (de_pow de_int de_int) (de_pow de_int de_int)) (de_pow de_int de_int)) (de_pow de_int de_int)) (de_pow de_int de_int)) (de_pow de_int de_int))) g_name)
    (pss_cons (ds_asg (gp := gpN 3) (ps_frz (ps_lcs (i := 3) (own := [("cell", 5)]) rfl sc__law_deal.nd rfl rfl (sw_true rfl rfl rfl (by decide +kernel)) (di_seq (de_cut (de_var (pv 0)) do_none (do_some de_int))) (blkOk_by (N := N__law_deal) (sc := defScope s__law_deal) (by decide +kernel)) (fun _ _ _ _ _ => dg_name (pg_name (i := 5) sc__law_deal.nd rfl (by first | exact .inl rfl | exact .inr rfl))) (fun _ _ _ _ _ => dts_nil) (fun _ _ _ _ _ => de_mod (de_fn (pe_callTy call_int1 (by rfl) T.m_int (by rfl) (da_cons (de_fn (pe_callB call_abs (by rfl) T.m_abs (by rfl) (da_cons (de_fn (pe_callTy call_int1 (by rfl) T.m_int (by rfl) (da_cons (de_var (pv 5)) da_nil)) ok_int) da_nil)) ok_abs) da_nil)) ok_int) (de_var (pv 2))) (gin_name (by decide)))) g_name)
    (pss_cons (ds_asg (gp := gpN 4) (ps_set (i := 4) sc__law_deal.nd rfl (by first | exact .inl rfl | exact .inr rfl) (de_add de_int (de_mul de_int (de_var (pv 1))))) g_name)
    (pss_cons (ds_for (passes_of rfl) rfl (di_seq (de_var (pv 3))) (dg_name (pg_name (i := 5) sc__law_deal.nd rfl (by first | exact .inl rfl | exact .inr rfl))) (dss_one (ds_asg (gp := gpN 4) (ps_set (i := 4) sc__law_deal.nd rfl (by first | exact .inl rfl | exact .inr rfl) (de_mod (de_fn (pe_callTy call_int1 (by rfl) T.m_int (by rfl) (da_cons (de_add (de_add (de_mul (de_var (pv 4)) de_int) (de_mod (de_fn (pe_callTy call_int1 (by rfl) T.m_int (by rfl) (da_cons (de_var (pv 5)) da_nil)) ok_int) de_int)) de_int) da_nil)) ok_int) de_int)) g_name)))
    (pss_one (ps_ret (pe_lst (pa_cons (pe_revL (dl_lc (E := E) (own := [("cell", 5)]) rfl sc__law_deal.nd (di_seq (de_var (pv 3))) (blkOk_by (N := N__law_deal) (sc := defScope s__law_deal) (by decide +kernel)) (fun _ _ _ _ _ => dg_name (pg_name (i := 5) sc__law_deal.nd rfl (by first | exact .inl rfl | exact .inr rfl))) (fun _ _ _ _ _ => dts_one (dt_ge (de_var (pv 5)) (de_pow de_int de_int))) (fun _ _ _ _ _ => de_var (pv 5)) (gin_name (by decide)))) (pa_cons (pv 4) pa_nil))))))))
abbrev f__law_any : FM := anyM
theorem ok__law_any (T : Txt K mg) : FnOk P w K mg base (L2.CX P w) 1 T.a__law_any T.d__law_any ["deal", "below"] (spF K mg 2 f__law_any) := any_ok T.F__law_any sc__law_any rfl rfl fun cdv A outer s H E => pss_cons (ps_while (passes_of rfl) (pw_and (pt_cmpR op_gt (pe_callB call_len_seq (by rfl) T.m_len (by rfl) (pa_cons (pe_ix ix_list (pv 0) pe_int fun _ _ => rfl) pa_nil)) pe_int (nomark _)) (pw_and1 (pt_cmpR op_eq (pe_ix ix_list (pe_ix ix_list (pv 0) pe_int fun _ _ => rfl) (pe_un un_neg pe_int) fun _ _ => rfl) pe_int (nomark _)))).pt
      (pss_one (ps_expr (pe_bm0 PySem.F.plainAttrs_list PySem.F.slot_list_pop PySem.F.type_list_pop mt_pop (pe_ix ix_list (pv 0) pe_int fun _ _ => rfl)))))
    (pss_cons (ps_if (pt_cmpR op_gt (pe_callB call_len_seq (by rfl) T.m_len (by rfl) (pa_cons (pe_ix ix_list (pv 0) pe_int fun _ _ => rfl) pa_nil)) pe_int (nomark _))
      (pss_cons (ps_set (i := 2) sc__law_any.nd rfl (.inl rfl) (pe_callTy call_int1 (by rfl) T.m_int (by rfl) (pa_cons (pe_bm0 PySem.F.plainAttrs_list PySem.F.slot_list_pop PySem.F.type_list_pop mt_pop (pe_ix ix_list (pv 0) pe_int fun _ _ => rfl)) pa_nil)))
      (pss_cons (ps_expr (pe_bm PySem.F.plainAttrs_list PySem.F.slot_list_append PySem.F.type_list_append mt_append (pe_ix ix_list (pv 0) pe_int fun _ _ => rfl) (pa_cons (pe_op op_fdiv (pv 2) (pv 1)) pa_nil)))
      (pss_one (ps_ret (pe_op op_mod (pv 2) (pv 1)))))) pss_nil)
    (pss_cons (ps_asg (pe_op op_mod (pe_callTy call_int1 (by rfl) T.m_int (by rfl) (pa_cons (pe_op op_add (pe_op op_mul (pe_ix ix_list (pv 0) pe_int fun _ _ => rfl) pe_int) pe_int) pa_nil)) pe_int) (pg_sub (pv 0) pe_int set_list))
    (pss_one (ps_ret (pe_op op_mod (pe_callTy call_int1 (by rfl) T.m_int (by rfl) (pa_cons (pe_op op_fdiv (pe_ix ix_list (pv 0) pe_int fun _ _ => rfl) pe_int) pa_nil)) (pv 1))))))
def m__law_is_kind : SM := sSeq (sIf (eB (eBin pvIsC (eVar 1) (eC .non))) (sX (eBin pvIsC (eVar 0) (eC .non)) sRetK) (sNil))
    (sSeq (sIf (tOrM (eB (eBin pvIsC (eVar 1) (eC (.bl true)))) (eB (eBin pvIsC (eVar 1) (eC (.bl false))))) (sX (eIf (eB (eVar 1)) (eBin pvIsC (eVar 0) (eC (.bl true))) (eBin pvIsC (eVar 0) (eC (.bl false)))) sRetK) (sNil))
    (sSeq (sIf (eB (eFn pvIsi (eCons (eVar 1) (eCons (eC (.ty .str)) eNil)))) (sX (eAnd (eFn pvIsi (eCons (eVar 0) (eCons (eC (.ty .str)) eNil))) (eBin pvEqO (eVar 0) (eVar 1))) sRetK) (sNil))
    (sX (eAnd (eFn pvIsi (eCons (eVar 0) (eCons (eC (.ty .int)) eNil))) (eAnd (eNot (eFn pvIsi (eCons (eVar 0) (eCons (eC (.ty .bool)) eNil)))) (eBin pvEqO (eVar 0) (eVar 1)))) sRetK)))
@[reducible] def f__law_is_kind : FM := fnM 2 m__law_is_kind
theorem ok__law_is_kind (T : Txt K mg) : FnOk P w K mg base (L2.CX P w) 1 T.a__law_is_kind T.d__law_is_kind ["told", "right"] (spF K mg 2 f__law_is_kind) :=
  fn_ok T.F__law_is_kind sc__law_is_kind rfl fun cdv A outer s H E hr =>
    dss_cons (ds_if (dt_is (de_var (pv 1)) (de_non)) (dss_one (ds_ret (ps_ret (de_is (de_var (pv 0)) (de_non))))) (dss_nil))
    (dss_cons (ds_if (dt_w (dw_or (dt_is (de_var (pv 1)) (de_bl)) (dw_or1 (dt_is (de_var (pv 1)) (de_bl))))) (dss_one (ds_ret (ps_ret (de_if (dt_val (de_var (pv 1))) (de_is (de_var (pv 0)) (de_bl)) (de_is (de_var (pv 0)) (de_bl)))))) (dss_nil))
    (dss_cons (ds_if (dt_val (de_fn (pe_callB call_isiA (by rfl) T.m_isinstance (by rfl) (da_cons (de_var (pv 1)) (da_cons (de_ty (n := .str) (pe_bltn (by rfl) T.m_str (by rfl) rfl)) da_nil))) ok_isi)) (dss_one (ds_ret (ps_ret (de_and (de_fn (pe_callB call_isiA (by rfl) T.m_isinstance (by rfl) (da_cons (de_var (pv 0)) (da_cons (de_ty (n := .str) (pe_bltn (by rfl) T.m_str (by rfl) rfl)) da_nil))) ok_isi) (de_one (de_eq (rm_of hr) (de_var (pv 0)) (de_var (pv 1)))))))) (dss_nil))
    (dss_one (ds_ret (ps_ret (de_and (de_fn (pe_callB call_isiA (by rfl) T.m_isinstance (by rfl) (da_cons (de_var (pv 0)) (da_cons (de_ty (n := .int) (pe_bltn (by rfl) T.m_int (by rfl) rfl)) da_nil))) ok_isi) (de_and (de_not (de_fn (pe_callB call_isiA (by rfl) T.m_isinstance (by rfl) (da_cons (de_var (pv 0)) (da_cons (de_ty (n := .bool) (pe_bltn (by rfl) T.m_bool (by rfl) rfl)) da_nil))) ok_isi)) (de_one (de_eq (rm_of hr) (de_var (pv 0)) (de_var (pv 1)))))))))))
def m__law_same : SM := sSeq (sX (eLstL (eCons (eTup (eCons (eVar 0) (eCons (eVar 1) eNil))) eNil)) (sOwn 2))
    (sSeq (whileGo (eB (eBin pvGt (eFn pvLen (eCons (eVar 2) eNil)) (eC (.int 0)))) (sSeq (sPop 2 (gpT (gpCons (gpN 3) (gpCons (gpN 4) (gpNil)))))
    (sIf (eB (eFn pvIsi (eCons (eVar 4) (eCons (eC (.ty .tuple)) eNil)))) (sSeq (sIf (tOrM (tNotM (eB (eFn pvIsi (eCons (eVar 3) (eCons (eC (.ty .tuple)) eNil))))) (eB (eBin pvNeO (eFn pvLen (eCons (eVar 3) eNil)) (eFn pvLen (eCons (eVar 4) eNil))))) (sX (eC (.bl false)) sRetK) (sNil))
    (sFor (gpN 5) (iFn pvRng1 (eCons (eFn pvLen (eCons (eVar 4) eNil)) eNil)) (sApp 2 (eTup (eCons (eBin pvIx (eVar 3) (eVar 5)) (eCons (eBin pvIx (eVar 4) (eVar 5)) eNil)))))) (sIf (tOrM (eB (eFn pvIsi (eCons (eVar 3) (eCons (eTup (eCons (eC (.ty .tuple)) (eCons (eC (.ty .list)) (eCons (eC (.ty .dict)) eNil)))) eNil)))) (tNotM (eB (eCall 2 f__law_is_kind (eCons (eVar 3) (eCons (eVar 4) eNil)))))) (sX (eC (.bl false)) sRetK) (sNil)))) fuel)
    (sX (eC (.bl true)) sRetK))
@[reducible] def f__law_same : FM := fnM 6 m__law_same
theorem ok__law_same (T : Txt K mg) : FnOk P w K mg base (L2.CX P w) 2 T.a__law_same T.d__law_same ["told", "right"] (spF K mg 2 f__law_same) :=
  fn_ok T.F__law_same sc__law_same rfl fun cdv A outer s H E hr =>
    dss_cons (ds_own (i := 2) (ps_set (i := 2) sc__law_same.nd rfl (by first | exact .inl rfl | exact .inr rfl) (dl_lst (da_cons (de_tup (da_cons (de_var (pv 0)) (da_cons (de_var (pv 1)) da_nil))) da_nil))))
    (dss_cons (ds_while fuel (passes_of rfl) (dt_gt (de_fn (pe_callB call_len (by rfl) T.m_len (by rfl) (da_cons (de_var (pv 2)) da_nil)) ok_len) (de_int)) (dss_cons (ds_pop (i := 2) (ps_asg (pe_bm0 PySem.F.plainAttrs_list PySem.F.slot_list_pop PySem.F.type_list_pop mt_pop (pv 2)) (dg_tup rfl (dgs_cons (dg_name (pg_name (i := 3) sc__law_same.nd rfl (by first | exact .inl rfl | exact .inr rfl))) (dgs_cons (dg_name (pg_name (i := 4) sc__law_same.nd rfl (by first | exact .inl rfl | exact .inr rfl))) (dgs_nil))) (gpLen_cons (gpLen_cons (fun _ _ h => gpLen_nil h))))) g_id)
    (dss_one (ds_if (dt_val (de_fn (pe_callB call_isiA (by rfl) T.m_isinstance (by rfl) (da_cons (de_var (pv 4)) (da_cons (de_ty (n := .tuple) (pe_bltn (by rfl) T.m_tuple (by rfl) rfl)) da_nil))) ok_isi)) (dss_cons (ds_if (dt_w (dw_or (dt_not (dt_val (de_fn (pe_callB call_isiA (by rfl) T.m_isinstance (by rfl) (da_cons (de_var (pv 3)) (da_cons (de_ty (n := .tuple) (pe_bltn (by rfl) T.m_tuple (by rfl) rfl)) da_nil))) ok_isi))) (dw_or1 (dt_ne (rm_of hr) (de_fn (pe_callB call_len (by rfl) T.m_len (by rfl) (da_cons (de_var (pv 3)) da_nil)) ok_len) (de_fn (pe_callB call_len (by rfl) T.m_len (by rfl) (da_cons (de_var (pv 4)) da_nil)) ok_len))))) (dss_one (ds_ret (ps_ret (de_bl)))) (dss_nil))
    (dss_one (ds_for (passes_of rfl) rfl (di_range1 (pi_range1 (by rfl) T.m_range (da_cons (de_fn (pe_callB call_len (by rfl) T.m_len (by rfl) (da_cons (de_var (pv 4)) da_nil)) ok_len) da_nil))) (dg_name (pg_name (i := 5) sc__law_same.nd rfl (by first | exact .inl rfl | exact .inr rfl))) (dss_one (ds_app (i := 2) (ps_expr (pe_bm PySem.F.plainAttrs_list PySem.F.slot_list_append PySem.F.type_list_append mt_append (pv 2) (pa_cons (de_tup (da_cons (de_ix (de_var (pv 3)) (de_var (pv 5))) (da_cons (de_ix (de_var (pv 4)) (de_var (pv 5))) da_nil))) pa_nil)))))))) (dss_one (ds_if (dt_w (dw_or (dt_val (de_fn (pe_callB call_isiA (by rfl) T.m_isinstance (by rfl) (da_cons (de_var (pv 3)) (da_cons (de_tup (da_cons (de_ty (n := .tuple) (pe_bltn (by rfl) T.m_tuple (by rfl) rfl)) (da_cons (de_ty (n := .list) (pe_bltn (by rfl) T.m_list (by rfl) rfl)) (da_cons (de_ty (n := .dict) (pe_bltn (by rfl) T.m_dict (by rfl) rfl)) da_nil)))) da_nil))) ok_isi)) (dw_or1 (dt_not (dt_val (de_call (pe_call (ok__law_is_kind T) (hr.mono (by decide)) (by rfl) T.g__law_is_kind T.F__law_is_kind.kp (b__law_is_kind T.F__law_is_kind) .nil (passes_call (takes_of rfl rfl rfl rfl) fun _ _ _ _ h => h) (da_cons (de_var (pv 3)) (da_cons (de_var (pv 4)) da_nil))))))))) (dss_one (ds_ret (ps_ret (de_bl)))) (dss_nil)))))))
    (dss_one (ds_ret (ps_ret (de_bl)))))
def m__law_all : SM := sX (eBin pvEqO (eFn pvLen (eCons (eFrz (eLc [1, 2] (iSeq (eVar 0)) (gpT (gpCons (gpN 1) (gpCons (gpN 2) (gpNil)))) (tNotM (eB (eCall 2 f__law_same (eCons (eVar 1) (eCons (eVar 2) eNil))))) (eVar 1))) eNil)) (eC (.int 0))) sRetK
@[reducible] def f__law_all : FM := fnM 3 m__law_all
theorem ok__law_all (T : Txt K mg) : FnOk P w K mg base (L2.CX P w) 3 T.a__law_all T.d__law_all ["pairs"] (spF K mg 1 f__law_all) :=
  fn_ok T.F__law_all sc__law_all rfl fun cdv A outer s H E hr =>
    dss_one (ds_ret (ps_ret (de_eq (rm_of hr) (de_fn (pe_callB call_len (by rfl) T.m_len (by rfl) (da_cons (de_frz (dl_lc (own := [("told", 1), ("right", 2)]) rfl sc__law_all.nd (di_seq (de_var (pv 0))) (blkOk_by (N := N__law_all) (sc := defScope s__law_all) (by decide +kernel)) (fun _ _ _ _ _ => dg_tup rfl (dgs_cons (dg_name (pg_name (i := 1) sc__law_all.nd rfl (by first | exact .inl rfl | exact .inr rfl))) (dgs_cons (dg_name (pg_name (i := 2) sc__law_all.nd rfl (by first | exact .inl rfl | exact .inr rfl))) (dgs_nil))) (gpLen_cons (gpLen_cons (fun _ _ h => gpLen_nil h)))) (fun _ _ _ _ _ => dts_one (dt_not (dt_val (de_call (pe_call (ok__law_same T) (hr.mono (by decide)) (by rfl) T.g__law_same T.F__law_same.kp (b__law_same T.F__law_same) .nil passL (da_cons (de_var (pv 1)) (da_cons (de_var (pv 2)) da_nil))))))) (fun _ _ _ _ _ => de_var (pv 1)) (gin_tup (gsin_cons (gin_name (by decide)) (gsin_cons (gin_name (by decide)) (gsin_nil)))))) da_nil)) ok_len) (de_int))))
def m__law_turn : SM := sX (eBin pvSub (eBin pvMul (eBin pvSub (eBin pvIx (eVar 1) (eC (.int 0))) (eBin pvIx (eVar 0) (eC (.int 0)))) (eBin pvSub (eBin pvIx (eVar 2) (eC (.int 1))) (eBin pvIx (eVar 0) (eC (.int 1))))) (eBin pvMul (eBin pvSub (eBin pvIx (eVar 1) (eC (.int 1))) (eBin pvIx (eVar 0) (eC (.int 1)))) (eBin pvSub (eBin pvIx (eVar 2) (eC (.int 0))) (eBin pvIx (eVar 0) (eC (.int 0)))))) sRetK
@[reducible] def f__law_turn : FM := fnM 3 m__law_turn
theorem ok__law_turn (T : Txt K mg) : FnOk P w K mg base (L2.CX P w) 1 T.a__law_turn T.d__law_turn ["one", "other", "third"] (spF K mg 3 f__law_turn) :=
  fn_ok T.F__law_turn sc__law_turn rfl fun cdv A outer s H E hr =>
    dss_one (ds_ret (ps_ret (de_sub (de_mul (de_sub (de_ix (de_var (pv 1)) (de_int)) (de_ix (de_var (pv 0)) (de_int))) (de_sub (de_ix (de_var (pv 2)) (de_int)) (de_ix (de_var (pv 0)) (de_int)))) (de_mul (de_sub (de_ix (de_var (pv 1)) (de_int)) (de_ix (de_var (pv 0)) (de_int))) (de_sub (de_ix (de_var (pv 2)) (de_int)) (de_ix (de_var (pv 0)) (de_int)))))))
def m__law_divides : SM := sX (eAnd (eBin pvEqO (eBin pvMod (eFn pvInt (eCons (eBin pvIx (eVar 1) (eC (.int 0))) eNil)) (eVar 0)) (eC (.int 0))) (eBin pvEqO (eBin pvMod (eFn pvInt (eCons (eBin pvIx (eVar 1) (eC (.int 1))) eNil)) (eVar 0)) (eC (.int 0)))) sRetK
@[reducible] def f__law_divides : FM := fnM 2 m__law_divides
theorem ok__law_divides (T : Txt K mg) : FnOk P w K mg base (L2.CX P w) 1 T.a__law_divides T.d__law_divides ["number", "direction"] (spF K mg 2 f__law_divides) :=
  fn_ok T.F__law_divides sc__law_divides rfl fun cdv A outer s H E hr =>
    dss_one (ds_ret (ps_ret (de_and (de_eq (rm_of hr) (de_mod (de_fn (pe_callTy call_int1 (by rfl) T.m_int (by rfl) (da_cons (de_ix (de_var (pv 1)) (de_int)) da_nil)) ok_int) (de_var (pv 0))) (de_int)) (de_one (de_eq (rm_of hr) (de_mod (de_fn (pe_callTy call_int1 (by rfl) T.m_int (by rfl) (da_cons (de_ix (de_var (pv 1)) (de_int)) da_nil)) ok_int) (de_var (pv 0))) (de_int))))))
def m_law : SM := sSeq (sFor (gpN 3) (iFn pvRng1 (eCons (eC (.int 12)) eNil)) (sSeq (sX (eBin pvIx (eFrz (eLstL (eCons (eC (.int 3)) (eCons (eC (.int 13)) (eCons (eC (.int 2)) (eCons (eC (.int 8)) eNil)))))) (eBin pvMod (eFn pvInt (eCons (eVar 3) eNil)) (eC (.int 4)))) (sSet (gpN 4)))
    (sSeq (sX (eFrz (eLc [15] (iFn pvRng1 (eCons (eC (.int 3)) eNil)) (gpN 15) (tYesM) (eTup (eCons (eBin pvSub (eCall 2 f__law_any (eCons (eVar 1) (eCons (eBin pvAdd (eBin pvMul (eC (.int 2)) (eVar 4)) (eC (.int 1))) eNil))) (eVar 4)) (eCons (eBin pvSub (eCall 2 f__law_any (eCons (eVar 1) (eCons (eBin pvAdd (eBin pvMul (eC (.int 2)) (eVar 4)) (eC (.int 1))) eNil))) (eVar 4)) eNil))))) (sSet (gpT (gpCons (gpN 5) (gpCons (gpN 6) (gpCons (gpN 7) (gpNil)))))))
    (sSeq (sX (eTup (eCons (eBin pvMod (eFn pvInt (eCons (eBin pvIx (eVar 5) (eC (.int 0))) eNil)) (eC (.int 2))) (eCons (eBin pvMod (eFn pvInt (eCons (eBin pvIx (eVar 5) (eC (.int 1))) eNil)) (eC (.int 2))) eNil))) (sSet (gpN 8)))
    (sSeq (sOwnAdd 2 2 (eFrz (eLstL (eCons (eTup (eCons (eCall 1 f_is_point (eCons (eVar 5) eNil)) (eCons (eC (.bl true)) eNil))) (eCons (eTup (eCons (eIf (eB (eBin pvGt (eVar 3) (eC (.int 0)))) (eCall 1 f_class_of (eCons (eVar 5) eNil)) (eCallK 1 f_class_of [0] (eNil) (eCons (eVar 5) eNil))) (eCons (eVar 8) eNil))) (eCons (eTup (eCons (eCall 1 f_class_of (eCons (eTup (eCons (eBin pvAdd (eBin pvIx (eVar 5) (eC (.int 0))) (eBin pvMul (eC (.int 2)) (eBin pvIx (eVar 6) (eC (.int 0))))) (eCons (eBin pvSub (eBin pvIx (eVar 5) (eC (.int 1))) (eBin pvMul (eC (.int 2)) (eBin pvIx (eVar 6) (eC (.int 1))))) eNil))) eNil)) (eCons (eVar 8) eNil))) eNil))))))
    (sSeq (sOwnAdd 2 2 (eFrz (eLstL (eCons (eTup (eCons (eIf (eB (eBin pvGt (eVar 3) (eC (.int 0)))) (eCall 2 f_added_points (eCons (eVar 5) (eCons (eVar 6) eNil))) (eCallK 2 f_added_points [1, 0] (eNil) (eCons (eVar 6) (eCons (eVar 5) eNil)))) (eCons (eTup (eCons (eBin pvAdd (eBin pvIx (eVar 5) (eC (.int 0))) (eBin pvIx (eVar 6) (eC (.int 0)))) (eCons (eBin pvAdd (eBin pvIx (eVar 5) (eC (.int 1))) (eBin pvIx (eVar 6) (eC (.int 1)))) eNil))) eNil))) eNil))))
    (sSeq (sOwnAdd 2 2 (eFrz (eLstL (eCons (eTup (eCons (eIf (eB (eBin pvGt (eVar 3) (eC (.int 0)))) (eCall 2 f_less (eCons (eVar 5) (eCons (eVar 6) eNil))) (eCallK 2 f_less [1, 0] (eNil) (eCons (eVar 6) (eCons (eVar 5) eNil)))) (eCons (eTup (eCons (eBin pvSub (eBin pvIx (eVar 5) (eC (.int 0))) (eBin pvIx (eVar 6) (eC (.int 0)))) (eCons (eBin pvSub (eBin pvIx (eVar 5) (eC (.int 1))) (eBin pvIx (eVar 6) (eC (.int 1)))) eNil))) eNil))) eNil))))
    (sSeq (sOwnAdd 2 2 (eFrz (eLstL (eCons (eTup (eCons (eCall 2 f_added_points (eCons (eCall 2 f_less (eCons (eVar 5) (eCons (eVar 6) eNil))) (eCons (eVar 6) eNil))) (eCons (eVar 5) eNil))) (eCons (eTup (eCons (eIf (eB (eBin pvGt (eVar 3) (eC (.int 0)))) (eCall 2 f_dot (eCons (eVar 5) (eCons (eVar 6) eNil))) (eCallK 2 f_dot [1, 0] (eNil) (eCons (eVar 6) (eCons (eVar 5) eNil)))) (eCons (eBin pvMod (eFn pvInt (eCons (eBin pvAdd (eBin pvMul (eBin pvIx (eVar 5) (eC (.int 0))) (eBin pvIx (eVar 6) (eC (.int 0)))) (eBin pvMul (eBin pvIx (eVar 5) (eC (.int 1))) (eBin pvIx (eVar 6) (eC (.int 1))))) eNil)) (eC (.int 2))) eNil))) eNil)))))
    (sSeq (sOwnAdd 2 2 (eFrz (eLstL (eCons (eTup (eCons (eCall 2 f_dot (eCons (eCall 1 f_class_of (eCons (eVar 5) eNil)) (eCons (eCall 1 f_class_of (eCons (eVar 6) eNil)) eNil))) (eCons (eCall 2 f_dot (eCons (eVar 5) (eCons (eVar 6) eNil))) eNil))) eNil))))
    (sSeq (sIf (eB (eBin pvNeO (eVar 5) (eTup (eCons (eC (.int 0)) (eCons (eC (.int 0)) eNil))))) (sOwnAdd 2 2 (eFrz (eLstL (eCons (eTup (eCons (eIf (eB (eBin pvGt (eVar 3) (eC (.int 0)))) (eCall 1 f_right_class (eCons (eVar 5) eNil)) (eCallK 1 f_right_class [0] (eNil) (eCons (eVar 5) eNil))) (eCons (eUn pvRev (eVar 8)) eNil))) (eCons (eTup (eCons (eCall 2 f_dot (eCons (eCall 1 f_right_class (eCons (eVar 5) eNil)) (eCons (eVar 5) eNil))) (eCons (eC (.int 0)) eNil))) eNil))))) (sNil))
    (sSeq (sX (eCall 3 f__law_turn (eCons (eVar 5) (eCons (eVar 6) (eCons (eVar 7) eNil)))) (sSet (gpN 9)))
    (sSeq (sOwnAdd 2 2 (eFrz (eLstL (eCons (eTup (eCons (eIf (eB (eBin pvGt (eVar 3) (eC (.int 0)))) (eCall 3 f_doubled (eCons (eVar 5) (eCons (eVar 6) (eCons (eVar 7) eNil)))) (eCallK 3 f_doubled [2, 1, 0] (eNil) (eCons (eVar 7) (eCons (eVar 6) (eCons (eVar 5) eNil))))) (eCons (eVar 9) eNil))) (eCons (eTup (eCons (eCall 3 f_doubled (eCons (eVar 6) (eCons (eVar 7) (eCons (eVar 5) eNil)))) (eCons (eVar 9) eNil))) eNil)))))
    (sSeq (sOwnAdd 2 2 (eFrz (eLstL (eCons (eTup (eCons (eCall 3 f_doubled (eCons (eVar 6) (eCons (eVar 5) (eCons (eVar 7) eNil)))) (eCons (eBin pvSub (eC (.int 0)) (eVar 9)) eNil))) eNil))))
    (sSeq (sX (eTup (eCons (eBin pvSub (eCall 2 f__law_any (eCons (eVar 1) (eCons (eC (.int 9)) eNil))) (eC (.int 4))) (eCons (eCall 2 f__law_any (eCons (eVar 1) (eCons (eC (.int 9)) eNil))) eNil))) (sSet (gpN 10)))
    (sSeq (sApp 2 (eTup (eCons (eCall 3 f_doubled (eCons (eCall 2 f_added_points (eCons (eVar 5) (eCons (eVar 10) eNil))) (eCons (eCall 2 f_added_points (eCons (eVar 6) (eCons (eVar 10) eNil))) (eCons (eCall 2 f_added_points (eCons (eVar 7) (eCons (eVar 10) eNil))) eNil)))) (eCons (eVar 9) eNil))))
    (sSeq (sX (eTup (eCons (eBin pvSub (eCall 2 f__law_any (eCons (eVar 1) (eCons (eC (.int 25)) eNil))) (eC (.int 12))) (eCons (eBin pvAdd (eC (.int 1)) (eCall 2 f__law_any (eCons (eVar 1) (eCons (eC (.int 12)) eNil)))) eNil))) (sSet (gpN 11)))
    (sSeq (sX (eFn pvMaxL (eCons (eFrz (eLc [16] (iFn pvRng2 (eCons (eC (.int 1)) (eCons (eC (.int 13)) eNil))) (gpN 16) (eB (eCall 2 f__law_divides (eCons (eVar 16) (eCons (eVar 11) eNil)))) (eVar 16))) eNil)) (sSet (gpN 12)))
    (sSeq (sX (eBin pvAdd (eC (.int 1)) (eCall 2 f__law_any (eCons (eVar 1) (eCons (eC (.int 3)) eNil)))) (sSet (gpN 13)))
    (sOwnAdd 2 2 (eFrz (eLstL (eCons (eTup (eCons (eIf (eB (eBin pvGt (eVar 3) (eC (.int 0)))) (eCall 1 f_divisor_of (eCons (eVar 11) eNil)) (eCallK 1 f_divisor_of [0] (eNil) (eCons (eVar 11) eNil))) (eCons (eVar 12) eNil))) (eCons (eTup (eCons (eCall 1 f_divisor_of (eCons (eTup (eCons (eBin pvMul (eVar 13) (eBin pvIx (eVar 11) (eC (.int 0)))) (eCons (eBin pvSub (eC (.int 0)) (eBin pvMul (eVar 13) (eBin pvIx (eVar 11) (eC (.int 1))))) eNil))) eNil)) (eCons (eBin pvMul (eVar 13) (eVar 12)) eNil))) eNil)))))))))))))))))))))))
    (sSeq (sFor (gpN 14) (iSeq (eTup (eCons (eC .non) (eCons (eC (.int 3)) (eCons (eTup (eNil)) (eCons (eTup (eCons (eC (.int 1)) eNil)) (eCons (eTup (eCons (eC (.int 1)) (eCons (eC (.int 2)) (eCons (eC (.int 3)) eNil)))) (eCons (eFrz (eLstL (eCons (eC (.int 1)) (eCons (eC (.int 2)) eNil)))) (eCons (eTup (eCons (eC (.int 1)) (eCons (eC (.str (PySem.Str.ofString "2"))) eNil))) (eCons (eTup (eCons (eC (.bl true)) (eCons (eC (.int 1)) eNil))) (eCons (eTup (eCons (eC (.int 0)) (eCons (eC (.bl false)) eNil))) (eCons (eTup (eCons (eTup (eCons (eC (.int 0)) (eCons (eC (.int 0)) eNil))) (eCons (eTup (eCons (eC (.int 1)) (eCons (eC (.int 1)) eNil))) eNil))) (eCons (eC (.str (PySem.Str.ofString "11"))) eNil))))))))))))) (sApp 2 (eTup (eCons (eCall 1 f_is_point (eCons (eVar 14) eNil)) (eCons (eC (.bl false)) eNil)))))
    (sSeq (sOwnAdd 2 2 (eFrz (eLstL (eCons (eTup (eCons (eCallK 1 f_is_point [0] (eNil) (eCons (eTup (eCons (eC (.int 0)) (eCons (eC (.int 0)) eNil))) eNil)) (eCons (eC (.bl true)) eNil))) (eCons (eTup (eCons (eCall 1 f_is_point (eCons (eTup (eCons (eBin pvSub (eC (.int 0)) (eBin pvPow (eC (.int 10)) (eC (.int 30)))) (eCons (eC (.int 7)) eNil))) eNil)) (eCons (eC (.bl true)) eNil))) (eCons (eTup (eCons (eCall 1 f_divisor_of (eCons (eTup (eCons (eC (.int 0)) (eCons (eBin pvSub (eC (.int 0)) (eC (.int 6))) eNil))) eNil)) (eCons (eC (.int 6)) eNil))) (eCons (eTup (eCons (eCall 1 f_divisor_of (eCons (eTup (eCons (eC (.int 8)) (eCons (eC (.int 0)) eNil))) eNil)) (eCons (eC (.int 8)) eNil))) (eCons (eTup (eCons (eCall 1 f_class_of (eCons (eTup (eCons (eBin pvSub (eC (.int 0)) (eC (.int 3))) (eCons (eBin pvSub (eC (.int 0)) (eC (.int 2))) eNil))) eNil)) (eCons (eTup (eCons (eC (.int 1)) (eCons (eC (.int 0)) eNil))) eNil))) eNil))))))))
    (sSeq (sOwnAdd 2 2 (eFrz (eLstL (eCons (eTup (eCons (eCall 3 f_doubled (eCons (eTup (eCons (eC (.int 0)) (eCons (eC (.int 0)) eNil))) (eCons (eTup (eCons (eC (.int 1)) (eCons (eC (.int 0)) eNil))) (eCons (eTup (eCons (eC (.int 0)) (eCons (eC (.int 1)) eNil))) eNil)))) (eCons (eC (.int 1)) eNil))) (eCons (eTup (eCons (eCall 3 f_doubled (eCons (eTup (eCons (eC (.int 0)) (eCons (eC (.int 0)) eNil))) (eCons (eTup (eCons (eC (.int 0)) (eCons (eC (.int 1)) eNil))) (eCons (eTup (eCons (eC (.int 1)) (eCons (eC (.int 0)) eNil))) eNil)))) (eCons (eBin pvSub (eC (.int 0)) (eC (.int 1))) eNil))) (eCons (eTup (eCons (eCall 3 f_doubled (eCons (eTup (eCons (eC (.int 0)) (eCons (eC (.int 0)) eNil))) (eCons (eTup (eCons (eC (.int 2)) (eCons (eC (.int 1)) eNil))) (eCons (eTup (eCons (eC (.int 4)) (eCons (eC (.int 2)) eNil))) eNil)))) (eCons (eC (.int 0)) eNil))) (eCons (eTup (eCons (eCall 3 f_doubled (eCons (eTup (eCons (eC (.int 0)) (eCons (eC (.int 0)) eNil))) (eCons (eTup (eCons (eC (.int 2)) (eCons (eC (.int 1)) eNil))) (eCons (eTup (eCons (eC (.int 0)) (eCons (eC (.int 2)) eNil))) eNil)))) (eCons (eC (.int 4)) eNil))) eNil)))))))
    (sSeq (sOwnAdd 2 2 (eFrz (eLstL (eCons (eTup (eCons (eCall 1 f_right_class (eCons (eTup (eCons (eC (.int 2)) (eCons (eC (.int 1)) eNil))) eNil)) (eCons (eTup (eCons (eC (.int 1)) (eCons (eC (.int 0)) eNil))) eNil))) eNil))))
    (sXs (eCall 1 f__law_all (eCons (eBin pvAdd (eVar 2) (eFrz (eLstL (eCons (eTup (eCons (eCall 2 f_dot (eCons (eTup (eCons (eC (.int 1)) (eCons (eC (.int 1)) eNil))) (eCons (eTup (eCons (eC (.int 1)) (eCons (eC (.int 1)) eNil))) eNil))) (eCons (eC (.int 0)) eNil))) (eCons (eTup (eCons (eCall 2 f_dot (eCons (eTup (eCons (eC (.int 1)) (eCons (eC (.int 0)) eNil))) (eCons (eTup (eCons (eC (.int 3)) (eCons (eC (.int 5)) eNil))) eNil))) (eCons (eC (.int 1)) eNil))) eNil))))) eNil)) sRetB)))))
theorem ok_law (T : Txt K mg) (hm : ∀ d : Deal, ∃ ε' D', m_law (lawS 14) (some d) = some (.ok (.rt (.bl true)), ε', D')) : FnOk P w K mg base (L2.CX P w) 4 T.a_law T.d_law ["script"] (spLaw K) :=
  law_ok (E1 := E0) (salt := 7000) (n := 14) T.F_law sc_law rfl rfl (.inr rfl) (by decide) (by decide) hm (fun cdv A outer s H E hr => ps_asg (pe_tup (pa_cons (pe_call (ok__law_deal T) (hr.mono (by decide)) (by rfl) T.g__law_deal T.F__law_deal.kp (b__law_deal T.F__law_deal) .nil passL (pa_cons (pv 0) (pa_cons pe_int pa_nil))) (pa_cons (pe_lst pa_nil) pa_nil))) (pg_tup rfl (pgs_cons (pg_name (i := 1) sc_law.nd rfl (by first | exact .inl rfl | exact .inr rfl)) (pgs_cons (pg_name (i := 2) sc_law.nd rfl (by first | exact .inl rfl | exact .inr rfl)) pgs_nil))))
    (fun cdv A outer s H E hr => dss_cons (ds_for (passes_of rfl) rfl (di_range1 (pi_range1 (by rfl) T.m_range (da_cons (de_int) da_nil))) (dg_name (pg_name (i := 3) sc_law.nd rfl (by first | exact .inl rfl | exact .inr rfl))) (dss_cons (ds_asg (gp := gpN 4) (ps_set (i := 4) sc_law.nd rfl (by first | exact .inl rfl | exact .inr rfl) (de_ix (de_frz (dl_lst (da_cons (de_int) (da_cons (de_int) (da_cons (de_int) (da_cons (de_int) da_nil)))))) (de_mod (de_fn (pe_callTy call_int1 (by rfl) T.m_int (by rfl) (da_cons (de_var (pv 3)) da_nil)) ok_int) (de_int)))) g_name)
    (dss_cons (ds_asg (ps_asg (de_frz (dl_lc (own := [("again", 15)]) rfl sc_law.nd (di_range1 (pi_range1 (by rfl) T.m_range (da_cons (de_int) da_nil))) (blkOk_by (N := N_law) (sc := defScope s_law) (by decide +kernel)) (fun _ _ _ _ _ => dg_name (pg_name (i := 15) sc_law.nd rfl (by first | exact .inl rfl | exact .inr rfl))) (fun _ _ _ _ _ => dts_nil) (fun _ _ _ _ _ => de_tup (da_cons (de_sub (de_call (pe_call (ok__law_any T) (hr.mono (by decide)) (by rfl) T.g__law_any T.F__law_any.kp (b__law_any T.F__law_any) .nil passL (da_cons (de_var (pv 1)) (da_cons (de_add (de_mul (de_int) (de_var (pv 4))) (de_int)) da_nil)))) (de_var (pv 4))) (da_cons (de_sub (de_call (pe_call (ok__law_any T) (hr.mono (by decide)) (by rfl) T.g__law_any T.F__law_any.kp (b__law_any T.F__law_any) .nil passL (da_cons (de_var (pv 1)) (da_cons (de_add (de_mul (de_int) (de_var (pv 4))) (de_int)) da_nil)))) (de_var (pv 4))) da_nil))) (gin_name (by decide)))) (dg_tup rfl (dgs_cons (dg_name (pg_name (i := 5) sc_law.nd rfl (by first | exact .inl rfl | exact .inr rfl))) (dgs_cons (dg_name (pg_name (i := 6) sc_law.nd rfl (by first | exact .inl rfl | exact .inr rfl))) (dgs_cons (dg_name (pg_name (i := 7) sc_law.nd rfl (by first | exact .inl rfl | exact .inr rfl))) (dgs_nil)))) (gpLen_cons (gpLen_cons (gpLen_cons (fun _ _ h => gpLen_nil h)))))) g_id)
    (dss_cons (ds_asg (gp := gpN 8) (ps_set (i := 8) sc_law.nd rfl (by first | exact .inl rfl | exact .inr rfl) (de_tup (da_cons (de_mod (de_fn (pe_callTy call_int1 (by rfl) T.m_int (by rfl) (da_cons (de_ix (de_var (pv 5)) (de_int)) da_nil)) ok_int) (de_int)) (da_cons (de_mod (de_fn (pe_callTy call_int1 (by rfl) T.m_int (by rfl) (da_cons (de_ix (de_var (pv 5)) (de_int)) da_nil)) ok_int) (de_int)) da_nil)))) g_name)
    (dss_cons (ds_ownAdd (i := 2) (j := 2) (ps_set (i := 2) sc_law.nd rfl (by first | exact .inl rfl | exact .inr rfl) (pe_op op_cat (pv 2) (de_frz (dl_lst (da_cons (de_tup (da_cons (de_call (pe_call (ok_is_point T) (hr.mono (by decide)) (by rfl) T.g_is_point T.F_is_point.kp (b_is_point T.F_is_point) .nil (passes_call (takes_of rfl rfl rfl rfl) fun _ _ _ _ h => h) (da_cons (de_var (pv 5)) da_nil))) (da_cons (de_bl) da_nil))) (da_cons (de_tup (da_cons (de_if (dt_gt (de_var (pv 3)) (de_int)) (de_call (pe_call (ok_class_of T) (hr.mono (by decide)) (by rfl) T.g_class_of T.F_class_of.kp (b_class_of T.F_class_of) .nil (passes_call (takes_of rfl rfl rfl rfl) fun _ _ _ _ h => h) (da_cons (de_var (pv 5)) da_nil))) (de_callP (pe_nil0 (pe_callP0 (ok_class_of T) (hr.mono (by decide)) (by rfl) T.g_class_of T.F_class_of.kp (k_class_of_0_point T.F_class_of) (passes_call (takes_of rfl rfl rfl rfl) fun _ _ _ _ h => h) (dk_cons (de_var (pv 5)) dk_nil))) (fun _ _ _ _ h => len_nil h) (fun _ _ _ _ h => len_cons (fun _ _ _ _ h => len_nil h) h))) (da_cons (de_var (pv 8)) da_nil))) (da_cons (de_tup (da_cons (de_call (pe_call (ok_class_of T) (hr.mono (by decide)) (by rfl) T.g_class_of T.F_class_of.kp (b_class_of T.F_class_of) .nil (passes_call (takes_of rfl rfl rfl rfl) fun _ _ _ _ h => h) (da_cons (de_tup (da_cons (de_add (de_ix (de_var (pv 5)) (de_int)) (de_mul (de_int) (de_ix (de_var (pv 6)) (de_int)))) (da_cons (de_sub (de_ix (de_var (pv 5)) (de_int)) (de_mul (de_int) (de_ix (de_var (pv 6)) (de_int)))) da_nil))) da_nil))) (da_cons (de_var (pv 8)) da_nil))) da_nil))))))))
    (dss_cons (ds_ownAdd (i := 2) (j := 2) (ps_set (i := 2) sc_law.nd rfl (by first | exact .inl rfl | exact .inr rfl) (pe_op op_cat (pv 2) (de_frz (dl_lst (da_cons (de_tup (da_cons (de_if (dt_gt (de_var (pv 3)) (de_int)) (de_call (pe_call (ok_added_points T) (hr.mono (by decide)) (by rfl) T.g_added_points T.F_added_points.kp (b_added_points T.F_added_points) .nil (passes_call (takes_of rfl rfl rfl rfl) fun _ _ _ _ h => h) (da_cons (de_var (pv 5)) (da_cons (de_var (pv 6)) da_nil)))) (de_callP (pe_nil0 (pe_callP0 (ok_added_points T) (hr.mono (by decide)) (by rfl) T.g_added_points T.F_added_points.kp (k_added_points_0_other_one T.F_added_points) (passes_call (takes_of rfl rfl rfl rfl) fun _ _ _ _ h => h) (dk_cons (de_var (pv 6)) (dk_cons (de_var (pv 5)) dk_nil)))) (fun _ _ _ _ h => len_nil h) (fun _ _ _ _ h => len_cons (fun _ _ _ _ h => len_cons (fun _ _ _ _ h => len_nil h) h) h))) (da_cons (de_tup (da_cons (de_add (de_ix (de_var (pv 5)) (de_int)) (de_ix (de_var (pv 6)) (de_int))) (da_cons (de_add (de_ix (de_var (pv 5)) (de_int)) (de_ix (de_var (pv 6)) (de_int))) da_nil))) da_nil))) da_nil))))))
    (dss_cons (ds_ownAdd (i := 2) (j := 2) (ps_set (i := 2) sc_law.nd rfl (by first | exact .inl rfl | exact .inr rfl) (pe_op op_cat (pv 2) (de_frz (dl_lst (da_cons (de_tup (da_cons (de_if (dt_gt (de_var (pv 3)) (de_int)) (de_call (pe_call (ok_less T) (hr.mono (by decide)) (by rfl) T.g_less T.F_less.kp (b_less T.F_less) .nil (passes_call (takes_of rfl rfl rfl rfl) fun _ _ _ _ h => h) (da_cons (de_var (pv 5)) (da_cons (de_var (pv 6)) da_nil)))) (de_callP (pe_nil0 (pe_callP0 (ok_less T) (hr.mono (by decide)) (by rfl) T.g_less T.F_less.kp (k_less_0_other_one T.F_less) (passes_call (takes_of rfl rfl rfl rfl) fun _ _ _ _ h => h) (dk_cons (de_var (pv 6)) (dk_cons (de_var (pv 5)) dk_nil)))) (fun _ _ _ _ h => len_nil h) (fun _ _ _ _ h => len_cons (fun _ _ _ _ h => len_cons (fun _ _ _ _ h => len_nil h) h) h))) (da_cons (de_tup (da_cons (de_sub (de_ix (de_var (pv 5)) (de_int)) (de_ix (de_var (pv 6)) (de_int))) (da_cons (de_sub (de_ix (de_var (pv 5)) (de_int)) (de_ix (de_var (pv 6)) (de_int))) da_nil))) da_nil))) da_nil))))))
    (dss_cons (ds_ownAdd (i := 2) (j := 2) (ps_set (i := 2) sc_law.nd rfl (by first | exact .inl rfl | exact .inr rfl) (pe_op op_cat (pv 2) (de_frz (dl_lst (da_cons (de_tup (da_cons (de_call (pe_call (ok_added_points T) (hr.mono (by decide)) (by rfl) T.g_added_points T.F_added_points.kp (b_added_points T.F_added_points) .nil (passes_call (takes_of rfl rfl rfl rfl) fun _ _ _ _ h => h) (da_cons (de_call (pe_call (ok_less T) (hr.mono (by decide)) (by rfl) T.g_less T.F_less.kp (b_less T.F_less) .nil (passes_call (takes_of rfl rfl rfl rfl) fun _ _ _ _ h => h) (da_cons (de_var (pv 5)) (da_cons (de_var (pv 6)) da_nil)))) (da_cons (de_var (pv 6)) da_nil)))) (da_cons (de_var (pv 5)) da_nil))) (da_cons (de_tup (da_cons (de_if (dt_gt (de_var (pv 3)) (de_int)) (de_call (pe_call (ok_dot T) (hr.mono (by decide)) (by rfl) T.g_dot T.F_dot.kp (b_dot T.F_dot) .nil (passes_call (takes_of rfl rfl rfl rfl) fun _ _ _ _ h => h) (da_cons (de_var (pv 5)) (da_cons (de_var (pv 6)) da_nil)))) (de_callP (pe_nil0 (pe_callP0 (ok_dot T) (hr.mono (by decide)) (by rfl) T.g_dot T.F_dot.kp (k_dot_0_other_one T.F_dot) (passes_call (takes_of rfl rfl rfl rfl) fun _ _ _ _ h => h) (dk_cons (de_var (pv 6)) (dk_cons (de_var (pv 5)) dk_nil)))) (fun _ _ _ _ h => len_nil h) (fun _ _ _ _ h => len_cons (fun _ _ _ _ h => len_cons (fun _ _ _ _ h => len_nil h) h) h))) (da_cons (de_mod (de_fn (pe_callTy call_int1 (by rfl) T.m_int (by rfl) (da_cons (de_add (de_mul (de_ix (de_var (pv 5)) (de_int)) (de_ix (de_var (pv 6)) (de_int))) (de_mul (de_ix (de_var (pv 5)) (de_int)) (de_ix (de_var (pv 6)) (de_int)))) da_nil)) ok_int) (de_int)) da_nil))) da_nil)))))))
    (dss_cons (ds_ownAdd (i := 2) (j := 2) (ps_set (i := 2) sc_law.nd rfl (by first | exact .inl rfl | exact .inr rfl) (pe_op op_cat (pv 2) (de_frz (dl_lst (da_cons (de_tup (da_cons (de_call (pe_call (ok_dot T) (hr.mono (by decide)) (by rfl) T.g_dot T.F_dot.kp (b_dot T.F_dot) .nil (passes_call (takes_of rfl rfl rfl rfl) fun _ _ _ _ h => h) (da_cons (de_call (pe_call (ok_class_of T) (hr.mono (by decide)) (by rfl) T.g_class_of T.F_class_of.kp (b_class_of T.F_class_of) .nil (passes_call (takes_of rfl rfl rfl rfl) fun _ _ _ _ h => h) (da_cons (de_var (pv 5)) da_nil))) (da_cons (de_call (pe_call (ok_class_of T) (hr.mono (by decide)) (by rfl) T.g_class_of T.F_class_of.kp (b_class_of T.F_class_of) .nil (passes_call (takes_of rfl rfl rfl rfl) fun _ _ _ _ h => h) (da_cons (de_var (pv 6)) da_nil))) da_nil)))) (da_cons (de_call (pe_call (ok_dot T) (hr.mono (by decide)) (by rfl) T.g_dot T.F_dot.kp (b_dot T.F_dot) .nil (passes_call (takes_of rfl rfl rfl rfl) fun _ _ _ _ h => h) (da_cons (de_var (pv 5)) (da_cons (de_var (pv 6)) da_nil)))) da_nil))) da_nil))))))
    (dss_cons (ds_if (dt_ne (rm_of hr) (de_var (pv 5)) (de_tup (da_cons (de_int) (da_cons (de_int) da_nil)))) (dss_one (ds_ownAdd (i := 2) (j := 2) (ps_set (i := 2) sc_law.nd rfl (by first | exact .inl rfl | exact .inr rfl) (pe_op op_cat (pv 2) (de_frz (dl_lst (da_cons (de_tup (da_cons (de_if (dt_gt (de_var (pv 3)) (de_int)) (de_call (pe_call (ok_right_class T) (hr.mono (by decide)) (by rfl) T.g_right_class T.F_right_class.kp (b_right_class T.F_right_class) .nil (passes_call (takes_of rfl rfl rfl rfl) fun _ _ _ _ h => h) (da_cons (de_var (pv 5)) da_nil))) (de_callP (pe_nil0 (pe_callP0 (ok_right_class T) (hr.mono (by decide)) (by rfl) T.g_right_class T.F_right_class.kp (k_right_class_0_direction T.F_right_class) (passes_call (takes_of rfl rfl rfl rfl) fun _ _ _ _ h => h) (dk_cons (de_var (pv 5)) dk_nil))) (fun _ _ _ _ h => len_nil h) (fun _ _ _ _ h => len_cons (fun _ _ _ _ h => len_nil h) h))) (da_cons (de_rev (de_var (pv 8))) da_nil))) (da_cons (de_tup (da_cons (de_call (pe_call (ok_dot T) (hr.mono (by decide)) (by rfl) T.g_dot T.F_dot.kp (b_dot T.F_dot) .nil (passes_call (takes_of rfl rfl rfl rfl) fun _ _ _ _ h => h) (da_cons (de_call (pe_call (ok_right_class T) (hr.mono (by decide)) (by rfl) T.g_right_class T.F_right_class.kp (b_right_class T.F_right_class) .nil (passes_call (takes_of rfl rfl rfl rfl) fun _ _ _ _ h => h) (da_cons (de_var (pv 5)) da_nil))) (da_cons (de_var (pv 5)) da_nil)))) (da_cons (de_int) da_nil))) da_nil)))))))) (dss_nil))
    (dss_cons (ds_asg (gp := gpN 9) (ps_set (i := 9) sc_law.nd rfl (by first | exact .inl rfl | exact .inr rfl) (de_call (pe_call (ok__law_turn T) (hr.mono (by decide)) (by rfl) T.g__law_turn T.F__law_turn.kp (b__law_turn T.F__law_turn) .nil (passes_call (takes_of rfl rfl rfl rfl) fun _ _ _ _ h => h) (da_cons (de_var (pv 5)) (da_cons (de_var (pv 6)) (da_cons (de_var (pv 7)) da_nil)))))) g_name)
    (dss_cons (ds_ownAdd (i := 2) (j := 2) (ps_set (i := 2) sc_law.nd rfl (by first | exact .inl rfl | exact .inr rfl) (pe_op op_cat (pv 2) (de_frz (dl_lst (da_cons (de_tup (da_cons (de_if (dt_gt (de_var (pv 3)) (de_int)) (de_call (pe_call (ok_doubled T) (hr.mono (by decide)) (by rfl) T.g_doubled T.F_doubled.kp (b_doubled T.F_doubled) .nil (passes_call (takes_of rfl rfl rfl rfl) fun _ _ _ _ h => h) (da_cons (de_var (pv 5)) (da_cons (de_var (pv 6)) (da_cons (de_var (pv 7)) da_nil))))) (de_callP (pe_nil0 (pe_callP0 (ok_doubled T) (hr.mono (by decide)) (by rfl) T.g_doubled T.F_doubled.kp (k_doubled_0_third_other_one T.F_doubled) (passes_call (takes_of rfl rfl rfl rfl) fun _ _ _ _ h => h) (dk_cons (de_var (pv 7)) (dk_cons (de_var (pv 6)) (dk_cons (de_var (pv 5)) dk_nil))))) (fun _ _ _ _ h => len_nil h) (fun _ _ _ _ h => len_cons (fun _ _ _ _ h => len_cons (fun _ _ _ _ h => len_cons (fun _ _ _ _ h => len_nil h) h) h) h))) (da_cons (de_var (pv 9)) da_nil))) (da_cons (de_tup (da_cons (de_call (pe_call (ok_doubled T) (hr.mono (by decide)) (by rfl) T.g_doubled T.F_doubled.kp (b_doubled T.F_doubled) .nil (passes_call (takes_of rfl rfl rfl rfl) fun _ _ _ _ h => h) (da_cons (de_var (pv 6)) (da_cons (de_var (pv 7)) (da_cons (de_var (pv 5)) da_nil))))) (da_cons (de_var (pv 9)) da_nil))) da_nil)))))))
    (dss_cons (ds_ownAdd (i := 2) (j := 2) (ps_set (i := 2) sc_law.nd rfl (by first | exact .inl rfl | exact .inr rfl) (pe_op op_cat (pv 2) (de_frz (dl_lst (da_cons (de_tup (da_cons (de_call (pe_call (ok_doubled T) (hr.mono (by decide)) (by rfl) T.g_doubled T.F_doubled.kp (b_doubled T.F_doubled) .nil (passes_call (takes_of rfl rfl rfl rfl) fun _ _ _ _ h => h) (da_cons (de_var (pv 6)) (da_cons (de_var (pv 5)) (da_cons (de_var (pv 7)) da_nil))))) (da_cons (de_sub (de_int) (de_var (pv 9))) da_nil))) da_nil))))))
    (dss_cons (ds_asg (gp := gpN 10) (ps_set (i := 10) sc_law.nd rfl (by first | exact .inl rfl | exact .inr rfl) (de_tup (da_cons (de_sub (de_call (pe_call (ok__law_any T) (hr.mono (by decide)) (by rfl) T.g__law_any T.F__law_any.kp (b__law_any T.F__law_any) .nil (passes_call (takes_of rfl rfl rfl rfl) fun _ _ _ _ h => h) (da_cons (de_var (pv 1)) (da_cons (de_int) da_nil)))) (de_int)) (da_cons (de_call (pe_call (ok__law_any T) (hr.mono (by decide)) (by rfl) T.g__law_any T.F__law_any.kp (b__law_any T.F__law_any) .nil (passes_call (takes_of rfl rfl rfl rfl) fun _ _ _ _ h => h) (da_cons (de_var (pv 1)) (da_cons (de_int) da_nil)))) da_nil)))) g_name)
    (dss_cons (ds_app (i := 2) (ps_expr (pe_bm PySem.F.plainAttrs_list PySem.F.slot_list_append PySem.F.type_list_append mt_append (pv 2) (pa_cons (de_tup (da_cons (de_call (pe_call (ok_doubled T) (hr.mono (by decide)) (by rfl) T.g_doubled T.F_doubled.kp (b_doubled T.F_doubled) .nil (passes_call (takes_of rfl rfl rfl rfl) fun _ _ _ _ h => h) (da_cons (de_call (pe_call (ok_added_points T) (hr.mono (by decide)) (by rfl) T.g_added_points T.F_added_points.kp (b_added_points T.F_added_points) .nil (passes_call (takes_of rfl rfl rfl rfl) fun _ _ _ _ h => h) (da_cons (de_var (pv 5)) (da_cons (de_var (pv 10)) da_nil)))) (da_cons (de_call (pe_call (ok_added_points T) (hr.mono (by decide)) (by rfl) T.g_added_points T.F_added_points.kp (b_added_points T.F_added_points) .nil (passes_call (takes_of rfl rfl rfl rfl) fun _ _ _ _ h => h) (da_cons (de_var (pv 6)) (da_cons (de_var (pv 10)) da_nil)))) (da_cons (de_call (pe_call (ok_added_points T) (hr.mono (by decide)) (by rfl) T.g_added_points T.F_added_points.kp (b_added_points T.F_added_points) .nil (passes_call (takes_of rfl rfl rfl rfl) fun _ _ _ _ h => h) (da_cons (de_var (pv 7)) (da_cons (de_var (pv 10)) da_nil)))) da_nil))))) (da_cons (de_var (pv 9)) da_nil))) pa_nil))))
    (dss_cons (ds_asg (gp := gpN 11) (ps_set (i := 11) sc_law.nd rfl (by first | exact .inl rfl | exact .inr rfl) (de_tup (da_cons (de_sub (de_call (pe_call (ok__law_any T) (hr.mono (by decide)) (by rfl) T.g__law_any T.F__law_any.kp (b__law_any T.F__law_any) .nil (passes_call (takes_of rfl rfl rfl rfl) fun _ _ _ _ h => h) (da_cons (de_var (pv 1)) (da_cons (de_int) da_nil)))) (de_int)) (da_cons (de_add (de_int) (de_call (pe_call (ok__law_any T) (hr.mono (by decide)) (by rfl) T.g__law_any T.F__law_any.kp (b__law_any T.F__law_any) .nil (passes_call (takes_of rfl rfl rfl rfl) fun _ _ _ _ h => h) (da_cons (de_var (pv 1)) (da_cons (de_int) da_nil))))) da_nil)))) g_name)
    (dss_cons (ds_asg (gp := gpN 12) (ps_set (i := 12) sc_law.nd rfl (by first | exact .inl rfl | exact .inr rfl) (de_fn (pe_callB (cr_max rfl) (by rfl) T.m_max (by rfl) (da_cons (de_frz (dl_lc (own := [("number", 16)]) rfl sc_law.nd (di_range2 (pi_range2 (by rfl) T.m_range (da_cons (de_int) (da_cons (de_int) da_nil)))) (blkOk_by (N := N_law) (sc := defScope s_law) (by decide +kernel)) (fun _ _ _ _ _ => dg_name (pg_name (i := 16) sc_law.nd rfl (by first | exact .inl rfl | exact .inr rfl))) (fun _ _ _ _ _ => dts_one (dt_val (de_call (pe_call (ok__law_divides T) (hr.mono (by decide)) (by rfl) T.g__law_divides T.F__law_divides.kp (b__law_divides T.F__law_divides) .nil passL (da_cons (de_var (pv 16)) (da_cons (de_var (pv 11)) da_nil)))))) (fun _ _ _ _ _ => de_var (pv 16)) (gin_name (by decide)))) da_nil)) ok_maxL)) g_name)
    (dss_cons (ds_asg (gp := gpN 13) (ps_set (i := 13) sc_law.nd rfl (by first | exact .inl rfl | exact .inr rfl) (de_add (de_int) (de_call (pe_call (ok__law_any T) (hr.mono (by decide)) (by rfl) T.g__law_any T.F__law_any.kp (b__law_any T.F__law_any) .nil (passes_call (takes_of rfl rfl rfl rfl) fun _ _ _ _ h => h) (da_cons (de_var (pv 1)) (da_cons (de_int) da_nil)))))) g_name)
    (dss_one (ds_ownAdd (i := 2) (j := 2) (ps_set (i := 2) sc_law.nd rfl (by first | exact .inl rfl | exact .inr rfl) (pe_op op_cat (pv 2) (de_frz (dl_lst (da_cons (de_tup (da_cons (de_if (dt_gt (de_var (pv 3)) (de_int)) (de_call (pe_call (ok_divisor_of T) (hr.mono (by decide)) (by rfl) T.g_divisor_of T.F_divisor_of.kp (b_divisor_of T.F_divisor_of) .nil (passes_call (takes_of rfl rfl rfl rfl) fun _ _ _ _ h => h) (da_cons (de_var (pv 11)) da_nil))) (de_callP (pe_nil0 (pe_callP0 (ok_divisor_of T) (hr.mono (by decide)) (by rfl) T.g_divisor_of T.F_divisor_of.kp (k_divisor_of_0_direction T.F_divisor_of) (passes_call (takes_of rfl rfl rfl rfl) fun _ _ _ _ h => h) (dk_cons (de_var (pv 11)) dk_nil))) (fun _ _ _ _ h => len_nil h) (fun _ _ _ _ h => len_cons (fun _ _ _ _ h => len_nil h) h))) (da_cons (de_var (pv 12)) da_nil))) (da_cons (de_tup (da_cons (de_call (pe_call (ok_divisor_of T) (hr.mono (by decide)) (by rfl) T.g_divisor_of T.F_divisor_of.kp (b_divisor_of T.F_divisor_of) .nil (passes_call (takes_of rfl rfl rfl rfl) fun _ _ _ _ h => h) (da_cons (de_tup (da_cons (de_mul (de_var (pv 13)) (de_ix (de_var (pv 11)) (de_int))) (da_cons (de_sub (de_int) (de_mul (de_var (pv 13)) (de_ix (de_var (pv 11)) (de_int)))) da_nil))) da_nil))) (da_cons (de_mul (de_var (pv 13)) (de_var (pv 12))) da_nil))) da_nil))))))))))))))))))))))))))
    (dss_cons (ds_for (passes_of rfl) rfl (di_seq (de_tup (da_cons (de_non) (da_cons (de_int) (da_cons (de_tup (da_nil)) (da_cons (de_tup (da_cons (de_int) da_nil)) (da_cons (de_tup (da_cons (de_int) (da_cons (de_int) (da_cons (de_int) da_nil)))) (da_cons (de_frz (dl_lst (da_cons (de_int) (da_cons (de_int) da_nil)))) (da_cons (de_tup (da_cons (de_int) (da_cons (de_str) da_nil))) (da_cons (de_tup (da_cons (de_bl) (da_cons (de_int) da_nil))) (da_cons (de_tup (da_cons (de_int) (da_cons (de_bl) da_nil))) (da_cons (de_tup (da_cons (de_tup (da_cons (de_int) (da_cons (de_int) da_nil))) (da_cons (de_tup (da_cons (de_int) (da_cons (de_int) da_nil))) da_nil))) (da_cons (de_str) da_nil))))))))))))) (dg_name (pg_name (i := 14) sc_law.nd rfl (by first | exact .inl rfl | exact .inr rfl))) (dss_one (ds_app (i := 2) (ps_expr (pe_bm PySem.F.plainAttrs_list PySem.F.slot_list_append PySem.F.type_list_append mt_append (pv 2) (pa_cons (de_tup (da_cons (de_call (pe_call (ok_is_point T) (hr.mono (by decide)) (by rfl) T.g_is_point T.F_is_point.kp (b_is_point T.F_is_point) .nil (passes_call (takes_of rfl rfl rfl rfl) fun _ _ _ _ h => h) (da_cons (de_var (pv 14)) da_nil))) (da_cons (de_bl) da_nil))) pa_nil))))))
    (dss_cons (ds_ownAdd (i := 2) (j := 2) (ps_set (i := 2) sc_law.nd rfl (by first | exact .inl rfl | exact .inr rfl) (pe_op op_cat (pv 2) (de_frz (dl_lst (da_cons (de_tup (da_cons (de_callP (pe_nil0 (pe_callP0 (ok_is_point T) (hr.mono (by decide)) (by rfl) T.g_is_point T.F_is_point.kp (k_is_point_0_value T.F_is_point) (passes_call (takes_of rfl rfl rfl rfl) fun _ _ _ _ h => h) (dk_cons (de_tup (da_cons (de_int) (da_cons (de_int) da_nil))) dk_nil))) (fun _ _ _ _ h => len_nil h) (fun _ _ _ _ h => len_cons (fun _ _ _ _ h => len_nil h) h)) (da_cons (de_bl) da_nil))) (da_cons (de_tup (da_cons (de_call (pe_call (ok_is_point T) (hr.mono (by decide)) (by rfl) T.g_is_point T.F_is_point.kp (b_is_point T.F_is_point) .nil (passes_call (takes_of rfl rfl rfl rfl) fun _ _ _ _ h => h) (da_cons (de_tup (da_cons (de_sub (de_int) (de_pow (de_int) (de_int))) (da_cons (de_int) da_nil))) da_nil))) (da_cons (de_bl) da_nil))) (da_cons (de_tup (da_cons (de_call (pe_call (ok_divisor_of T) (hr.mono (by decide)) (by rfl) T.g_divisor_of T.F_divisor_of.kp (b_divisor_of T.F_divisor_of) .nil (passes_call (takes_of rfl rfl rfl rfl) fun _ _ _ _ h => h) (da_cons (de_tup (da_cons (de_int) (da_cons (de_sub (de_int) (de_int)) da_nil))) da_nil))) (da_cons (de_int) da_nil))) (da_cons (de_tup (da_cons (de_call (pe_call (ok_divisor_of T) (hr.mono (by decide)) (by rfl) T.g_divisor_of T.F_divisor_of.kp (b_divisor_of T.F_divisor_of) .nil (passes_call (takes_of rfl rfl rfl rfl) fun _ _ _ _ h => h) (da_cons (de_tup (da_cons (de_int) (da_cons (de_int) da_nil))) da_nil))) (da_cons (de_int) da_nil))) (da_cons (de_tup (da_cons (de_call (pe_call (ok_class_of T) (hr.mono (by decide)) (by rfl) T.g_class_of T.F_class_of.kp (b_class_of T.F_class_of) .nil (passes_call (takes_of rfl rfl rfl rfl) fun _ _ _ _ h => h) (da_cons (de_tup (da_cons (de_sub (de_int) (de_int)) (da_cons (de_sub (de_int) (de_int)) da_nil))) da_nil))) (da_cons (de_tup (da_cons (de_int) (da_cons (de_int) da_nil))) da_nil))) da_nil))))))))))
    (dss_cons (ds_ownAdd (i := 2) (j := 2) (ps_set (i := 2) sc_law.nd rfl (by first | exact .inl rfl | exact .inr rfl) (pe_op op_cat (pv 2) (de_frz (dl_lst (da_cons (de_tup (da_cons (de_call (pe_call (ok_doubled T) (hr.mono (by decide)) (by rfl) T.g_doubled T.F_doubled.kp (b_doubled T.F_doubled) .nil (passes_call (takes_of rfl rfl rfl rfl) fun _ _ _ _ h => h) (da_cons (de_tup (da_cons (de_int) (da_cons (de_int) da_nil))) (da_cons (de_tup (da_cons (de_int) (da_cons (de_int) da_nil))) (da_cons (de_tup (da_cons (de_int) (da_cons (de_int) da_nil))) da_nil))))) (da_cons (de_int) da_nil))) (da_cons (de_tup (da_cons (de_call (pe_call (ok_doubled T) (hr.mono (by decide)) (by rfl) T.g_doubled T.F_doubled.kp (b_doubled T.F_doubled) .nil (passes_call (takes_of rfl rfl rfl rfl) fun _ _ _ _ h => h) (da_cons (de_tup (da_cons (de_int) (da_cons (de_int) da_nil))) (da_cons (de_tup (da_cons (de_int) (da_cons (de_int) da_nil))) (da_cons (de_tup (da_cons (de_int) (da_cons (de_int) da_nil))) da_nil))))) (da_cons (de_sub (de_int) (de_int)) da_nil))) (da_cons (de_tup (da_cons (de_call (pe_call (ok_doubled T) (hr.mono (by decide)) (by rfl) T.g_doubled T.F_doubled.kp (b_doubled T.F_doubled) .nil (passes_call (takes_of rfl rfl rfl rfl) fun _ _ _ _ h => h) (da_cons (de_tup (da_cons (de_int) (da_cons (de_int) da_nil))) (da_cons (de_tup (da_cons (de_int) (da_cons (de_int) da_nil))) (da_cons (de_tup (da_cons (de_int) (da_cons (de_int) da_nil))) da_nil))))) (da_cons (de_int) da_nil))) (da_cons (de_tup (da_cons (de_call (pe_call (ok_doubled T) (hr.mono (by decide)) (by rfl) T.g_doubled T.F_doubled.kp (b_doubled T.F_doubled) .nil (passes_call (takes_of rfl rfl rfl rfl) fun _ _ _ _ h => h) (da_cons (de_tup (da_cons (de_int) (da_cons (de_int) da_nil))) (da_cons (de_tup (da_cons (de_int) (da_cons (de_int) da_nil))) (da_cons (de_tup (da_cons (de_int) (da_cons (de_int) da_nil))) da_nil))))) (da_cons (de_int) da_nil))) da_nil)))))))))
    (dss_cons (ds_ownAdd (i := 2) (j := 2) (ps_set (i := 2) sc_law.nd rfl (by first | exact .inl rfl | exact .inr rfl) (pe_op op_cat (pv 2) (de_frz (dl_lst (da_cons (de_tup (da_cons (de_call (pe_call (ok_right_class T) (hr.mono (by decide)) (by rfl) T.g_right_class T.F_right_class.kp (b_right_class T.F_right_class) .nil (passes_call (takes_of rfl rfl rfl rfl) fun _ _ _ _ h => h) (da_cons (de_tup (da_cons (de_int) (da_cons (de_int) da_nil))) da_nil))) (da_cons (de_tup (da_cons (de_int) (da_cons (de_int) da_nil))) da_nil))) da_nil))))))
    (dss_one (ds_retB (ps_ret (de_call (pe_call (ok__law_all T) (hr.mono (by decide)) (by rfl) T.g__law_all T.F__law_all.kp (b__law_all T.F__law_all) .nil (passes_call (takes_of rfl rfl rfl rfl) fun _ _ _ _ h => h) (da_cons (de_add (de_var (pv 2)) (de_frz (dl_lst (da_cons (de_tup (da_cons (de_call (pe_call (ok_dot T) (hr.mono (by decide)) (by rfl) T.g_dot T.F_dot.kp (b_dot T.F_dot) .nil (passes_call (takes_of rfl rfl rfl rfl) fun _ _ _ _ h => h) (da_cons (de_tup (da_cons (de_int) (da_cons (de_int) da_nil))) (da_cons (de_tup (da_cons (de_int) (da_cons (de_int) da_nil))) da_nil)))) (da_cons (de_int) da_nil))) (da_cons (de_tup (da_cons (de_call (pe_call (ok_dot T) (hr.mono (by decide)) (by rfl) T.g_dot T.F_dot.kp (b_dot T.F_dot) .nil (passes_call (takes_of rfl rfl rfl rfl) fun _ _ _ _ h => h) (da_cons (de_tup (da_cons (de_int) (da_cons (de_int) da_nil))) (da_cons (de_tup (da_cons (de_int) (da_cons (de_int) da_nil))) da_nil)))) (da_cons (de_int) da_nil))) da_nil))))) da_nil)))))))))))
end
theorem all_mk {l : PySem.W.OpenLaw} {w : World} {K : PySem.W.Frag} {h : Heap} {mg : Str → Option Value} {fa : Addr} (hm : ∀ d : Deal, ∃ ε' D', m_law (lawS 14) (some d) = some (.ok (.rt (.bl true)), ε', D')) (X : K.In h) (G : h.Ns mainGlobals mg) (hfa : mg "law" = some (.ref fa))
    {f0 : Addr} {od0 an0 : Option Addr} {sl0 : Array (Option Value)} {oc0 kV0 dc0 pm0 cd0 ct0 : Value}
    (a0 : PySem.W.nsIn K mainGlobals "is_integer" = some (some (.ref f0))) (l0 : K.lookup f0 = some ⟨oc0, od0, .func (PySem.W.fnOf "is_integer" "is_integer" (defArgs s_is_integer) (defBody s_is_integer) (defScope s_is_integer) .none kV0 dc0 pm0 an0 cd0 ct0), sl0⟩) (c0 : PySem.W.codeIn K cd0 "is_integer" = true) (k0 : PySem.W.keepIn K (.ref f0) = true)
    {f1 : Addr} {od1 an1 : Option Addr} {sl1 : Array (Option Value)} {oc1 kV1 dc1 pm1 cd1 ct1 : Value}
    (a1 : PySem.W.nsIn K mainGlobals "is_tuple_of" = some (some (.ref f1))) (l1 : K.lookup f1 = some ⟨oc1, od1, .func (PySem.W.fnOf "is_tuple_of" "is_tuple_of" (defArgs s_is_tuple_of) (defBody s_is_tuple_of) (defScope s_is_tuple_of) .none kV1 dc1 pm1 an1 cd1 ct1), sl1⟩) (c1 : PySem.W.codeIn K cd1 "is_tuple_of" = true) (k1 : PySem.W.keepIn K (.ref f1) = true)
    {f2 : Addr} {od2 an2 : Option Addr} {sl2 : Array (Option Value)} {oc2 kV2 dc2 pm2 cd2 ct2 : Value}
    (a2 : PySem.W.nsIn K mainGlobals "is_point" = some (some (.ref f2))) (l2 : K.lookup f2 = some ⟨oc2, od2, .func (PySem.W.fnOf "is_point" "is_point" (defArgs s_is_point) (defBody s_is_point) (defScope s_is_point) .none kV2 dc2 pm2 an2 cd2 ct2), sl2⟩) (c2 : PySem.W.codeIn K cd2 "is_point" = true) (k2 : PySem.W.keepIn K (.ref f2) = true)
    {f3 : Addr} {od3 an3 : Option Addr} {sl3 : Array (Option Value)} {oc3 kV3 dc3 pm3 cd3 ct3 : Value}
    (a3 : PySem.W.nsIn K mainGlobals "class_of" = some (some (.ref f3))) (l3 : K.lookup f3 = some ⟨oc3, od3, .func (PySem.W.fnOf "class_of" "class_of" (defArgs s_class_of) (defBody s_class_of) (defScope s_class_of) .none kV3 dc3 pm3 an3 cd3 ct3), sl3⟩) (c3 : PySem.W.codeIn K cd3 "class_of" = true) (k3 : PySem.W.keepIn K (.ref f3) = true)
    {f4 : Addr} {od4 an4 : Option Addr} {sl4 : Array (Option Value)} {oc4 kV4 dc4 pm4 cd4 ct4 : Value}
    (a4 : PySem.W.nsIn K mainGlobals "added_points" = some (some (.ref f4))) (l4 : K.lookup f4 = some ⟨oc4, od4, .func (PySem.W.fnOf "added_points" "added_points" (defArgs s_added_points) (defBody s_added_points) (defScope s_added_points) .none kV4 dc4 pm4 an4 cd4 ct4), sl4⟩) (c4 : PySem.W.codeIn K cd4 "added_points" = true) (k4 : PySem.W.keepIn K (.ref f4) = true)
    {f5 : Addr} {od5 an5 : Option Addr} {sl5 : Array (Option Value)} {oc5 kV5 dc5 pm5 cd5 ct5 : Value}
    (a5 : PySem.W.nsIn K mainGlobals "less" = some (some (.ref f5))) (l5 : K.lookup f5 = some ⟨oc5, od5, .func (PySem.W.fnOf "less" "less" (defArgs s_less) (defBody s_less) (defScope s_less) .none kV5 dc5 pm5 an5 cd5 ct5), sl5⟩) (c5 : PySem.W.codeIn K cd5 "less" = true) (k5 : PySem.W.keepIn K (.ref f5) = true)
    {f6 : Addr} {od6 an6 : Option Addr} {sl6 : Array (Option Value)} {oc6 kV6 dc6 pm6 cd6 ct6 : Value}
    (a6 : PySem.W.nsIn K mainGlobals "divisor_of" = some (some (.ref f6))) (l6 : K.lookup f6 = some ⟨oc6, od6, .func (PySem.W.fnOf "divisor_of" "divisor_of" (defArgs s_divisor_of) (defBody s_divisor_of) (defScope s_divisor_of) .none kV6 dc6 pm6 an6 cd6 ct6), sl6⟩) (c6 : PySem.W.codeIn K cd6 "divisor_of" = true) (k6 : PySem.W.keepIn K (.ref f6) = true)
    {f7 : Addr} {od7 an7 : Option Addr} {sl7 : Array (Option Value)} {oc7 kV7 dc7 pm7 cd7 ct7 : Value}
    (a7 : PySem.W.nsIn K mainGlobals "dot" = some (some (.ref f7))) (l7 : K.lookup f7 = some ⟨oc7, od7, .func (PySem.W.fnOf "dot" "dot" (defArgs s_dot) (defBody s_dot) (defScope s_dot) .none kV7 dc7 pm7 an7 cd7 ct7), sl7⟩) (c7 : PySem.W.codeIn K cd7 "dot" = true) (k7 : PySem.W.keepIn K (.ref f7) = true)
    {f8 : Addr} {od8 an8 : Option Addr} {sl8 : Array (Option Value)} {oc8 kV8 dc8 pm8 cd8 ct8 : Value}
    (a8 : PySem.W.nsIn K mainGlobals "right_class" = some (some (.ref f8))) (l8 : K.lookup f8 = some ⟨oc8, od8, .func (PySem.W.fnOf "right_class" "right_class" (defArgs s_right_class) (defBody s_right_class) (defScope s_right_class) .none kV8 dc8 pm8 an8 cd8 ct8), sl8⟩) (c8 : PySem.W.codeIn K cd8 "right_class" = true) (k8 : PySem.W.keepIn K (.ref f8) = true)
    {f9 : Addr} {od9 an9 : Option Addr} {sl9 : Array (Option Value)} {oc9 kV9 dc9 pm9 cd9 ct9 : Value}
    (a9 : PySem.W.nsIn K mainGlobals "doubled" = some (some (.ref f9))) (l9 : K.lookup f9 = some ⟨oc9, od9, .func (PySem.W.fnOf "doubled" "doubled" (defArgs s_doubled) (defBody s_doubled) (defScope s_doubled) .none kV9 dc9 pm9 an9 cd9 ct9), sl9⟩) (c9 : PySem.W.codeIn K cd9 "doubled" = true) (k9 : PySem.W.keepIn K (.ref f9) = true)
    {f10 : Addr} {od10 an10 : Option Addr} {sl10 : Array (Option Value)} {oc10 kV10 dc10 pm10 cd10 ct10 : Value}
    (a10 : PySem.W.nsIn K mainGlobals "_law_deal" = some (some (.ref f10))) (l10 : K.lookup f10 = some ⟨oc10, od10, .func (PySem.W.fnOf "_law_deal" "_law_deal" (defArgs s__law_deal) (defBody s__law_deal) (defScope s__law_deal) .none kV10 dc10 pm10 an10 cd10 ct10), sl10⟩) (c10 : PySem.W.codeIn K cd10 "_law_deal" = true) (k10 : PySem.W.keepIn K (.ref f10) = true)
    {f11 : Addr} {od11 an11 : Option Addr} {sl11 : Array (Option Value)} {oc11 kV11 dc11 pm11 cd11 ct11 : Value}
    (a11 : PySem.W.nsIn K mainGlobals "_law_any" = some (some (.ref f11))) (l11 : K.lookup f11 = some ⟨oc11, od11, .func (PySem.W.fnOf "_law_any" "_law_any" (defArgs s__law_any) (defBody s__law_any) (defScope s__law_any) .none kV11 dc11 pm11 an11 cd11 ct11), sl11⟩) (c11 : PySem.W.codeIn K cd11 "_law_any" = true) (k11 : PySem.W.keepIn K (.ref f11) = true)
    {f12 : Addr} {od12 an12 : Option Addr} {sl12 : Array (Option Value)} {oc12 kV12 dc12 pm12 cd12 ct12 : Value}
    (a12 : PySem.W.nsIn K mainGlobals "_law_is_kind" = some (some (.ref f12))) (l12 : K.lookup f12 = some ⟨oc12, od12, .func (PySem.W.fnOf "_law_is_kind" "_law_is_kind" (defArgs s__law_is_kind) (defBody s__law_is_kind) (defScope s__law_is_kind) .none kV12 dc12 pm12 an12 cd12 ct12), sl12⟩) (c12 : PySem.W.codeIn K cd12 "_law_is_kind" = true) (k12 : PySem.W.keepIn K (.ref f12) = true)
    {f13 : Addr} {od13 an13 : Option Addr} {sl13 : Array (Option Value)} {oc13 kV13 dc13 pm13 cd13 ct13 : Value}
    (a13 : PySem.W.nsIn K mainGlobals "_law_same" = some (some (.ref f13))) (l13 : K.lookup f13 = some ⟨oc13, od13, .func (PySem.W.fnOf "_law_same" "_law_same" (defArgs s__law_same) (defBody s__law_same) (defScope s__law_same) .none kV13 dc13 pm13 an13 cd13 ct13), sl13⟩) (c13 : PySem.W.codeIn K cd13 "_law_same" = true) (k13 : PySem.W.keepIn K (.ref f13) = true)
    {f14 : Addr} {od14 an14 : Option Addr} {sl14 : Array (Option Value)} {oc14 kV14 dc14 pm14 cd14 ct14 : Value}
    (a14 : PySem.W.nsIn K mainGlobals "_law_all" = some (some (.ref f14))) (l14 : K.lookup f14 = some ⟨oc14, od14, .func (PySem.W.fnOf "_law_all" "_law_all" (defArgs s__law_all) (defBody s__law_all) (defScope s__law_all) .none kV14 dc14 pm14 an14 cd14 ct14), sl14⟩) (c14 : PySem.W.codeIn K cd14 "_law_all" = true) (k14 : PySem.W.keepIn K (.ref f14) = true)
    {f15 : Addr} {od15 an15 : Option Addr} {sl15 : Array (Option Value)} {oc15 kV15 dc15 pm15 cd15 ct15 : Value}
    (a15 : PySem.W.nsIn K mainGlobals "_law_turn" = some (some (.ref f15))) (l15 : K.lookup f15 = some ⟨oc15, od15, .func (PySem.W.fnOf "_law_turn" "_law_turn" (defArgs s__law_turn) (defBody s__law_turn) (defScope s__law_turn) .none kV15 dc15 pm15 an15 cd15 ct15), sl15⟩) (c15 : PySem.W.codeIn K cd15 "_law_turn" = true) (k15 : PySem.W.keepIn K (.ref f15) = true)
    {f16 : Addr} {od16 an16 : Option Addr} {sl16 : Array (Option Value)} {oc16 kV16 dc16 pm16 cd16 ct16 : Value}
    (a16 : PySem.W.nsIn K mainGlobals "_law_divides" = some (some (.ref f16))) (l16 : K.lookup f16 = some ⟨oc16, od16, .func (PySem.W.fnOf "_law_divides" "_law_divides" (defArgs s__law_divides) (defBody s__law_divides) (defScope s__law_divides) .none kV16 dc16 pm16 an16 cd16 ct16), sl16⟩) (c16 : PySem.W.codeIn K cd16 "_law_divides" = true) (k16 : PySem.W.keepIn K (.ref f16) = true)
    {f17 : Addr} {od17 an17 : Option Addr} {sl17 : Array (Option Value)} {oc17 kV17 dc17 pm17 cd17 ct17 : Value}
    (a17 : PySem.W.nsIn K mainGlobals "law" = some (some (.ref f17))) (l17 : K.lookup f17 = some ⟨oc17, od17, .func (PySem.W.fnOf "law" "law" (defArgs s_law) (defBody s_law) (defScope s_law) .none kV17 dc17 pm17 an17 cd17 ct17), sl17⟩) (c17 : PySem.W.codeIn K cd17 "law" = true) (k17 : PySem.W.keepIn K (.ref f17) = true)
    (z0 : PySem.W.nsIn K mainGlobals "abs" = some none)
    (z1 : PySem.W.nsIn K mainGlobals "bool" = some none)
    (z2 : PySem.W.nsIn K mainGlobals "dict" = some none)
    (z3 : PySem.W.nsIn K mainGlobals "int" = some none)
    (z4 : PySem.W.nsIn K mainGlobals "isinstance" = some none)
    (z5 : PySem.W.nsIn K mainGlobals "len" = some none)
    (z6 : PySem.W.nsIn K mainGlobals "list" = some none)
    (z7 : PySem.W.nsIn K mainGlobals "max" = some none)
    (z8 : PySem.W.nsIn K mainGlobals "range" = some none)
    (z9 : PySem.W.nsIn K mainGlobals "str" = some none)
    (z10 : PySem.W.nsIn K mainGlobals "tuple" = some none)
    : ∃ fd : FuncData, (∀ (s : Shared) (v : Value), BindsTo s fd ⟨[v], []⟩ [("script", v)]) ∧ ∀ base : Heap, K.In base → base.Ns mainGlobals mg → FnOk l.prog w K mg base (L2.CX l.prog w) 4 fa fd ["script"] (spLaw K) := by
  let T : Txt K mg := {
   a_is_integer := f0, d_is_integer := _, F_is_integer := fun_mk l0 c0 k0, g_is_integer := PySem.W.mg_of X G a0,
   a_is_tuple_of := f1, d_is_tuple_of := _, F_is_tuple_of := fun_mk l1 c1 k1, g_is_tuple_of := PySem.W.mg_of X G a1,
   a_is_point := f2, d_is_point := _, F_is_point := fun_mk l2 c2 k2, g_is_point := PySem.W.mg_of X G a2,
   a_class_of := f3, d_class_of := _, F_class_of := fun_mk l3 c3 k3, g_class_of := PySem.W.mg_of X G a3,
   a_added_points := f4, d_added_points := _, F_added_points := fun_mk l4 c4 k4, g_added_points := PySem.W.mg_of X G a4,
   a_less := f5, d_less := _, F_less := fun_mk l5 c5 k5, g_less := PySem.W.mg_of X G a5,
   a_divisor_of := f6, d_divisor_of := _, F_divisor_of := fun_mk l6 c6 k6, g_divisor_of := PySem.W.mg_of X G a6,
   a_dot := f7, d_dot := _, F_dot := fun_mk l7 c7 k7, g_dot := PySem.W.mg_of X G a7,
   a_right_class := f8, d_right_class := _, F_right_class := fun_mk l8 c8 k8, g_right_class := PySem.W.mg_of X G a8,
   a_doubled := f9, d_doubled := _, F_doubled := fun_mk l9 c9 k9, g_doubled := PySem.W.mg_of X G a9,
   a__law_deal := f10, d__law_deal := _, F__law_deal := fun_mk l10 c10 k10, g__law_deal := PySem.W.mg_of X G a10,
   a__law_any := f11, d__law_any := _, F__law_any := fun_mk l11 c11 k11, g__law_any := PySem.W.mg_of X G a11,
   a__law_is_kind := f12, d__law_is_kind := _, F__law_is_kind := fun_mk l12 c12 k12, g__law_is_kind := PySem.W.mg_of X G a12,
   a__law_same := f13, d__law_same := _, F__law_same := fun_mk l13 c13 k13, g__law_same := PySem.W.mg_of X G a13,
   a__law_all := f14, d__law_all := _, F__law_all := fun_mk l14 c14 k14, g__law_all := PySem.W.mg_of X G a14,
   a__law_turn := f15, d__law_turn := _, F__law_turn := fun_mk l15 c15 k15, g__law_turn := PySem.W.mg_of X G a15,
   a__law_divides := f16, d__law_divides := _, F__law_divides := fun_mk l16 c16 k16, g__law_divides := PySem.W.mg_of X G a16,
   a_law := f17, d_law := _, F_law := fun_mk l17 c17 k17, g_law := PySem.W.mg_of X G a17,
   m_abs := PySem.W.mg_none_of X G z0,
   m_bool := PySem.W.mg_none_of X G z1,
   m_dict := PySem.W.mg_none_of X G z2,
   m_int := PySem.W.mg_none_of X G z3,
   m_isinstance := PySem.W.mg_none_of X G z4,
   m_len := PySem.W.mg_none_of X G z5,
   m_list := PySem.W.mg_none_of X G z6,
   m_max := PySem.W.mg_none_of X G z7,
   m_range := PySem.W.mg_none_of X G z8,
   m_str := PySem.W.mg_none_of X G z9,
   m_tuple := PySem.W.mg_none_of X G z10 }
  have e : some (Value.ref fa) = some (.ref T.a_law) := hfa.symm.trans T.g_law
  have e2 : fa = T.a_law := Value.ref.inj (Option.some.inj e)
  subst e2
  exact ⟨T.d_law, fun s v => .of_eq rfl, fun base _ _ => ok_law T hm⟩
end GG
set_option Elab.async false
set_option linter.all false
set_option maxRecDepth 100000
set_option maxHeartbeats 4000000
namespace GG
open Pu L2 PySem
local macro_rules | `(tactic| infer_instance) => `(tactic| ((with_reducible refine runs_any ?_ fun _ _ _ _ => ?_); (· (constructor <;> omega))))
local macro_rules | `(tactic| sizeOf_list_dec) => `(tactic| repeat first
  | with_reducible refine runs_bind ?_
  | with_reducible refine runs_pure ?_
  | ((with_reducible refine' runs_var _ _); rotate_left; (· exact rfl))
  | ((with_reducible refine runs_mul ?_ ?_); rotate_left; (· first | with_reducible rfl | exact mulC_l (by omega) (by omega) | exact mulC_r (by omega) (by omega)))
  | ((with_reducible refine runs_mod ?_ ?_); rotate_left; (· omega))
  | ((with_reducible refine' runs_pick1 _ _); rotate_left 1; (· exact rfl))
  | ((with_reducible refine' runs_pick2 _ _); rotate_left 2; (· exact rfl))
  | ((with_reducible refine' runs_pick3 _ _); rotate_left 3; (· exact rfl))
  | ((with_reducible refine' runs_pick4 _ _); rotate_left 4; (· exact rfl))
  | ((with_reducible refine' runs_pick5 _ _); rotate_left 5; (· exact rfl))
  | ((with_reducible refine' runs_pick6 _ _); rotate_left 6; (· exact rfl))
  | ((with_reducible refine' runs_lift _ _); rotate_left; (· exact rfl))
  | ((with_reducible refine runs_ite_t ?_ ?_); (· exact rfl))
  | ((with_reducible refine runs_ite_f ?_ ?_); (· exact rfl))
  | ((with_reducible refine' runs_ite_val _ _ _); rotate_left; (· (intro _; sizeOf_list_dec; exact ⟨rfl, rfl⟩)); (· (intro _; sizeOf_list_dec; exact ⟨rfl, rfl⟩)))
  | with_reducible refine runS_seq ?_
  | with_reducible refine runS_X ?_
  | ((with_reducible refine' runS_set _ _); rotate_left; (· exact rfl))
  | (with_reducible refine runS_par rfl ?_)
  | with_reducible refine runS_retK ?_
  | with_reducible refine runS_nil ?_
  | with_reducible refine runS_own ?_
  | with_reducible refine runS_sFor ?_
  | with_reducible refine runS_if ?_
  | ((with_reducible refine runS_ite_t ?_ ?_); (· exact rfl))
  | ((with_reducible refine runS_ite_f ?_ ?_); (· exact rfl))
  | infer_instance)
theorem w_class_of (a b : Int) : Ans f_class_of [pt a b] (pt (a % 2) (b % 2)) := ans_of fun D => by
  refine runF_fn ?_
  unfold m_class_of
  sizeOf_list_dec
  exact ⟨rfl, rfl⟩
theorem w_added_points (a b c d : Int) : Ans f_added_points [pt a b, pt c d] (pt (a + c) (b + d)) := ans_of fun D => by
  refine runF_fn ?_
  unfold m_added_points
  sizeOf_list_dec
  exact ⟨rfl, rfl⟩
theorem w_less (a b c d : Int) : Ans f_less [pt a b, pt c d] (pt (a - c) (b - d)) := ans_of fun D => by
  refine runF_fn ?_
  unfold m_less
  sizeOf_list_dec
  exact ⟨rfl, rfl⟩
theorem w_dot (a b c d : Int) (h1 : -18446744073709551616 < a ∧ a < 18446744073709551616) (h2 : -18446744073709551616 < b ∧ b < 18446744073709551616) : Ans f_dot [pt a b, pt c d] (.int ((a * c + b * d) % 2)) := ans_of fun D => by
  refine runF_fn ?_
  unfold m_dot
  sizeOf_list_dec
  exact ⟨rfl, rfl⟩
local macro_rules | `(tactic| infer_instance) => `(tactic| with_reducible refine runs_ans rfl (w_class_of _ _) ?_)
local macro_rules | `(tactic| infer_instance) => `(tactic| with_reducible refine runs_ans rfl (w_added_points _ _ _ _) ?_)
local macro_rules | `(tactic| infer_instance) => `(tactic| with_reducible refine runs_ans rfl (w_less _ _ _ _) ?_)
local macro_rules | `(tactic| infer_instance) => `(tactic| ((with_reducible refine runs_ans rfl (w_dot _ _ _ _ ?_ ?_) ?_); (· omega); (· omega)))
theorem w_right_class (a b : Int) : Ans f_right_class [pt a b] (pt (b % 2) (a % 2)) := ans_of fun D => by
  refine runF_fn ?_
  unfold m_right_class
  sizeOf_list_dec
  exact ⟨rfl, rfl⟩
local macro_rules | `(tactic| infer_instance) => `(tactic| with_reducible refine runs_ans rfl (w_right_class _ _) ?_)
def Small (a : Int) : Prop := -9223372036854775808 < a ∧ a < 9223372036854775808
theorem w_doubled (a b c d e f : Int) (ha : -9223372036854775808 < a ∧ a < 9223372036854775808) (hb : -9223372036854775808 < b ∧ b < 9223372036854775808) (hc : -9223372036854775808 < c ∧ c < 9223372036854775808) (hd : -9223372036854775808 < d ∧ d < 9223372036854775808) : Ans f_doubled [pt a b, pt c d, pt e f] (.int ((c - a) * (f - b) - (d - b) * (e - a))) := ans_of fun D => by
  refine runF_fn ?_
  unfold m_doubled
  sizeOf_list_dec
  exact ⟨rfl, rfl⟩
local macro_rules | `(tactic| infer_instance) => `(tactic| ((with_reducible refine runs_ans rfl (w_doubled _ _ _ _ _ _ ?_ ?_ ?_ ?_) ?_); (· omega); (· omega); (· omega); (· omega)))
theorem w__law_turn (a b c d e f : Int) (ha : -9223372036854775808 < a ∧ a < 9223372036854775808) (hb : -9223372036854775808 < b ∧ b < 9223372036854775808) (hc : -9223372036854775808 < c ∧ c < 9223372036854775808) (hd : -9223372036854775808 < d ∧ d < 9223372036854775808) : Ans f__law_turn [pt a b, pt c d, pt e f] (.int ((c - a) * (f - b) - (d - b) * (e - a))) := ans_of fun D => by
  refine runF_fn ?_
  unfold m__law_turn
  sizeOf_list_dec
  exact ⟨rfl, rfl⟩
local macro_rules | `(tactic| infer_instance) => `(tactic| ((with_reducible refine runs_ans rfl (w__law_turn _ _ _ _ _ _ ?_ ?_ ?_ ?_) ?_); (· omega); (· omega); (· omega); (· omega)))
theorem w__law_divides (n a b : Int) (hn : 0 < n) : Ans f__law_divides [.int n, pt a b] (.bl (decide (a % n = 0 ∧ b % n = 0))) := ans_of fun D => by
  refine runF_fn ?_
  unfold m__law_divides
  sizeOf_list_dec
  have e1 : pvEq (PV.int (a % n)) (PV.int 0) = decide (a % n = 0) := rfl
  have e2 : pvEq (PV.int (b % n)) (PV.int 0) = decide (b % n = 0) := rfl
  refine runs_ite (fun h => ?_) (fun h => ?_)
  · sizeOf_list_dec
    rw [e1, decide_eq_true_iff] at h
    rw [e2]
    exact ⟨by simp [h], rfl⟩
  · sizeOf_list_dec
    rw [e1, decide_eq_false_iff_not] at h
    exact ⟨by simp [h], rfl⟩
local macro_rules | `(tactic| infer_instance) => `(tactic| ((with_reducible refine runs_ans rfl (w__law_divides _ _ _ ?_) ?_); (· omega)))
theorem w_divisor_of (a b : Int) (hb : -1000000000 < b ∧ b < 1000000000) : Ans f_divisor_of [pt a b] (.int (Int.gcd a b)) := ans_of fun D => by
  refine runF_fn ?_
  unfold m_divisor_of
  sizeOf_list_dec
  refine runS_while (fun n σ D' => D' = D ∧ ∃ x y : Int, σ = [.val (pt a b), .val (.int x), .val (.int y)] ∧ 0 ≤ x ∧ 0 ≤ y ∧ y.natAbs = n ∧ Int.gcd x y = Int.gcd a b) (n := b.natAbs) ⟨rfl, _, _, rfl, ?_, ?_, ?_, ?_⟩ (by unfold fuel; omega) ?_
  · split <;> omega
  · split <;> omega
  · split <;> omega
  · split <;> split <;> simp
  · rintro n σ D' ⟨rfl, x, y, rfl, hx, hy, hn, hg⟩
    sizeOf_list_dec
    refine ⟨fun h => ?_, fun h => ?_⟩
    · rw [decide_eq_true_iff] at h
      sizeOf_list_dec
      have h1 := Int.emod_nonneg x (b := y) (by omega)
      have h2 := Int.emod_lt_of_pos x (b := y) (by omega)
      refine ⟨_, ?_, rfl, y, x % y, rfl, hy, h1, rfl, ?_⟩
      · omega
      · rw [← hg, Int.gcd_comm x y, Int.gcd, Int.gcd, Int.natAbs_emod_of_nonneg hx, Nat.gcd_rec y.natAbs x.natAbs, Nat.gcd_comm]
    · rw [decide_eq_false_iff_not] at h
      sizeOf_list_dec
      have : y = 0 := by omega
      subst this
      refine ⟨?_, rfl⟩
      rw [← hg, Int.gcd_zero_right]
      congr 1
      omega
local macro_rules | `(tactic| infer_instance) => `(tactic| ((with_reducible refine runs_ans rfl (w_divisor_of _ _ ?_) ?_); (· omega)))
theorem w_is_integer (a : Int) : Ans f_is_integer [.int a] (.bl true) := fun D => rfl
theorem w_is_point (a b : Int) : Ans f_is_point [pt a b] (.bl true) := fun D => rfl
local macro_rules | `(tactic| infer_instance) => `(tactic| with_reducible refine runs_ans rfl (w_is_point _ _) ?_)
theorem w_point_c0 : Ans f_is_point [.non] (.bl false) := fun D => rfl
theorem w_point_c1 : Ans f_is_point [.int 3] (.bl false) := fun D => rfl
theorem w_point_c2 : Ans f_is_point [.tup []] (.bl false) := fun D => rfl
theorem w_point_c3 : Ans f_is_point [.tup [.int 1]] (.bl false) := fun D => rfl
theorem w_point_c4 : Ans f_is_point [.tup [.int 1, .int 2, .int 3]] (.bl false) := fun D => rfl
theorem w_point_c5 : Ans f_is_point [.lst [.int 1, .int 2]] (.bl false) := fun D => rfl
theorem w_point_c6 : Ans f_is_point [.tup [.int 1, .str (PySem.Str.ofString "2")]] (.bl false) := fun D => rfl
theorem w_point_c7 : Ans f_is_point [.tup [.bl true, .int 1]] (.bl false) := fun D => rfl
theorem w_point_c8 : Ans f_is_point [.tup [.int 0, .bl false]] (.bl false) := fun D => rfl
theorem w_point_c9 : Ans f_is_point [.tup [.tup [.int 0, .int 0], .tup [.int 1, .int 1]]] (.bl false) := fun D => rfl
theorem w_point_c10 : Ans f_is_point [.str (PySem.Str.ofString "11")] (.bl false) := fun D => rfl
theorem w_kind : ∀ v : PV, okV v = true → (∀ xs, v ≠ .tup xs) → Ans f__law_is_kind [v, v] (.bl true) := fun v h1 h2 => ans_of fun D => by
  refine runF_fn ?_
  unfold m__law_is_kind
  cases v with
  | non => sizeOf_list_dec; exact ⟨rfl, rfl⟩
  | bl b => cases b <;> (sizeOf_list_dec; exact ⟨rfl, rfl⟩)
  | int i =>
    sizeOf_list_dec
    exact ⟨by simp [pvEq], rfl⟩
  | str x =>
    have hp : (plainD (.str x) && plainD (.str x)) = true := by
      have h1' : PySem.PyData.strOk x = true := h1
      simp [plainD, toD, h1', PySem.PyData.depth]
    sizeOf_list_dec
    refine runs_eq ?_ hp
    sizeOf_list_dec
    exact ⟨by simp [pvEq], rfl⟩
  | tup xs => exact absurd rfl (h2 xs)
  | lst xs => cases h1
  | ty n => cases h1
  | deal => cases h1
  | scr xs => cases h1
theorem dup_snoc {st : List PV} {v : PV} : (st ++ [v]).map dup = st.map dup ++ [.tup [v, v]] := by simp
theorem rng_at {n i : Nat} (h : i < n) : rngP (i : Int) (n - i) = .int i :: rngP ((i + 1 : Nat) : Int) (n - (i + 1)) := by
  rw [show n - i = n - (i + 1) + 1 by omega, rngP]
  rfl
theorem w_same {v : PV} (ho : okV v = true) (hs : sz v ≤ 1000000) : Ans f__law_same [v, v] (.bl true) := ans_of fun D => by
  refine runF_fn ?_
  unfold m__law_same
  sizeOf_list_dec
  refine runS_while (fun n σ D' => D' = D ∧ ∃ st s3 s4 s5, σ = [.val v, .val v, .own (st.map dup), s3, s4, s5] ∧ (∀ x ∈ st, okV x = true) ∧ szs st = n ∧ n ≤ 1000000) (n := sz v) ⟨rfl, [v], _, _, _, rfl, by simp [ho], by simp [szs], hs⟩ (by unfold fuel; omega) ?_
  rintro n σ D' ⟨rfl, st, s3, s4, s5, rfl, hk, hn, hl⟩
  sizeOf_list_dec
  refine ⟨fun h => ?_, fun h => ?_⟩
  · rw [decide_eq_true_iff, List.length_map] at h
    rcases List.eq_nil_or_concat st with rfl | ⟨st', x, rfl⟩
    · simp at h
    rw [List.concat_eq_append] at *
    have hx := hk x (by simp)
    have hk' : ∀ y ∈ st', okV y = true := fun y hy => hk y (by simp [hy])
    rw [szs_app] at hn
    rw [dup_snoc]
    refine runS_seq (runS_pop rfl rfl ?_)
    have hlen := szs_len st'
    cases x with
    | tup xs =>
      have hq : szs [PV.tup xs] = 1 + szs xs := by simp [szs, sz]
      have hl2 := szs_len xs
      sizeOf_list_dec
      refine runS_ite_f (by simp [pvEq]) ?_
      sizeOf_list_dec
      refine runs_lift (if_pos (by omega)) ?_
      refine runS_for (fun r σ D2 => D2 = D' ∧ ∃ (i : Nat) (s5 : Slot), i ≤ xs.length ∧ r = rngP (i : Int) (xs.length - i) ∧ σ = [.val v, .val v, .own ((st' ++ xs.take i).map dup), .val (.tup xs), .val (.tup xs), s5]) ⟨rfl, 0, _, Nat.zero_le _, by simp, by rw [show st' ++ xs.take 0 = st' from by simp]; rfl⟩ ?_ ?_
      · rintro p r σ D2 ⟨rfl, i, s5, hi, hr, rfl⟩
        rcases Nat.eq_or_lt_of_le hi with rfl | hi
        · rw [Nat.sub_self] at hr; cases hr
        rw [rng_at hi] at hr
        injection hr with e1 e2
        subst e1; subst e2
        refine ⟨_, rfl, ?_⟩
        refine runS_appK rfl ?_
        have ha : atI xs (i : Int) = some xs[i] := by rw [atI_nat hi, List.getElem?_eq_getElem hi]
        sizeOf_list_dec
        refine runs_lift ha ?_
        sizeOf_list_dec
        refine runs_lift ha ?_
        sizeOf_list_dec
        refine appK_of (by simp; omega) ⟨rfl, i + 1, .val (.int i), hi, rfl, ?_⟩
        rw [← List.take_append_getElem hi, ← List.append_assoc, dup_snoc]
        rfl
      · rintro σ D2 ⟨rfl, i, s5, hi, hr, rfl⟩
        have hi2 : i = xs.length := by
          rcases Nat.eq_or_lt_of_le hi with h | h
          · exact h
          · rw [rng_at h] at hr; cases hr
        subst hi2
        rw [List.take_length]
        refine ⟨n - 1, by omega, rfl, st' ++ xs, _, _, _, rfl, ?_, ?_, by omega⟩
        · intro y hy
          rcases List.mem_append.mp hy with hy | hy
          · exact hk' y hy
          · exact okVs_all hx y hy
        · rw [szs_app]; omega
    | lst xs => cases hx
    | ty t => cases hx
    | deal => cases hx
    | scr xs => cases hx
    | non => 
      have hw := w_kind _ hx (fun _ z => nomatch z)
      sizeOf_list_dec
      refine runs_ans rfl hw ?_
      sizeOf_list_dec
      exact ⟨n - 1, by simp [szs, sz] at hn; omega, rfl, st', _, _, _, rfl, hk', by simp [szs, sz] at hn; omega, by omega⟩
    | bl b => 
      have hw := w_kind _ hx (fun _ z => nomatch z)
      sizeOf_list_dec
      refine runs_ans rfl hw ?_
      sizeOf_list_dec
      exact ⟨n - 1, by simp [szs, sz] at hn; omega, rfl, st', _, _, _, rfl, hk', by simp [szs, sz] at hn; omega, by omega⟩
    | int j => 
      have hw := w_kind _ hx (fun _ z => nomatch z)
      sizeOf_list_dec
      refine runs_ans rfl hw ?_
      sizeOf_list_dec
      exact ⟨n - 1, by simp [szs, sz] at hn; omega, rfl, st', _, _, _, rfl, hk', by simp [szs, sz] at hn; omega, by omega⟩
    | str j => 
      have hw := w_kind _ hx (fun _ z => nomatch z)
      sizeOf_list_dec
      refine runs_ans rfl hw ?_
      sizeOf_list_dec
      exact ⟨n - 1, by simp [szs, sz] at hn; omega, rfl, st', _, _, _, rfl, hk', by simp [szs, sz] at hn; omega, by omega⟩
  · rw [decide_eq_false_iff_not, List.length_map] at h
    sizeOf_list_dec
    exact ⟨rfl, rfl⟩
theorem w_all {ps : List PV} (h : Goods ps) : Ans f__law_all [.lst ps] (.bl true) := ans_of fun D => by
  refine runF_fn ?_
  unfold m__law_all
  sizeOf_list_dec
  refine runs_lc (fun r acc D' => D' = D ∧ acc = [] ∧ Goods r) ⟨rfl, rfl, h⟩ ?_ ?_
  · rintro p r acc D' ⟨rfl, rfl, g⟩
    obtain ⟨v, rfl, h1, h2⟩ := g p List.mem_cons_self
    refine ⟨_, rfl, ?_⟩
    sizeOf_list_dec
    refine runs_ans rfl (w_same h1 h2) ?_
    sizeOf_list_dec
    exact ⟨fun z => (by cases z), fun _ => ⟨rfl, rfl, fun q hq => g q (List.mem_cons_of_mem _ hq)⟩⟩
  · rintro acc D' ⟨rfl, rfl, _⟩
    sizeOf_list_dec
    exact ⟨rfl, rfl⟩
end GG
--N 17
set_option Elab.async false
set_option linter.all false
set_option maxRecDepth 100000
set_option maxHeartbeats 4000000
namespace GG
open Pu L2 PySem
local macro_rules | `(tactic| infer_instance) => `(tactic| ((with_reducible refine runs_any ?_ fun _ _ _ _ => ?_); (· (constructor <;> omega))))
local macro_rules | `(tactic| sizeOf_list_dec) => `(tactic| repeat first
  | with_reducible refine runs_bind ?_
  | with_reducible refine runs_pure ?_
  | ((with_reducible refine' runs_var _ _); rotate_left; (· exact rfl))
  | ((with_reducible refine runs_mul ?_ ?_); rotate_left; (· first | with_reducible rfl | exact mulC_l (by omega) (by omega) | exact mulC_r (by omega) (by omega)))
  | ((with_reducible refine runs_mod ?_ ?_); rotate_left; (· omega))
  | ((with_reducible refine' runs_pick1 _ _); rotate_left 1; (· exact rfl))
  | ((with_reducible refine' runs_pick2 _ _); rotate_left 2; (· exact rfl))
  | ((with_reducible refine' runs_pick3 _ _); rotate_left 3; (· exact rfl))
  | ((with_reducible refine' runs_pick4 _ _); rotate_left 4; (· exact rfl))
  | ((with_reducible refine' runs_pick5 _ _); rotate_left 5; (· exact rfl))
  | ((with_reducible refine' runs_pick6 _ _); rotate_left 6; (· exact rfl))
  | ((with_reducible refine' runs_lift _ _); rotate_left; (· exact rfl))
  | ((with_reducible refine runs_ite_t ?_ ?_); (· exact rfl))
  | ((with_reducible refine runs_ite_f ?_ ?_); (· exact rfl))
  | ((with_reducible refine' runs_ite_val _ _ _); rotate_left; (· (intro _; sizeOf_list_dec; exact ⟨rfl, rfl⟩)); (· (intro _; sizeOf_list_dec; exact ⟨rfl, rfl⟩)))
  | with_reducible refine runS_seq ?_
  | with_reducible refine runS_X ?_
  | ((with_reducible refine' runS_set _ _); rotate_left; (· exact rfl))
  | (with_reducible refine runS_par rfl ?_)
  | with_reducible refine runS_retK ?_
  | with_reducible refine runS_nil ?_
  | with_reducible refine runS_own ?_
  | with_reducible refine runS_sFor ?_
  | with_reducible refine runS_if ?_
  | ((with_reducible refine runS_ite_t ?_ ?_); (· exact rfl))
  | ((with_reducible refine runS_ite_f ?_ ?_); (· exact rfl))
  | infer_instance)
local macro_rules | `(tactic| infer_instance) => `(tactic| with_reducible refine runs_ans rfl (w_class_of _ _) ?_)
local macro_rules | `(tactic| infer_instance) => `(tactic| with_reducible refine runs_ans rfl (w_added_points _ _ _ _) ?_)
local macro_rules | `(tactic| infer_instance) => `(tactic| with_reducible refine runs_ans rfl (w_less _ _ _ _) ?_)
local macro_rules | `(tactic| infer_instance) => `(tactic| ((with_reducible refine runs_ans rfl (w_dot _ _ _ _ ?_ ?_) ?_); (· omega); (· omega)))
local macro_rules | `(tactic| infer_instance) => `(tactic| with_reducible refine runs_ans rfl (w_right_class _ _) ?_)
local macro_rules | `(tactic| infer_instance) => `(tactic| ((with_reducible refine runs_ans rfl (w_doubled _ _ _ _ _ _ ?_ ?_ ?_ ?_) ?_); (· omega); (· omega); (· omega); (· omega)))
local macro_rules | `(tactic| infer_instance) => `(tactic| ((with_reducible refine runs_ans rfl (w__law_turn _ _ _ _ _ _ ?_ ?_ ?_ ?_) ?_); (· omega); (· omega); (· omega); (· omega)))
local macro_rules | `(tactic| infer_instance) => `(tactic| ((with_reducible refine runs_ans rfl (w__law_divides _ _ _ ?_) ?_); (· omega)))
local macro_rules | `(tactic| infer_instance) => `(tactic| ((with_reducible refine runs_ans rfl (w_divisor_of _ _ ?_) ?_); (· omega)))
local macro_rules | `(tactic| infer_instance) => `(tactic| with_reducible refine runs_ans rfl (w_is_point _ _) ?_)
def LI (k : Nat) (σ : Sv) (D : Dl) : Prop := ∃ d ps s3 s4 s5 s6 s7 s8 s9 s10 s11 s12 s13 s14 s15 s16, D = some d ∧ σ = [.un, .val .deal, .own ps, s3, s4, s5, s6, s7, s8, s9, s10, s11, s12, s13, s14, s15, s16] ∧ Goods ps ∧ ps.length ≤ k
theorem far_of {t : Int} (h0 : 0 ≤ t) : ∃ f : Int, atI [PV.int 3, .int 13, .int 2, .int 8] (t % 4) = some (.int f) ∧ 2 ≤ f ∧ f ≤ 13 := by
  have h1 := Int.emod_nonneg t (b := 4) (by decide)
  have h2 := Int.emod_lt_of_pos t (b := 4) (by decide)
  have : t % 4 = 0 ∨ t % 4 = 1 ∨ t % 4 = 2 ∨ t % 4 = 3 := by omega
  rcases this with e | e | e | e <;> rw [e] <;> exact ⟨_, rfl, by decide, by decide⟩
theorem two_of (a : Int) : a % 2 = 0 ∨ a % 2 = 1 := by omega
theorem e_dot (a b c d : Int) : ((a % 2) * (c % 2) + (b % 2) * (d % 2)) % 2 = (a * c + b * d) % 2 := by simp [Int.add_emod, Int.mul_emod]
theorem e_rc (a b : Int) : ((b % 2) * a + (a % 2) * b) % 2 = 0 := by
  rw [Int.add_emod, Int.mul_emod, Int.mul_emod (a % 2)]
  rcases two_of a with h | h <;> rcases two_of b with g | g <;> simp [h, g]
theorem e_gcd (m a b : Int) (h : 0 ≤ m) : ((Int.gcd (m * a) (0 - m * b) : Nat) : Int) = m * (Int.gcd a b : Nat) := by
  rw [Int.zero_sub, Int.gcd_neg, Int.gcd_mul_left]
  push_cast
  rw [Int.natAbs_of_nonneg h]
/-- the numbers of 1 .. 12 that divide both -/
def divs (a b : Int) (n : Nat) : List Int := (List.range n).filterMap fun (i : Nat) => if a % ((i : Int) + 1) = 0 ∧ b % ((i : Int) + 1) = 0 then some ((i : Int) + 1) else none
theorem maxI_of : ∀ {xs : List Int} {m : Int}, m ∈ xs → (∀ x ∈ xs, x ≤ m) → maxI xs = m
  | [], _, h, _ => nomatch h
  | [x], m, h, g => by simp at h; simp [maxI, h]
  | x :: y :: r, m, h, g => by
    rw [maxI]
    rotate_left
    · simp
    by_cases hm : m ∈ y :: r
    · rw [maxI_of hm fun z hz => g z (List.mem_cons_of_mem _ hz)]
      have := g x List.mem_cons_self
      split <;> omega
    · have hx : m = x := by
        rcases List.mem_cons.mp h with h | h
        · exact h
        · exact absurd h hm
      subst hx
      split
      · rename_i hh
        exfalso
        have hmem : ∀ l : List Int, l ≠ [] → maxI l ∈ l := by
          intro l hl
          induction l with
          | nil => exact absurd rfl hl
          | cons a t ih =>
            cases t with
            | nil => simp [maxI]
            | cons b u =>
              rw [maxI]
              · split
                · exact List.mem_cons_of_mem _ (ih (by simp))
                · exact List.mem_cons_self
              · simp
        have := g _ (List.mem_cons_of_mem _ (hmem (y :: r) (by simp)))
        omega
      · rfl
theorem divs_max (a b : Int) (h1 : 0 < b) (h2 : b ≤ 12) : maxI (divs a b 12) = (Int.gcd a b : Nat) := by
  have hg : 0 < Int.gcd a b := Int.gcd_pos_of_ne_zero_right _ (by omega)
  have hd : (Int.gcd a b : Int) ∣ b := Int.gcd_dvd_right ..
  have hd2 : (Int.gcd a b : Int) ∣ a := Int.gcd_dvd_left ..
  have hle := Int.le_of_dvd h1 hd
  apply maxI_of
  · unfold divs
    rw [List.mem_filterMap]
    refine ⟨Int.gcd a b - 1, by simp; omega, ?_⟩
    have e : ((Int.gcd a b - 1 : Nat) : Int) + 1 = Int.gcd a b := by omega
    rw [e, if_pos ⟨Int.emod_eq_zero_of_dvd hd2, Int.emod_eq_zero_of_dvd hd⟩]
  · intro x hx
    unfold divs at hx
    rw [List.mem_filterMap] at hx
    obtain ⟨i, hi, e⟩ := hx
    split at e
    · rename_i hc
      cases e
      have := Int.dvd_coe_gcd (Int.dvd_of_emod_eq_zero hc.1) (Int.dvd_of_emod_eq_zero hc.2)
      exact Int.le_of_dvd (by omega) this
    · cases e
theorem divs_snoc (a b : Int) (i : Nat) : divs a b (i + 1) = divs a b i ++ (if a % ((i : Int) + 1) = 0 ∧ b % ((i : Int) + 1) = 0 then [(i : Int) + 1] else []) := by
  unfold divs
  rw [List.range_succ, List.filterMap_append]
  congr 1
  split <;> simp_all
theorem most_of {ε : Ev} {D : Dl} {Q : List PV → Dl → Prop} {X : Xc → Dl → Prop} {a b : Int} (h1 : ∀ x, (setE (wipeE ε [16]) [(16, x)])[16]? = some (some x)) (h2 : ∀ x, (setE (wipeE ε [16]) [(16, x)])[11]? = some (some (pt a b))) (h : Q ((divs a b 12).map PV.int) D) :
    runs (lcGo [16] (gpN 16) (eB (eCall 2 f__law_divides (eCons (eVar 16) (eCons (eVar 11) eNil)))) (eVar 16) (rngP 1 (Int.toNat (13 - 1))) []) ε D Q X := by
  refine runs_lc (fun r acc D' => D' = D ∧ ∃ k : Nat, k ≤ 12 ∧ r = rngP ((k : Int) + 1) (12 - k) ∧ acc = (divs a b k).map PV.int ∧ acc.length ≤ k) ⟨rfl, 0, by decide, rfl, rfl, by decide⟩ ?_ ?_
  · rintro p r acc D' ⟨rfl, k, hk, hr, rfl, hl⟩
    rcases Nat.eq_or_lt_of_le hk with rfl | hk
    · rw [Nat.sub_self] at hr; cases hr
    rw [show 12 - k = 12 - (k + 1) + 1 by omega, rngP] at hr
    injection hr with e1 e2
    subst e1; subst e2
    refine ⟨_, rfl, ?_⟩
    sizeOf_list_dec
    refine runs_var (h1 _) ?_
    sizeOf_list_dec
    refine runs_var (h2 _) ?_
    sizeOf_list_dec
    refine ⟨fun h => ?_, fun h => ?_⟩
    · refine runs_var (h1 _) ?_
      rw [decide_eq_true_iff] at h
      refine ⟨by omega, rfl, k + 1, hk, rfl, ?_, by simp at hl ⊢; omega⟩
      rw [divs_snoc, if_pos h, List.map_append]
      rfl
    · rw [decide_eq_false_iff_not] at h
      refine ⟨rfl, k + 1, hk, rfl, ?_, by omega⟩
      rw [divs_snoc, if_neg h, List.append_nil]
  · rintro acc D' ⟨rfl, k, hk, hr, rfl, hl⟩
    have : k = 12 := by
      rcases Nat.eq_or_lt_of_le hk with rfl | hk
      · rfl
      · rw [show 12 - k = 12 - (k + 1) + 1 by omega, rngP] at hr; cases hr
    subst this
    exact h
theorem maxL_of {a b : Int} (h1 : 0 < b) (h2 : b ≤ 12) : pvMaxL [.lst ((divs a b 12).map PV.int)] = some (.int (Int.gcd a b : Nat)) := by
  have h := divs_max a b h1 h2
  unfold pvMaxL
  have e : ∀ ns : List Int, asInts (ns.map PV.int) = some ns := by
    intro ns
    induction ns with
    | nil => rfl
    | cons n ns ih => simp [asInts, ih]
  simp only [e]
  cases hd : divs a b 12 with
  | nil =>
    rw [hd] at h
    have hg : 0 < Int.gcd a b := Int.gcd_pos_of_ne_zero_right _ (by omega)
    simp [maxI] at h
    omega
  | cons n ns => rw [hd] at h; simp only [h]
theorem bd_of {m b : Int} (h1 : 0 ≤ m) (h2 : m ≤ 1000) (h3 : 0 ≤ b) (h4 : b ≤ 1000) : -1000000000 < 0 - m * b ∧ 0 - m * b < 1000000000 := by
  have := Int.mul_nonneg h1 h3
  have := Int.mul_le_mul h2 h4 h3 (by decide)
  omega
theorem law_plain : ∀ d : Deal, ∃ ε' D', m_law (lawS 14) (some d) = some (.ok (.rt (.bl true)), ε', D') := fun d => law_of (by
  unfold m_law
  sizeOf_list_dec
  refine runS_for (fun r σ D => ∃ t : Nat, t ≤ 12 ∧ r = rngP (t : Int) (12 - t) ∧ LI (30 * t) σ D) ⟨0, by decide, rfl, d, [], .un, .un, .un, .un, .un, .un, .un, .un, .un, .un, .un, .un, .un, .un, rfl, rfl, goods_nil, Nat.le_refl _⟩ ?_ ?_
  · rintro p r σ D ⟨t, ht, hr, d, ps, s3, s4, s5, s6, s7, s8, s9, s10, s11, s12, s13, s14, s15, s16, rfl, rfl, hg, hl⟩
    rcases Nat.eq_or_lt_of_le ht with rfl | ht
    · rw [Nat.sub_self] at hr; cases hr
    rw [rng_at ht] at hr
    injection hr with e1 e2
    subst e1; subst e2
    refine ⟨_, rfl, ?_⟩
    sizeOf_list_dec
    obtain ⟨f, hf, f1, f2⟩ := far_of (t := t) (by omega)
    refine runs_lift hf ?_
    sizeOf_list_dec
    (refine runs_lcC rfl rfl ?_; sizeOf_list_dec; refine ⟨fun _ => ?_, fun z => (by cases z)⟩; sizeOf_list_dec; refine ⟨of_decide_eq_true rfl, ?_⟩)
    (refine runs_lcC rfl rfl ?_; sizeOf_list_dec; refine ⟨fun _ => ?_, fun z => (by cases z)⟩; sizeOf_list_dec; refine ⟨of_decide_eq_true rfl, ?_⟩)
    (refine runs_lcC rfl rfl ?_; sizeOf_list_dec; refine ⟨fun _ => ?_, fun z => (by cases z)⟩; sizeOf_list_dec; refine ⟨of_decide_eq_true rfl, ?_⟩)
    sizeOf_list_dec
    refine runs_lcN rfl ?_
    (sizeOf_list_dec; (refine' runS_nf (σ' := [_, _, _, _, _, _, _, _, _, _, _, _, _, _, _, _, _]) rfl _); refine runS_addG (by exact rfl) hg hl ?_; sizeOf_list_dec; refine addG_of (n := 3) (by ((repeat refine goods_cons (good_of (by first | with_reducible rfl | exact pt_eq (by first | with_reducible rfl | omega | exact (e_gcd _ _ _ (by omega)) | decide | grind | exact e_dot _ _ _ _ | exact e_rc _ _) (by first | with_reducible rfl | omega | exact (e_gcd _ _ _ (by omega)) | decide | grind | exact e_dot _ _ _ _ | exact e_rc _ _) | exact int_eq (by first | with_reducible rfl | omega | exact (e_gcd _ _ _ (by omega)) | decide | grind | exact e_dot _ _ _ _ | exact e_rc _ _)) rfl (of_decide_eq_true rfl)) ?_); exact goods_nil)) rfl (by omega) fun ps hg hl => ?_)
    (sizeOf_list_dec; (refine' runS_nf (σ' := [_, _, _, _, _, _, _, _, _, _, _, _, _, _, _, _, _]) rfl _); refine runS_addG (by exact rfl) hg hl ?_; sizeOf_list_dec; refine addG_of (n := 1) (by ((repeat refine goods_cons (good_of (by first | with_reducible rfl | exact pt_eq (by first | with_reducible rfl | omega | exact (e_gcd _ _ _ (by omega)) | decide | grind | exact e_dot _ _ _ _ | exact e_rc _ _) (by first | with_reducible rfl | omega | exact (e_gcd _ _ _ (by omega)) | decide | grind | exact e_dot _ _ _ _ | exact e_rc _ _) | exact int_eq (by first | with_reducible rfl | omega | exact (e_gcd _ _ _ (by omega)) | decide | grind | exact e_dot _ _ _ _ | exact e_rc _ _)) rfl (of_decide_eq_true rfl)) ?_); exact goods_nil)) rfl (by omega) fun ps hg hl => ?_)
    (sizeOf_list_dec; (refine' runS_nf (σ' := [_, _, _, _, _, _, _, _, _, _, _, _, _, _, _, _, _]) rfl _); refine runS_addG (by exact rfl) hg hl ?_; sizeOf_list_dec; refine addG_of (n := 1) (by ((repeat refine goods_cons (good_of (by first | with_reducible rfl | exact pt_eq (by first | with_reducible rfl | omega | exact (e_gcd _ _ _ (by omega)) | decide | grind | exact e_dot _ _ _ _ | exact e_rc _ _) (by first | with_reducible rfl | omega | exact (e_gcd _ _ _ (by omega)) | decide | grind | exact e_dot _ _ _ _ | exact e_rc _ _) | exact int_eq (by first | with_reducible rfl | omega | exact (e_gcd _ _ _ (by omega)) | decide | grind | exact e_dot _ _ _ _ | exact e_rc _ _)) rfl (of_decide_eq_true rfl)) ?_); exact goods_nil)) rfl (by omega) fun ps hg hl => ?_)
    (sizeOf_list_dec; (refine' runS_nf (σ' := [_, _, _, _, _, _, _, _, _, _, _, _, _, _, _, _, _]) rfl _); refine runS_addG (by exact rfl) hg hl ?_; sizeOf_list_dec; refine addG_of (n := 2) (by ((repeat refine goods_cons (good_of (by first | with_reducible rfl | exact pt_eq (by first | with_reducible rfl | omega | exact (e_gcd _ _ _ (by omega)) | decide | grind | exact e_dot _ _ _ _ | exact e_rc _ _) (by first | with_reducible rfl | omega | exact (e_gcd _ _ _ (by omega)) | decide | grind | exact e_dot _ _ _ _ | exact e_rc _ _) | exact int_eq (by first | with_reducible rfl | omega | exact (e_gcd _ _ _ (by omega)) | decide | grind | exact e_dot _ _ _ _ | exact e_rc _ _)) rfl (of_decide_eq_true rfl)) ?_); exact goods_nil)) rfl (by omega) fun ps hg hl => ?_)
    (sizeOf_list_dec; (refine' runS_nf (σ' := [_, _, _, _, _, _, _, _, _, _, _, _, _, _, _, _, _]) rfl _); refine runS_addG (by exact rfl) hg hl ?_; sizeOf_list_dec; refine addG_of (n := 1) (by ((repeat refine goods_cons (good_of (by first | with_reducible rfl | exact pt_eq (by first | with_reducible rfl | omega | exact (e_gcd _ _ _ (by omega)) | decide | grind | exact e_dot _ _ _ _ | exact e_rc _ _) (by first | with_reducible rfl | omega | exact (e_gcd _ _ _ (by omega)) | decide | grind | exact e_dot _ _ _ _ | exact e_rc _ _) | exact int_eq (by first | with_reducible rfl | omega | exact (e_gcd _ _ _ (by omega)) | decide | grind | exact e_dot _ _ _ _ | exact e_rc _ _)) rfl (of_decide_eq_true rfl)) ?_); exact goods_nil)) rfl (by omega) fun ps hg hl => ?_)
    sizeOf_list_dec
    (refine' runS_nf (σ' := [_, _, _, _, _, _, _, _, _, _, _, _, _, _, _, _, _]) rfl _)
    refine runS_iteG (i := 2) (k := 30 * t + 10) (fun _ => ?_) (fun _ => ?_) fun ps hg hl => ?_
    · (sizeOf_list_dec; (refine' runS_nf (σ' := [_, _, _, _, _, _, _, _, _, _, _, _, _, _, _, _, _]) rfl _); refine runS_addG (by exact rfl) hg hl ?_; sizeOf_list_dec; refine addG_of (n := 2) (by ((repeat refine goods_cons (good_of (by first | with_reducible rfl | exact pt_eq (by first | with_reducible rfl | omega | exact (e_gcd _ _ _ (by omega)) | decide | grind | exact e_dot _ _ _ _ | exact e_rc _ _) (by first | with_reducible rfl | omega | exact (e_gcd _ _ _ (by omega)) | decide | grind | exact e_dot _ _ _ _ | exact e_rc _ _) | exact int_eq (by first | with_reducible rfl | omega | exact (e_gcd _ _ _ (by omega)) | decide | grind | exact e_dot _ _ _ _ | exact e_rc _ _)) rfl (of_decide_eq_true rfl)) ?_); exact goods_nil)) rfl (by omega) fun ps hg hl => ?_)
      exact ⟨rfl, _, hg, by omega, rfl⟩
    · sizeOf_list_dec
      exact ⟨rfl, _, hg, by omega, rfl⟩
    sizeOf_list_dec
    (refine' runS_nf (σ' := [_, _, _, _, _, _, _, _, _, _, _, _, _, _, _, _, _]) rfl _)
    sizeOf_list_dec
    (sizeOf_list_dec; (refine' runS_nf (σ' := [_, _, _, _, _, _, _, _, _, _, _, _, _, _, _, _, _]) rfl _); refine runS_addG (by exact rfl) hg hl ?_; sizeOf_list_dec; refine addG_of (n := 2) (by ((repeat refine goods_cons (good_of (by first | with_reducible rfl | exact pt_eq (by first | with_reducible rfl | omega | exact (e_gcd _ _ _ (by omega)) | decide | grind | exact e_dot _ _ _ _ | exact e_rc _ _) (by first | with_reducible rfl | omega | exact (e_gcd _ _ _ (by omega)) | decide | grind | exact e_dot _ _ _ _ | exact e_rc _ _) | exact int_eq (by first | with_reducible rfl | omega | exact (e_gcd _ _ _ (by omega)) | decide | grind | exact e_dot _ _ _ _ | exact e_rc _ _)) rfl (of_decide_eq_true rfl)) ?_); exact goods_nil)) rfl (by omega) fun ps hg hl => ?_)
    (sizeOf_list_dec; (refine' runS_nf (σ' := [_, _, _, _, _, _, _, _, _, _, _, _, _, _, _, _, _]) rfl _); refine runS_addG (by exact rfl) hg hl ?_; sizeOf_list_dec; refine addG_of (n := 1) (by ((repeat refine goods_cons (good_of (by first | with_reducible rfl | exact pt_eq (by first | with_reducible rfl | omega | exact (e_gcd _ _ _ (by omega)) | decide | grind | exact e_dot _ _ _ _ | exact e_rc _ _) (by first | with_reducible rfl | omega | exact (e_gcd _ _ _ (by omega)) | decide | grind | exact e_dot _ _ _ _ | exact e_rc _ _) | exact int_eq (by first | with_reducible rfl | omega | exact (e_gcd _ _ _ (by omega)) | decide | grind | exact e_dot _ _ _ _ | exact e_rc _ _)) rfl (of_decide_eq_true rfl)) ?_); exact goods_nil)) rfl (by omega) fun ps hg hl => ?_)
    sizeOf_list_dec
    (sizeOf_list_dec; (refine' runS_nf (σ' := [_, _, _, _, _, _, _, _, _, _, _, _, _, _, _, _, _]) rfl _); refine runS_appG (by exact rfl) hg hl ?_; sizeOf_list_dec; refine appG_of (by (exact good_of (by first | with_reducible rfl | exact pt_eq (by first | with_reducible rfl | omega | exact (e_gcd _ _ _ (by omega)) | decide | grind | exact e_dot _ _ _ _ | exact e_rc _ _) (by first | with_reducible rfl | omega | exact (e_gcd _ _ _ (by omega)) | decide | grind | exact e_dot _ _ _ _ | exact e_rc _ _) | exact int_eq (by first | with_reducible rfl | omega | exact (e_gcd _ _ _ (by omega)) | decide | grind | exact e_dot _ _ _ _ | exact e_rc _ _)) rfl (of_decide_eq_true rfl))) (by omega) fun ps hg hl => ?_)
    sizeOf_list_dec
    refine most_of (fun _ => rfl) (fun _ => rfl) ?_
    sizeOf_list_dec
    refine runs_lift (maxL_of (by omega) (by omega)) ?_
    sizeOf_list_dec
    (refine' runS_nf (σ' := [_, _, _, _, _, _, _, _, _, _, _, _, _, _, _, _, _]) rfl _)
    refine runS_addG (by exact rfl) hg hl ?_
    sizeOf_list_dec
    refine runs_ans rfl (w_divisor_of _ _ (bd_of (by omega) (by omega) (by omega) (by omega))) ?_
    sizeOf_list_dec
    refine addG_of (n := 2) (by ((repeat refine goods_cons (good_of (by first | with_reducible rfl | exact pt_eq (by first | with_reducible rfl | omega | exact (e_gcd _ _ _ (by omega)) | decide | grind | exact e_dot _ _ _ _ | exact e_rc _ _) (by first | with_reducible rfl | omega | exact (e_gcd _ _ _ (by omega)) | decide | grind | exact e_dot _ _ _ _ | exact e_rc _ _) | exact int_eq (by first | with_reducible rfl | omega | exact (e_gcd _ _ _ (by omega)) | decide | grind | exact e_dot _ _ _ _ | exact e_rc _ _)) rfl (of_decide_eq_true rfl)) ?_); exact goods_nil)) rfl (by omega) fun ps hg hl => ?_
    sizeOf_list_dec
    refine ⟨t + 1, by omega, rfl, _, ps, _, _, _, _, _, _, _, _, _, _, _, _, _, _, rfl, rfl, hg, by omega⟩
  · rintro σ D ⟨t, ht, hr, d, ps, s3, s4, s5, s6, s7, s8, s9, s10, s11, s12, s13, s14, s15, s16, rfl, rfl, hg, hl⟩
    sizeOf_list_dec
    have hl : ps.length ≤ 360 := by omega
    (refine runS_forC rfl rfl ?_; sizeOf_list_dec; (refine' runS_nf (σ' := [_, _, _, _, _, _, _, _, _, _, _, _, _, _, _, _, _]) rfl _); refine runS_appG (by exact rfl) hg hl ?_; sizeOf_list_dec; (with_reducible refine runs_ans rfl w_point_c0 ?_); sizeOf_list_dec; refine appG_of (by (exact good_of (by first | with_reducible rfl | exact pt_eq (by first | with_reducible rfl | omega | exact (e_gcd _ _ _ (by omega)) | decide | grind | exact e_dot _ _ _ _ | exact e_rc _ _) (by first | with_reducible rfl | omega | exact (e_gcd _ _ _ (by omega)) | decide | grind | exact e_dot _ _ _ _ | exact e_rc _ _) | exact int_eq (by first | with_reducible rfl | omega | exact (e_gcd _ _ _ (by omega)) | decide | grind | exact e_dot _ _ _ _ | exact e_rc _ _)) rfl (of_decide_eq_true rfl))) (by omega) fun ps hg hl => ?_)
    (refine runS_forC rfl rfl ?_; sizeOf_list_dec; (refine' runS_nf (σ' := [_, _, _, _, _, _, _, _, _, _, _, _, _, _, _, _, _]) rfl _); refine runS_appG (by exact rfl) hg hl ?_; sizeOf_list_dec; (with_reducible refine runs_ans rfl w_point_c1 ?_); sizeOf_list_dec; refine appG_of (by (exact good_of (by first | with_reducible rfl | exact pt_eq (by first | with_reducible rfl | omega | exact (e_gcd _ _ _ (by omega)) | decide | grind | exact e_dot _ _ _ _ | exact e_rc _ _) (by first | with_reducible rfl | omega | exact (e_gcd _ _ _ (by omega)) | decide | grind | exact e_dot _ _ _ _ | exact e_rc _ _) | exact int_eq (by first | with_reducible rfl | omega | exact (e_gcd _ _ _ (by omega)) | decide | grind | exact e_dot _ _ _ _ | exact e_rc _ _)) rfl (of_decide_eq_true rfl))) (by omega) fun ps hg hl => ?_)
    (refine runS_forC rfl rfl ?_; sizeOf_list_dec; (refine' runS_nf (σ' := [_, _, _, _, _, _, _, _, _, _, _, _, _, _, _, _, _]) rfl _); refine runS_appG (by exact rfl) hg hl ?_; sizeOf_list_dec; (with_reducible refine runs_ans rfl w_point_c2 ?_); sizeOf_list_dec; refine appG_of (by (exact good_of (by first | with_reducible rfl | exact pt_eq (by first | with_reducible rfl | omega | exact (e_gcd _ _ _ (by omega)) | decide | grind | exact e_dot _ _ _ _ | exact e_rc _ _) (by first | with_reducible rfl | omega | exact (e_gcd _ _ _ (by omega)) | decide | grind | exact e_dot _ _ _ _ | exact e_rc _ _) | exact int_eq (by first | with_reducible rfl | omega | exact (e_gcd _ _ _ (by omega)) | decide | grind | exact e_dot _ _ _ _ | exact e_rc _ _)) rfl (of_decide_eq_true rfl))) (by omega) fun ps hg hl => ?_)
    (refine runS_forC rfl rfl ?_; sizeOf_list_dec; (refine' runS_nf (σ' := [_, _, _, _, _, _, _, _, _, _, _, _, _, _, _, _, _]) rfl _); refine runS_appG (by exact rfl) hg hl ?_; sizeOf_list_dec; (with_reducible refine runs_ans rfl w_point_c3 ?_); sizeOf_list_dec; refine appG_of (by (exact good_of (by first | with_reducible rfl | exact pt_eq (by first | with_reducible rfl | omega | exact (e_gcd _ _ _ (by omega)) | decide | grind | exact e_dot _ _ _ _ | exact e_rc _ _) (by first | with_reducible rfl | omega | exact (e_gcd _ _ _ (by omega)) | decide | grind | exact e_dot _ _ _ _ | exact e_rc _ _) | exact int_eq (by first | with_reducible rfl | omega | exact (e_gcd _ _ _ (by omega)) | decide | grind | exact e_dot _ _ _ _ | exact e_rc _ _)) rfl (of_decide_eq_true rfl))) (by omega) fun ps hg hl => ?_)
    (refine runS_forC rfl rfl ?_; sizeOf_list_dec; (refine' runS_nf (σ' := [_, _, _, _, _, _, _, _, _, _, _, _, _, _, _, _, _]) rfl _); refine runS_appG (by exact rfl) hg hl ?_; sizeOf_list_dec; (with_reducible refine runs_ans rfl w_point_c4 ?_); sizeOf_list_dec; refine appG_of (by (exact good_of (by first | with_reducible rfl | exact pt_eq (by first | with_reducible rfl | omega | exact (e_gcd _ _ _ (by omega)) | decide | grind | exact e_dot _ _ _ _ | exact e_rc _ _) (by first | with_reducible rfl | omega | exact (e_gcd _ _ _ (by omega)) | decide | grind | exact e_dot _ _ _ _ | exact e_rc _ _) | exact int_eq (by first | with_reducible rfl | omega | exact (e_gcd _ _ _ (by omega)) | decide | grind | exact e_dot _ _ _ _ | exact e_rc _ _)) rfl (of_decide_eq_true rfl))) (by omega) fun ps hg hl => ?_)
    (refine runS_forC rfl rfl ?_; sizeOf_list_dec; (refine' runS_nf (σ' := [_, _, _, _, _, _, _, _, _, _, _, _, _, _, _, _, _]) rfl _); refine runS_appG (by exact rfl) hg hl ?_; sizeOf_list_dec; (with_reducible refine runs_ans rfl w_point_c5 ?_); sizeOf_list_dec; refine appG_of (by (exact good_of (by first | with_reducible rfl | exact pt_eq (by first | with_reducible rfl | omega | exact (e_gcd _ _ _ (by omega)) | decide | grind | exact e_dot _ _ _ _ | exact e_rc _ _) (by first | with_reducible rfl | omega | exact (e_gcd _ _ _ (by omega)) | decide | grind | exact e_dot _ _ _ _ | exact e_rc _ _) | exact int_eq (by first | with_reducible rfl | omega | exact (e_gcd _ _ _ (by omega)) | decide | grind | exact e_dot _ _ _ _ | exact e_rc _ _)) rfl (of_decide_eq_true rfl))) (by omega) fun ps hg hl => ?_)
    (refine runS_forC rfl rfl ?_; sizeOf_list_dec; (refine' runS_nf (σ' := [_, _, _, _, _, _, _, _, _, _, _, _, _, _, _, _, _]) rfl _); refine runS_appG (by exact rfl) hg hl ?_; sizeOf_list_dec; (with_reducible refine runs_ans rfl w_point_c6 ?_); sizeOf_list_dec; refine appG_of (by (exact good_of (by first | with_reducible rfl | exact pt_eq (by first | with_reducible rfl | omega | exact (e_gcd _ _ _ (by omega)) | decide | grind | exact e_dot _ _ _ _ | exact e_rc _ _) (by first | with_reducible rfl | omega | exact (e_gcd _ _ _ (by omega)) | decide | grind | exact e_dot _ _ _ _ | exact e_rc _ _) | exact int_eq (by first | with_reducible rfl | omega | exact (e_gcd _ _ _ (by omega)) | decide | grind | exact e_dot _ _ _ _ | exact e_rc _ _)) rfl (of_decide_eq_true rfl))) (by omega) fun ps hg hl => ?_)
    (refine runS_forC rfl rfl ?_; sizeOf_list_dec; (refine' runS_nf (σ' := [_, _, _, _, _, _, _, _, _, _, _, _, _, _, _, _, _]) rfl _); refine runS_appG (by exact rfl) hg hl ?_; sizeOf_list_dec; (with_reducible refine runs_ans rfl w_point_c7 ?_); sizeOf_list_dec; refine appG_of (by (exact good_of (by first | with_reducible rfl | exact pt_eq (by first | with_reducible rfl | omega | exact (e_gcd _ _ _ (by omega)) | decide | grind | exact e_dot _ _ _ _ | exact e_rc _ _) (by first | with_reducible rfl | omega | exact (e_gcd _ _ _ (by omega)) | decide | grind | exact e_dot _ _ _ _ | exact e_rc _ _) | exact int_eq (by first | with_reducible rfl | omega | exact (e_gcd _ _ _ (by omega)) | decide | grind | exact e_dot _ _ _ _ | exact e_rc _ _)) rfl (of_decide_eq_true rfl))) (by omega) fun ps hg hl => ?_)
    (refine runS_forC rfl rfl ?_; sizeOf_list_dec; (refine' runS_nf (σ' := [_, _, _, _, _, _, _, _, _, _, _, _, _, _, _, _, _]) rfl _); refine runS_appG (by exact rfl) hg hl ?_; sizeOf_list_dec; (with_reducible refine runs_ans rfl w_point_c8 ?_); sizeOf_list_dec; refine appG_of (by (exact good_of (by first | with_reducible rfl | exact pt_eq (by first | with_reducible rfl | omega | exact (e_gcd _ _ _ (by omega)) | decide | grind | exact e_dot _ _ _ _ | exact e_rc _ _) (by first | with_reducible rfl | omega | exact (e_gcd _ _ _ (by omega)) | decide | grind | exact e_dot _ _ _ _ | exact e_rc _ _) | exact int_eq (by first | with_reducible rfl | omega | exact (e_gcd _ _ _ (by omega)) | decide | grind | exact e_dot _ _ _ _ | exact e_rc _ _)) rfl (of_decide_eq_true rfl))) (by omega) fun ps hg hl => ?_)
    (refine runS_forC rfl rfl ?_; sizeOf_list_dec; (refine' runS_nf (σ' := [_, _, _, _, _, _, _, _, _, _, _, _, _, _, _, _, _]) rfl _); refine runS_appG (by exact rfl) hg hl ?_; sizeOf_list_dec; (with_reducible refine runs_ans rfl w_point_c9 ?_); sizeOf_list_dec; refine appG_of (by (exact good_of (by first | with_reducible rfl | exact pt_eq (by first | with_reducible rfl | omega | exact (e_gcd _ _ _ (by omega)) | decide | grind | exact e_dot _ _ _ _ | exact e_rc _ _) (by first | with_reducible rfl | omega | exact (e_gcd _ _ _ (by omega)) | decide | grind | exact e_dot _ _ _ _ | exact e_rc _ _) | exact int_eq (by first | with_reducible rfl | omega | exact (e_gcd _ _ _ (by omega)) | decide | grind | exact e_dot _ _ _ _ | exact e_rc _ _)) rfl (of_decide_eq_true rfl))) (by omega) fun ps hg hl => ?_)
    (refine runS_forC rfl rfl ?_; sizeOf_list_dec; (refine' runS_nf (σ' := [_, _, _, _, _, _, _, _, _, _, _, _, _, _, _, _, _]) rfl _); refine runS_appG (by exact rfl) hg hl ?_; sizeOf_list_dec; (with_reducible refine runs_ans rfl w_point_c10 ?_); sizeOf_list_dec; refine appG_of (by (exact good_of (by first | with_reducible rfl | exact pt_eq (by first | with_reducible rfl | omega | exact (e_gcd _ _ _ (by omega)) | decide | grind | exact e_dot _ _ _ _ | exact e_rc _ _) (by first | with_reducible rfl | omega | exact (e_gcd _ _ _ (by omega)) | decide | grind | exact e_dot _ _ _ _ | exact e_rc _ _) | exact int_eq (by first | with_reducible rfl | omega | exact (e_gcd _ _ _ (by omega)) | decide | grind | exact e_dot _ _ _ _ | exact e_rc _ _)) rfl (of_decide_eq_true rfl))) (by omega) fun ps hg hl => ?_)
    refine runS_forN rfl ?_
    (sizeOf_list_dec; (refine' runS_nf (σ' := [_, _, _, _, _, _, _, _, _, _, _, _, _, _, _, _, _]) rfl _); refine runS_addG (by exact rfl) hg hl ?_; sizeOf_list_dec; refine addG_of (n := 5) (by ((repeat refine goods_cons (good_of (by first | with_reducible rfl | exact pt_eq (by first | with_reducible rfl | omega | exact (e_gcd _ _ _ (by omega)) | decide | grind | exact e_dot _ _ _ _ | exact e_rc _ _) (by first | with_reducible rfl | omega | exact (e_gcd _ _ _ (by omega)) | decide | grind | exact e_dot _ _ _ _ | exact e_rc _ _) | exact int_eq (by first | with_reducible rfl | omega | exact (e_gcd _ _ _ (by omega)) | decide | grind | exact e_dot _ _ _ _ | exact e_rc _ _)) rfl (of_decide_eq_true rfl)) ?_); exact goods_nil)) rfl (by omega) fun ps hg hl => ?_)
    (sizeOf_list_dec; (refine' runS_nf (σ' := [_, _, _, _, _, _, _, _, _, _, _, _, _, _, _, _, _]) rfl _); refine runS_addG (by exact rfl) hg hl ?_; sizeOf_list_dec; refine addG_of (n := 4) (by ((repeat refine goods_cons (good_of (by first | with_reducible rfl | exact pt_eq (by first | with_reducible rfl | omega | exact (e_gcd _ _ _ (by omega)) | decide | grind | exact e_dot _ _ _ _ | exact e_rc _ _) (by first | with_reducible rfl | omega | exact (e_gcd _ _ _ (by omega)) | decide | grind | exact e_dot _ _ _ _ | exact e_rc _ _) | exact int_eq (by first | with_reducible rfl | omega | exact (e_gcd _ _ _ (by omega)) | decide | grind | exact e_dot _ _ _ _ | exact e_rc _ _)) rfl (of_decide_eq_true rfl)) ?_); exact goods_nil)) rfl (by omega) fun ps hg hl => ?_)
    (sizeOf_list_dec; (refine' runS_nf (σ' := [_, _, _, _, _, _, _, _, _, _, _, _, _, _, _, _, _]) rfl _); refine runS_addG (by exact rfl) hg hl ?_; sizeOf_list_dec; refine addG_of (n := 1) (by ((repeat refine goods_cons (good_of (by first | with_reducible rfl | exact pt_eq (by first | with_reducible rfl | omega | exact (e_gcd _ _ _ (by omega)) | decide | grind | exact e_dot _ _ _ _ | exact e_rc _ _) (by first | with_reducible rfl | omega | exact (e_gcd _ _ _ (by omega)) | decide | grind | exact e_dot _ _ _ _ | exact e_rc _ _) | exact int_eq (by first | with_reducible rfl | omega | exact (e_gcd _ _ _ (by omega)) | decide | grind | exact e_dot _ _ _ _ | exact e_rc _ _)) rfl (of_decide_eq_true rfl)) ?_); exact goods_nil)) rfl (by omega) fun ps hg hl => ?_)
    (sizeOf_list_dec; (refine' runS_nf (σ' := [_, _, _, _, _, _, _, _, _, _, _, _, _, _, _, _, _]) rfl _); refine runS_Xs ?_; sizeOf_list_dec; refine runs_lift (if_pos (by simp only [List.length_cons, List.length_nil]; omega)) ?_; sizeOf_list_dec; refine runs_ans rfl (w_all (hg.app (by ((repeat refine goods_cons (good_of (by first | with_reducible rfl | exact pt_eq (by first | with_reducible rfl | omega | exact (e_gcd _ _ _ (by omega)) | decide | grind | exact e_dot _ _ _ _ | exact e_rc _ _) (by first | with_reducible rfl | omega | exact (e_gcd _ _ _ (by omega)) | decide | grind | exact e_dot _ _ _ _ | exact e_rc _ _) | exact int_eq (by first | with_reducible rfl | omega | exact (e_gcd _ _ _ (by omega)) | decide | grind | exact e_dot _ _ _ _ | exact e_rc _ _)) rfl (of_decide_eq_true rfl)) ?_); exact goods_nil)))) ?_; sizeOf_list_dec; exact runS_retB rfl rfl))
end GG
open PySem PySem.W PyProof.Rows
set_option maxHeartbeats 0 in
theorem PySem.Challenge.cw_signedcorners_k00_points_and_classes_holds : PySem.Challenge.rw_signedcorners_k00_points_and_classes.Holds := by
  w_on; o_law; k_head; (case hw => w_witness2)
  k_fill
  refine L2.walk_of (l := PySem.Challenge.rw_signedcorners_k00_points_and_classes) (n := 63) (k := 4) (x := "script") (CX := fun w => L2.CX (PySem.Challenge.rw_signedcorners_k00_points_and_classes).prog w) (sp := fun w => Pu.spLaw _) rfl (by decide) rfl ⟨rfl, by decide, by decide⟩ (fun w h Y => PySem.W.kIn_of Y) ?F (fun _ _ a ns hl _ hS => ⟨a, ns, rfl, hS, hl, fun _ => rfl⟩) (fun _ _ _ _ _ h => Pu.cx_none h)
  case F =>
    intro w mg fa h KX G hmg
    refine' GG.all_mk GG.law_plain KX G hmg ?a0 ?l0 ?c0 ?k0 ?a1 ?l1 ?c1 ?k1 ?a2 ?l2 ?c2 ?k2 ?a3 ?l3 ?c3 ?k3 ?a4 ?l4 ?c4 ?k4 ?a5 ?l5 ?c5 ?k5 ?a6 ?l6 ?c6 ?k6 ?a7 ?l7 ?c7 ?k7 ?a8 ?l8 ?c8 ?k8 ?a9 ?l9 ?c9 ?k9 ?a10 ?l10 ?c10 ?k10 ?a11 ?l11 ?c11 ?k11 ?a12 ?l12 ?c12 ?k12 ?a13 ?l13 ?c13 ?k13 ?a14 ?l14 ?c14 ?k14 ?a15 ?l15 ?c15 ?k15 ?a16 ?l16 ?c16 ?k16 ?a17 ?l17 ?c17 ?k17 ?z0 ?z1 ?z2 ?z3 ?z4 ?z5 ?z6 ?z7 ?z8 ?z9 ?z10
    (case a0 => k_is); (case l0 => k_is); (case c0 => k_is); (case k0 => k_is); (case a1 => k_is); (case l1 => k_is); (case c1 => k_is); (case k1 => k_is); (case a2 => k_is); (case l2 => k_is); (case c2 => k_is); (case k2 => k_is); (case a3 => k_is); (case l3 => k_is); (case c3 => k_is); (case k3 => k_is); (case a4 => k_is); (case l4 => k_is); (case c4 => k_is); (case k4 => k_is); (case a5 => k_is); (case l5 => k_is); (case c5 => k_is); (case k5 => k_is); (case a6 => k_is); (case l6 => k_is); (case c6 => k_is); (case k6 => k_is); (case a7 => k_is); (case l7 => k_is); (case c7 => k_is); (case k7 => k_is); (case a8 => k_is); (case l8 => k_is); (case c8 => k_is); (case k8 => k_is); (case a9 => k_is); (case l9 => k_is); (case c9 => k_is); (case k9 => k_is); (case a10 => k_is); (case l10 => k_is); (case c10 => k_is); (case k10 => k_is); (case a11 => k_is); (case l11 => k_is); (case c11 => k_is); (case k11 => k_is); (case a12 => k_is); (case l12 => k_is); (case c12 => k_is); (case k12 => k_is); (case a13 => k_is); (case l13 => k_is); (case c13 => k_is); (case k13 => k_is); (case a14 => k_is); (case l14 => k_is); (case c14 => k_is); (case k14 => k_is); (case a15 => k_is); (case l15 => k_is); (case c15 => k_is); (case k15 => k_is); (case a16 => k_is); (case l16 => k_is); (case c16 => k_is); (case k16 => k_is); (case a17 => k_is); (case l17 => k_is); (case c17 => k_is); (case k17 => k_is); (case z0 => k_is); (case z1 => k_is); (case z2 => k_is); (case z3 => k_is); (case z4 => k_is); (case z5 => k_is); (case z6 => k_is); (case z7 => k_is); (case z8 => k_is); (case z9 => k_is); (case z10 => k_is)
