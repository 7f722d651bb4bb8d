import PyProof.Rows.All
import Wide.All
import OpenK.AllK
import Wide.FinOn
import HandS.ForMost
import HandS.Flow
import HandS.Conv
import HandS.IsInst
import HandS.OwnEq
import HandS.MakeKw
import HandS.Defaults
import HandS.MakeKwOnly
import HandS.Style
import PyProof.ReprRoads
import KE.KOpsOwn
import OpenK.KOps
import HandS.TupAny
import HandS.TupMul
import HandS.Words
import HandS.FStr
import HandS.TryOnly
import HandS.List
import KE.KCallOwn
import HandS.Iter
import HandS.Text
import KE.GoesEnum
import KE.DataCmp
import PySem.Challenge.RW_doughfolds_k23_watches_made
set_option Elab.async false
set_option linter.all false
set_option maxRecDepth 100000
set_option maxHeartbeats 4000000
/-! DL1: data without addresses. D: what a value stands for; Den: that it does; ST: what is known of a frame's slots; EvM, EvT, EvA, SD: what a reading evaluates to. -/
namespace DL
open PySem L2

/-- data: what a value stands for -/
inductive D where
  | non | bl (b : Bool) | int (i : Int) | str (x : Str) | tup (xs : List D) | lst (xs : List D) | obj (c : Nat) (fs : List (Str × D)) | cst (v : V)

/-- the written part, the classes by number -/
structure Kc where
  K : PySem.W.Frag
  cl : Nat → Addr

mutual
/-- v stands for d in the heap G -/
inductive Den (C : Kc) (G : Hp) : V → D → Prop where
  | non : Den C G .non .non
  | bl (b : Bool) : Den C G (.bl b) (.bl b)
  | int (i : Int) : Den C G (.int i) (.int i)
  | str (x : Str) : Den C G (.str x) (.str x)
  | tup {a : Addr} {xs : List V} {ds : List D} : SqT C.K G a xs → DenL C G xs ds → Den C G (.ref a) (.tup ds)
  | lst {a : Addr} {xs : List V} {ds : List D} : SqL C.K G a xs → DenL C G xs ds → Den C G (.ref a) (.lst ds)
  | obj {a dx : Addr} {c : Nat} {vs : List (Str × V)} {fs : List (Str × D)} : G a = some (.ins (C.cl c) dx vs) → DenF C G vs fs → Den C G (.ref a) (.obj c fs)
  | cst (v : V) : Den C G v (.cst v)
inductive DenL (C : Kc) (G : Hp) : List V → List D → Prop where
  | nil : DenL C G [] []
  | cons {v : V} {d : D} {vs : List V} {ds : List D} : Den C G v d → DenL C G vs ds → DenL C G (v :: vs) (d :: ds)
inductive DenF (C : Kc) (G : Hp) : List (Str × V) → List (Str × D) → Prop where
  | nil : DenF C G [] []
  | cons {f : Str} {v : V} {d : D} {vs : List (Str × V)} {ds : List (Str × D)} : Den C G v d → DenF C G vs ds → DenF C G ((f, v) :: vs) ((f, d) :: ds)
end

theorem same_t {K : PySem.W.Frag} {H H' : Hp} {a : Addr} {xs : List V} (e : Same H H') (h : SqT K H a xs) : SqT K H' a xs := by
  rcases h with (h | ⟨o, h⟩) | h
  · exact .inl (.inl (e _ _ h))
  · exact .inl (.inr ⟨o, e _ _ h⟩)
  · exact .inr h

mutual
theorem Den.mono {C : Kc} {G G' : Hp} (e : Same G G') : ∀ {v : V} {d : D}, Den C G v d → Den C G' v d
  | _, _, .non => .non
  | _, _, .bl b => .bl b
  | _, _, .int i => .int i
  | _, _, .str x => .str x
  | _, _, .tup h l => .tup (same_t e h) (DenL.mono e l)
  | _, _, .lst h l => .lst (e.seq h) (DenL.mono e l)
  | _, _, .obj h l => .obj (e _ _ h) (DenF.mono e l)
  | _, _, .cst v => .cst v
theorem DenL.mono {C : Kc} {G G' : Hp} (e : Same G G') : ∀ {v : List V} {d : List D}, DenL C G v d → DenL C G' v d
  | _, _, .nil => .nil
  | _, _, .cons h l => .cons (Den.mono e h) (DenL.mono e l)
theorem DenF.mono {C : Kc} {G G' : Hp} (e : Same G G') : ∀ {v : List (Str × V)} {d : List (Str × D)}, DenF C G v d → DenF C G' v d
  | _, _, .nil => .nil
  | _, _, .cons h l => .cons (Den.mono e h) (DenF.mono e l)
end

theorem DenL.length {C : Kc} {G : Hp} : ∀ {vs : List V} {ds : List D}, DenL C G vs ds → vs.length = ds.length
  | _, _, .nil => rfl
  | _, _, .cons _ l => by rw [List.length_cons, List.length_cons, DenL.length l]
theorem DenL.get {C : Kc} {G : Hp} : ∀ {vs : List V} {ds : List D} {i : Nat} {d : D}, DenL C G vs ds → ds[i]? = some d → ∃ v, vs[i]? = some v ∧ Den C G v d
  | _, _, _, _, .nil, e => by simp at e
  | _, _, 0, _, .cons h _, e => by simp at e; subst e; exact ⟨_, rfl, h⟩
  | _, _, i + 1, d, .cons _ l, e => by
    obtain ⟨v, h1, h2⟩ := DenL.get (i := i) (d := d) l (by simpa using e)
    exact ⟨v, by simpa using h1, h2⟩
theorem DenL.getV {C : Kc} {G : Hp} : ∀ {vs : List V} {ds : List D} {i : Nat} {v : V}, DenL C G vs ds → vs[i]? = some v → ∃ d, ds[i]? = some d ∧ Den C G v d
  | _, _, _, _, .nil, e => by simp at e
  | _, _, 0, _, .cons h _, e => by simp at e; subst e; exact ⟨_, rfl, h⟩
  | _, _, i + 1, d, .cons _ l, e => by
    obtain ⟨v, h1, h2⟩ := DenL.getV (i := i) (v := d) l (by simpa using e)
    exact ⟨v, by simpa using h1, h2⟩
theorem DenL.set {C : Kc} {G : Hp} {v : V} {d : D} (h : Den C G v d) : ∀ {vs : List V} {ds : List D} (i : Nat), DenL C G vs ds → DenL C G (vs.set i v) (ds.set i d)
  | _, _, _, .nil => .nil
  | _, _, 0, .cons _ l => .cons h l
  | _, _, i + 1, .cons q l => .cons q (DenL.set h i l)
theorem DenL.append {C : Kc} {G : Hp} : ∀ {vs ws : List V} {ds es : List D}, DenL C G vs ds → DenL C G ws es → DenL C G (vs ++ ws) (ds ++ es)
  | _, _, _, _, .nil, s => s
  | _, _, _, _, .cons r t, s => .cons r (DenL.append t s)
theorem DenL.take {C : Kc} {G : Hp} : ∀ {vs : List V} {ds : List D} (n : Nat), DenL C G vs ds → DenL C G (vs.take n) (ds.take n)
  | _, _, 0, _ => .nil
  | _, _, _ + 1, .nil => .nil
  | _, _, n + 1, .cons r t => .cons r (DenL.take n t)
theorem DenL.drop {C : Kc} {G : Hp} : ∀ {vs : List V} {ds : List D} (n : Nat), DenL C G vs ds → DenL C G (vs.drop n) (ds.drop n)
  | _, _, 0, r => r
  | _, _, _ + 1, .nil => .nil
  | _, _, n + 1, .cons _ t => DenL.drop n t
theorem DenL.split {C : Kc} {G : Hp} : ∀ {vs : List V} {ds es : List D}, DenL C G vs (ds ++ es) → ∃ us ws, vs = us ++ ws ∧ DenL C G us ds ∧ DenL C G ws es
  | vs, [], es, h => ⟨[], vs, rfl, .nil, h⟩
  | _, d :: ds, es, .cons h l => by
    obtain ⟨us, ws, e, h1, h2⟩ := DenL.split (ds := ds) (es := es) l
    exact ⟨_ :: us, ws, by rw [e]; rfl, .cons h h1, h2⟩
theorem DenF.look {C : Kc} {G : Hp} {f : Str} : ∀ {vs : List (Str × V)} {ds : List (Str × D)} {d : D}, DenF C G vs ds → ds.lookup f = some d → ∃ v, vs.lookup f = some v ∧ Den C G v d
  | _, _, _, .nil, e => by simp at e
  | _, _, d, .cons (f := g) (v := v) h l, e => by
    rw [List.lookup_cons] at e ⊢
    cases q : (f == g) with
    | true => rw [q] at e; exact ⟨v, rfl, Option.some.inj e ▸ h⟩
    | false => rw [q] at e; exact DenF.look (d := d) l e
theorem DenF.lookN {C : Kc} {G : Hp} {f : Str} : ∀ {vs : List (Str × V)} {ds : List (Str × D)}, DenF C G vs ds → ds.lookup f = none → vs.lookup f = none
  | _, _, .nil, _ => rfl
  | _, _, .cons (f := g) h l, e => by
    rw [List.lookup_cons] at e ⊢
    cases q : (f == g) with
    | true => rw [q] at e; cases e
    | false => rw [q] at e; exact DenF.lookN l e
def putD (f : Str) (d : D) : List (Str × D) → List (Str × D)
  | [] => [(f, d)]
  | (g, x) :: r => if g = f then (g, d) :: r else (g, x) :: putD f d r
theorem DenF.put {C : Kc} {G : Hp} {f : Str} {v : V} {d : D} (h : Den C G v d) : ∀ {vs : List (Str × V)} {ds : List (Str × D)}, DenF C G vs ds → DenF C G (putF f v vs) (putD f d ds)
  | _, _, .nil => .cons h .nil
  | _, _, .cons (f := g) q l => by
    unfold putF putD
    by_cases e : g = f
    · rw [if_pos e, if_pos e]; exact .cons h l
    · rw [if_neg e, if_neg e]; exact .cons q (DenF.put h l)
theorem DenF.length {C : Kc} {G : Hp} : ∀ {vs : List (Str × V)} {ds : List (Str × D)}, DenF C G vs ds → vs.length = ds.length
  | _, _, .nil => rfl
  | _, _, .cons _ l => by rw [List.length_cons, List.length_cons, DenF.length l]

/-- what is known of a slot: data; a list of this body's own; the handed object -/
inductive DV where
  | imm (d : D) | own (ds : List D) | bag
/-- the handed object: a list, an instance -/
inductive BG where
  | lst (ds : List D) | ins (c : Nat) (fs : List (Str × D))
structure ST where
  s : List (Option DV)
  g : Option (Addr × BG)
def ST.set (S : ST) (i : Nat) (d : D) : ST := ⟨S.s.set i (some (.imm d)), S.g⟩
def ST.setO (S : ST) (i : Nat) (ds : List D) : ST := ⟨S.s.set i (some (.own ds)), S.g⟩
def ST.clr (S : ST) (i : Nat) : ST := ⟨S.s.set i none, S.g⟩

def BagOk (C : Kc) (G H : Hp) : Option (Addr × BG) → Prop
  | none => True
  | some (b, .lst ds) => G b = none ∧ ∃ vs, H b = some (.lst vs) ∧ DenL C G vs ds
  | some (b, .ins c fs) => G b = none ∧ ∃ dx vs, H b = some (.ins (C.cl c) dx vs) ∧ DenF C G vs fs

/-- the state: G a part of the heap H in which the data stand; what the slots hold -/
structure Ctx (C : Kc) (G H : Hp) (σ : L2.St) (S : ST) : Prop where
  sub : Same G H
  len : σ.length = S.s.length
  im : ∀ (i : Nat) d, S.s[i]? = some (some (.imm d)) → ∃ v, σ[i]? = some (some v) ∧ Den C G v d
  ow : ∀ (i : Nat) ds, S.s[i]? = some (some (.own ds)) → ∃ a vs, σ[i]? = some (some (.ref a)) ∧ G a = none ∧ H a = some (.lst vs) ∧ DenL C G vs ds
  apart : ∀ (i j : Nat) ds es a, S.s[i]? = some (some (.own ds)) → S.s[j]? = some (some (.own es)) → σ[i]? = some (some (.ref a)) → σ[j]? = some (some (.ref a)) → i = j
  bg : ∀ (i : Nat) b o, S.g = some (b, o) → S.s[i]? = some (some .bag) → σ[i]? = some (some (.ref b))
  bag : BagOk C G H S.g
  nob : ∀ (i : Nat) b o ds, S.g = some (b, o) → S.s[i]? = some (some (.own ds)) → σ[i]? ≠ some (some (.ref b))

/-- the addresses that this body may change -/
def OA (C : Kc) (σ : L2.St) (S : ST) (a : Addr) : Prop := (∃ (i : Nat) (ds : List D), S.s[i]? = some (some (.own ds)) ∧ σ[i]? = some (some (.ref a))) ∨ ∃ o, S.g = some (a, o)

structure Go (A : Addr → Prop) (G H G2 H2 : Hp) : Prop where
  keep : ∀ a o, ¬ A a → H a = some o → H2 a = some o
  gg : Same G G2
  fr : ∀ a, ¬ A a → H a ≠ none → G a = none → G2 a = none
  dom : ∀ a, H a ≠ none → H2 a ≠ none
theorem same_dom {H H2 : Hp} (k : Same H H2) : ∀ a, H a ≠ none → H2 a ≠ none := fun a h => by
  cases q : H a with
  | none => exact absurd q h
  | some o => rw [k a o q]; simp
theorem Go.refl {A : Addr → Prop} {G H : Hp} : Go A G H G H := ⟨fun _ _ _ h => h, fun _ _ h => h, fun _ _ _ h => h, fun _ h => h⟩
theorem Go.trans {A A2 : Addr → Prop} {G H G1 H1 G2 H2 : Hp} (a : Go A G H G1 H1) (b : Go A2 G1 H1 G2 H2) (h : ∀ x, A2 x → A x ∨ H x = none) : Go A G H G2 H2 where
  keep := fun x o n e => b.keep x o (fun z => (h x z).elim n fun q => by rw [q] at e; cases e) (a.keep x o n e)
  gg := a.gg.trans b.gg
  fr := fun x n e g => by
    cases q : H x with
    | none => exact absurd q e
    | some o => exact b.fr x (fun z => (h x z).elim n fun q' => by rw [q'] at q; cases q) (by rw [a.keep x o n q]; simp) (a.fr x n e g)
  dom := fun x h => b.dom x (a.dom x h)
theorem Go.mono {A A2 : Addr → Prop} {G H G2 H2 : Hp} (a : Go A G H G2 H2) (h : ∀ x, A x → A2 x) : Go A2 G H G2 H2 := ⟨fun x o n => a.keep x o fun z => n (h x z), a.gg, fun x n => a.fr x fun z => n (h x z), a.dom⟩

/-- a move that stores no name -/
structure Mv (C : Kc) (σ : L2.St) (S : ST) (G H : Hp) (S2 : ST) (G2 H2 : Hp) : Prop where
  go : Go (OA C σ S) G H G2 H2
  cx : Ctx C G2 H2 σ S2
  oa : ∀ a, OA C σ S2 a → OA C σ S a
theorem Mv.trans {C : Kc} {σ : L2.St} {S S1 S2 : ST} {G H G1 H1 G2 H2 : Hp} (a : Mv C σ S G H S1 G1 H1) (b : Mv C σ S1 G1 H1 S2 G2 H2) : Mv C σ S G H S2 G2 H2 :=
  ⟨a.go.trans b.go fun x z => .inl (a.oa x z), b.cx, fun x z => a.oa x (b.oa x z)⟩
theorem Mv.refl {C : Kc} {σ : L2.St} {S : ST} {G H : Hp} (c : Ctx C G H σ S) : Mv C σ S G H S G H := ⟨.refl, c, fun _ z => z⟩

/-- nothing of ours is changed, the data part grows -/
theorem Ctx.step {C : Kc} {G H G2 H2 : Hp} {σ : L2.St} {S : ST} (c : Ctx C G H σ S) (k : Same H H2) (gg : Same G G2) (sub : Same G2 H2) (fr : ∀ a, H a ≠ none → G a = none → G2 a = none) : Ctx C G2 H2 σ S where
  sub := sub
  len := c.len
  im := fun i d h => let ⟨v, h1, h2⟩ := c.im i d h; ⟨v, h1, h2.mono gg⟩
  ow := fun i ds h => let ⟨a, vs, h1, h2, h3, h4⟩ := c.ow i ds h; ⟨a, vs, h1, fr a (by rw [h3]; simp) h2, k _ _ h3, h4.mono gg⟩
  apart := c.apart
  bg := c.bg
  bag := by
    have z := c.bag
    cases q : S.g with
    | none => trivial
    | some bo =>
      obtain ⟨b, o⟩ := bo
      rw [q] at z
      cases o with
      | lst ds => obtain ⟨h1, vs, h2, h3⟩ := z; exact ⟨fr _ (by rw [h2]; simp) h1, vs, k _ _ h2, h3.mono gg⟩
      | ins cc fs => obtain ⟨h1, dx, vs, h2, h3⟩ := z; exact ⟨fr _ (by rw [h2]; simp) h1, dx, vs, k _ _ h2, h3.mono gg⟩
  nob := c.nob
theorem Ctx.mv {C : Kc} {G H G2 H2 : Hp} {σ : L2.St} {S : ST} (c : Ctx C G H σ S) (k : Same H H2) (gg : Same G G2) (sub : Same G2 H2) (fr : ∀ a, H a ≠ none → G a = none → G2 a = none) : Mv C σ S G H S G2 H2 :=
  ⟨⟨fun a o _ h => k a o h, gg, fun a _ h1 h2 => fr a h1 h2, same_dom k⟩, c.step k gg sub fr, fun _ z => z⟩
/-- a new object, data -/
theorem Ctx.new {C : Kc} {G H : Hp} {σ : L2.St} {S : ST} {p : Addr} {o : HO} (c : Ctx C G H σ S) (hp : H p = none) : Mv C σ S G H S (upd G p o) (upd H p o) := by
  have gp : G p = none := c.sub.free hp
  refine c.mv (fun a u h => ?_) (fun a u h => ?_) (fun a u h => ?_) (fun a h1 h2 => ?_)
  · rw [upd_ne (ne_of_none h hp)]; exact h
  · rw [upd_ne (ne_of_none h gp)]; exact h
  · by_cases e : a = p
    · subst e; rw [upd_same] at h ⊢; exact h
    · rw [upd_ne e] at h ⊢; exact c.sub _ _ h
  · have e : a ≠ p := fun z => h1 (by rw [z]; exact hp)
    rw [upd_ne e]; exact h2

def EvM (C : Kc) (te : TE) (S S' : ST) (d : D) : Prop :=
  ∀ σ G H, Ctx C G H σ S → ∀ Q : VK, (∀ v G2 H2, Mv C σ S G H S' G2 H2 → Den C G2 v d → Q v H2) → te σ H Q
def EvT (C : Kc) (tt : TT) (S S' : ST) (b : Bool) : Prop :=
  ∀ σ G H, Ctx C G H σ S → ∀ Q : Bool → Hp → Prop, (∀ G2 H2, Mv C σ S G H S' G2 H2 → Q b H2) → tt σ H Q
def EvA (C : Kc) (ta : TA) (S S' : ST) (ds : List D) : Prop :=
  ∀ σ G H, Ctx C G H σ S → ∀ Q : List V → Hp → Prop, (∀ vs G2 H2, Mv C σ S G H S' G2 H2 → DenL C G2 vs ds → Q vs H2) → ta σ H Q
/-- a new list of its own, handed to nobody yet -/
def EvO (C : Kc) (te : TE) (S S' : ST) (ds : List D) : Prop :=
  ∀ σ G H, Ctx C G H σ S → ∀ Q : VK, (∀ p vs G2 H2, Mv C σ S G H S' G2 H2 → H p = none → G2 p = none → H2 p = some (.lst vs) → DenL C G2 vs ds → Q (.ref p) H2) → te σ H Q

/-- a move that may store names -/
structure Mw (C : Kc) (σ : L2.St) (S : ST) (G H : Hp) (σ2 : L2.St) (S2 : ST) (G2 H2 : Hp) : Prop where
  go : Go (OA C σ S) G H G2 H2
  cx : Ctx C G2 H2 σ2 S2
  oa : ∀ a, OA C σ2 S2 a → OA C σ S a ∨ H a = none
theorem Mw.trans {C : Kc} {σ σ1 σ2 : L2.St} {S S1 S2 : ST} {G H G1 H1 G2 H2 : Hp} (a : Mw C σ S G H σ1 S1 G1 H1) (b : Mw C σ1 S1 G1 H1 σ2 S2 G2 H2) : Mw C σ S G H σ2 S2 G2 H2 :=
  ⟨a.go.trans b.go a.oa, b.cx, fun x z => by
    rcases b.oa x z with q | q
    · exact a.oa x q
    · by_cases n : OA C σ S x
      · exact .inl n
      · refine .inr ?_
        cases r : H x with
        | none => rfl
        | some o => rw [a.go.keep x o n r] at q; cases q⟩
theorem Mw.refl {C : Kc} {σ : L2.St} {S : ST} {G H : Hp} (c : Ctx C G H σ S) : Mw C σ S G H σ S G H := ⟨.refl, c, fun _ z => .inl z⟩
theorem Mv.mw {C : Kc} {σ : L2.St} {S S2 : ST} {G H G2 H2 : Hp} (a : Mv C σ S G H S2 G2 H2) : Mw C σ S G H σ S2 G2 H2 := ⟨a.go, a.cx, fun x z => .inl (a.oa x z)⟩

/-- what is wanted behind statements, of data -/
structure Po where
  nx : ST → Prop := fun _ => False
  rt : D → ST → Prop := fun _ _ => False
  bk : ST → Prop := fun _ => False
  ct : ST → Prop := fun _ => False
  ro : List D → ST → Prop := fun _ _ => False
structure Meets (C : Kc) (P : Po) (σ : L2.St) (S : ST) (G H : Hp) (E : Ends) : Prop where
  nx : ∀ σ2 S2 G2 H2, Mw C σ S G H σ2 S2 G2 H2 → P.nx S2 → E.nx σ2 H2
  rt : ∀ v d σ2 S2 G2 H2, Mw C σ S G H σ2 S2 G2 H2 → Den C G2 v d → P.rt d S2 → E.rt v H2
  bk : ∀ σ2 S2 G2 H2, Mw C σ S G H σ2 S2 G2 H2 → P.bk S2 → E.bk σ2 H2
  ct : ∀ σ2 S2 G2 H2, Mw C σ S G H σ2 S2 G2 H2 → P.ct S2 → E.ct σ2 H2
  ro : ∀ p ev es σ2 S2 G2 H2, Mw C σ S G H σ2 S2 G2 H2 → H p = none → G2 p = none → H2 p = some (.lst ev) → DenL C G2 ev es → P.ro es S2 → E.rt (.ref p) H2
theorem back_none {A : Addr → Prop} {G H G2 H2 : Hp} (g : Go A G H G2 H2) {p : Addr} (h : H2 p = none) : H p = none := by
  cases r : H p with
  | none => rfl
  | some o => exact absurd h (g.dom p (by rw [r]; simp))
theorem Meets.move {C : Kc} {P : Po} {σ σ1 : L2.St} {S S1 : ST} {G H G1 H1 : Hp} {E : Ends} (m : Meets C P σ S G H E) (a : Mw C σ S G H σ1 S1 G1 H1) : Meets C P σ1 S1 G1 H1 E :=
  ⟨fun σ2 S2 G2 H2 b h => m.nx _ _ _ _ (a.trans b) h, fun v d σ2 S2 G2 H2 b q h => m.rt v d _ _ _ _ (a.trans b) q h, fun σ2 S2 G2 H2 b h => m.bk _ _ _ _ (a.trans b) h, fun σ2 S2 G2 H2 b h => m.ct _ _ _ _ (a.trans b) h, fun p ev es σ2 S2 G2 H2 b h1 h2 h3 h4 h => m.ro p ev es _ _ _ _ (a.trans b) (back_none a.go h1) h2 h3 h4 h⟩
def SD (C : Kc) (ts : TS) (S : ST) (P : Po) : Prop := ∀ σ G H, Ctx C G H σ S → ∀ E : Ends, Meets C P σ S G H E → ts E σ H

/-- storing data into a slot -/
theorem Ctx.store {C : Kc} {G H : Hp} {σ : L2.St} {S : ST} {i : Nat} {v : V} {d : D} (c : Ctx C G H σ S) (h : Den C G v d) : Mw C σ S G H (σ.set i (some v)) (S.set i d) G H := by
  refine ⟨.refl, ⟨c.sub, by simp [ST.set, c.len], fun j e q => ?_, fun j e q => ?_, fun j k ds es a q1 q2 q3 q4 => ?_, fun j b o hg q => ?_, c.bag, fun j b o ds q q2 => ?_⟩, fun a z => ?_⟩
  · by_cases ij : i = j
    · subst ij
      have hl : i < S.s.length := by
        rcases Nat.lt_or_ge i S.s.length with z | z
        · exact z
        · rw [ST.set, List.getElem?_eq_none (by simpa using z)] at q; cases q
      rw [ST.set, List.getElem?_set_self hl] at q
      cases q
      exact ⟨v, List.getElem?_set_self (by rw [c.len]; exact hl), h⟩
    · rw [ST.set, List.getElem?_set_ne ij] at q
      rw [List.getElem?_set_ne ij]
      exact c.im j e q
  · by_cases ij : i = j
    · subst ij
      rcases Nat.lt_or_ge i S.s.length with z | z
      · rw [ST.set, List.getElem?_set_self z] at q; cases q
      · rw [ST.set, List.getElem?_eq_none (by simpa using z)] at q; cases q
    · rw [ST.set, List.getElem?_set_ne ij] at q
      rw [List.getElem?_set_ne ij]
      exact c.ow j e q
  · have key : ∀ (j : Nat) ds, (S.set i d).s[j]? = some (some (DV.own ds)) → i ≠ j ∧ S.s[j]? = some (some (DV.own ds)) := fun j ds q => by
      by_cases ij : i = j
      · subst ij
        rcases Nat.lt_or_ge i S.s.length with z | z
        · rw [ST.set, List.getElem?_set_self z] at q; cases q
        · rw [ST.set, List.getElem?_eq_none (by simpa using z)] at q; cases q
      · rw [ST.set, List.getElem?_set_ne ij] at q; exact ⟨ij, q⟩
    obtain ⟨n1, k1⟩ := key j ds q1
    obtain ⟨n2, k2⟩ := key k es q2
    rw [List.getElem?_set_ne n1] at q3
    rw [List.getElem?_set_ne n2] at q4
    exact c.apart j k ds es a k1 k2 q3 q4
  · by_cases ij : i = j
    · subst ij
      rcases Nat.lt_or_ge i S.s.length with z | z
      · rw [ST.set, List.getElem?_set_self z] at q; cases q
      · rw [ST.set, List.getElem?_eq_none (by simpa using z)] at q; cases q
    · rw [ST.set, List.getElem?_set_ne ij] at q
      rw [List.getElem?_set_ne ij]
      exact c.bg j b o hg q
  · by_cases ij : i = j
    · subst ij
      rcases Nat.lt_or_ge i S.s.length with z | z
      · rw [ST.set, List.getElem?_set_self z] at q2; cases q2
      · rw [ST.set, List.getElem?_eq_none (by simpa using z)] at q2; cases q2
    · rw [ST.set, List.getElem?_set_ne ij] at q2
      rw [List.getElem?_set_ne ij]
      exact c.nob j b o ds q q2
  · rcases z with ⟨j, ds, q1, q2⟩ | z
    · have ij : i ≠ j := fun ij => by
        subst ij
        rcases Nat.lt_or_ge i S.s.length with z | z
        · rw [ST.set, List.getElem?_set_self z] at q1; cases q1
        · rw [ST.set, List.getElem?_eq_none (by simpa using z)] at q1; cases q1
      rw [ST.set, List.getElem?_set_ne ij] at q1
      rw [List.getElem?_set_ne ij] at q2
      exact .inl (.inl ⟨j, ds, q1, q2⟩)
    · exact .inl (.inr z)
end DL
/-! DL2: judgements over the text: DE, DT, DA (expressions, tests, arguments), DS (statements), over a family of contexts. -/
namespace DL
open PySem L2

structure Fam where
  I : Type
  X : I → Cx
  P : Program
  w : World
  C : Kc
  mg : Str → Option Value
  base : Heap
  N : List Str
  k : Nat
  hP : ∀ i, (X i).prog = P
  hw : ∀ i, (X i).w = w
  hK : ∀ i, (X i).K = C.K
  hmg : ∀ i, (X i).mg = mg
  hbase : ∀ i, (X i).base = base
  hN : ∀ i, (X i).N = N
  nd : N.Nodup
  room : ∀ i, Room k (X i).A
  calm : ∀ i, (X i).calm = true

def anyE (F : Fam) (e : Expr) : TE := fun σ H Q => ∃ te, (∀ i, PE (F.X i) e te) ∧ te σ H Q
def anyT (F : Fam) (e : Expr) : TT := fun σ H Q => ∃ te, (∀ i, PT (F.X i) e te) ∧ te σ H Q
def anyW (F : Fam) (e : Expr) : TT := fun σ H Q => ∃ te, (∀ i, PW (F.X i) e te) ∧ te σ H Q
def anyA (F : Fam) (e : List Expr) : TA := fun σ H Q => ∃ te, (∀ i, PA (F.X i) e te) ∧ te σ H Q
def anyK (F : Fam) (e : List Keyword) : TA := fun σ H Q => ∃ te, (∀ i, PK (F.X i) e te) ∧ te σ H Q
def any1 (F : Fam) (e : Stmt) : TS := fun E σ H => ∃ te, (∀ i, PS (F.X i) e te) ∧ te E σ H
def anyS (F : Fam) (e : List Stmt) : TS := fun E σ H => ∃ te, (∀ i, PSs (F.X i) e te) ∧ te E σ H
theorem anyE_ok {F : Fam} {e : Expr} (i : F.I) : PE (F.X i) e (anyE F e) := ⟨fun pins s σ H Q I h => let ⟨te, h1, h2⟩ := h; (h1 i).run pins s σ H Q I h2⟩
theorem anyT_ok {F : Fam} {e : Expr} (i : F.I) : PT (F.X i) e (anyT F e) := ⟨fun pins s σ H Q I h => let ⟨te, h1, h2⟩ := h; (h1 i).run pins s σ H Q I h2⟩
theorem anyW_ok {F : Fam} {e : Expr} (i : F.I) : PW (F.X i) e (anyW F e) := ⟨fun wh pins s σ H Q I h => let ⟨te, h1, h2⟩ := h; (h1 i).run wh pins s σ H Q I h2⟩
theorem anyA_ok {F : Fam} {e : List Expr} (i : F.I) : PA (F.X i) e (anyA F e) := ⟨fun pos pins s σ H Q I h => let ⟨te, h1, h2⟩ := h; (h1 i).run pos pins s σ H Q I h2⟩
theorem anyK_ok {F : Fam} {e : List Keyword} (i : F.I) : PK (F.X i) e (anyK F e) := ⟨fun pos pins s σ H Q I h => let ⟨te, h1, h2⟩ := h; (h1 i).run pos pins s σ H Q I h2⟩
theorem any1_ok {F : Fam} {e : Stmt} (i : F.I) : PS (F.X i) e (any1 F e) := ⟨fun pins s σ H Q I h => let ⟨te, h1, h2⟩ := h; (h1 i).run pins s σ H Q I h2⟩
theorem anyS_ok {F : Fam} {e : List Stmt} (i : F.I) : PSs (F.X i) e (anyS F e) := ⟨fun pins s σ H Q I h => let ⟨te, h1, h2⟩ := h; (h1 i).run pins s σ H Q I h2⟩

def DE (F : Fam) (e : Expr) (S S' : ST) (d : D) : Prop := EvM F.C (anyE F e) S S' d
def DT (F : Fam) (e : Expr) (S S' : ST) (b : Bool) : Prop := EvT F.C (anyT F e) S S' b
def DW (F : Fam) (e : Expr) (S S' : ST) (b : Bool) : Prop := EvT F.C (anyW F e) S S' b
def DA (F : Fam) (e : List Expr) (S S' : ST) (ds : List D) : Prop := EvA F.C (anyA F e) S S' ds
def DK (F : Fam) (e : List Keyword) (S S' : ST) (ds : List D) : Prop := EvA F.C (anyK F e) S S' ds
def DO (F : Fam) (e : Expr) (S S' : ST) (ds : List D) : Prop := EvO F.C (anyE F e) S S' ds
def D1 (F : Fam) (e : Stmt) (S : ST) (P : Po) : Prop := SD F.C (any1 F e) S P
def DS (F : Fam) (e : List Stmt) (S : ST) (P : Po) : Prop := SD F.C (anyS F e) S P

section
variable {F : Fam} {S S1 S2 S3 : ST} {e a b : Expr} {d x y z : D} {pos : Pos} {P : Po}
theorem de_of {te : TE} (h : ∀ i, PE (F.X i) e te) (v : EvM F.C te S S' d) : DE F e S S' d := fun σ G H c Q q => ⟨te, h, v σ G H c Q q⟩
theorem dt_of {te : TT} {b : Bool} (h : ∀ i, PT (F.X i) e te) (v : EvT F.C te S S' b) : DT F e S S' b := fun σ G H c Q q => ⟨te, h, v σ G H c Q q⟩
theorem dw_of {te : TT} {b : Bool} (h : ∀ i, PW (F.X i) e te) (v : EvT F.C te S S' b) : DW F e S S' b := fun σ G H c Q q => ⟨te, h, v σ G H c Q q⟩
theorem da_of {es : List Expr} {te : TA} {ds : List D} (h : ∀ i, PA (F.X i) es te) (v : EvA F.C te S S' ds) : DA F es S S' ds := fun σ G H c Q q => ⟨te, h, v σ G H c Q q⟩
theorem dk_of {es : List Keyword} {te : TA} {ds : List D} (h : ∀ i, PK (F.X i) es te) (v : EvA F.C te S S' ds) : DK F es S S' ds := fun σ G H c Q q => ⟨te, h, v σ G H c Q q⟩
theorem do_of {te : TE} {ds : List D} (h : ∀ i, PE (F.X i) e te) (v : EvO F.C te S S' ds) : DO F e S S' ds := fun σ G H c Q q => ⟨te, h, v σ G H c Q q⟩
theorem d1_of {st : Stmt} {te : TS} (h : ∀ i, PS (F.X i) st te) (v : SD F.C te S P) : D1 F st S P := fun σ G H c E m => ⟨te, h, v σ G H c E m⟩
theorem ds_of {st : List Stmt} {te : TS} (h : ∀ i, PSs (F.X i) st te) (v : SD F.C te S P) : DS F st S P := fun σ G H c E m => ⟨te, h, v σ G H c E m⟩

/-- the data part grows, nothing tracked changes -/
structure Pu (G H G2 H2 : Hp) : Prop where
  hh : Same H H2
  gg : Same G G2
  sub : Same G2 H2
  fr : ∀ a, H a ≠ none → G a = none → G2 a = none
theorem Pu.refl {G H : Hp} (s : Same G H) : Pu G H G H := ⟨fun _ _ h => h, fun _ _ h => h, s, fun _ _ h => h⟩
theorem Pu.trans {G H G1 H1 G2 H2 : Hp} (a : Pu G H G1 H1) (b : Pu G1 H1 G2 H2) : Pu G H G2 H2 :=
  ⟨a.hh.trans b.hh, a.gg.trans b.gg, b.sub, fun x h1 h2 => by
    cases q : H x with
    | none => exact absurd q h1
    | some o => exact b.fr x (by rw [a.hh x o q]; simp) (a.fr x h1 h2)⟩
theorem Pu.new {G H : Hp} {p : Addr} {o : HO} (s : Same G H) (hp : H p = none) : Pu G H (upd G p o) (upd H p o) := by
  have gp : G p = none := s.free hp
  refine ⟨fun a u h => ?_, fun a u h => ?_, fun a u h => ?_, fun a h1 h2 => ?_⟩
  · rw [upd_ne (ne_of_none h hp)]; exact h
  · rw [upd_ne (ne_of_none h gp)]; exact h
  · by_cases e : a = p
    · subst e; rw [upd_same] at h ⊢; exact h
    · rw [upd_ne e] at h ⊢; exact s _ _ h
  · have e : a ≠ p := fun z => h1 (by rw [z]; exact hp)
    rw [upd_ne e]; exact h2
theorem Ctx.pu {C : Kc} {G H G2 H2 : Hp} {σ : L2.St} {S : ST} (c : Ctx C G H σ S) (p : Pu G H G2 H2) : Mv C σ S G H S G2 H2 := c.mv p.hh p.gg p.sub p.fr
theorem Mv.pu {C : Kc} {G H G1 H1 G2 H2 : Hp} {σ : L2.St} {S S1 : ST} (m : Mv C σ S G H S1 G1 H1) (p : Pu G1 H1 G2 H2) : Mv C σ S G H S1 G2 H2 := m.trans (m.cx.pu p)

/-- a two-place operation by its reading, on data -/
def RD (C : Kc) (r : R2) (x y z : D) : Prop := ∀ G H u v, Same G H → Den C G u x → Den C G v y → ∀ Q : VK, (∀ w G2 H2, Pu G H G2 H2 → Den C G2 w z → Q w H2) → r u v H Q
def RD1 (C : Kc) (r : V → Hp → VK → Prop) (x z : D) : Prop := ∀ G H u, Same G H → Den C G u x → ∀ Q : VK, (∀ w G2 H2, Pu G H G2 H2 → Den C G2 w z → Q w H2) → r u H Q
def RDL (C : Kc) (r : List V → Hp → VK → Prop) (xs : List D) (z : D) : Prop := ∀ G H us, Same G H → DenL C G us xs → ∀ Q : VK, (∀ w G2 H2, Pu G H G2 H2 → Den C G2 w z → Q w H2) → r us H Q

/-! ### names and constants -/
theorem de_var {j : Nat} {x : Str} (h : S.s[j]? = some (some (.imm d))) (hN : ∀ i, (F.X i).N[j]? = some x := by intro _; rfl)
    (hv : ∀ i, Vis (F.X i).env.scope x := by intro _; first | exact Or.inl rfl | exact Or.inr (Or.inl rfl) | exact Or.inr (Or.inr rfl))
    (hd : (x == ("__debug__" : Str)) = false := by decide) (hcd : (x == ("__classdict__" : Str)) = false := by decide) : DE F (.Name x pos) S S d :=
  de_of (fun i => pe_var (hN i) (hv i) hd hcd) fun σ G H c Q q => by
    obtain ⟨v, h1, h2⟩ := c.im j d h
    exact ⟨v, h1, q v G H (.refl c) h2⟩
theorem de_int {i : Int} {k : Nat} : DE F (.Constant (.int i) k pos) S S (.int i) := de_of (fun _ => pe_int) fun _ _ _ c _ q => q _ _ _ (.refl c) (.int i)
theorem de_bl {i : Bool} {k : Nat} : DE F (.Constant (.bool i) k pos) S S (.bl i) := de_of (fun _ => pe_bl) fun _ _ _ c _ q => q _ _ _ (.refl c) (.bl i)
theorem de_non {k : Nat} : DE F (.Constant .none k pos) S S .non := de_of (fun _ => pe_non) fun _ _ _ c _ q => q _ _ _ (.refl c) .non
theorem de_str {i : Str} {k : Nat} : DE F (.Constant (.str i) k pos) S S (.str i) := de_of (fun _ => pe_str) fun _ _ _ c _ q => q _ _ _ (.refl c) (.str i)
/-- a module's constant -/
theorem de_glob {x : Str} {v : V} {u : Value} (hm : F.mg x = some u) (r : RelV v u) (hd : ∀ G, Den F.C G v d) (hg : ∀ i, Gl (F.X i) x := by intro _; rfl) (hb : (x == ("__debug__" : Str)) = false := by decide) : DE F (.Name x pos) S S d :=
  de_of (fun i => pe_glob (hg i) (by rw [F.hmg i]; exact hm) r hb) fun _ G _ c _ q => q _ _ _ (.refl c) (hd G)
theorem de_bltn {x : Str} {v : V} {u : Value} (hm : F.mg x = none) (hv : bootBuiltins x = some u) (r : RelV v u) (hg : ∀ i, Gl (F.X i) x := by intro _; rfl) (hn : x ≠ "__name__" := by decide) (hb : (x == ("__debug__" : Str)) = false := by decide) : DE F (.Name x pos) S S (.cst v) :=
  de_of (fun i => pe_bltn (hg i) (by rw [F.hmg i]; exact hm) hv r hn hb) fun _ G _ c _ q => q _ _ _ (.refl c) (.cst v)
theorem de_is {d' : D} (h : DE F e S S1 d) (q : d = d') : DE F e S S1 d' := q ▸ h
theorem dt_is {b b' : Bool} (h : DT F e S S1 b) (q : b = b') : DT F e S S1 b' := q ▸ h

/-! ### operators -/
def OpD (F : Fam) (f : Value → Value → Sem Value) (x y z : D) : Prop := ∃ r, (∀ i, OpR (F.X i) f r) ∧ RD F.C r x y z
def UnD (F : Fam) (f : Value → Sem Value) (x z : D) : Prop := ∃ r, (∀ i, UnR (F.X i) f r) ∧ RD1 F.C r x z
theorem ev_op {C : Kc} {r : R2} {ta tb : TE} (hr : RD C r x y z) (ha : EvM C ta S S1 x) (hb : EvM C tb S1 S2 y) : EvM C (tOp r ta tb) S S2 z := fun σ G H c Q q =>
  ha σ G H c _ fun u G1 H1 m1 d1 => hb σ G1 H1 m1.cx _ fun v G2 H2 m2 d2 => hr G2 H2 u v m2.cx.sub (d1.mono m2.go.gg) d2 Q fun w G3 H3 p d3 => q w G3 H3 ((m1.trans m2).pu p) d3
theorem de_op {op : Operator} (ha : DE F a S S1 x) (hb : DE F b S1 S2 y) (hr : OpD F (binaryOp op) x y z) : DE F (.BinOp a op b pos) S S2 z := by
  obtain ⟨r, h1, h2⟩ := hr
  exact de_of (fun i => pe_op (h1 i) (anyE_ok i) (anyE_ok i)) (ev_op h2 ha hb)
theorem de_un {op : UnaryOp} (ha : DE F a S S1 x) (hr : UnD F (unaryOp op) x z) : DE F (.UnaryOp op a pos) S S1 z := by
  obtain ⟨r, h1, h2⟩ := hr
  exact de_of (fun i => pe_un (h1 i) (anyE_ok i)) fun σ G H c Q q => ha σ G H c _ fun u G1 H1 m1 d1 => h2 G1 H1 u m1.cx.sub d1 Q fun w G2 H2 p d2 => q w G2 H2 (m1.pu p) d2
theorem de_cmp {op : CmpOp} (ha : DE F a S S1 x) (hb : DE F b S1 S2 y) (hr : OpD F (compareOp op) x y z) (hm : behindInMarks op b = false := by first | exact nomark _ | rfl) : DE F (.Compare a [op] [b] pos) S S2 z := by
  obtain ⟨r, h1, h2⟩ := hr
  exact de_of (fun i => pe_cmpR (h1 i) (anyE_ok i) (anyE_ok i) hm) (ev_op h2 ha hb)
theorem dt_cmp {op : CmpOp} {k : Bool} (ha : DE F a S S1 x) (hb : DE F b S1 S2 y) (hr : OpD F (compareOp op) x y (.bl k)) (hm : behindInMarks op b = false := by first | exact nomark _ | rfl) : DT F (.Compare a [op] [b] pos) S S2 k := by
  obtain ⟨r, h1, h2⟩ := hr
  refine dt_of (fun i => pt_cmpR (h1 i) (anyE_ok i) (anyE_ok i) hm) fun σ G H c Q q => ?_
  refine ev_op h2 ha hb σ G H c _ fun v G2 H2 m d => ?_
  cases d with
  | bl => exact ⟨k, rfl, q G2 H2 m⟩
/-- a < b < c -/
theorem de_chain {op op' : CmpOp} {c : Expr} {w : D} {k l : Bool} (ha : DE F a S S1 x) (hb : DE F b S1 S2 y) (hc : k = true → DE F c S2 S3 w) (hr : OpD F (compareOp op) x y (.bl k)) (hr' : k = true → OpD F (compareOp op') y w (.bl l)) (h0 : k = false → S2 = S3 := by intro _; rfl) (hm : lastMarks [op, op'] [b, c] = false := by with_unfolding_all rfl) : DE F (.Compare a [op, op'] [b, c] pos) S S3 (.bl (k && l)) := by
  obtain ⟨r, h1, h2⟩ := hr
  cases k with
  | true =>
    obtain ⟨r', h1', h2'⟩ := hr' rfl
    refine de_of (fun i => pe_chain (h1 i) (h1' i) (anyE_ok i) (anyE_ok i) (anyE_ok i) (hm := hm)) fun σ G H c' Q q => ?_
    refine ha σ G H c' _ fun u G1 H1 m1 d1 => hb σ G1 H1 m1.cx _ fun v G2 H2 m2 d2 => h2 G2 H2 u v m2.cx.sub (d1.mono m2.go.gg) d2 _ fun t G3 H3 p d3 => ?_
    cases d3 with
    | bl =>
      refine ⟨true, rfl, ?_⟩
      rw [if_pos rfl]
      have m3 := (m1.trans m2).pu p
      refine hc rfl σ G3 H3 m3.cx _ fun t' G4 H4 m4 d4 => h2' G4 H4 v t' m4.cx.sub ((d2.mono p.gg).mono m4.go.gg) d4 _ fun w5 G5 H5 p5 d5 => ?_
      exact q _ _ _ ((m3.trans m4).pu p5) d5
  | false =>
    cases h0 rfl
    refine de_of (fun i => pe_chain (h1 i) (fun _ _ _ _ _ _ _ _ _ _ _ _ z => False.elim z : OpR (F.X i) (compareOp op') fun _ _ _ _ => False) (anyE_ok i) (anyE_ok i) (anyE_ok i) (hm := hm)) fun σ G H c' Q q => ?_
    refine ha σ G H c' _ fun u G1 H1 m1 d1 => hb σ G1 H1 m1.cx _ fun v G2 H2 m2 d2 => h2 G2 H2 u v m2.cx.sub (d1.mono m2.go.gg) d2 _ fun t G3 H3 p d3 => ?_
    cases d3 with
    | bl =>
      refine ⟨false, rfl, ?_⟩
      rw [if_neg Bool.false_ne_true]
      exact q _ _ _ ((m1.trans m2).pu p) (.bl false)

theorem rd_I0 {C : Kc} {g : Int → Int → V} {i j : Int} {z : D} (h : ∀ G, Den C G (g i j) z) : RD C (rI0 g) (.int i) (.int j) z := fun G H u v s hu hv Q q => by
  cases hu; cases hv
  exact ⟨i, j, rfl, rfl, q _ _ _ (.refl s) (h G)⟩
theorem rd_I {C : Kc} {c : Int → Int → Prop} {g : Int → Int → V} {i j : Int} {z : D} (hc : c i j) (h : ∀ G, Den C G (g i j) z) : RD C (rI c g) (.int i) (.int j) z := fun G H u v s hu hv Q q => by
  cases hu; cases hv
  exact ⟨i, j, rfl, rfl, hc, q _ _ _ (.refl s) (h G)⟩
theorem od_add {i j : Int} : OpD F (binaryOp .Add) (.int i) (.int j) (.int (i + j)) := ⟨_, fun _ => op_add, rd_I0 fun _ => .int _⟩
theorem od_sub {i j : Int} : OpD F (binaryOp .Sub) (.int i) (.int j) (.int (i - j)) := ⟨_, fun _ => op_sub, rd_I0 fun _ => .int _⟩
theorem od_mul {i j : Int} (h : CMul i j) : OpD F (binaryOp .Mult) (.int i) (.int j) (.int (i * j)) := ⟨_, fun _ => op_mul, rd_I h fun _ => .int _⟩
theorem od_fdiv {i j : Int} (h : CDiv i j) : OpD F (binaryOp .FloorDiv) (.int i) (.int j) (.int (i / j)) := ⟨_, fun _ => op_fdiv, rd_I h fun _ => .int _⟩
theorem od_mod {i j : Int} (h : 0 < j) : OpD F (binaryOp .Mod) (.int i) (.int j) (.int (i % j)) := ⟨_, fun _ => op_mod, rd_I h fun _ => .int _⟩
theorem od_pow {i j : Int} (h : CPow i j) : OpD F (binaryOp .Pow) (.int i) (.int j) (.int (i ^ j.toNat)) := ⟨_, fun _ => op_pow, rd_I h fun _ => .int _⟩
theorem od_lt {i j : Int} : OpD F (compareOp .Lt) (.int i) (.int j) (.bl (decide (i < j))) := ⟨_, fun _ => op_lt, rd_I0 fun _ => .bl _⟩
theorem od_le {i j : Int} : OpD F (compareOp .LtE) (.int i) (.int j) (.bl (decide (i ≤ j))) := ⟨_, fun _ => op_le, rd_I0 fun _ => .bl _⟩
theorem od_gt {i j : Int} : OpD F (compareOp .Gt) (.int i) (.int j) (.bl (decide (j < i))) := ⟨_, fun _ => op_gt, rd_I0 fun _ => .bl _⟩
theorem od_ge {i j : Int} : OpD F (compareOp .GtE) (.int i) (.int j) (.bl (decide (j ≤ i))) := ⟨_, fun _ => op_ge, rd_I0 fun _ => .bl _⟩
theorem ud_neg {i : Int} : UnD F (unaryOp .USub) (.int i) (.int (-i)) := ⟨_, fun _ => un_neg, fun G H u s hu Q q => by
  cases hu
  exact ⟨i, rfl, q _ _ _ (.refl s) (.int _)⟩⟩
theorem od_eqI {i j : Int} : OpD F (compareOp .Eq) (.int i) (.int j) (.bl (decide (i = j))) := ⟨_, fun _ => op_eq, fun G H u v s hu hv Q q => by
  cases hu; cases hv
  refine ⟨rfl, ?_⟩
  have e : decide (V.int i = V.int j) = decide (i = j) := by rw [dec_int]; by_cases h : i = j <;> simp [h]
  rw [e]
  exact q _ _ _ (.refl s) (.bl _)⟩
theorem od_neI {i j : Int} : OpD F (compareOp .NotEq) (.int i) (.int j) (.bl (!decide (i = j))) := ⟨_, fun _ => op_ne, fun G H u v s hu hv Q q => by
  cases hu; cases hv
  refine ⟨rfl, ?_⟩
  have e : decide (V.int i = V.int j) = decide (i = j) := by rw [dec_int]; by_cases h : i = j <;> simp [h]
  rw [e]
  exact q _ _ _ (.refl s) (.bl _)⟩
theorem od_eqB {i j : Bool} : OpD F (compareOp .Eq) (.bl i) (.bl j) (.bl (decide (i = j))) := ⟨_, fun _ => op_eq, fun G H u v s hu hv Q q => by
  cases hu; cases hv
  refine ⟨rfl, ?_⟩
  have e : decide (V.bl i = V.bl j) = decide (i = j) := by cases i <;> cases j <;> rfl
  rw [e]
  exact q _ _ _ (.refl s) (.bl _)⟩
theorem od_neB {i j : Bool} : OpD F (compareOp .NotEq) (.bl i) (.bl j) (.bl (!decide (i = j))) := ⟨_, fun _ => op_ne, fun G H u v s hu hv Q q => by
  cases hu; cases hv
  refine ⟨rfl, ?_⟩
  have e : decide (V.bl i = V.bl j) = decide (i = j) := by cases i <;> cases j <;> rfl
  rw [e]
  exact q _ _ _ (.refl s) (.bl _)⟩

/-! ### and, or, not, if else -/
theorem dt_val {k : Bool} (h : DE F e S S1 (.bl k)) (he : ∀ i whole, isTrue e (F.X i).env whole = (do let v ← whole; standAt e.pos; holding [v] (truthy v)) := by intro _ _; rfl) : DT F e S S1 k :=
  dt_of (fun i => pt_val (anyE_ok i) (he i)) fun σ G H c Q q => h σ G H c _ fun v G2 H2 m d => by
    cases d with
    | bl => exact ⟨k, rfl, q G2 H2 m⟩
theorem dt_w {k : Bool} (h : DW F e S S1 k) : DT F e S S1 k := dt_of (fun i => (anyW_ok i).pt) h
theorem dw_and1 {k : Bool} (h : DT F a S S1 k) : DW F (.BoolOp .And [a] pos) S S1 k := dw_of (fun i => pw_and1 (anyT_ok i)) h
theorem dw_or1 {k : Bool} (h : DT F a S S1 k) : DW F (.BoolOp .Or [a] pos) S S1 k := dw_of (fun i => pw_or1 (anyT_ok i)) h
theorem dw_and {k l : Bool} {rest : List Expr} (h : DT F a S S1 k) (h2 : k = true → DW F (.BoolOp .And (b :: rest) pos) S1 S2 l) (h0 : k = false → S1 = S2 := by intro _; rfl) : DW F (.BoolOp .And (a :: b :: rest) pos) S S2 (k && l) :=
  dw_of (fun i => pw_and (anyT_ok i) (anyW_ok i)) fun σ G H c Q q => h σ G H c _ fun G1 H1 m => by
    cases k with
    | true => rw [if_pos rfl]; exact h2 rfl σ G1 H1 m.cx _ fun G2 H2 m2 => q G2 H2 (m.trans m2)
    | false => rw [if_neg Bool.false_ne_true]; cases h0 rfl; exact q G1 H1 m
theorem dw_or {k l : Bool} {rest : List Expr} (h : DT F a S S1 k) (h2 : k = false → DW F (.BoolOp .Or (b :: rest) pos) S1 S2 l) (h0 : k = true → S1 = S2 := by intro _; rfl) : DW F (.BoolOp .Or (a :: b :: rest) pos) S S2 (k || l) :=
  dw_of (fun i => pw_or (anyT_ok i) (anyW_ok i)) fun σ G H c Q q => h σ G H c _ fun G1 H1 m => by
    cases k with
    | false => rw [if_neg Bool.false_ne_true]; exact h2 rfl σ G1 H1 m.cx _ fun G2 H2 m2 => q G2 H2 (m.trans m2)
    | true => rw [if_pos rfl]; cases h0 rfl; exact q G1 H1 m
theorem dt_not {k : Bool} (h : DT F a S S1 k) : DT F (.UnaryOp .Not a pos) S S1 (!k) := dt_of (fun i => pt_not (anyT_ok i)) fun σ G H c Q q => h σ G H c _ fun G2 H2 m => q G2 H2 m
theorem de_one {op : BoolOp} (h : DE F a S S1 d) : DE F (.BoolOp op [a] pos) S S1 d := de_of (fun i => pe_one (anyE_ok i)) h
theorem de_and {k l : Bool} {rest : List Expr} (h : DE F a S S1 (.bl k)) (h2 : k = true → DE F (.BoolOp .And (b :: rest) pos) S1 S2 (.bl l)) (h0 : k = false → S1 = S2 := by intro _; rfl) : DE F (.BoolOp .And (a :: b :: rest) pos) S S2 (.bl (k && l)) :=
  de_of (fun i => pe_and (anyE_ok i) (anyE_ok i)) fun σ G H c Q q => h σ G H c _ fun v G1 H1 m dv => by
    cases dv with
    | bl =>
      refine ⟨k, rfl, ?_⟩
      cases k with
      | true => rw [if_pos rfl]; exact h2 rfl σ G1 H1 m.cx _ fun v2 G2 H2 m2 d2 => q v2 G2 H2 (m.trans m2) d2
      | false => rw [if_neg Bool.false_ne_true]; cases h0 rfl; exact q _ G1 H1 m (.bl false)
theorem de_or {k l : Bool} {rest : List Expr} (h : DE F a S S1 (.bl k)) (h2 : k = false → DE F (.BoolOp .Or (b :: rest) pos) S1 S2 (.bl l)) (h0 : k = true → S1 = S2 := by intro _; rfl) : DE F (.BoolOp .Or (a :: b :: rest) pos) S S2 (.bl (k || l)) :=
  de_of (fun i => pe_or (anyE_ok i) (anyE_ok i)) fun σ G H c Q q => h σ G H c _ fun v G1 H1 m dv => by
    cases dv with
    | bl =>
      refine ⟨k, rfl, ?_⟩
      cases k with
      | false => rw [if_neg Bool.false_ne_true]; exact h2 rfl σ G1 H1 m.cx _ fun v2 G2 H2 m2 d2 => q v2 G2 H2 (m.trans m2) d2
      | true => rw [if_pos rfl]; cases h0 rfl; exact q _ G1 H1 m (.bl true)
theorem de_not {k : Bool} (h : DE F a S S1 (.bl k)) : DE F (.UnaryOp .Not a pos) S S1 (.bl (!k)) := de_of (fun i => pe_not (anyE_ok i)) fun σ G H c Q q => h σ G H c _ fun v G1 H1 m dv => by
  cases dv with
  | bl => exact ⟨k, rfl, q _ G1 H1 m (.bl _)⟩
theorem de_if {c : Expr} {k : Bool} (hc : DT F c S S1 k) (h1 : k = true → DE F a S1 S2 d) (h2 : k = false → DE F b S1 S2 d) : DE F (.IfExp c a b pos) S S2 d :=
  de_of (fun i => pe_ifExp (anyT_ok i) (anyE_ok i) (anyE_ok i)) fun σ G H cx Q q => hc σ G H cx _ fun G1 H1 m => by
    cases k with
    | true => rw [if_pos rfl]; exact h1 rfl σ G1 H1 m.cx _ fun v2 G2 H2 m2 d2 => q v2 G2 H2 (m.trans m2) d2
    | false => rw [if_neg Bool.false_ne_true]; exact h2 rfl σ G1 H1 m.cx _ fun v2 G2 H2 m2 d2 => q v2 G2 H2 (m.trans m2) d2

/-! ### arguments, displays -/
theorem da_nil : DA F [] S S [] := da_of (fun _ => pa_nil) fun _ _ _ c _ q => q _ _ _ (.refl c) .nil
theorem da_cons {es : List Expr} {ds : List D} (h : DE F e S S1 d) (hr : DA F es S1 S2 ds) (hs : ∀ i, starEach (e :: es) (F.X i).env = (false, eval e (F.X i).env) :: starEach es (F.X i).env := by intro _; rfl) : DA F (e :: es) S S2 (d :: ds) :=
  da_of (fun i => pa_cons (anyE_ok i) (anyA_ok i) (hs i)) fun σ G H c Q q => h σ G H c _ fun v G1 H1 m d1 => hr σ G1 H1 m.cx _ fun vs G2 H2 m2 d2 => q _ G2 H2 (m.trans m2) (.cons (d1.mono m2.go.gg) d2)
theorem dk_nil : DK F [] S S [] := dk_of (fun _ => pk_nil) fun _ _ _ c _ q => q _ _ _ (.refl c) .nil
theorem dk_cons {nm : Option Str} {kpos : Pos} {es : List Keyword} {ds : List D} (h : DE F e S S1 d) (hr : DK F es S1 S2 ds) : DK F (⟨nm, e, kpos⟩ :: es) S S2 (d :: ds) :=
  dk_of (fun i => pk_cons (anyE_ok i) (anyK_ok i)) fun σ G H c Q q => h σ G H c _ fun v G1 H1 m d1 => hr σ G1 H1 m.cx _ fun vs G2 H2 m2 d2 => q _ G2 H2 (m.trans m2) (.cons (d1.mono m2.go.gg) d2)
theorem de_tup {es : List Expr} {x1 : Nat} {ds : List D} (h : DA F es S S1 ds) (hl : ds.length ≤ sizeLine := by decide) : DE F (.Tuple es x1 pos) S S1 (.tup ds) :=
  de_of (fun i => pe_tup (anyA_ok i)) fun σ G H c Q q => h σ G H c _ fun vs G1 H1 m dl => ⟨by rw [dl.length]; exact hl, fun p hp => by
    have n := m.cx.new (o := .tup vs) hp
    exact q _ _ _ (m.trans n) (.tup (SqT.of upd_same) (dl.mono n.go.gg))⟩
theorem de_lst {es : List Expr} {ds : List D} (h : DA F es S S1 ds) (hl : ds.length ≤ sizeLine := by decide) : DE F (.List es pos) S S1 (.lst ds) :=
  de_of (fun i => pe_lst (anyA_ok i)) fun σ G H c Q q => h σ G H c _ fun vs G1 H1 m dl => ⟨by rw [dl.length]; exact hl, fun p hp => by
    have n := m.cx.new (o := .lst vs) hp
    exact q _ _ _ (m.trans n) (.lst (SqL.of upd_same) (dl.mono n.go.gg))⟩

/-! ### an object's attribute -/
theorem de_fld {c : Nat} {f : Str} {fs : List (Str × D)} (h : DE F e S S1 (.obj c fs)) (hc : Cls F.C.K (F.C.cl c)) (hn : NoAttr F.C.K (F.C.cl c) f) (hl : fs.lookup f = some d)
    (hb : ∀ i, attributeBase e f (F.X i).env (eval e (F.X i).env) = eval e (F.X i).env := by intro _; rfl) : DE F (.Attribute e f pos) S S1 d :=
  de_of (te := tFld F.C.K (anyE F e) f) (fun i => by have := pe_fld (pos := pos) (anyE_ok (e := e) i) (hb i); rw [F.hK i] at this; exact this) fun σ G H cx Q q => h σ G H cx _ fun v G1 H1 m dv => by
    cases dv with
    | @obj a dx _ vs _ ha hf =>
      obtain ⟨w, h1, h2⟩ := hf.look hl
      exact ⟨a, _, dx, vs, w, rfl, m.cx.sub _ _ ha, hc, hn, h1, q _ _ _ m h2⟩

/-! ### items -/
def ixD (ds : List D) (i : Int) : Option D := atI ds i
theorem atI_den {C : Kc} {G : Hp} {vs : List V} {ds : List D} {i : Int} {d : D} (h : DenL C G vs ds) (e : atI ds i = some d) : ∃ v, atI vs i = some v ∧ Den C G v d := by
  unfold atI at e ⊢
  rw [h.length]
  cases q : ixN ds.length i with
  | none => rw [q] at e; cases e
  | some j =>
    rw [q] at e
    exact h.get e
theorem de_ixT {i : Int} {ds : List D} (ha : DE F a S S1 (.tup ds)) (hb : DE F b S1 S2 (.int i)) (hi : atI ds i = some d) (hs : PlainIx b := by intro _ _; rfl) : DE F (.Subscript a b pos) S S2 d :=
  de_of (te := tOp (rIxT F.C.K) (anyE F a) (anyE F b)) (fun j => by have := pe_ix (pos := pos) (ix_tup (X := F.X j)) (anyE_ok (e := a) j) (anyE_ok (e := b) j) hs; rw [F.hK j] at this; exact this)
    (ev_op (fun G H u v s hu hv Q q => by
      cases hu with
      | tup h l =>
        cases hv
        obtain ⟨w, h1, h2⟩ := atI_den l hi
        exact ⟨_, _, i, w, rfl, rfl, same_t s h, h1, q _ _ _ (.refl s) h2⟩) ha hb)
theorem de_ixL {i : Int} {ds : List D} (ha : DE F a S S1 (.lst ds)) (hb : DE F b S1 S2 (.int i)) (hi : atI ds i = some d) (hs : PlainIx b := by intro _ _; rfl) : DE F (.Subscript a b pos) S S2 d :=
  de_of (te := tOp (rIxL F.C.K) (anyE F a) (anyE F b)) (fun j => by have := pe_ix (pos := pos) (ix_list (X := F.X j)) (anyE_ok (e := a) j) (anyE_ok (e := b) j) hs; rw [F.hK j] at this; exact this)
    (ev_op (fun G H u v s hu hv Q q => by
      cases hu with
      | lst h l =>
        cases hv
        obtain ⟨w, h1, h2⟩ := atI_den l hi
        exact ⟨_, _, i, w, rfl, rfl, s.seq h, h1, q _ _ _ (.refl s) h2⟩) ha hb)
/-- an item of the handed list -/
theorem ev_bag {C : Kc} {tb : TE} {j : Nat} {i : Int} {bb : Addr} {ds : List D} (hj : S.s[j]? = some (some .bag)) (hb : EvM C tb S S1 (.int i)) (hj1 : S1.g = some (bb, .lst ds)) (hg : S.g = some (bb, .lst ds)) (hi : atI ds i = some d) : EvM C (tOp (rIxL C.K) (tVar j) tb) S S1 d := fun σ G H c Q q =>
  ⟨_, c.bg j _ _ hg hj, hb σ G H c _ fun v G1 H1 m dv => by
    cases dv
    have z := m.cx.bag
    rw [hj1] at z
    obtain ⟨_, vs, z2, z3⟩ := z
    obtain ⟨w, h1, h2⟩ := atI_den z3 hi
    exact ⟨_, vs, i, w, rfl, rfl, SqL.of z2, h1, q _ _ _ m h2⟩⟩
theorem de_bagIx {j : Nat} {x : Str} {i : Int} {p : Pos} {bb : Addr} {ds : List D} (hj : S.s[j]? = some (some .bag)) (hb : DE F b S S1 (.int i)) (hj1 : S1.g = some (bb, .lst ds)) (hg : S.g = some (bb, .lst ds)) (hi : atI ds i = some d) (hs : PlainIx b := by intro _ _; rfl)
    (hN : ∀ i, (F.X i).N[j]? = some x := by intro _; rfl) (hv : ∀ i, Vis (F.X i).env.scope x := by intro _; first | exact Or.inl rfl | exact Or.inr (Or.inl rfl) | exact Or.inr (Or.inr rfl))
    (hd : (x == ("__debug__" : Str)) = false := by decide) (hcd : (x == ("__classdict__" : Str)) = false := by decide) : DE F (.Subscript (.Name x p) b pos) S S1 d :=
  de_of (te := tOp (rIxL F.C.K) (tVar j) (anyE F b)) (fun k => by have := pe_ix (pos := pos) (ix_list (X := F.X k)) (pe_var (pos := p) (hN k) (hv k) hd hcd) (anyE_ok (e := b) k) hs; rw [F.hK k] at this; exact this) (ev_bag hj hb hj1 hg hi)

/-! ### calls of built-ins -/
def CaD (F : Fam) (f : Value) (xs : List D) (z : D) : Prop := ∃ r, (∀ i, CallR (F.X i) f r) ∧ RDL F.C r xs z
theorem ev_cb {C : Kc} {r : List V → Hp → VK → Prop} {ta : TA} {ds : List D} (hr : RDL C r ds z) (ha : EvA C ta S S1 ds) : EvM C (tCB r ta) S S1 z := fun σ G H c Q q =>
  ha σ G H c _ fun vs G1 H1 m dl => hr G1 H1 vs m.cx.sub dl Q fun w G2 H2 p d2 => q w G2 H2 (m.pu p) d2
theorem de_callB {x : Str} {id : String} {p : Pos} {es : List Expr} {ds : List D} (hm : F.mg x = none) (hv : bootBuiltins x = some (.builtin id)) (ha : DA F (e :: es) S S1 ds) (hr : CaD F (.builtin id) ds z)
    (hg : ∀ i, Gl (F.X i) x := by intro _; rfl) (hn : x ≠ "__name__" := by decide) (hdb : (x == ("__debug__" : Str)) = false := by decide)
    (he : ∀ i, starEach (e :: es) (F.X i).env = (false, eval e (F.X i).env) :: starEach es (F.X i).env := by intro _; rfl) (hpl : ∀ i, (backTo pos (starEach es (F.X i).env)).any (·.1) = false := by intro _; rfl) : DE F (.Call (.Name x p) (e :: es) [] pos) S S1 z := by
  obtain ⟨r, h1, h2⟩ := hr
  exact de_of (fun i => pe_callB (h1 i) (hg i) (by rw [F.hmg i]; exact hm) hv (anyA_ok i) hn hdb (he i) (hpl i)) (ev_cb h2 ha)
theorem de_callTy {x : Str} {T : String} {p : Pos} {es : List Expr} {ds : List D} (hm : F.mg x = none) (hv : bootBuiltins x = some (.type T)) (ha : DA F (e :: es) S S1 ds) (hr : CaD F (.type T) ds z)
    (hg : ∀ i, Gl (F.X i) x := by intro _; rfl) (hn : x ≠ "__name__" := by decide) (hdb : (x == ("__debug__" : Str)) = false := by decide)
    (he : ∀ i, starEach (e :: es) (F.X i).env = (false, eval e (F.X i).env) :: starEach es (F.X i).env := by intro _; rfl) (hpl : ∀ i, (backTo pos (starEach es (F.X i).env)).any (·.1) = false := by intro _; rfl) : DE F (.Call (.Name x p) (e :: es) [] pos) S S1 z := by
  obtain ⟨r, h1, h2⟩ := hr
  exact de_of (fun i => pe_callTy (h1 i) (hg i) (by rw [F.hmg i]; exact hm) hv (anyA_ok i) hn hdb (he i) (hpl i)) (ev_cb h2 ha)
theorem ca_abs {i : Int} : CaD F (.builtin "abs") [.int i] (.int (if i < 0 then -i else i)) := ⟨_, fun _ => call_abs, fun G H us s h Q q => by
  cases h with
  | cons h l => cases h; cases l; exact ⟨i, rfl, q _ _ _ (.refl s) (.int _)⟩⟩
theorem ca_int {i : Int} : CaD F (.type "int") [.int i] (.int i) := ⟨_, fun _ => call_int1, fun G H us s h Q q => by
  cases h with
  | cons h l => cases h; cases l; exact .inl ⟨i, rfl, q _ _ _ (.refl s) (.int _)⟩⟩
theorem ca_intB {k : Bool} : CaD F (.type "int") [.bl k] (.int (if k then 1 else 0)) := ⟨_, fun _ => call_int1, fun G H us s h Q q => by
  cases h with
  | cons h l => cases h; cases l; exact .inr ⟨k, rfl, q _ _ _ (.refl s) (.int _)⟩⟩
theorem ca_max {i j : Int} : CaD F (.builtin "max") [.int i, .int j] (.int (if j > i then j else i)) := ⟨_, fun k => call_max2 (F.calm k), fun G H us s h Q q => by
  cases h with
  | cons h l => cases l with
    | cons h2 l => cases h; cases h2; cases l; exact ⟨i, j, rfl, q _ _ _ (.refl s) (.int _)⟩⟩
theorem ca_min {i j : Int} : CaD F (.builtin "min") [.int i, .int j] (.int (if j < i then j else i)) := ⟨_, fun k => call_min2 (F.calm k), fun G H us s h Q q => by
  cases h with
  | cons h l => cases l with
    | cons h2 l => cases h; cases h2; cases l; exact ⟨i, j, rfl, q _ _ _ (.refl s) (.int _)⟩⟩
theorem ca_lenT {ds : List D} : CaD F (.builtin "len") [.tup ds] (.int ds.length) := ⟨fun xs H Q => ∃ p ys, xs = [.ref p] ∧ (SqL F.C.K H p ys ∨ SqT F.C.K H p ys) ∧ Q (.int ys.length) H, fun i => by have := call_len_seq (X := F.X i); rw [F.hK i] at this; exact this, fun G H us s h Q q => by
  cases h with
  | cons h l => cases h with
    | tup h1 h2 => cases l; exact ⟨_, _, rfl, .inr (same_t s h1), q _ _ _ (.refl s) (by rw [h2.length]; exact .int _)⟩⟩
theorem ca_lenL {ds : List D} : CaD F (.builtin "len") [.lst ds] (.int ds.length) := ⟨fun xs H Q => ∃ p ys, xs = [.ref p] ∧ (SqL F.C.K H p ys ∨ SqT F.C.K H p ys) ∧ Q (.int ys.length) H, fun i => by have := call_len_seq (X := F.X i); rw [F.hK i] at this; exact this, fun G H us s h Q q => by
  cases h with
  | cons h l => cases h with
    | lst h1 h2 => cases l; exact ⟨_, _, rfl, .inl (s.seq h1), q _ _ _ (.refl s) (by rw [h2.length]; exact .int _)⟩⟩
theorem ca_lenS {x : Str} (hx : x.length ≤ sizeLine) : CaD F (.builtin "len") [.str x] (.int x.length) := ⟨_, fun _ => call_len_str, fun G H us s h Q q => by
  cases h with
  | cons h l => cases h; cases l; exact ⟨x, rfl, hx, q _ _ _ (.refl s) (.int _)⟩⟩
end
end DL
/-! DL3: promises of defs on data, calls by them, a def's body. -/
namespace DL
open PySem L2

/-- a promise without changes: arguments ds, answer d -/
def spP (C : Kc) (R : List D → D → Prop) : Sp := fun vs H Q _ => ∃ (G : Hp) (ds : List D) (d : D), R ds d ∧ Same G H ∧ DenL C G vs ds ∧ ∀ v G2 H2, Pu G H G2 H2 → Den C G2 v d → Q v H2
/-- the first argument is a list that is changed: from gs to gs' -/
def spB (C : Kc) (R : List D → List D → D → List D → Prop) : Sp := fun vs H Q _ => ∃ (G : Hp) (b : Addr) (ws gv : List V) (ds gs : List D) (d : D) (gs' : List D), vs = .ref b :: ws ∧ R ds gs d gs' ∧ Same G H ∧ G b = none ∧ H b = some (.lst gv) ∧ DenL C G gv gs ∧ DenL C G ws ds ∧
  ∀ v G2 H2 gv', Go (fun a => a = b) G H G2 H2 → Same G2 H2 → G2 b = none → H2 b = some (.lst gv') → DenL C G2 gv' gs' → Den C G2 v d → Q v H2
/-- a new list is handed back, to be the caller's own -/
def spO (C : Kc) (R : List D → List D → Prop) : Sp := fun vs H Q _ => ∃ (G : Hp) (ds es : List D), R ds es ∧ Same G H ∧ DenL C G vs ds ∧ ∀ p ev G2 H2, Pu G H G2 H2 → H p = none → G2 p = none → H2 p = some (.lst ev) → DenL C G2 ev es → Q (.ref p) H2
/-- an __init__: the new instance of the class c gets the attributes fs -/
def spI (C : Kc) (c : Nat) (R : List D → List (Str × D) → Prop) : Sp := fun vs H Q _ => ∃ (G : Hp) (b dx : Addr) (ws : List V) (ds : List D) (fs : List (Str × D)), vs = .ref b :: ws ∧ R ds fs ∧ Same G H ∧ G b = none ∧ H b = some (.ins (C.cl c) dx []) ∧ DenL C G ws ds ∧
  ∀ G2 H2 dx2 fv, Go (fun a => a = b) G H G2 H2 → Same G2 H2 → G2 b = none → H2 b = some (.ins (C.cl c) dx2 fv) → DenF C G2 fv fs → Q .non H2

def perm {α : Type} : List Nat → List α → List α
  | [], _ => []
  | i :: r, xs => match xs[i]? with
    | some x => x :: perm r xs
    | none => perm r xs
theorem DenL.perm {C : Kc} {G : Hp} {vs : List V} {ds : List D} (h : DenL C G vs ds) : ∀ ix : List Nat, DenL C G (perm ix vs) (perm ix ds)
  | [] => .nil
  | i :: r => by
    unfold DL.perm
    cases q : ds[i]? with
    | none =>
      have : vs[i]? = none := by
        rw [List.getElem?_eq_none_iff] at q ⊢
        rw [h.length]; exact q
      rw [this]
      exact DenL.perm h r
    | some d =>
      obtain ⟨v, h1, h2⟩ := h.get q
      rw [h1]
      exact .cons h2 (DenL.perm h r)
theorem Vals.perm {vs : List V} {us : List Value} (h : Vals vs us) : ∀ ix : List Nat, Vals (perm ix vs) (perm ix us)
  | [] => .nil
  | i :: r => by
    unfold DL.perm
    cases q : vs[i]? with
    | none => rw [h.none_of q]; exact Vals.perm h r
    | some d =>
      obtain ⟨v, h1, h2⟩ := h.get q
      rw [h1]
      exact .cons h2 (Vals.perm h r)

section
variable (P : Program) (w : World) (C : Kc) (mg : Str → Option Value) (base : Heap)
/-- the def x of the module keeps the promise sp at level k, all parameters given by place -/
def Cal (k : Nat) (x : Str) (sp : Sp) : Prop := ∃ f fd ps, FnOk P w C.K mg base CX0 k f fd ps sp ∧ mg x = some (.ref f) ∧ PySem.W.keepIn C.K (.ref f) = true ∧ Binds C.K fd ps []
/-- .. by names: ks in this order, ix the place of each parameter among them -/
def CalK (k : Nat) (x : Str) (sp : Sp) (ks : List Str) (ix : List Nat) : Prop := ∃ f fd ps, FnOk P w C.K mg base CX0 k f fd ps sp ∧ mg x = some (.ref f) ∧ PySem.W.keepIn C.K (.ref f) = true ∧ KBn C.K fd ps 0 ks (fun us ws => us ++ perm ix ws) (fun vs zs => vs ++ perm ix zs)
/-- the class x, number c: made by R; dd: the defaults that fill up -/
def Mak (k : Nat) (x : Str) (c : Nat) (R : List D → List (Str × D) → Prop) (dd : List D) : Prop := ∃ f fd ps ds dvs, FnOk P w C.K mg base CX0 k f fd ps (spI C c R) ∧ mg x = some (.ref (C.cl c)) ∧ Mk C.K (C.cl c) f ∧ Binds C.K fd ps ds ∧ Vals dvs ds ∧ ∀ G, DenL C G dvs dd
def MakK (k : Nat) (x : Str) (c : Nat) (R : List D → List (Str × D) → Prop) (ks : List Str) (ix : List Nat) : Prop := ∃ f fd ps g, FnOk P w C.K mg base CX0 k f fd ps (spI C c R) ∧ mg x = some (.ref (C.cl c)) ∧ Mk C.K (C.cl c) f ∧
  KBn C.K fd ps 1 ks g (fun vs zs => vs ++ perm ix zs)
/-- the method m of the class c; ds: the instance first -/
def Met (k : Nat) (c : Nat) (m : Str) (sp : Sp) : Prop := ∃ f fd ps, FnOk P w C.K mg base CX0 k f fd ps sp ∧ Cls C.K (C.cl c) ∧ Meth C.K (C.cl c) m f ∧ Binds C.K fd ps []
def MetK (k : Nat) (c : Nat) (m : Str) (sp : Sp) (ks : List Str) (ix : List Nat) : Prop := ∃ f fd ps, FnOk P w C.K mg base CX0 k f fd ps sp ∧ Cls C.K (C.cl c) ∧ Meth C.K (C.cl c) m f ∧ KBn C.K fd ps 1 ks (fun us ws => us ++ perm ix ws) (fun vs zs => vs ++ perm ix zs)
end

section
variable {F : Fam} {S S1 S2 S3 : ST} {e a b : Expr} {d x y z : D} {pos p apos : Pos} {es : List Expr} {ds : List D} {k : Nat} {nm : Str} {kws : List Keyword}

theorem fn_at {i : F.I} {k : Nat} {f : Addr} {fd : FuncData} {ps : List Str} {sp : Sp} (G : FnOk F.P F.w F.C.K F.mg F.base CX0 k f fd ps sp) : FnOk (F.X i).prog (F.X i).w (F.X i).K (F.X i).mg (F.X i).base CX0 k f fd ps sp := by
  rw [F.hP, F.hw, F.hK, F.hmg, F.hbase]; exact G

/-! ### a call without changes -/
theorem ev_sp {C : Kc} {R : List D → D → Prop} {ta : TA} {E : XK} (hR : R ds d) (ha : EvA C ta S S1 ds) : EvM C (fun σ H Q => ta σ H fun vs H1 => spP C R vs H1 Q E) S S1 d := fun σ G H c Q q =>
  ha σ G H c _ fun vs G1 H1 m dl => ⟨G1, ds, d, hR, m.cx.sub, dl, fun v G2 H2 p dv => q v G2 H2 (m.pu p) dv⟩
theorem de_call {R : List D → D → Prop} (c : Cal F.P F.w F.C F.mg F.base k nm (spP F.C R)) (ha : DA F (e :: es) S S1 ds) (hR : R ds d) (hk : k ≤ F.k := by exact Nat.le_of_ble_eq_true rfl)
    (hg : ∀ i, Gl (F.X i) nm := by intro _; rfl) (hdb : (nm == ("__debug__" : Str)) = false := by decide)
    (he : ∀ i, starEach (e :: es) (F.X i).env = (false, eval e (F.X i).env) :: starEach es (F.X i).env := by intro _; rfl) (hpl : ∀ i, (backTo pos (starEach es (F.X i).env)).any (·.1) = false := by intro _; rfl) : DE F (.Call (.Name nm p) (e :: es) [] pos) S S1 d := by
  obtain ⟨f, fd, ps, G, hm, hkp, hb⟩ := c
  refine de_of (te := tCall (spP F.C R) [] E0 (anyA F (e :: es))) (fun i => pe_call (fn_at G) ((F.room i).mono hk) (hg i) (by rw [F.hmg i]; exact hm) (by rw [F.hK i]; exact hkp) (by rw [F.hK i]; exact hb) .nil pass0 (anyA_ok i) hdb (he i) (hpl i)) ?_
  intro σ G H cx Q q
  refine ha σ G H cx _ fun vs G1 H1 m dl => ?_
  rw [List.append_nil]
  exact ⟨G1, ds, d, hR, m.cx.sub, dl, fun v G2 H2 p dv => q v G2 H2 (m.pu p) dv⟩
theorem pe_callK0 {X : Cx} {f : Addr} {fd : FuncData} {ps ks : List Str} {sp : Sp} {E : XK} {x : Str} {g : List Value → List Value → List Value} {gV : List V → List V → List V} {CX : CXT} {tk : TA}
    (G : FnOk X.prog X.w X.K X.mg X.base CX k f fd ps sp) (hr : Room k X.A) (hg : Gl X x) (hm : X.mg x = some (.ref f)) (hk : PySem.W.keepIn X.K (.ref f) = true) (hb : KBn X.K fd ps 0 ks g gV) (hx : Passes CX X E) (hkw : PK X kws tk)
    (hall : (backToKw pos (keywordEach kws X.env)).all (·.1.isSome) = true := by rfl) (hks : (backToKw pos (keywordEach kws X.env)).filterMap (·.1) = ks := by rfl) (hdb : (x == ("__debug__" : Str)) = false := by decide)
    (hpl : ((backTo pos (starEach [] X.env)).any (·.1) || (backToKw pos (keywordEach kws X.env)).any (·.1.isNone)) = false := by rfl) :
    PE X (.Call (.Name x p) [] kws pos) (tCallN 0 ks.length sp gV E tNil tk) := by
  refine ⟨fun pins s σ H Q I h => ?_⟩
  refine wpAny_Call_Name_kw (ld_glob I hg hm ?_ hdb)
  refine PySem.W.callWith_KW0 (h₀ := X.base) I.ok.mod.kin hk hall ?_ hpl
  refine thn (hkw.run pos pins s σ H _ I h) fun ws s2 ⟨zs, H2, I2, rz, l1, l2, q2⟩ => ⟨I2.kIn, ?_⟩
  rw [hks]
  exact run_fnN (us := []) (vs := []) G hr hb hx I2 .nil rz rfl l2 q2
theorem de_callK {R : List D → D → Prop} {ks : List Str} {ix : List Nat} (c : CalK F.P F.w F.C F.mg F.base k nm (spP F.C R) ks ix) (ha : DK F kws S S1 ds) (hR : R (perm ix ds) d) (hl : ds.length = ks.length := by rfl) (hk : k ≤ F.k := by exact Nat.le_of_ble_eq_true rfl)
    (hg : ∀ i, Gl (F.X i) nm := by intro _; rfl) (hdb : (nm == ("__debug__" : Str)) = false := by decide) (hall : ∀ i, (backToKw pos (keywordEach kws (F.X i).env)).all (·.1.isSome) = true := by intro _; rfl)
    (hks : ∀ i, (backToKw pos (keywordEach kws (F.X i).env)).filterMap (·.1) = ks := by intro _; rfl) (hpl : ∀ i, ((backTo pos (starEach [] (F.X i).env)).any (·.1) || (backToKw pos (keywordEach kws (F.X i).env)).any (·.1.isNone)) = false := by intro _; rfl) : DE F (.Call (.Name nm p) [] kws pos) S S1 d := by
  obtain ⟨f, fd, ps, G, hm, hkp, hb⟩ := c
  refine de_of (te := tCallN 0 ks.length (spP F.C R) (fun vs zs => vs ++ perm ix zs) E0 tNil (anyK F kws)) (fun i => pe_callK0 (fn_at G) ((F.room i).mono hk) (hg i) (by rw [F.hmg i]; exact hm) (by rw [F.hK i]; exact hkp) (by rw [F.hK i]; exact hb) pass0 (anyK_ok i) (hall i) (hks i) hdb (hpl i)) ?_
  intro σ G H cx Q q
  refine ha σ G H cx _ fun vs G1 H1 m dl => ?_
  refine ⟨rfl, by rw [dl.length]; exact hl, ?_⟩
  show spP F.C R (perm ix vs) H1 Q E0
  exact ⟨G1, _, d, hR, m.cx.sub, dl.perm ix, fun v G2 H2 p dv => q v G2 H2 (m.pu p) dv⟩

/-! ### a new instance -/
theorem make_ev {C : Kc} {c : Nat} {R : List D → List (Str × D) → Prop} {fs : List (Str × D)} {σ : L2.St} {G H : Hp} {vs : List V} {E : XK} {Q : VK} (cx : Ctx C G H σ S) (dl : DenL C G vs ds) (hR : R ds fs)
    (q : ∀ v G2 H2, Mv C σ S G H S G2 H2 → Den C G2 v (.obj c fs) → Q v H2) :
    ∀ x dx, H x = none → H dx = none → dx ≠ x → spI C c R (.ref x :: vs) (upd (upd H dx (.own x)) x (.ins (C.cl c) dx [])) (fun v H2 => v = .non ∧ Q (.ref x) H2) E := by
  intro x dx hx hdx ne
  have gx : G x = none := cx.sub.free hx
  have gd : G dx = none := cx.sub.free hdx
  have s1 : Same H (upd (upd H dx (.own x)) x (.ins (C.cl c) dx [])) := fun a o h => by
    rw [upd_ne (ne_of_none h hx), upd_ne (ne_of_none h hdx)]; exact h
  refine ⟨G, x, dx, vs, ds, fs, rfl, hR, cx.sub.trans s1, gx, upd_same, dl, fun G2 H2 dx2 fv go sub g2 h2 df => ⟨rfl, ?_⟩⟩
  have hk : Same H H2 := fun a o h => go.keep a o (ne_of_none h hx) (s1 a o h)
  refine q (.ref x) (upd G2 x (.ins (C.cl c) dx2 fv)) H2 ?_ (.obj upd_same (df.mono fun a o h => by rw [upd_ne (ne_of_none h g2)]; exact h))
  refine cx.mv hk (fun a o h => ?_) (fun a o h => ?_) (fun a h1 hg => ?_)
  · rw [upd_ne (ne_of_none h gx)]; exact go.gg a o h
  · by_cases z : a = x
    · subst z; rw [upd_same] at h; cases h; exact h2
    · rw [upd_ne z] at h; exact sub a o h
  · have z : a ≠ x := fun z => h1 (by rw [z]; exact hx)
    rw [upd_ne z]
    exact go.fr a z (by
      rw [upd_ne z]
      by_cases z2 : a = dx
      · subst z2; rw [upd_same]; simp
      · rw [upd_ne z2]; exact h1) hg
theorem de_make {c : Nat} {R : List D → List (Str × D) → Prop} {dd : List D} {fs : List (Str × D)} (mk : Mak F.P F.w F.C F.mg F.base k nm c R dd) (ha : DA F (e :: es) S S1 ds) (hR : R (ds ++ dd) fs) (hk : k + 1 ≤ F.k := by exact Nat.le_of_ble_eq_true rfl)
    (hg : ∀ i, Gl (F.X i) nm := by intro _; rfl) (hdb : (nm == ("__debug__" : Str)) = false := by decide)
    (he : ∀ i, starEach (e :: es) (F.X i).env = (false, eval e (F.X i).env) :: starEach es (F.X i).env := by intro _; rfl) (hpl : ∀ i, (backTo pos (starEach es (F.X i).env)).any (·.1) = false := by intro _; rfl) : DE F (.Call (.Name nm p) (e :: es) [] pos) S S1 (.obj c fs) := by
  obtain ⟨f, fd, ps, dus, dvs, G, hm, M, hb, hv, hd⟩ := mk
  refine de_of (te := tMake (F.C.cl c) (spI F.C c R) dvs E0 (anyA F (e :: es))) (fun i => pe_make (by rw [F.hK i]; exact M) (fn_at G) ((F.room i).mono hk) (hg i) (by rw [F.hmg i]; exact hm) (by rw [F.hK i]; exact hb) hv pass0 (anyA_ok i) hdb (he i) (hpl i)) ?_
  intro σ G H cx Q q
  refine ha σ G H cx _ fun vs G1 H1 m dl => ?_
  exact make_ev m.cx (dl.append (hd G1)) hR fun v G2 H2 m2 dv => q v G2 H2 (m.trans m2) dv
theorem de_makeK {c : Nat} {R : List D → List (Str × D) → Prop} {ks : List Str} {ix : List Nat} {fs : List (Str × D)} (mk : MakK F.P F.w F.C F.mg F.base k nm c R ks ix) (ha : DK F kws S S1 ds) (hR : R (perm ix ds) fs) (hl : ds.length = ks.length := by rfl) (hk : k + 1 ≤ F.k := by exact Nat.le_of_ble_eq_true rfl)
    (hg : ∀ i, Gl (F.X i) nm := by intro _; rfl) (hdb : (nm == ("__debug__" : Str)) = false := by decide) (hall : ∀ i, (backToKw pos (keywordEach kws (F.X i).env)).all (·.1.isSome) = true := by intro _; rfl)
    (hks : ∀ i, (backToKw pos (keywordEach kws (F.X i).env)).filterMap (·.1) = ks := by intro _; rfl) (hpl : ∀ i, ((backTo pos (starEach [] (F.X i).env)).any (·.1) || (backToKw pos (keywordEach kws (F.X i).env)).any (·.1.isNone)) = false := by intro _; rfl) : DE F (.Call (.Name nm p) [] kws pos) S S1 (.obj c fs) := by
  obtain ⟨f, fd, ps, g, G, hm, M, hb⟩ := mk
  refine de_of (te := tMakeK (F.C.cl c) 0 ks.length (spI F.C c R) (fun vs zs => vs ++ perm ix zs) E0 tNil (anyK F kws)) (fun i => pe_makeK0 (by rw [F.hK i]; exact M) (fn_at G) ((F.room i).mono hk) (hg i) (by rw [F.hmg i]; exact hm) (by rw [F.hK i]; exact hb) pass0 (anyK_ok i) (hall i) (hks i) hdb (hpl i)) ?_
  intro σ G H cx Q q
  refine ha σ G H cx _ fun vs G1 H1 m dl => ⟨rfl, by rw [dl.length]; exact hl, ?_⟩
  exact make_ev m.cx (dl.perm ix) hR fun v G2 H2 m2 dv => q v G2 H2 (m.trans m2) dv

/-! ### a method without changes -/
theorem de_meth {c : Nat} {m : Str} {fs : List (Str × D)} {R : List D → D → Prop} (mt : Met F.P F.w F.C F.mg F.base k c m (spP F.C R)) (ho : DE F a S S1 (.obj c fs)) (ha : DA F (e :: es) S1 S2 ds) (hR : R (.obj c fs :: ds) d) (hn : fs.lookup m = none := by rfl) (hk : k ≤ F.k := by exact Nat.le_of_ble_eq_true rfl)
    (pl : F.I → Sem Bool) (he : ∀ i, starEach (e :: es) (F.X i).env = (false, eval e (F.X i).env) :: starEach es (F.X i).env := by intro _; rfl) (hpl : ∀ i, (backTo pos (starEach es (F.X i).env)).any (·.1) = false := by intro _; rfl)
    (ht : ∀ i, eval (.Call (.Attribute a m apos) (e :: es) [] pos) (F.X i).env = (do
      let ov ← eval a (F.X i).env
      standAt apos.atName
      let (f, first) ← holding [ov] (getMethod ov m (pl i))
      callWith pos f first (backTo pos (starEach (e :: es) (F.X i).env)) (backToKw pos (keywordEach [] (F.X i).env))) := by intro _; rfl) : DE F (.Call (.Attribute a m apos) (e :: es) [] pos) S S2 d := by
  obtain ⟨f, fd, ps, G, hc, hme, hb⟩ := mt
  refine de_of (te := tMeth (F.C.cl c) m (spP F.C R) [] E0 (anyE F a) (anyA F (e :: es))) (fun i => pe_meth (pl := pl i) (anyE_ok i) (by rw [F.hK i]; exact hc) (by rw [F.hK i]; exact hme) (fn_at G) ((F.room i).mono hk) (by rw [F.hK i]; exact hb) .nil pass0 (anyA_ok i) (he i) (hpl i) (ht i)) ?_
  intro σ G H cx Q q
  refine ho σ G H cx _ fun v G1 H1 m1 dv => ?_
  cases dv with
  | @obj o dx _ vs _ h1 h2 =>
    refine ⟨o, dx, vs, rfl, m1.cx.sub _ _ h1, h2.lookN hn, ?_⟩
    refine ha σ G1 H1 m1.cx _ fun vs G2 H2 m2 dl => ?_
    rw [List.append_nil]
    exact ⟨G2, _, d, hR, m2.cx.sub, .cons ((Den.obj h1 h2).mono m2.go.gg) dl, fun v G3 H3 p dv => q v G3 H3 ((m1.trans m2).pu p) dv⟩
theorem de_meth0 {c : Nat} {m : Str} {fs : List (Str × D)} {R : List D → D → Prop} (mt : Met F.P F.w F.C F.mg F.base k c m (spP F.C R)) (ho : DE F a S S1 (.obj c fs)) (hR : R [.obj c fs] d) (hn : fs.lookup m = none := by rfl) (hk : k ≤ F.k := by exact Nat.le_of_ble_eq_true rfl)
    (pl : F.I → Sem Bool)
    (ht : ∀ i, eval (.Call (.Attribute a m apos) [] [] pos) (F.X i).env = (do
      let ov ← eval a (F.X i).env
      standAt apos.atName
      let (f, first) ← holding [ov] (getMethod ov m (pl i))
      callWith pos f first (backTo pos (starEach [] (F.X i).env)) (backToKw pos (keywordEach [] (F.X i).env))) := by intro _; rfl) : DE F (.Call (.Attribute a m apos) [] [] pos) S S1 d := by
  obtain ⟨f, fd, ps, G, hc, hme, hb⟩ := mt
  refine de_of (te := tMeth (F.C.cl c) m (spP F.C R) [] E0 (anyE F a) tNil) (fun i => pe_meth0 (pl := pl i) (anyE_ok i) (by rw [F.hK i]; exact hc) (by rw [F.hK i]; exact hme) (fn_at G) ((F.room i).mono hk) (by rw [F.hK i]; exact hb) .nil pass0 (ht i)) ?_
  intro σ G H cx Q q
  refine ho σ G H cx _ fun v G1 H1 m1 dv => ?_
  cases dv with
  | @obj o dx _ vs _ h1 h2 =>
    refine ⟨o, dx, vs, rfl, m1.cx.sub _ _ h1, h2.lookN hn, ?_⟩
    exact ⟨G1, _, d, hR, m1.cx.sub, .cons (.obj h1 h2) .nil, fun v G3 H3 p dv => q v G3 H3 (m1.pu p) dv⟩
def tMethN (C : Addr) (m : Str) (n : Nat) (sp : Sp) (gV : List V → List V → List V) (E : XK) (ta : TE) (tk : TA) : TE := fun σ H Q => ta σ H fun x H1 => ∃ a dx fs, x = .ref a ∧ H1 a = some (.ins C dx fs) ∧ fs.lookup m = none ∧ tk σ H1 fun zs H2 => zs.length = n ∧ sp (gV [x] zs) H2 Q E
theorem pe_methK0 {X : Cx} {pl : Sem Bool} {o : Expr} {ta : TE} {C f : Addr} {m : Str} {fd : FuncData} {ps ks : List Str} {sp : Sp} {E : XK} {CX : CXT} {tk : TA} {g : List Value → List Value → List Value} {gV : List V → List V → List V}
    (he : PE X o ta) (c : Cls X.K C) (hm : Meth X.K C m f) (G : FnOk X.prog X.w X.K X.mg X.base CX k f fd ps sp) (hr : Room k X.A) (hb : KBn X.K fd ps 1 ks g gV) (hx : Passes CX X E) (hkw : PK X kws tk)
    (hall : (backToKw pos (keywordEach kws X.env)).all (·.1.isSome) = true := by rfl) (hks : (backToKw pos (keywordEach kws X.env)).filterMap (·.1) = ks := by rfl)
    (hpl : ((backTo pos (starEach [] X.env)).any (·.1) || (backToKw pos (keywordEach kws X.env)).any (·.1.isNone)) = false := by rfl)
    (ht : eval (.Call (.Attribute o m apos) [] kws pos) X.env = (do
      let ov ← eval o X.env
      standAt apos.atName
      let (f, first) ← holding [ov] (getMethod ov m pl)
      callWith pos f first (backTo pos (starEach [] X.env)) (backToKw pos (keywordEach kws X.env))) := by rfl) :
    PE X (.Call (.Attribute o m apos) [] kws pos) (tMethN C m ks.length sp gV E ta tk) := by
  refine ⟨fun pins s σ H Q I h => ?_⟩
  refine PySem.W.methodCall_KW (pl := pl) (thn (he.run pins s σ H _ I h) fun u s1 ⟨x, H1, I1, rx, a, dx, fs, ex, ea, l, q⟩ => ?_) ht
  subst ex
  obtain rfl : u = Value.ref a := rx
  refine getmeth_ok I1 ea c hm l ?_
  refine PySem.W.callWith_KW0 (first := [.ref a]) (h₀ := X.base) I.ok.mod.kin hm.kp hall ?_ hpl
  refine thn (hkw.run pos pins s1 σ H1 _ I1 q) fun ws s2 ⟨zs, H2, I2, rz, l2, q2⟩ => ⟨I2.kIn, ?_⟩
  rw [hks]
  exact run_fnN (us := [.ref a]) (vs := [.ref a]) G hr hb hx I2 (.cons rfl .nil) rz rfl l2 q2
theorem de_methK {c : Nat} {m : Str} {fs : List (Str × D)} {R : List D → D → Prop} {ks : List Str} {ix : List Nat} (mt : MetK F.P F.w F.C F.mg F.base k c m (spP F.C R) ks ix) (ho : DE F a S S1 (.obj c fs)) (ha : DK F kws S1 S2 ds) (hR : R (.obj c fs :: perm ix ds) d) (hn : fs.lookup m = none := by rfl) (hl : ds.length = ks.length := by rfl) (hk : k ≤ F.k := by exact Nat.le_of_ble_eq_true rfl)
    (pl : F.I → Sem Bool) (hall : ∀ i, (backToKw pos (keywordEach kws (F.X i).env)).all (·.1.isSome) = true := by intro _; rfl)
    (hks : ∀ i, (backToKw pos (keywordEach kws (F.X i).env)).filterMap (·.1) = ks := by intro _; rfl) (hpl : ∀ i, ((backTo pos (starEach [] (F.X i).env)).any (·.1) || (backToKw pos (keywordEach kws (F.X i).env)).any (·.1.isNone)) = false := by intro _; rfl)
    (ht : ∀ i, eval (.Call (.Attribute a m apos) [] kws pos) (F.X i).env = (do
      let ov ← eval a (F.X i).env
      standAt apos.atName
      let (f, first) ← holding [ov] (getMethod ov m (pl i))
      callWith pos f first (backTo pos (starEach [] (F.X i).env)) (backToKw pos (keywordEach kws (F.X i).env))) := by intro _; rfl) : DE F (.Call (.Attribute a m apos) [] kws pos) S S2 d := by
  obtain ⟨f, fd, ps, G, hc, hme, hb⟩ := mt
  refine de_of (te := tMethN (F.C.cl c) m ks.length (spP F.C R) (fun vs zs => vs ++ perm ix zs) E0 (anyE F a) (anyK F kws)) (fun i => pe_methK0 (pl := pl i) (anyE_ok i) (by rw [F.hK i]; exact hc) (by rw [F.hK i]; exact hme) (fn_at G) ((F.room i).mono hk) (by rw [F.hK i]; exact hb) pass0 (anyK_ok i) (hall i) (hks i) (hpl i) (ht i)) ?_
  intro σ G H cx Q q
  refine ho σ G H cx _ fun v G1 H1 m1 dv => ?_
  cases dv with
  | @obj o dx _ vs _ h1 h2 =>
    refine ⟨o, dx, vs, rfl, m1.cx.sub _ _ h1, h2.lookN hn, ?_⟩
    refine ha σ G1 H1 m1.cx _ fun vs G2 H2 m2 dl => ⟨by rw [dl.length]; exact hl, ?_⟩
    exact ⟨G2, _, d, hR, m2.cx.sub, .cons ((Den.obj h1 h2).mono m2.go.gg) (dl.perm ix), fun v G3 H3 p dv => q v G3 H3 ((m1.trans m2).pu p) dv⟩

/-! ### the handed list handed on: f(bag, e, ..) -/
theorem ctx_bag {C : Kc} {σ : L2.St} {G H G2 H2 : Hp} {bb : Addr} {gs gs' : List D} {gv' : List V} (cx : Ctx C G H σ S) (hg : S.g = some (bb, .lst gs)) (go : Go (fun a => a = bb) G H G2 H2) (sub : Same G2 H2) (g2 : G2 bb = none) (h2 : H2 bb = some (.lst gv')) (dl : DenL C G2 gv' gs') :
    Mv C σ S G H ⟨S.s, some (bb, .lst gs')⟩ G2 H2 := by
  refine ⟨go.mono fun a z => .inr ⟨.lst gs, by rw [z]; exact hg⟩, ⟨sub, cx.len, fun i d h => ?_, fun i ds h => ?_, cx.apart, fun i b o h h1 => ?_, ⟨g2, gv', h2, dl⟩, fun i b o ds h h1 => ?_⟩, fun a z => ?_⟩
  · obtain ⟨v, h1, h2⟩ := cx.im i d h
    exact ⟨v, h1, h2.mono go.gg⟩
  · obtain ⟨a, vs, h1, h3, h4, h5⟩ := cx.ow i ds h
    have na : a ≠ bb := fun z => cx.nob i bb _ ds hg h (by rw [← z]; exact h1)
    exact ⟨a, vs, h1, go.fr a na (by rw [h4]; simp) h3, go.keep a _ na h4, h5.mono go.gg⟩
  · cases h; exact cx.bg i bb _ hg h1
  · cases h; exact cx.nob i bb _ ds hg h1
  · rcases z with z | ⟨o, z⟩
    · exact .inl z
    · cases z; exact .inr ⟨_, hg⟩
theorem pa_bag {j : Nat} {x : Str} (i : F.I) (hN : (F.X i).N[j]? = some x) (hv : Vis (F.X i).env.scope x) (hd : (x == ("__debug__" : Str)) = false) (hcd : (x == ("__classdict__" : Str)) = false) (hs : starEach (.Name x p :: es) (F.X i).env = (false, eval (.Name x p) (F.X i).env) :: starEach es (F.X i).env) :
    PA (F.X i) (.Name x p :: es) (tCons (tVar j) (anyA F es)) := pa_cons (pe_var hN hv hd hcd) (anyA_ok i) hs
theorem de_callBag {R : List D → List D → D → List D → Prop} {j : Nat} {x : Str} {bb : Addr} {gs gs' : List D} {q' : Pos} (c : Cal F.P F.w F.C F.mg F.base k nm (spB F.C R)) (hj : S.s[j]? = some (some .bag)) (hS : S.g.map (·.1) = some bb) (ha : DA F es S S1 ds) (hg : S1.g = some (bb, .lst gs)) (hR : R ds gs d gs') (hk : k ≤ F.k := by exact Nat.le_of_ble_eq_true rfl)
    (hN : ∀ i, (F.X i).N[j]? = some x := by intro _; rfl) (hv : ∀ i, Vis (F.X i).env.scope x := by intro _; first | exact Or.inl rfl | exact Or.inr (Or.inl rfl) | exact Or.inr (Or.inr rfl))
    (hd : (x == ("__debug__" : Str)) = false := by decide) (hcd : (x == ("__classdict__" : Str)) = false := by decide)
    (hgl : ∀ i, Gl (F.X i) nm := by intro _; rfl) (hdb : (nm == ("__debug__" : Str)) = false := by decide)
    (he : ∀ i, starEach (.Name x q' :: es) (F.X i).env = (false, eval (.Name x q') (F.X i).env) :: starEach es (F.X i).env := by intro _; rfl) (hpl : ∀ i, (backTo pos (starEach es (F.X i).env)).any (·.1) = false := by intro _; rfl) :
    DE F (.Call (.Name nm p) (.Name x q' :: es) [] pos) S ⟨S1.s, some (bb, .lst gs')⟩ d := by
  obtain ⟨f, fd, ps, G, hm, hkp, hb⟩ := c
  refine de_of (te := tCall (spB F.C R) [] E0 (tCons (tVar j) (anyA F es))) (fun i => pe_call (fn_at G) ((F.room i).mono hk) (hgl i) (by rw [F.hmg i]; exact hm) (by rw [F.hK i]; exact hkp) (by rw [F.hK i]; exact hb) .nil pass0 (pa_bag i (hN i) (hv i) hd hcd (he i)) hdb (he i) (hpl i)) ?_
  intro σ G H cx Q q
  have hb0 : σ[j]? = some (some (.ref bb)) := by
    cases e : S.g with
    | none => rw [e] at hS; cases hS
    | some bo =>
      obtain ⟨b0, o⟩ := bo
      rw [e] at hS
      cases hS
      exact cx.bg j _ o e hj
  refine ⟨_, hb0, ha σ G H cx _ fun vs G1 H1 m dl => ?_⟩
  have z := m.cx.bag
  rw [hg] at z
  obtain ⟨z1, gv, z2, z3⟩ := z
  refine ⟨G1, bb, vs, gv, ds, gs, d, gs', List.append_nil _, hR, m.cx.sub, z1, z2, z3, dl, fun v G2 H2 gv' go sub g2 h2 dl' dv => ?_⟩
  exact q v G2 H2 (m.trans (ctx_bag m.cx hg go sub g2 h2 dl')) dv
end

/-! ### a def's body -/
def famD (C : Kc) (P : Program) (w : World) (mg : Str → Option Value) (base : Heap) (N : List Str) (nd : N.Nodup) (qual : Str) (sc : Scope) (f : Addr) (cdv : Value) (A : Around) (outer : List Env) (s : Shared) (H : Hp) (E : XK) (k : Nat) (hr : Room k (A.deeper (PyProof.Rows.envOfC qual sc s.heap.objs.size f cdv))) : Fam where
  I := Unit
  X := fun _ => (cxOf CX0 P w C.K mg base N qual sc f cdv A outer s H E).nox
  P := P
  w := w
  C := C
  mg := mg
  base := base
  N := N
  k := k
  hP := fun _ => rfl
  hw := fun _ => rfl
  hK := fun _ => rfl
  hmg := fun _ => rfl
  hbase := fun _ => rfl
  hN := fun _ => rfl
  nd := nd
  room := fun _ => hr
  calm := fun _ => rfl
/-- what the slots hold at the start -/
def start (N : List Str) (ds : List D) : List (Option DV) := ds.map (fun d => some (.imm d)) ++ List.replicate (N.length - ds.length) none
theorem start_get {N : List Str} {C : Kc} {G : Hp} {vs : List V} {ds : List D} (h : DenL C G vs ds) (i : Nat) (e : DV) (q : (start N ds)[i]? = some (some e)) : ∃ v d, (L2.start N vs)[i]? = some (some v) ∧ e = .imm d ∧ Den C G v d := by
  unfold start at q
  unfold L2.start
  rcases Nat.lt_or_ge i ds.length with hi | hi
  · rw [List.getElem?_append_left (by simpa using hi), List.getElem?_map] at q
    cases r : ds[i]? with
    | none => rw [r] at q; cases q
    | some d =>
      rw [r] at q
      obtain ⟨v, h1, h2⟩ := h.get r
      refine ⟨v, d, ?_, by simpa using q.symm, h2⟩
      rw [List.getElem?_append_left (by rw [List.length_map, h.length]; exact hi), List.getElem?_map, h1]
      rfl
  · rw [List.getElem?_append_right (by simpa using hi)] at q
    rw [List.getElem?_replicate] at q
    split at q <;> cases q
theorem ctx_start {N : List Str} {C : Kc} {G H : Hp} {vs : List V} {ds : List D} (s : Same G H) (h : DenL C G vs ds) : Ctx C G H (L2.start N vs) ⟨start N ds, none⟩ where
  sub := s
  len := by simp [L2.start, start, h.length]
  im := fun i d q => by
    obtain ⟨v, d', h1, h2, h3⟩ := start_get h i _ q
    cases h2
    exact ⟨v, h1, h3⟩
  ow := fun i ds q => by obtain ⟨_, _, _, z, _⟩ := start_get h i _ q; cases z
  apart := fun i j ds es a q => by obtain ⟨_, _, _, z, _⟩ := start_get h i _ q; cases z
  bg := fun i b o z => by cases z
  bag := trivial
  nob := fun i b o ds z => by cases z
theorem oa_start {N : List Str} {C : Kc} {G : Hp} {vs : List V} {ds : List D} (h : DenL C G vs ds) (a : Addr) : ¬ OA C (L2.start N vs) ⟨start N ds, none⟩ a := fun z => by
  rcases z with ⟨i, es, q, _⟩ | ⟨o, z⟩
  · obtain ⟨_, _, _, z, _⟩ := start_get h i _ q; cases z
  · cases z
section
variable {P : Program} {w : World} {C : Kc} {mg : Str → Option Value} {base : Heap}
/-- THE RULE for a def without changes -/
theorem fnP {x qual : Str} {st : Stmt} {f : Addr} {fd : FuncData} {N ps : List Str} {k : Nat} {R : List D → D → Prop} (F : Fun C.K x qual st f fd) (Sc : FnScope N ps (defScope st)) (len : ∀ ds d, R ds d → ds.length = ps.length)
    (body : ∀ ds d, R ds d → ∀ cdv A outer s H E hr, DS (famD C P w mg base N Sc.nd qual (defScope st) f cdv A outer s H E k hr) (defBody st) ⟨start N ds, none⟩ { rt := fun d' _ => d' = d, nx := fun _ => d = .non }) : FnOk P w C.K mg base CX0 (k + 1) f fd ps (spP C R) := by
  refine F.ok Sc (fun vs H Q E h => ?_) (fun cdv A outer s H vs Q E hr h => ?_)
  · obtain ⟨G, ds, d, hR, _, dl, _⟩ := h
    rw [dl.length]; exact len ds d hR
  · obtain ⟨G, ds, d, hR, sub, dl, q⟩ := h
    refine ⟨_, anyS_ok (F := famD C P w mg base N Sc.nd qual (defScope st) f cdv A outer s H E k hr) (), ?_⟩
    have key : ∀ σ2 S2 G2 H2, Mw C (L2.start N vs) ⟨start N ds, none⟩ G H σ2 S2 G2 H2 → Pu G H G2 H2 := fun σ2 S2 G2 H2 m =>
      ⟨fun a o h => m.go.keep a o (oa_start dl a) h, m.go.gg, m.cx.sub, fun a h1 h2 => m.go.fr a (oa_start dl a) h1 h2⟩
    refine body ds d hR cdv A outer s H E hr (L2.start N vs) G H (ctx_start sub dl) _ ⟨fun σ2 S2 G2 H2 m e => ?_, fun v d' σ2 S2 G2 H2 m dv e => ?_, fun _ _ _ _ _ e => e.elim, fun _ _ _ _ _ e => e.elim, fun _ _ _ _ _ _ _ _ _ _ _ _ e => e.elim⟩
    · exact q .non G2 H2 (key _ _ _ _ m) (by rw [e]; exact .non)
    · cases e
      exact q v G2 H2 (key _ _ _ _ m) dv
/-- THE RULE for a def that hands back a new list of its own -/
theorem fnO {x qual : Str} {st : Stmt} {f : Addr} {fd : FuncData} {N ps : List Str} {k : Nat} {R : List D → List D → Prop} (F : Fun C.K x qual st f fd) (Sc : FnScope N ps (defScope st)) (len : ∀ ds es, R ds es → ds.length = ps.length)
    (body : ∀ ds es, R ds es → ∀ cdv A outer s H E hr, DS (famD C P w mg base N Sc.nd qual (defScope st) f cdv A outer s H E k hr) (defBody st) ⟨start N ds, none⟩ { ro := fun es' _ => es' = es }) : FnOk P w C.K mg base CX0 (k + 1) f fd ps (spO C R) := by
  refine F.ok Sc (fun vs H Q E h => ?_) (fun cdv A outer s H vs Q E hr h => ?_)
  · obtain ⟨G, ds, es, hR, _, dl, _⟩ := h
    rw [dl.length]; exact len ds es hR
  · obtain ⟨G, ds, es, hR, sub, dl, q⟩ := h
    refine ⟨_, anyS_ok (F := famD C P w mg base N Sc.nd qual (defScope st) f cdv A outer s H E k hr) (), ?_⟩
    refine body ds es hR cdv A outer s H E hr (L2.start N vs) G H (ctx_start sub dl) _ ⟨fun _ _ _ _ _ e => e.elim, fun _ _ _ _ _ _ _ _ e => e.elim, fun _ _ _ _ _ e => e.elim, fun _ _ _ _ _ e => e.elim, fun p ev es' σ2 S2 G2 H2 m h1 h2 h3 h4 e => ?_⟩
    cases e
    exact q p ev G2 H2 ⟨fun a o h => m.go.keep a o (oa_start dl a) h, m.go.gg, m.cx.sub, fun a h1 h2 => m.go.fr a (oa_start dl a) h1 h2⟩ h1 h2 h3 h4
def startB (N : List Str) (ds : List D) : List (Option DV) := some .bag :: start N.tail ds
theorem ctx_startB {n : Str} {N : List Str} {G H : Hp} {b : Addr} {vs : List V} {ds : List D} {bo : BG} (s : Same G H) (h : DenL C G vs ds) (hb : BagOk C G H (some (b, bo))) : Ctx C G H (L2.start (n :: N) (.ref b :: vs)) ⟨startB (n :: N) ds, some (b, bo)⟩ := by
  have e : L2.start (n :: N) (.ref b :: vs) = some (.ref b) :: L2.start N vs := by simp [L2.start]
  have c := ctx_start (N := N) s h
  rw [e]
  refine ⟨s, by simp [startB, c.len, start, L2.start, h.length], fun i d q => ?_, fun i es q => ?_, fun i j es fs a q => ?_, fun i b' o z q => ?_, hb, fun i b' o es z q => ?_⟩
  · cases i with
    | zero => cases q
    | succ i => simpa using c.im i d (by simpa [startB] using q)
  · cases i with
    | zero => cases q
    | succ i => simpa using c.ow i es (by simpa [startB] using q)
  · cases i with
    | zero => cases q
    | succ i => obtain ⟨_, _, _, z, _⟩ := start_get (N := N) h i _ (by simpa [startB] using q); cases z
  · cases z
    cases i with
    | zero => rfl
    | succ i => obtain ⟨_, _, _, z, _⟩ := start_get (N := N) h i _ (by simpa [startB] using q); cases z
  · cases i with
    | zero => cases q
    | succ i => obtain ⟨_, _, _, z, _⟩ := start_get (N := N) h i _ (by simpa [startB] using q); cases z
theorem oa_startB {n : Str} {N : List Str} {G : Hp} {b : Addr} {vs : List V} {ds : List D} {bo : BG} (h : DenL C G vs ds) (a : Addr) (z : OA C (L2.start (n :: N) (.ref b :: vs)) ⟨startB (n :: N) ds, some (b, bo)⟩ a) : a = b := by
  rcases z with ⟨i, es, q, _⟩ | ⟨o, z⟩
  · cases i with
    | zero => cases q
    | succ i => obtain ⟨_, _, _, z, _⟩ := start_get (N := N) h i _ (by simpa [startB] using q); cases z
  · cases z; rfl
/-- THE RULE for a def that changes its first argument, a list -/
theorem fnB {x qual : Str} {st : Stmt} {f : Addr} {fd : FuncData} {n : Str} {N ps : List Str} {k : Nat} {R : List D → List D → D → List D → Prop} (F : Fun C.K x qual st f fd) (Sc : FnScope (n :: N) ps (defScope st)) (len : ∀ ds gs d gs', R ds gs d gs' → ds.length + 1 = ps.length)
    (body : ∀ ds gs d gs', R ds gs d gs' → ∀ b cdv A outer s H E hr, DS (famD C P w mg base (n :: N) Sc.nd qual (defScope st) f cdv A outer s H E k hr) (defBody st) ⟨startB (n :: N) ds, some (b, .lst gs)⟩
      { rt := fun d' S => d' = d ∧ S.g = some (b, .lst gs'), nx := fun S => d = .non ∧ S.g = some (b, .lst gs') }) : FnOk P w C.K mg base CX0 (k + 1) f fd ps (spB C R) := by
  refine F.ok Sc (fun vs H Q E h => ?_) (fun cdv A outer s H vs Q E hr h => ?_)
  · obtain ⟨G, b, ws, gv, ds, gs, d, gs', rfl, hR, _, _, _, _, dl, _⟩ := h
    rw [List.length_cons, dl.length]; exact len ds gs d gs' hR
  · obtain ⟨G, b, ws, gv, ds, gs, d, gs', rfl, hR, sub, gb, hb, dg, dl, q⟩ := h
    refine ⟨_, anyS_ok (F := famD C P w mg base (n :: N) Sc.nd qual (defScope st) f cdv A outer s H E k hr) (), ?_⟩
    have fin : ∀ v σ2 S2 G2 H2, Mw C (L2.start (n :: N) (.ref b :: ws)) ⟨startB (n :: N) ds, some (b, .lst gs)⟩ G H σ2 S2 G2 H2 → S2.g = some (b, .lst gs') → Den C G2 v d → Q v H2 := fun v σ2 S2 G2 H2 m e dv => by
      have z := m.cx.bag
      rw [e] at z
      obtain ⟨z1, gv', z2, z3⟩ := z
      exact q v G2 H2 gv' (m.go.mono fun a => oa_startB dl a) m.cx.sub z1 z2 z3 dv
    refine body ds gs d gs' hR b cdv A outer s H E hr _ G H (ctx_startB sub dl ⟨gb, gv, hb, dg⟩) _ ⟨fun σ2 S2 G2 H2 m e => ?_, fun v d' σ2 S2 G2 H2 m dv e => ?_, fun _ _ _ _ _ e => e.elim, fun _ _ _ _ _ e => e.elim, fun _ _ _ _ _ _ _ _ _ _ _ _ e => e.elim⟩
    · exact fin .non _ _ _ _ m e.2 (by rw [e.1]; exact .non)
    · exact fin v _ _ _ _ m e.2 (e.1 ▸ dv)
/-- THE RULE for an __init__ -/
theorem fnI {x qual : Str} {st : Stmt} {f : Addr} {fd : FuncData} {c : Nat} {n : Str} {N ps : List Str} {k : Nat} {R : List D → List (Str × D) → Prop} (F : Fun C.K x qual st f fd) (Sc : FnScope (n :: N) ps (defScope st)) (len : ∀ ds fs, R ds fs → ds.length + 1 = ps.length)
    (body : ∀ ds fs, R ds fs → ∀ b cdv A outer s H E hr, DS (famD C P w mg base (n :: N) Sc.nd qual (defScope st) f cdv A outer s H E k hr) (defBody st) ⟨startB (n :: N) ds, some (b, .ins c [])⟩
      { nx := fun S => S.g = some (b, .ins c fs) }) : FnOk P w C.K mg base CX0 (k + 1) f fd ps (spI C c R) := by
  refine F.ok Sc (fun vs H Q E h => ?_) (fun cdv A outer s H vs Q E hr h => ?_)
  · obtain ⟨G, b, dx, ws, ds, fs, rfl, hR, _, _, _, dl, _⟩ := h
    rw [List.length_cons, dl.length]; exact len ds fs hR
  · obtain ⟨G, b, dx, ws, ds, fs, rfl, hR, sub, gb, hb, dl, q⟩ := h
    refine ⟨_, anyS_ok (F := famD C P w mg base (n :: N) Sc.nd qual (defScope st) f cdv A outer s H E k hr) (), ?_⟩
    refine body ds fs hR b cdv A outer s H E hr _ G H (ctx_startB sub dl ⟨gb, dx, [], hb, .nil⟩) _ ⟨fun σ2 S2 G2 H2 m e => ?_, fun v d' σ2 S2 G2 H2 m dv e => e.elim, fun _ _ _ _ _ e => e.elim, fun _ _ _ _ _ e => e.elim, fun _ _ _ _ _ _ _ _ _ _ _ _ e => e.elim⟩
    have z := m.cx.bag
    rw [e] at z
    obtain ⟨z1, dx2, fv, z2, z3⟩ := z
    exact q G2 H2 dx2 fv (m.go.mono fun a => oa_startB dl a) m.cx.sub z1 z2 z3
/-- .. with defaults -/
theorem fnID {x qual : Str} {st : Stmt} {dvs : List V} {kws : List (Str × V)} {f : Addr} {fd : FuncData} {c : Nat} {n : Str} {N ps : List Str} {k : Nat} {R : List D → List (Str × D) → Prop} (F : FunD C.K x qual (defArgs st) (defBody st) (defScope st) dvs kws f fd) (Sc : FnScope (n :: N) ps (defScope st)) (len : ∀ ds fs, R ds fs → ds.length + 1 = ps.length)
    (body : ∀ ds fs, R ds fs → ∀ b cdv A outer s H E hr, DS (famD C P w mg base (n :: N) Sc.nd qual (defScope st) f cdv A outer s H E k hr) (defBody st) ⟨startB (n :: N) ds, some (b, .ins c [])⟩
      { nx := fun S => S.g = some (b, .ins c fs) }) : FnOk P w C.K mg base CX0 (k + 1) f fd ps (spI C c R) := by
  refine F.ok Sc (fun vs H Q E h => ?_) (fun cdv A outer s H vs Q E hr h => ?_)
  · obtain ⟨G, b, dx, ws, ds, fs, rfl, hR, _, _, _, dl, _⟩ := h
    rw [List.length_cons, dl.length]; exact len ds fs hR
  · obtain ⟨G, b, dx, ws, ds, fs, rfl, hR, sub, gb, hb, dl, q⟩ := h
    refine ⟨_, PSs.nox (anyS_ok (F := famD C P w mg base (n :: N) Sc.nd qual (defScope st) f cdv A outer s H E k hr) ()), ?_⟩
    refine body ds fs hR b cdv A outer s H E hr _ G H (ctx_startB sub dl ⟨gb, dx, [], hb, .nil⟩) _ ⟨fun σ2 S2 G2 H2 m e => ?_, fun v d' σ2 S2 G2 H2 m dv e => e.elim, fun _ _ _ _ _ e => e.elim, fun _ _ _ _ _ e => e.elim, fun _ _ _ _ _ _ _ _ _ _ _ _ e => e.elim⟩
    have z := m.cx.bag
    rw [e] at z
    obtain ⟨z1, dx2, fv, z2, z3⟩ := z
    exact q G2 H2 dx2 fv (m.go.mono fun a => oa_startB dl a) m.cx.sub z1 z2 z3
end
end DL
/-! DL4: statements, loops, comprehensions on data. -/
namespace DL
open PySem L2

section
variable {F : Fam} {S S1 S2 S3 : ST} {e a b : Expr} {d x y z : D} {pos p apos : Pos} {es : List Expr} {ds : List D} {k : Bool} {nm : Str} {P : Po} {rest t u : List Stmt} {st : Stmt} {M : ST → Prop}

/-! ### blocks -/
theorem ds_nil (h : P.nx S) : DS F [] S P := ds_of (fun _ => pss_nil) fun σ G H c E m => m.nx σ S G H (.refl c) h
theorem ds_cons (h1 : D1 F st S { P with nx := M }) (h2 : ∀ S2, M S2 → DS F rest S2 P) : DS F (st :: rest) S P :=
  ds_of (te := tSeq (any1 F st) (anyS F rest)) (fun i => pss_cons (any1_ok i) (anyS_ok i)) fun σ G H c E m =>
    h1 σ G H c _ ⟨fun σ2 S2 G2 H2 a q => h2 S2 q σ2 G2 H2 a.cx E (m.move a), m.rt, m.bk, m.ct, m.ro⟩
theorem d1_mono {P' : Po} (h : D1 F st S P) (h1 : ∀ S, P.nx S → P'.nx S) (h2 : ∀ d S, P.rt d S → P'.rt d S) (h3 : ∀ S, P.bk S → P'.bk S) (h4 : ∀ S, P.ct S → P'.ct S) (h5 : ∀ es S, P.ro es S → P'.ro es S := by intro _ _ z; exact z) : D1 F st S P' := fun σ G H c E m =>
  h σ G H c E ⟨fun σ2 S2 G2 H2 a q => m.nx _ _ _ _ a (h1 _ q), fun v d σ2 S2 G2 H2 a q r => m.rt _ _ _ _ _ _ a q (h2 _ _ r), fun σ2 S2 G2 H2 a q => m.bk _ _ _ _ a (h3 _ q), fun σ2 S2 G2 H2 a q => m.ct _ _ _ _ a (h4 _ q), fun p ev es σ2 S2 G2 H2 a r1 r2 r3 r4 q => m.ro _ _ _ _ _ _ _ a r1 r2 r3 r4 (h5 _ _ q)⟩
theorem ds_mono {P' : Po} {sts : List Stmt} (h : DS F sts S P) (h1 : ∀ S, P.nx S → P'.nx S) (h2 : ∀ d S, P.rt d S → P'.rt d S) (h3 : ∀ S, P.bk S → P'.bk S) (h4 : ∀ S, P.ct S → P'.ct S) (h5 : ∀ es S, P.ro es S → P'.ro es S := by intro _ _ z; exact z) : DS F sts S P' := fun σ G H c E m =>
  h σ G H c E ⟨fun σ2 S2 G2 H2 a q => m.nx _ _ _ _ a (h1 _ q), fun v d σ2 S2 G2 H2 a q r => m.rt _ _ _ _ _ _ a q (h2 _ _ r), fun σ2 S2 G2 H2 a q => m.bk _ _ _ _ a (h3 _ q), fun σ2 S2 G2 H2 a q => m.ct _ _ _ _ a (h4 _ q), fun p ev es σ2 S2 G2 H2 a r1 r2 r3 r4 q => m.ro _ _ _ _ _ _ _ a r1 r2 r3 r4 (h5 _ _ q)⟩
theorem d1_pass (h : P.nx S) : D1 F (.Pass pos) S P := d1_of (fun _ => ps_pass) fun σ G H c E m => m.nx σ S G H (.refl c) h
theorem d1_break (h : P.bk S) : D1 F (.Break pos) S P := d1_of (fun _ => ps_break) fun σ G H c E m => m.bk σ S G H (.refl c) h
theorem d1_cont (h : P.ct S) : D1 F (.Continue pos) S P := d1_of (fun _ => ps_continue) fun σ G H c E m => m.ct σ S G H (.refl c) h
theorem d1_ret (h : DE F e S S1 d) (q : P.rt d S1) : D1 F (.Return (some e) pos) S P := d1_of (te := tRet (anyE F e)) (fun i => ps_ret (anyE_ok i)) fun σ G H c E m =>
  h σ G H c _ fun v G1 H1 m1 dv => m.rt v d σ S1 G1 H1 m1.mw dv q
/-- return of a new list -/
theorem d1_retO (h : DO F e S S1 ds) (q : P.ro ds S1) : D1 F (.Return (some e) pos) S P := d1_of (te := tRet (anyE F e)) (fun i => ps_ret (anyE_ok i)) fun σ G H c E m =>
  h σ G H c _ fun p ev G1 H1 m1 h1 h2 h3 h4 => m.ro p ev ds σ S1 G1 H1 m1.mw h1 h2 h3 h4 q
theorem ds_retO (h : DO F e S S1 ds) (q : P.ro ds S1) : DS F (.Return (some e) pos :: rest) S P := ds_cons (M := fun _ => False) (d1_retO h q) fun _ z => z.elim
theorem d1_retN (q : P.rt .non S) : D1 F (.Return none pos) S P := d1_of (te := tRetN) (fun i => ps_retN) fun σ G H c E m => m.rt .non .non σ S G H (.refl c) .non q
theorem ds_ret (h : DE F e S S1 d) (q : P.rt d S1) : DS F (.Return (some e) pos :: rest) S P := ds_cons (M := fun _ => False) (d1_ret h q) fun _ z => z.elim
theorem d1_expr (h : DE F e S S1 d) (q : P.nx S1) (hs : ∀ i, swapsWith e none pos.line (F.X i).env = pure false := by intro _; rfl) : D1 F (.Expr e pos) S P := d1_of (te := tDrop (anyE F e)) (fun i => ps_expr (anyE_ok i) (hs i)) fun σ G H c E m =>
  h σ G H c _ fun v G1 H1 m1 dv => m.nx σ S1 G1 H1 m1.mw q
theorem ds_expr (h : DE F e S S1 d) (q : DS F rest S1 P) (hs : ∀ i, swapsWith e none pos.line (F.X i).env = pure false := by intro _; rfl) : DS F (.Expr e pos :: rest) S P :=
  ds_cons (M := fun S2 => S2 = S1) (d1_expr h rfl hs) fun _ z => z ▸ q
theorem d1_if {c : Expr} (hc : DT F c S S1 k) (h1 : k = true → DS F t S1 P) (h2 : k = false → DS F u S1 P) : D1 F (.If c t u pos) S P :=
  d1_of (te := tIfS (anyT F c) (anyS F t) (anyS F u)) (fun i => ps_if (anyT_ok i) (anyS_ok i) (anyS_ok i)) fun σ G H cx E m => hc σ G H cx _ fun G1 H1 m1 => by
    cases k with
    | true => rw [if_pos rfl]; exact h1 rfl σ G1 H1 m1.cx E (m.move m1.mw)
    | false => rw [if_neg Bool.false_ne_true]; exact h2 rfl σ G1 H1 m1.cx E (m.move m1.mw)
/-- if c: .. (left by return, break or continue), then the rest -/
theorem ds_ifr {c : Expr} (hc : DT F c S S1 k) (h1 : k = true → DS F t S1 { P with nx := fun _ => False }) (h2 : k = false → DS F rest S1 P) : DS F (.If c t [] pos :: rest) S P :=
  ds_cons (M := fun S2 => S2 = S1 ∧ k = false) (d1_if hc (fun h => ds_mono (h1 h) (fun _ z => z.elim) (fun _ _ z => z) (fun _ z => z) fun _ z => z) fun h => ds_nil ⟨rfl, h⟩) fun _ ⟨z, h⟩ => z ▸ h2 h
/-- .. joined behind -/
theorem ds_if (M : ST → Prop) {c : Expr} (hc : DT F c S S1 k) (h1 : k = true → DS F t S1 { P with nx := M }) (h2 : k = false → DS F u S1 { P with nx := M }) (h3 : ∀ S2, M S2 → DS F rest S2 P) : DS F (.If c t u pos :: rest) S P :=
  ds_cons (M := M) (d1_if hc h1 h2) h3
/-! ### stores -/
theorem d1_set {j : Nat} {x : Str} {pos' : Pos} (he : DE F e S S1 d) (q : P.nx (S1.set j d)) (hN : ∀ i, (F.X i).N[j]? = some x := by intro _; rfl) (hx : ∀ i, Loc (F.X i).env.scope x := by intro _; first | exact Or.inl rfl | exact Or.inr rfl)
    (hs : ∀ i, swapsWith e (some (.Name x pos')) pos.line (F.X i).env = pure false := by intro _; rfl) (hf : ∀ i, (F.X i).fn x = true ∨ (F.X i).env.scope.names.lookup x = some .local := by intro _; first | exact .inl rfl | exact .inr rfl) : D1 F (.Assign [.Name x pos'] e pos) S P :=
  d1_of (te := tAsg (anyE F e) (gName j)) (fun i => ps_set (by rw [F.hN i]; exact F.nd) (hN i) (hx i) (anyE_ok i) (hs i) (hf i)) fun σ G H c E m => he σ G H c _ fun v G1 H1 m1 dv =>
    m.nx _ _ G1 H1 (m1.mw.trans (m1.cx.store dv)) q
theorem ds_set {j : Nat} {x : Str} {pos' : Pos} (he : DE F e S S1 d) (q : DS F rest (S1.set j d) P) (hN : ∀ i, (F.X i).N[j]? = some x := by intro _; rfl) (hx : ∀ i, Loc (F.X i).env.scope x := by intro _; first | exact Or.inl rfl | exact Or.inr rfl)
    (hs : ∀ i, swapsWith e (some (.Name x pos')) pos.line (F.X i).env = pure false := by intro _; rfl) (hf : ∀ i, (F.X i).fn x = true ∨ (F.X i).env.scope.names.lookup x = some .local := by intro _; first | exact .inl rfl | exact .inr rfl) : DS F (.Assign [.Name x pos'] e pos :: rest) S P :=
  ds_cons (M := fun S2 => S2 = S1.set j d) (d1_set he rfl hN hx hs hf) fun _ z => z ▸ q
/-- targets -/
def anyG (F : Fam) (tg : Expr) : TG := fun v σ H Q => ∃ g, (∀ i, PG (F.X i) tg g) ∧ g v σ H Q
theorem anyG_ok {tg : Expr} (i : F.I) : PG (F.X i) tg (anyG F tg) := by
  constructor
  intro pins s σ H v u Q I r h
  obtain ⟨g, h1, h2⟩ := h
  exact (h1 i).run pins s σ H v u Q I r h2
/-- the slots js may be stored -/
def Only (js : List Nat) (σ σ2 : L2.St) : Prop := ∀ vs : List Nat, (∀ j ∈ js, j ∈ vs) → wipe σ2 vs = wipe σ vs
theorem wipe_set_none (σ : L2.St) (j : Nat) (x : Option V) : ∀ vs : List Nat, (wipe (σ.set j x) vs).set j none = (wipe σ vs).set j none
  | [] => by unfold wipe; rw [List.set_set]
  | v :: vs => by
    unfold wipe
    by_cases h : v = j
    · subst h
      rw [List.set_set, List.set_set, wipe_set_none σ v x vs]
    · rw [List.set_comm _ _ h, wipe_set_none σ j x vs, List.set_comm _ _ h]
theorem wipe_set_in (σ : L2.St) (j : Nat) (x : Option V) : ∀ vs : List Nat, j ∈ vs → wipe (σ.set j x) vs = wipe σ vs
  | [], h => nomatch h
  | v :: vs, h => by
    unfold wipe
    by_cases e : v = j
    · subst e; exact wipe_set_none σ v x vs
    · have : j ∈ vs := by
        rcases List.mem_cons.mp h with z | z
        · exact absurd z.symm e
        · exact z
      rw [wipe_set_in σ j x vs this]
def DG (F : Fam) (tg : Expr) (d : D) (S S' : ST) (js : List Nat) : Prop := ∀ σ G H v, Ctx F.C G H σ S → Den F.C G v d → ∀ Q : L2.St → Hp → Prop, (∀ σ2 G2 H2, Mw F.C σ S G H σ2 S' G2 H2 → Only js σ σ2 → Q σ2 H2) → anyG F tg v σ H Q
def anyGs (F : Fam) (tg : List Expr) : TGs := fun v σ H Q => ∃ g, (∀ i, PGs (F.X i) tg g) ∧ g v σ H Q
theorem anyGs_ok {tg : List Expr} (i : F.I) : PGs (F.X i) tg (anyGs F tg) := by
  constructor
  intro pins s σ H v u Q I r h
  obtain ⟨g, h1, h2⟩ := h
  exact (h1 i).run pins s σ H v u Q I r h2
def DGs (F : Fam) (tg : List Expr) (ds : List D) (S S' : ST) (js : List Nat) : Prop := ∀ σ G H vs, Ctx F.C G H σ S → DenL F.C G vs ds → ∀ Q : L2.St → Hp → Prop, (∀ σ2 G2 H2, Mw F.C σ S G H σ2 S' G2 H2 → Only js σ σ2 → Q σ2 H2) → anyGs F tg vs σ H Q
theorem dg_name {j : Nat} {x : Str} (hN : ∀ i, (F.X i).N[j]? = some x := by intro _; rfl) (hx : ∀ i, Loc (F.X i).env.scope x := by intro _; first | exact Or.inl rfl | exact Or.inr rfl)
    (hf : ∀ i, (F.X i).fn x = true ∨ (F.X i).env.scope.names.lookup x = some .local := by intro _; first | exact .inl rfl | exact .inr rfl) : DG F (.Name x pos) d S (S.set j d) [j] := fun σ G H v c dv Q q =>
  ⟨gName j, fun i => pg_name (by rw [F.hN i]; exact F.nd) (hN i) (hx i) (hf i), q _ G H (c.store dv) fun vs h => wipe_set_in σ j _ vs (h j List.mem_cons_self)⟩
theorem dgs_nil : DGs F [] [] S S [] := fun σ G H vs c dv Q q => ⟨gNil, fun i => pgs_nil, by cases dv; exact ⟨rfl, q _ G H (.refl c) fun _ _ => rfl⟩⟩
theorem dgs_cons {tg : Expr} {tgs : List Expr} {js ks : List Nat} (h1 : DG F tg d S S1 js) (h2 : DGs F tgs ds S1 S2 ks) (hs : ∀ i, PGs (F.X i) (tg :: tgs) (gCons (anyG F tg) (anyGs F tgs)) := by intro i; exact pgs_cons (anyG_ok i) (anyGs_ok i)) : DGs F (tg :: tgs) (d :: ds) S S2 (js ++ ks) := fun σ G H vs c dv Q q =>
  ⟨gCons (anyG F tg) (anyGs F tgs), hs, by
    cases dv with
    | cons hd hl => exact ⟨_, _, rfl, h1 σ G H _ c hd _ fun σ1 G1 H1 m1 o1 => h2 σ1 G1 H1 _ m1.cx (hl.mono m1.go.gg) Q fun σ2 G2 H2 m2 o2 => q σ2 G2 H2 (m1.trans m2) fun vs h => (o2 vs fun j hj => h j (List.mem_append_right _ hj)).trans (o1 vs fun j hj => h j (List.mem_append_left _ hj))⟩⟩
theorem dg_tup {tgs : List Expr} {kk : Nat} {js : List Nat} (h : DGs F tgs ds S S1 js) (hp : ∀ i, PG (F.X i) (.Tuple tgs kk pos) (gTup (F.X i).K ds.length (anyGs F tgs)) := by intro i; exact pg_tup (Fam.calm _ i) (anyGs_ok i)) : DG F (.Tuple tgs kk pos) (.tup ds) S S1 js := fun σ G H v c dv Q q =>
  ⟨gTup F.C.K ds.length (anyGs F tgs), fun i => by have := hp i; rw [F.hK i] at this; exact this, by
    cases dv with
    | tup h1 h2 => exact ⟨_, _, rfl, same_t c.sub h1, h2.length, h σ G H _ c h2 Q q⟩⟩
theorem d1_asg {tg : Expr} {js : List Nat} (he : DE F e S S1 d) (hg : DG F tg d S1 S2 js) (q : P.nx S2) (hs : ∀ i, swapsWithSole [tg] e pos.line (F.X i).env = pure false := by intro _; rfl) (hw : ∀ i, swappedStores [tg] e (F.X i).env = pure none := by intro _; rfl)
    (ho : ∀ i, PS (F.X i) (.Assign [tg] e pos) (tAsg (anyE F e) (anyG F tg)) := by intro i; exact ps_asg (anyE_ok i) (anyG_ok i)) : D1 F (.Assign [tg] e pos) S P :=
  d1_of (te := tAsg (anyE F e) (anyG F tg)) ho fun σ G H c E m => he σ G H c _ fun v G1 H1 m1 dv => hg σ G1 H1 v m1.cx dv _ fun σ2 G2 H2 m2 _ => m.nx _ _ _ _ (m1.mw.trans m2) q
theorem ds_asg {tg : Expr} {js : List Nat} (he : DE F e S S1 d) (hg : DG F tg d S1 S2 js) (q : DS F rest S2 P)
    (ho : ∀ i, PS (F.X i) (.Assign [tg] e pos) (tAsg (anyE F e) (anyG F tg)) := by intro i; exact ps_asg (anyE_ok i) (anyG_ok i)) : DS F (.Assign [tg] e pos :: rest) S P :=
  ds_cons (M := fun S3 => S3 = S2) (d1_of (te := tAsg (anyE F e) (anyG F tg)) ho fun σ G H c E m => he σ G H c _ fun v G1 H1 m1 dv => hg σ G1 H1 v m1.cx dv _ fun σ2 G2 H2 m2 _ => m.nx _ _ _ _ (m1.mw.trans m2) rfl) fun _ z => z ▸ q
end
end DL
/-! DL5: parallel stores, the handed object, own lists, loops, comprehensions. -/
namespace DL
open PySem L2

section
variable {F : Fam} {S S1 S2 S3 : ST} {e a b c : Expr} {d x y z : D} {pos p apos : Pos} {es : List Expr} {ds : List D} {k : Bool} {nm : Str} {P : Po} {rest t u : List Stmt} {st : Stmt} {M : ST → Prop}

/-! ### a, b = x, y -/
theorem ds_par {i j : Nat} {n1 n2 : Str} {px py pt : Pos} {kt k2 : Nat} {pt2 : Pos} (ha : DE F a S S1 x) (hb : DE F b S1 S2 y) (q : DS F rest ((S2.set i x).set j y) P) (hi : ∀ l, (F.X l).N[i]? = some n1 := by intro _; rfl) (hj : ∀ l, (F.X l).N[j]? = some n2 := by intro _; rfl) (hij : i ≠ j := by decide)
    (hx : ∀ l, (F.X l).env.scope.names.lookup n1 = some .local := by intro _; rfl) (hy : ∀ l, (F.X l).env.scope.names.lookup n2 = some .local := by intro _; rfl)
    (hw : ∀ l, swappedStores [.Tuple [.Name n1 px, .Name n2 py] kt pt] (.Tuple [a, b] k2 pt2) (F.X l).env = pure (some [n1, n2]) := by intro _; rfl)
    (hs : ∀ l, swapsWithSole [.Tuple [.Name n1 px, .Name n2 py] kt pt] (.Tuple [a, b] k2 pt2) pos.line (F.X l).env = pure false := by intro _; rfl)
    (hst : ∀ i, starEach [a, b] (F.X i).env = (false, eval a (F.X i).env) :: starEach [b] (F.X i).env := by intro _; rfl) (hst2 : ∀ i, starEach [b] (F.X i).env = (false, eval b (F.X i).env) :: starEach [] (F.X i).env := by intro _; rfl) :
    DS F (.Assign [.Tuple [.Name n1 px, .Name n2 py] kt pt] (.Tuple [a, b] k2 pt2) pos :: rest) S P := by
  refine ds_cons (M := fun S3 => S3 = (S2.set i x).set j y) (d1_of (te := tPar i j (tCons (anyE F a) (tCons (anyE F b) tNil))) (fun l => ps_par (F.calm l) (by rw [F.hN l]; exact F.nd) (hi l) (hj l) hij (hx l) (hy l) (pa_cons (anyE_ok l) (pa_cons (anyE_ok l) pa_nil (hst2 l)) (hst l)) (hw l) (hs l)) ?_) fun _ z => z ▸ q
  intro σ G H c E m
  refine ha σ G H c _ fun v G1 H1 m1 d1 => hb σ G1 H1 m1.cx _ fun w G2 H2 m2 d2 => ⟨v, w, rfl, ?_⟩
  have s1 := m2.cx.store (i := i) (d1.mono m2.go.gg)
  exact m.nx _ _ _ _ ((m1.mw.trans m2.mw).trans (s1.trans (s1.cx.store (i := j) d2))) rfl
theorem Fam.ndX (F : Fam) (o : F.I) : (F.X o).N.Nodup := by rw [F.hN o]; exact F.nd
theorem ds_par3 {i j l : Nat} {w : D} {n1 n2 n3 : Str} {px py pz pt : Pos} {kt k2 : Nat} {pt2 : Pos} (ha : DE F a S S1 x) (hb : DE F b S1 S2 y) (hc : DE F c S2 S3 w) (q : DS F rest (((S3.set i x).set j y).set l w) P) (hi : ∀ o, (F.X o).N[i]? = some n1 := by intro _; rfl) (hj : ∀ o, (F.X o).N[j]? = some n2 := by intro _; rfl) (hl : ∀ o, (F.X o).N[l]? = some n3 := by intro _; rfl)
    (hij : i ≠ j := by decide) (hil : i ≠ l := by decide) (hjl : j ≠ l := by decide)
    (hp : ∀ o, PS (F.X o) (.Assign [.Tuple [.Name n1 px, .Name n2 py, .Name n3 pz] kt pt] (.Tuple [a, b, c] k2 pt2) pos) (tPar3 i j l (tCons (anyE F a) (tCons (anyE F b) (tCons (anyE F c) tNil)))) := by
      intro o; exact ps_par3 (Fam.calm _ o) (Fam.ndX _ o) rfl rfl rfl (by decide) (by decide) (by decide) rfl rfl rfl (pa_cons (anyE_ok o) (pa_cons (anyE_ok o) (pa_cons (anyE_ok o) pa_nil))) rfl) :
    DS F (.Assign [.Tuple [.Name n1 px, .Name n2 py, .Name n3 pz] kt pt] (.Tuple [a, b, c] k2 pt2) pos :: rest) S P := by
  refine ds_cons (M := fun S4 => S4 = ((S3.set i x).set j y).set l w) (d1_of (te := tPar3 i j l (tCons (anyE F a) (tCons (anyE F b) (tCons (anyE F c) tNil)))) hp ?_) fun _ z => z ▸ q
  intro σ G H cx E m
  refine ha σ G H cx _ fun v1 G1 H1 m1 d1 => hb σ G1 H1 m1.cx _ fun v2 G2 H2 m2 d2 => hc σ G2 H2 m2.cx _ fun v3 G3 H3 m3 d3 => ⟨v1, v2, v3, rfl, ?_⟩
  have s1 := m3.cx.store (i := i) ((d1.mono m2.go.gg).mono m3.go.gg)
  have s2 := s1.cx.store (i := j) (d2.mono m3.go.gg)
  exact m.nx _ _ _ _ (((m1.mw.trans m2.mw).trans m3.mw).trans (s1.trans (s2.trans (s2.cx.store (i := l) d3)))) rfl

/-! ### the handed object: bag[i] = e, self.f = e -/
theorem ctx_bagSet {C : Kc} {σ : L2.St} {G H : Hp} {bb : Addr} {o o' : BG} {ho : HO} (cx : Ctx C G H σ S) (hg : S.g = some (bb, o)) (g2 : G bb = none) (hb : BagOk C G (upd H bb ho) (some (bb, o'))) : Mv C σ S G H ⟨S.s, some (bb, o')⟩ G (upd H bb ho) := by
  have ne : ∀ a, ¬ OA C σ S a → a ≠ bb := fun a n z => n (.inr ⟨o, by rw [z]; exact hg⟩)
  refine ⟨⟨fun a u n h => by rw [upd_ne (ne a n)]; exact h, fun _ _ h => h, fun _ _ _ h => h, fun a h => by
    by_cases z : a = bb
    · rw [z, upd_same]; simp
    · rw [upd_ne z]; exact h⟩, ⟨fun a u h => ?_, cx.len, cx.im, fun i ds h => ?_, cx.apart, fun i b o2 h h1 => ?_, hb, fun i b o2 ds h h1 => ?_⟩, fun a z => ?_⟩
  · have na : a ≠ bb := fun z => by rw [z, g2] at h; cases h
    rw [upd_ne na]; exact cx.sub _ _ h
  · obtain ⟨a, vs, h1, h3, h4, h5⟩ := cx.ow i ds h
    have na : a ≠ bb := fun z => cx.nob i bb _ ds hg h (by rw [← z]; exact h1)
    exact ⟨a, vs, h1, h3, by rw [upd_ne na]; exact h4, h5⟩
  · cases h; exact cx.bg i bb _ hg h1
  · cases h; exact cx.nob i bb _ ds hg h1
  · rcases z with z | ⟨o2, z⟩
    · exact .inl z
    · cases z; exact .inr ⟨_, hg⟩
theorem ds_bagSet {j : Nat} {x : Str} {i : Int} {n : Nat} {q1 : Pos} {bb : Addr} {gs : List D} (he : DE F e S S1 d) (hj : S1.s[j]? = some (some .bag)) (hb : DE F b S1 S1 (.int i)) (hg : S1.g = some (bb, .lst gs)) (hi : ixN gs.length i = some n) (q : DS F rest ⟨S1.s, some (bb, .lst (gs.set n d))⟩ P)
    (hN : ∀ i, (F.X i).N[j]? = some x := by intro _; rfl) (hv : ∀ i, Vis (F.X i).env.scope x := by intro _; first | exact Or.inl rfl | exact Or.inr (Or.inl rfl) | exact Or.inr (Or.inr rfl))
    (hd : (x == ("__debug__" : Str)) = false := by decide) (hcd : (x == ("__classdict__" : Str)) = false := by decide)
    (hp : ∀ i, PS (F.X i) (.Assign [.Subscript (.Name x q1) b p] e pos) (tAsg (anyE F e) (gSub (tVar j) (anyE F b) rSetL)) := by
      intro i; exact ps_asg (anyE_ok i) (pg_sub (pv _) (anyE_ok i) set_list)) :
    DS F (.Assign [.Subscript (.Name x q1) b p] e pos :: rest) S P := by
  refine ds_cons (M := fun S3 => S3 = ⟨S1.s, some (bb, .lst (gs.set n d))⟩) (d1_of (te := tAsg (anyE F e) (gSub (tVar j) (anyE F b) rSetL)) hp ?_) fun _ z => z ▸ q
  intro σ G H c E m
  refine he σ G H c _ fun v G1 H1 m1 dv => ⟨_, m1.cx.bg j _ _ hg hj, ?_⟩
  refine hb σ G1 H1 m1.cx _ fun w G2 H2 m2 dw => ?_
  cases dw
  have z := m2.cx.bag
  rw [hg] at z
  obtain ⟨z1, gv, z2, z3⟩ := z
  refine ⟨bb, gv, i, n, rfl, rfl, z2, by rw [z3.length]; exact hi, ?_⟩
  exact m.nx _ _ _ _ (m1.mw.trans (m2.mw.trans (ctx_bagSet (o' := .lst (gs.set n d)) m2.cx hg z1 ⟨z1, _, upd_same, z3.set (dv.mono m2.go.gg) n⟩).mw)) rfl
theorem ds_fld {j : Nat} {x f : Str} {q1 q2 : Pos} {bb : Addr} {cn : Nat} {fs : List (Str × D)} (he : DE F e S S1 d) (hj : S1.s[j]? = some (some .bag)) (hg : S1.g = some (bb, .ins cn fs)) (hc : Cls F.C.K (F.C.cl cn)) (hn : NoAttr F.C.K (F.C.cl cn) f) (q : DS F rest ⟨S1.s, some (bb, .ins cn (putD f d fs))⟩ P) (hl : fs.length < 1000 := by decide)
    (hN : ∀ i, (F.X i).N[j]? = some x := by intro _; rfl) (hv : ∀ i, Vis (F.X i).env.scope x := by intro _; first | exact Or.inl rfl | exact Or.inr (Or.inl rfl) | exact Or.inr (Or.inr rfl))
    (hd : (x == ("__debug__" : Str)) = false := by decide) (hcd : (x == ("__classdict__" : Str)) = false := by decide)
    (hs : ∀ i, swapsWith e (some (.Attribute (.Name x q1) f q2)) pos.line (F.X i).env = pure false := by intro _; rfl) : DS F (.Assign [.Attribute (.Name x q1) f q2] e pos :: rest) S P := by
  refine ds_cons (M := fun S3 => S3 = ⟨S1.s, some (bb, .ins cn (putD f d fs))⟩) (d1_of (te := sFld F.C.K (tVar j) (anyE F e) f) (fun i => by have := ps_fld (f := f) (pos := pos) (pos' := q2) (pe_var (pos := q1) (hN i) (hv i) hd hcd) (anyE_ok (e := e) i) (hs i); rw [F.hK i] at this; exact this) ?_) fun _ z => z ▸ q
  intro σ G H c E m
  refine he σ G H c _ fun v G1 H1 m1 dv => ⟨_, m1.cx.bg j _ _ hg hj, ?_⟩
  have z := m1.cx.bag
  rw [hg] at z
  obtain ⟨z1, dx, gv, z2, z3⟩ := z
  refine ⟨bb, _, dx, gv, rfl, z2, hc, hn, by rw [z3.length]; exact hl, ?_⟩
  exact m.nx _ _ _ _ (m1.mw.trans (ctx_bagSet (o' := .ins cn (putD f d fs)) m1.cx hg z1 ⟨z1, dx, _, upd_same, z3.put dv⟩).mw) rfl
/-- an attribute of the handed instance -/
theorem de_fldB {j : Nat} {x f : Str} {q1 : Pos} {bb : Addr} {cn : Nat} {fs : List (Str × D)} (hj : S.s[j]? = some (some .bag)) (hg : S.g = some (bb, .ins cn fs)) (hc : Cls F.C.K (F.C.cl cn)) (hn : NoAttr F.C.K (F.C.cl cn) f) (hl : fs.lookup f = some d)
    (hN : ∀ i, (F.X i).N[j]? = some x := by intro _; rfl) (hv : ∀ i, Vis (F.X i).env.scope x := by intro _; first | exact Or.inl rfl | exact Or.inr (Or.inl rfl) | exact Or.inr (Or.inr rfl))
    (hd : (x == ("__debug__" : Str)) = false := by decide) (hcd : (x == ("__classdict__" : Str)) = false := by decide)
    (hb : ∀ i, attributeBase (.Name x q1) f (F.X i).env (eval (.Name x q1) (F.X i).env) = eval (.Name x q1) (F.X i).env := by intro _; rfl) : DE F (.Attribute (.Name x q1) f pos) S S d :=
  de_of (te := tFld F.C.K (tVar j) f) (fun i => by have := pe_fld (pos := pos) (pe_var (pos := q1) (hN i) (hv i) hd hcd) (hb i); rw [F.hK i] at this; exact this) fun σ G H cx Q q => by
    refine ⟨_, cx.bg j _ _ hg hj, ?_⟩
    have z := cx.bag
    rw [hg] at z
    obtain ⟨z1, dx, gv, z2, z3⟩ := z
    obtain ⟨w, h1, h2⟩ := z3.look hl
    exact ⟨bb, _, dx, gv, w, rfl, z2, hc, hn, h1, q _ _ _ (.refl cx) h2⟩

/-! ### own lists -/
theorem Ctx.storeO {C : Kc} {G H : Hp} {σ : L2.St} {S : ST} {i : Nat} {q : Addr} {vs : List V} {ds : List D} (c : Ctx C G H σ S) (gq : G q = none) (hq : H q = some (.lst vs)) (dl : DenL C G vs ds) (hi : i < S.s.length) (no : ∀ (j : Nat) es, S.s[j]? = some (some (.own es)) → σ[j]? ≠ some (some (.ref q))) (nb : ∀ o, S.g ≠ some (q, o)) :
    Ctx C G H (σ.set i (some (.ref q))) (S.setO i ds) := by
  have hi2 : i < σ.length := by rw [c.len]; exact hi
  have key : ∀ (j : Nat) (o : DV), i ≠ j → (S.setO i ds).s[j]? = some (some o) → S.s[j]? = some (some o) := fun j o ij q => by rw [ST.setO, List.getElem?_set_ne ij] at q; exact q
  have self : (S.setO i ds).s[i]? = some (some (.own ds)) := List.getElem?_set_self hi
  have selfσ : (σ.set i (some (V.ref q)))[i]? = some (some (.ref q)) := List.getElem?_set_self hi2
  refine ⟨c.sub, by simp [ST.setO, c.len], fun j e r => ?_, fun j e r => ?_, fun j k' es fs a r1 r2 r3 r4 => ?_, fun j b o hg r => ?_, c.bag, fun j b o es hg r => ?_⟩
  · by_cases ij : i = j
    · subst ij; rw [self] at r; cases r
    · rw [List.getElem?_set_ne ij]; exact c.im j e (key j _ ij r)
  · by_cases ij : i = j
    · subst ij; rw [self] at r; cases r; exact ⟨q, vs, selfσ, gq, hq, dl⟩
    · rw [List.getElem?_set_ne ij]; exact c.ow j e (key j _ ij r)
  · by_cases ij : i = j
    · by_cases ik : i = k'
      · exact ij.symm.trans ik
      · subst ij
        rw [selfσ] at r3; cases r3
        rw [List.getElem?_set_ne ik] at r4
        exact absurd r4 (no k' fs (key k' _ ik r2))
    · by_cases ik : i = k'
      · subst ik
        rw [selfσ] at r4; cases r4
        rw [List.getElem?_set_ne ij] at r3
        exact absurd r3 (no j es (key j _ ij r1))
      · rw [List.getElem?_set_ne ij] at r3
        rw [List.getElem?_set_ne ik] at r4
        exact c.apart j k' es fs a (key j _ ij r1) (key k' _ ik r2) r3 r4
  · by_cases ij : i = j
    · subst ij; rw [self] at r; cases r
    · rw [List.getElem?_set_ne ij]; exact c.bg j b o hg (key j _ ij r)
  · by_cases ij : i = j
    · subst ij; rw [selfσ]; intro z; cases z; exact nb o hg
    · rw [List.getElem?_set_ne ij]; exact c.nob j b o es hg (key j _ ij r)
/-- a new list is stored as an own one -/
theorem ds_setO {j : Nat} {x : Str} {pos' : Pos} (he : DO F e S S1 ds) (q : DS F rest (S1.setO j ds) P) (hj : j < S1.s.length := by decide) (hN : ∀ i, (F.X i).N[j]? = some x := by intro _; rfl) (hx : ∀ i, Loc (F.X i).env.scope x := by intro _; first | exact Or.inl rfl | exact Or.inr rfl)
    (hs : ∀ i, swapsWith e (some (.Name x pos')) pos.line (F.X i).env = pure false := by intro _; rfl) (hf : ∀ i, (F.X i).fn x = true ∨ (F.X i).env.scope.names.lookup x = some .local := by intro _; first | exact .inl rfl | exact .inr rfl) : DS F (.Assign [.Name x pos'] e pos :: rest) S P := by
  refine ds_cons (M := fun S2 => S2 = S1.setO j ds) (d1_of (te := tAsg (anyE F e) (gName j)) (fun i => ps_set (by rw [F.hN i]; exact F.nd) (hN i) (hx i) (anyE_ok i) (hs i) (hf i)) ?_) fun _ z => z ▸ q
  intro σ G H c E m
  refine he σ G H c _ fun q vs G1 H1 m1 hq gq hq1 dl => m.nx _ _ G1 H1 ?_ rfl
  have noS : ∀ (j : Nat) es, S1.s[j]? = some (some (.own es)) → σ[j]? ≠ some (some (.ref q)) := fun j es r z => by
    rcases m1.oa q (.inl ⟨j, es, r, z⟩) with ⟨j', es', r', z'⟩ | ⟨o, r'⟩
    · obtain ⟨a, vs, h1, _, h2, _⟩ := c.ow j' es' r'
      rw [z'] at h1; cases h1; rw [hq] at h2; cases h2
    · have z := c.bag
      rw [r'] at z
      cases o with
      | lst => obtain ⟨_, _, h2, _⟩ := z; rw [hq] at h2; cases h2
      | ins => obtain ⟨_, _, _, h2, _⟩ := z; rw [hq] at h2; cases h2
  have noB : ∀ o, S1.g ≠ some (q, o) := fun o r => by
    rcases m1.oa q (.inr ⟨o, r⟩) with ⟨j', es', r', z'⟩ | ⟨o, r'⟩
    · obtain ⟨a, vs, h1, _, h2, _⟩ := c.ow j' es' r'
      rw [z'] at h1; cases h1; rw [hq] at h2; cases h2
    · have z := c.bag
      rw [r'] at z
      cases o with
      | lst => obtain ⟨_, _, h2, _⟩ := z; rw [hq] at h2; cases h2
      | ins => obtain ⟨_, _, _, h2, _⟩ := z; rw [hq] at h2; cases h2
  have cx2 := m1.cx.storeO (i := j) gq hq1 dl hj noS noB
  refine ⟨m1.go, cx2, fun a z => ?_⟩
  rcases z with ⟨j', es, r1, r2⟩ | ⟨o, r⟩
  · by_cases ij : j = j'
    · subst ij
      rw [List.getElem?_set_self (by rw [m1.cx.len]; exact hj)] at r2
      cases r2
      exact .inr hq
    · rw [ST.setO, List.getElem?_set_ne ij] at r1
      rw [List.getElem?_set_ne ij] at r2
      exact .inl (m1.oa a (.inl ⟨j', es, r1, r2⟩))
  · exact .inl (m1.oa a (.inr ⟨o, r⟩))
theorem do_lst {es : List Expr} {ds : List D} (h : DA F es S S1 ds) (hl : ds.length ≤ sizeLine := by decide) : DO F (.List es pos) S S1 ds :=
  do_of (fun i => pe_lst (anyA_ok i)) fun σ G H c Q q => h σ G H c _ fun vs G1 H1 m dl => ⟨by rw [dl.length]; exact hl, fun p hp => by
    have sm : Same H1 (upd H1 p (.lst vs)) := fun a u h => by rw [upd_ne (ne_of_none h hp)]; exact h
    have hp0 : H p = none := by
      cases r : H p with
      | none => rfl
      | some o =>
        by_cases n : OA F.C σ S p
        · rcases n with ⟨j, es, r1, r2⟩ | ⟨o', r1⟩
          · have : OA F.C σ S p := .inl ⟨j, es, r1, r2⟩
            obtain ⟨a, ws, h1, _, h2, _⟩ := c.ow j es r1
            rw [r2] at h1; cases h1
            exact absurd hp (m.go.dom _ (by rw [h2]; simp))
          · have z := c.bag
            rw [r1] at z
            cases o' with
            | lst => obtain ⟨_, _, h2, _⟩ := z; exact absurd hp (m.go.dom _ (by rw [h2]; simp))
            | ins => obtain ⟨_, _, _, h2, _⟩ := z; exact absurd hp (m.go.dom _ (by rw [h2]; simp))
        · rw [m.go.keep p o n r] at hp; cases hp
    have g1 : G1 p = none := m.cx.sub.free hp
    exact q p vs G1 _ (m.trans (m.cx.mv sm (fun _ _ h => h) (m.cx.sub.trans sm) fun _ _ h => h)) hp0 g1 upd_same dl⟩
end
end DL
/-! DL6: own lists changed, read, frozen; while, for; comprehensions. -/
namespace DL
open PySem L2

section
variable {F : Fam} {S S1 S2 S3 : ST} {e a b c tg iter : Expr} {d x y z : D} {pos p apos : Pos} {es : List Expr} {ds : List D} {k : Bool} {nm : Str} {P : Po} {rest t u body : List Stmt} {st : Stmt} {M : ST → Prop}

theorem Ctx.putO {C : Kc} {G H : Hp} {σ : L2.St} {S : ST} {j : Nat} {a : Addr} {vs' : List V} {ds ds' : List D} (c : Ctx C G H σ S) (hj : S.s[j]? = some (some (.own ds))) (ha : σ[j]? = some (some (.ref a))) (ga : G a = none) (dl : DenL C G vs' ds') :
    Mv C σ S G H (S.setO j ds') G (upd H a (.lst vs')) := by
  have hjl : j < S.s.length := by
    rcases Nat.lt_or_ge j S.s.length with z | z
    · exact z
    · rw [List.getElem?_eq_none z] at hj; cases hj
  have self : (S.setO j ds').s[j]? = some (some (.own ds')) := List.getElem?_set_self hjl
  have key : ∀ (i : Nat) (o : DV), j ≠ i → (S.setO j ds').s[i]? = some (some o) → S.s[i]? = some (some o) := fun i o ij q => by rw [ST.setO, List.getElem?_set_ne ij] at q; exact q
  have own : ∀ (i : Nat) es, (S.setO j ds').s[i]? = some (some (.own es)) → ∃ es', S.s[i]? = some (some (.own es')) := fun i es q => by
    by_cases ij : j = i
    · subst ij; exact ⟨ds, hj⟩
    · exact ⟨es, key i _ ij q⟩
  have oa : ∀ x, OA C σ (S.setO j ds') x → OA C σ S x := fun x z => by
    rcases z with ⟨i, es, r1, r2⟩ | z
    · obtain ⟨es', r⟩ := own i es r1
      exact .inl ⟨i, es', r, r2⟩
    · exact .inr z
  have na : ∀ x, ¬ OA C σ S x → x ≠ a := fun x n z => n (.inl ⟨j, ds, hj, by rw [z]; exact ha⟩)
  refine ⟨⟨fun x o n h => by rw [upd_ne (na x n)]; exact h, fun _ _ h => h, fun _ _ _ h => h, fun x h => ?_⟩, ⟨fun x o h => ?_, by simp [ST.setO, c.len], fun i d q => ?_, fun i es q => ?_, fun i i' es es' q q1 q2 q3 q4 => ?_, fun i b o hg q => ?_, ?_, fun i b o es hg q => ?_⟩, oa⟩
  · by_cases z : x = a
    · rw [z, upd_same]; simp
    · rw [upd_ne z]; exact h
  · have z : x ≠ a := fun z => by rw [z, ga] at h; cases h
    rw [upd_ne z]; exact c.sub _ _ h
  · by_cases ij : j = i
    · subst ij; rw [self] at q; cases q
    · exact c.im i d (key i _ ij q)
  · by_cases ij : j = i
    · subst ij; rw [self] at q; cases q; exact ⟨a, vs', ha, ga, upd_same, dl⟩
    · obtain ⟨a', ws, h1, h2, h3, h4⟩ := c.ow i es (key i _ ij q)
      have z : a' ≠ a := fun z => ij (c.apart j i ds es a hj (key i _ ij q) ha (by rw [← z]; exact h1))
      exact ⟨a', ws, h1, h2, by rw [upd_ne z]; exact h3, h4⟩
  · obtain ⟨e1, r1⟩ := own i es q1
    obtain ⟨e2, r2⟩ := own i' es' q2
    exact c.apart i i' e1 e2 q r1 r2 q3 q4
  · by_cases ij : j = i
    · subst ij; rw [self] at q; cases q
    · exact c.bg i b o hg (key i _ ij q)
  · have nb : ∀ b o, S.g = some (b, o) → b ≠ a := fun b o hg z => c.nob j b o ds hg hj (by rw [z]; exact ha)
    have z := c.bag
    show BagOk C G (upd H a (.lst vs')) S.g
    cases q : S.g with
    | none => trivial
    | some bo =>
      obtain ⟨b, o⟩ := bo
      rw [q] at z
      cases o with
      | lst es => obtain ⟨h1, ws, h2, h3⟩ := z; exact ⟨h1, ws, by rw [upd_ne (nb b _ q)]; exact h2, h3⟩
      | ins cc fs => obtain ⟨h1, dx, ws, h2, h3⟩ := z; exact ⟨h1, dx, ws, by rw [upd_ne (nb b _ q)]; exact h2, h3⟩
  · obtain ⟨e1, r1⟩ := own i es q
    exact c.nob i b o e1 hg r1
/-- x.append(e), x an own list -/
theorem ds_append {j : Nat} {x : Str} {q1 cpos : Pos} {gs : List D} (he : DE F e S S1 d) (hj0 : ∃ es, S.s[j]? = some (some (.own es))) (hj : S1.s[j]? = some (some (.own gs))) (q : DS F rest (S1.setO j (gs ++ [d])) P) (hl : gs.length < sizeLine)
    (hp : ∀ i, PE (F.X i) (.Call (.Attribute (.Name x q1) "append" apos) [e] [] cpos) (tBM (F.X i).K "list" rAppend (tVar j) (tCons (anyE F e) tNil)) := by
      intro i; exact pe_bm PySem.F.plainAttrs_list PySem.F.slot_list_append PySem.F.type_list_append mt_append (pv _) (pa_cons (anyE_ok i) pa_nil))
    (hs : ∀ i, swapsWith (.Call (.Attribute (.Name x q1) "append" apos) [e] [] cpos) none pos.line (F.X i).env = pure false := by intro _; rfl) : DS F (.Expr (.Call (.Attribute (.Name x q1) "append" apos) [e] [] cpos) pos :: rest) S P := by
  refine ds_cons (M := fun S3 => S3 = S1.setO j (gs ++ [d])) (d1_of (te := tDrop (tBM F.C.K "list" rAppend (tVar j) (tCons (anyE F e) tNil))) (fun i => ps_expr (by have := hp i; rw [F.hK i] at this; exact this) (hs i)) ?_) fun _ z => z ▸ q
  intro σ G H c E m
  obtain ⟨es, hj0⟩ := hj0
  obtain ⟨a0, vs0, s1, _, s3, _⟩ := c.ow j es hj0
  refine ⟨.ref a0, s1, .inl ⟨rfl, vs0, SqL.of s3⟩, ?_⟩
  refine he σ G H c _ fun v G1 H1 m1 dv => ?_
  obtain ⟨a, vs, h1, h2, h3, h4⟩ := m1.cx.ow j gs hj
  rw [s1] at h1; cases h1
  refine ⟨a0, vs, v, rfl, rfl, h3, by rw [h4.length]; exact hl, ?_⟩
  exact m.nx _ _ _ _ (m1.mw.trans (m1.cx.putO hj s1 h2 (h4.append (.cons dv .nil))).mw) rfl
/-- x[i] = e, x an own list -/
theorem ds_ownSet {j : Nat} {x : Str} {i : Int} {n : Nat} {q1 : Pos} {gs : List D} (he : DE F e S S1 d) (hj : S1.s[j]? = some (some (.own gs))) (hb : DE F b S1 S1 (.int i)) (hi : ixN gs.length i = some n) (q : DS F rest (S1.setO j (gs.set n d)) P)
    (hp : ∀ i, PS (F.X i) (.Assign [.Subscript (.Name x q1) b p] e pos) (tAsg (anyE F e) (gSub (tVar j) (anyE F b) rSetL)) := by
      intro i; exact ps_asg (anyE_ok i) (pg_sub (pv _) (anyE_ok i) set_list)) :
    DS F (.Assign [.Subscript (.Name x q1) b p] e pos :: rest) S P := by
  refine ds_cons (M := fun S3 => S3 = S1.setO j (gs.set n d)) (d1_of (te := tAsg (anyE F e) (gSub (tVar j) (anyE F b) rSetL)) hp ?_) fun _ z => z ▸ q
  intro σ G H c E m
  refine he σ G H c _ fun v G1 H1 m1 dv => ?_
  obtain ⟨a, _, h1, _⟩ := m1.cx.ow j gs hj
  refine ⟨.ref a, h1, ?_⟩
  refine hb σ G1 H1 m1.cx _ fun w G2 H2 m2 dw => ?_
  cases dw
  obtain ⟨a', vs, h1', h2, h3, h4⟩ := m2.cx.ow j gs hj
  rw [h1] at h1'; cases h1'
  refine ⟨a, vs, i, n, rfl, rfl, h3, by rw [h4.length]; exact hi, ?_⟩
  exact m.nx _ _ _ _ (m1.mw.trans (m2.mw.trans (m2.cx.putO hj h1 h2 (h4.set (dv.mono m2.go.gg) n)).mw)) rfl
/-- an own list read by place -/
theorem de_ownIx {j : Nat} {x : Str} {i : Int} {gs : List D} (hj : S.s[j]? = some (some (.own gs))) (hb : DE F b S S (.int i)) (hi : atI gs i = some d) (hs : PlainIx b := by intro _ _; rfl)
    (hN : ∀ i, (F.X i).N[j]? = some x := by intro _; rfl) (hv : ∀ i, Vis (F.X i).env.scope x := by intro _; first | exact Or.inl rfl | exact Or.inr (Or.inl rfl) | exact Or.inr (Or.inr rfl))
    (hd : (x == ("__debug__" : Str)) = false := by decide) (hcd : (x == ("__classdict__" : Str)) = false := by decide) : DE F (.Subscript (.Name x p) b pos) S S d :=
  de_of (te := tOp (rIxL F.C.K) (tVar j) (anyE F b)) (fun k => by have := pe_ix (pos := pos) (ix_list (X := F.X k)) (pe_var (pos := p) (hN k) (hv k) hd hcd) (anyE_ok (e := b) k) hs; rw [F.hK k] at this; exact this) fun σ G H c Q q => by
    obtain ⟨a, vs, h1, _⟩ := c.ow j gs hj
    refine ⟨_, h1, hb σ G H c _ fun w G2 H2 m2 dw => ?_⟩
    cases dw
    obtain ⟨a', vs, h1', h2, h3, h4⟩ := m2.cx.ow j gs hj
    rw [h1] at h1'; cases h1'
    obtain ⟨w, r1, r2⟩ := atI_den h4 hi
    exact ⟨a, vs, i, w, rfl, rfl, SqL.of h3, r1, q _ _ _ m2 r2⟩
/-- an own list is handed over: from now on it is data -/
theorem Ctx.freeze {C : Kc} {G H : Hp} {σ : L2.St} {S : ST} {j : Nat} {a : Addr} {vs : List V} {ds : List D} (c : Ctx C G H σ S) (hj : S.s[j]? = some (some (.own ds))) (ha : σ[j]? = some (some (.ref a))) (ga : G a = none) (h3 : H a = some (.lst vs)) (dl : DenL C G vs ds) :
    Mv C σ S G H (S.set j (.lst ds)) (upd G a (.lst vs)) H := by
  have hjl : j < S.s.length := by
    rcases Nat.lt_or_ge j S.s.length with z | z
    · exact z
    · rw [List.getElem?_eq_none z] at hj; cases hj
  have gg : Same G (upd G a (.lst vs)) := fun x o h => by rw [upd_ne (ne_of_none h ga)]; exact h
  have self : (S.set j (.lst ds)).s[j]? = some (some (.imm (.lst ds))) := List.getElem?_set_self hjl
  have key : ∀ (i : Nat) (o : DV), j ≠ i → (S.set j (.lst ds)).s[i]? = some (some o) → S.s[i]? = some (some o) := fun i o ij q => by rw [ST.set, List.getElem?_set_ne ij] at q; exact q
  have keyO : ∀ (i : Nat) es, (S.set j (.lst ds)).s[i]? = some (some (.own es)) → j ≠ i ∧ S.s[i]? = some (some (.own es)) := fun i es q => by
    by_cases ij : j = i
    · subst ij; rw [self] at q; cases q
    · exact ⟨ij, key i _ ij q⟩
  refine ⟨⟨fun _ _ _ h => h, gg, fun x n h g => ?_, fun _ h => h⟩, ⟨fun x o h => ?_, by simp [ST.set, c.len], fun i d q => ?_, fun i es q => ?_, fun i i' es es' x q1 q2 q3 q4 => ?_, fun i b o hg q => ?_, ?_, fun i b o es hg q => ?_⟩, fun x z => ?_⟩
  · have : x ≠ a := fun z => n (.inl ⟨j, ds, hj, by rw [z]; exact ha⟩)
    rw [upd_ne this]; exact g
  · by_cases z : x = a
    · subst z; rw [upd_same] at h; cases h; exact h3
    · rw [upd_ne z] at h; exact c.sub _ _ h
  · by_cases ij : j = i
    · subst ij; rw [self] at q; cases q; exact ⟨.ref a, ha, .lst (SqL.of upd_same) (dl.mono gg)⟩
    · obtain ⟨v, h1, h2⟩ := c.im i d (key i _ ij q)
      exact ⟨v, h1, h2.mono gg⟩
  · obtain ⟨ij, q⟩ := keyO i es q
    obtain ⟨a', ws, h1, h2, h3, h4⟩ := c.ow i es q
    have z : a' ≠ a := fun z => ij (c.apart j i ds es a hj q ha (by rw [← z]; exact h1))
    exact ⟨a', ws, h1, by rw [upd_ne z]; exact h2, h3, h4.mono gg⟩
  · exact c.apart i i' es es' x (keyO i es q1).2 (keyO i' es' q2).2 q3 q4
  · by_cases ij : j = i
    · subst ij; rw [self] at q; cases q
    · exact c.bg i b o hg (key i _ ij q)
  · have nb : ∀ b o, S.g = some (b, o) → b ≠ a := fun b o hg z => c.nob j b o ds hg hj (by rw [z]; exact ha)
    have z := c.bag
    show BagOk C (upd G a (.lst vs)) H S.g
    cases q : S.g with
    | none => trivial
    | some bo =>
      obtain ⟨b, o⟩ := bo
      rw [q] at z
      cases o with
      | lst es => obtain ⟨h1, ws, h2, h3⟩ := z; exact ⟨by rw [upd_ne (nb b _ q)]; exact h1, ws, h2, h3.mono gg⟩
      | ins cc fs => obtain ⟨h1, dx, ws, h2, h3⟩ := z; exact ⟨by rw [upd_ne (nb b _ q)]; exact h1, dx, ws, h2, h3.mono gg⟩
  · exact c.nob i b o es hg (keyO i es q).2
  · rcases z with ⟨i, es, r1, r2⟩ | z
    · exact .inl ⟨i, es, (keyO i es r1).2, r2⟩
    · exact .inr z
theorem de_own {j : Nat} {x : Str} {gs : List D} (hj : S.s[j]? = some (some (.own gs))) (hN : ∀ i, (F.X i).N[j]? = some x := by intro _; rfl)
    (hv : ∀ i, Vis (F.X i).env.scope x := by intro _; first | exact Or.inl rfl | exact Or.inr (Or.inl rfl) | exact Or.inr (Or.inr rfl))
    (hd : (x == ("__debug__" : Str)) = false := by decide) (hcd : (x == ("__classdict__" : Str)) = false := by decide) : DE F (.Name x pos) S (S.set j (.lst gs)) (.lst gs) :=
  de_of (fun i => pe_var (hN i) (hv i) hd hcd) fun σ G H c Q q => by
    obtain ⟨a, vs, h1, h2, h3, h4⟩ := c.ow j gs hj
    have m := c.freeze hj h1 h2 h3 h4
    exact ⟨.ref a, h1, q _ _ _ m (.lst (SqL.of upd_same) (h4.mono m.go.gg))⟩

/-! ### while -/
theorem ds_while (I : ST → Prop) (mu : ST → Nat) (M : ST → Prop) (h0 : I S)
    (hs : ∀ S, I S → ∃ k S1, DT F c S S1 k ∧ (k = true → DS F body S1 { P with nx := fun S2 => I S2 ∧ mu S2 < mu S, ct := fun S2 => I S2 ∧ mu S2 < mu S, bk := M }) ∧ (k = false → M S1))
    (hr : ∀ S2, M S2 → DS F rest S2 P) (hp : ∀ i, PassesOwn (model (F.X i).prog (F.X i).w) (F.X i).A (F.X i).env (F.X i).xe := by intro _; exact PassesOwn.never) : DS F (.While c body [] pos :: rest) S P := by
  refine ds_cons (M := M) (d1_of (te := tWhile (anyT F c) (anyS F body)) (fun i => ps_while (hp i) (anyT_ok i) (anyS_ok i)) ?_) hr
  intro σ0 G0 H0 c0 E m
  refine ⟨fun m' σ H => ∃ S' G, Mw F.C σ0 S G0 H0 σ S' G H ∧ I S' ∧ m' = mu S', ⟨_, S, G0, .refl c0, h0, rfl⟩, ?_⟩
  rintro m' σ H ⟨S', G, mw, hI, rfl⟩
  obtain ⟨k, S1, hc, h1, h2⟩ := hs S' hI
  refine hc σ G H mw.cx _ fun G1 H1 m1 => ?_
  cases k with
  | false =>
    rw [if_neg Bool.false_ne_true]
    exact m.nx _ _ _ _ (mw.trans m1.mw) (h2 rfl)
  | true =>
    rw [if_pos rfl]
    refine ⟨fun σ' H' => ∃ S2 G2, Mw F.C σ0 S G0 H0 σ' S2 G2 H' ∧ I S2 ∧ mu S2 < mu S', fun σ' H' ⟨S2, G2, a, b, l⟩ => ⟨_, l, S2, G2, a, b, rfl⟩, ?_⟩
    have mm := m.move (mw.trans m1.mw)
    exact h1 rfl σ G1 H1 m1.cx _ ⟨fun σ2 S2 G2 H2 a q => ⟨S2, G2, (mw.trans m1.mw).trans a, q.1, q.2⟩, mm.rt, mm.nx, fun σ2 S2 G2 H2 a q => ⟨S2, G2, (mw.trans m1.mw).trans a, q.1, q.2⟩, mm.ro⟩

/-! ### for -/
structure ItD (C : Kc) (J : It) (G0 : Hp) (ds : List D) : Prop where
  go : ∀ i G H, i < ds.length → Same G0 G → Same G H → J.go i H
  yld : ∀ i d G H x H', ds[i]? = some d → Same G0 G → Same G H → J.yld i H x H' → ∃ G', Pu G H G' H' ∧ Den C G' x d
  stop : ∀ i G H, ds.length ≤ i → Same G0 G → Same G H → J.stop i H
theorem ItD.mono {C : Kc} {J : It} {G0 G1 : Hp} {ds : List D} (h : ItD C J G0 ds) (e : Same G0 G1) : ItD C J G1 ds :=
  ⟨fun i G H hi s => h.go i G H hi (e.trans s), fun i d G H x H' hd s => h.yld i d G H x H' hd (e.trans s), fun i G H hi s => h.stop i G H hi (e.trans s)⟩
def anyI (F : Fam) (tg iter : Expr) : TI := fun σ H R => ∃ wi, (∀ i, PI (F.X i) tg iter wi) ∧ wi σ H R
theorem anyI_ok {tg iter : Expr} (i : F.I) : PI (F.X i) tg iter (anyI F tg iter) := ⟨fun pins s σ H R I h => let ⟨wi, h1, h2⟩ := h; (h1 i).run pins s σ H R I h2⟩
def DI (F : Fam) (tg iter : Expr) (S S1 : ST) (ds : List D) : Prop := ∀ σ G H, Ctx F.C G H σ S → ∀ R : It → Hp → Prop, (∀ J G2 H2, Mv F.C σ S G H S1 G2 H2 → ItD F.C J G2 ds → R J H2) → anyI F tg iter σ H R
theorem di_of {wi : TI} (h : ∀ i, PI (F.X i) tg iter wi) (v : ∀ σ G H, Ctx F.C G H σ S → ∀ R : It → Hp → Prop, (∀ J G2 H2, Mv F.C σ S G H S1 G2 H2 → ItD F.C J G2 ds → R J H2) → wi σ H R) : DI F tg iter S S1 ds := fun σ G H c R q => ⟨wi, h, v σ G H c R q⟩
theorem itd_list {C : Kc} {G0 : Hp} {a : Addr} {vs : List V} (h : SqL C.K G0 a vs) (dl : DenL C G0 vs ds) : ItD C (Itl C.K a) G0 ds where
  go := fun i G H hi s s2 => by
    obtain ⟨v, h1, _⟩ := dl.get (List.getElem?_eq_getElem hi)
    exact ⟨vs, v, s2.seq (s.seq h), h1⟩
  yld := fun i d G H x H' hd s s2 hy => by
    obtain ⟨rfl, hy⟩ := hy
    obtain ⟨v, h1, h2⟩ := dl.get hd
    have := hy vs (s2.seq (s.seq h))
    rw [h1] at this; cases this
    exact ⟨G, .refl s2, h2.mono s⟩
  stop := fun i G H hi s s2 => ⟨vs, s2.seq (s.seq h), by rw [dl.length]; exact hi⟩
theorem itd_tup {C : Kc} {G0 : Hp} {a : Addr} {vs : List V} (h : SqT C.K G0 a vs) (dl : DenL C G0 vs ds) : ItD C (Itt C.K a) G0 ds where
  go := fun i G H hi s s2 => by
    obtain ⟨v, h1, _⟩ := dl.get (List.getElem?_eq_getElem hi)
    exact ⟨vs, v, same_t s2 (same_t s h), h1⟩
  yld := fun i d G H x H' hd s s2 hy => by
    obtain ⟨rfl, hy⟩ := hy
    obtain ⟨v, h1, h2⟩ := dl.get hd
    have := hy vs (same_t s2 (same_t s h))
    rw [h1] at this; cases this
    exact ⟨G, .refl s2, h2.mono s⟩
  stop := fun i G H hi s s2 => ⟨vs, same_t s2 (same_t s h), by rw [dl.length]; exact hi⟩
theorem di_list (h : DE F iter S S1 (.lst ds)) : DI F tg iter S S1 ds := di_of (wi := iList F.C.K (anyE F iter)) (fun i => by have := pi_list (tg := tg) (anyE_ok (e := iter) i); rw [F.hK i] at this; exact this) fun σ G H c R q => h σ G H c _ fun v G1 H1 m dv => by
  cases dv with
  | @lst a vs _ h1 h2 => exact ⟨_, rfl, ⟨vs, m.cx.sub.seq h1⟩, q _ _ _ m (itd_list h1 h2)⟩
theorem di_tup (h : DE F iter S S1 (.tup ds)) : DI F tg iter S S1 ds := di_of (wi := iTup F.C.K (anyE F iter)) (fun i => by have := pi_tup (tg := tg) (anyE_ok (e := iter) i); rw [F.hK i] at this; exact this) fun σ G H c R q => h σ G H c _ fun v G1 H1 m dv => by
  cases dv with
  | @tup a vs _ h1 h2 => exact ⟨_, rfl, ⟨vs, same_t m.cx.sub h1⟩, q _ _ _ m (itd_tup h1 h2)⟩
def rangeD (lo : Int) (n : Nat) : List D := (List.range n).map fun (i : Nat) => D.int (lo + i)
theorem rangeD_length (lo : Int) (n : Nat) : (rangeD lo n).length = n := by simp [rangeD]
theorem rangeD_get {lo : Int} {n i : Nat} {d : D} (h : (rangeD lo n)[i]? = some d) : i < n ∧ d = .int (lo + i) := by
  unfold rangeD at h
  rw [List.getElem?_map] at h
  cases q : (List.range n)[i]? with
  | none => rw [q] at h; cases h
  | some j =>
    rw [q] at h
    rw [List.getElem?_eq_some_iff] at q
    obtain ⟨h1, h2⟩ := q
    rw [List.getElem_range] at h2
    subst h2
    exact ⟨by simpa using h1, by simpa using h.symm⟩
theorem itd_range {C : Kc} {G0 : Hp} {lo : Int} {n : Nat} : ItD C (Itr lo n) G0 (rangeD lo n) where
  go := fun i G H hi s s2 => by rw [rangeD_length] at hi; exact hi
  yld := fun i d G H x H' hd s s2 hy => by
    obtain ⟨rfl, rfl⟩ := hy
    obtain ⟨_, rfl⟩ := rangeD_get hd
    exact ⟨G, .refl s2, .int _⟩
  stop := fun i G H hi s s2 => by rw [rangeD_length] at hi; exact hi
theorem di_range1 {i : Int} {q1 : Pos} (hm : F.mg "range" = none) (h : DE F e S S1 (.int i)) (h1 : -(2 ^ 62) ≤ i) (h2 : i < 2 ^ 62) (hg : ∀ l, Gl (F.X l) "range" := by intro _; rfl) (hs : ∀ l, starEach [e] (F.X l).env = [(false, eval e (F.X l).env)] := by intro _; rfl) : DI F tg (.Call (.Name "range" p) [e] [] q1) S S1 (rangeD 0 i.toNat) :=
  di_of (wi := iRng1 (tCons (anyE F e) tNil)) (fun l => pi_range1 (hg l) (by rw [F.hmg l]; exact hm) (pa_cons (anyE_ok l) pa_nil (hs l)) (hs l)) fun σ G H c R q => h σ G H c _ fun v G1 H1 m dv => by
    cases dv
    exact ⟨i, rfl, h1, h2, q _ _ _ m itd_range⟩
theorem di_range2 {i j : Int} {q1 : Pos} (hm : F.mg "range" = none) (h : DE F a S S1 (.int i)) (h' : DE F b S1 S2 (.int j)) (hb : -(2 ^ 62) ≤ i ∧ i < 2 ^ 62 ∧ -(2 ^ 62) ≤ j ∧ j < 2 ^ 62) (hg : ∀ l, Gl (F.X l) "range" := by intro _; rfl) (hs : ∀ l, starEach [a, b] (F.X l).env = [(false, eval a (F.X l).env), (false, eval b (F.X l).env)] := by intro _; rfl)
    (hs2 : ∀ l, starEach [b] (F.X l).env = [(false, eval b (F.X l).env)] := by intro _; rfl) (hs3 : ∀ l, starEach [a, b] (F.X l).env = (false, eval a (F.X l).env) :: starEach [b] (F.X l).env := by intro _; rfl) : DI F tg (.Call (.Name "range" p) [a, b] [] q1) S S2 (rangeD i (j - i).toNat) :=
  di_of (wi := iRng2 (tCons (anyE F a) (tCons (anyE F b) tNil))) (fun l => pi_range2 (hg l) (by rw [F.hmg l]; exact hm) (pa_cons (anyE_ok l) (pa_cons (anyE_ok l) pa_nil (hs2 l)) (hs3 l)) (hs l) (hs2 l)) fun σ G H c R q => h σ G H c _ fun v G1 H1 m dv => h' σ G1 H1 m.cx _ fun v2 G2 H2 m2 dv2 => by
    cases dv
    cases dv2
    exact ⟨i, j, rfl, hb, q _ _ _ (m.trans m2) itd_range⟩
theorem ds_for (I : Nat → ST → Prop) (M : ST → Prop) (hi : DI F tg iter S S1 ds) (h0 : I 0 S1) (hb : ∀ i S d, ds[i]? = some d → I i S → ∃ S' js, DG F tg d S S' js ∧ DS F body S' { P with nx := I (i + 1), ct := I (i + 1), bk := M }) (hd : ∀ S, I ds.length S → M S) (hr : ∀ S2, M S2 → DS F rest S2 P)
    (hp : ∀ i, PassesOwn (model (F.X i).prog (F.X i).w) (F.X i).A (F.X i).env (F.X i).xe := by intro _; exact PassesOwn.never)
    (hf : ∀ i, PS (F.X i) (.For tg iter body [] pos) (tFor (anyI F tg iter) (anyG F tg) (anyS F body)) := by intro i; exact ps_for PassesOwn.never (Fam.calm _ i) (anyI_ok i) (anyG_ok i) (anyS_ok i)) : DS F (.For tg iter body [] pos :: rest) S P := by
  refine ds_cons (M := M) (d1_of (te := tFor (anyI F tg iter) (anyG F tg) (anyS F body)) hf ?_) hr
  intro σ0 G0 H0 c0 E m
  refine hi σ0 G0 H0 c0 _ fun J G1 H1 m1 it => ?_
  refine ⟨fun i m' σ H => i ≤ ds.length ∧ m' = ds.length - i ∧ ∃ S' G, Mw F.C σ0 S1 G1 H1 σ S' G H ∧ I i S', ⟨_, Nat.zero_le _, rfl, S1, G1, .refl m1.cx, h0⟩, ?_⟩
  rintro i m' σ H ⟨hle, rfl, S', G, mw, hI⟩
  by_cases hlt : i < ds.length
  · refine .inr ⟨it.go i G H hlt mw.go.gg mw.cx.sub, fun σ' H' => ∃ S2 G2, Mw F.C σ0 S1 G1 H1 σ' S2 G2 H' ∧ I (i + 1) S2, fun σ' H' ⟨S2, G2, a, b⟩ => ⟨_, by omega, hlt, rfl, S2, G2, a, b⟩, fun x H' hy => ?_⟩
    obtain ⟨G', pu, dx⟩ := it.yld i _ G H x H' (List.getElem?_eq_getElem hlt) mw.go.gg mw.cx.sub hy
    obtain ⟨S3, js, hg, hbd⟩ := hb i S' _ (List.getElem?_eq_getElem hlt) hI
    have m2 := mw.cx.pu pu
    refine hg σ G' H' x m2.cx dx _ fun σ2 G2 H2 m3 _ => ?_
    have all := (mw.trans m2.mw).trans m3
    have mm := m.move (m1.mw.trans all)
    exact hbd σ2 G2 H2 m3.cx _ ⟨fun σ3 S3 G3 H3 a q => ⟨S3, G3, all.trans a, q⟩, mm.rt, mm.nx, fun σ3 S3 G3 H3 a q => ⟨S3, G3, all.trans a, q⟩, mm.ro⟩
  · have e : i = ds.length := by omega
    subst e
    exact .inl ⟨it.stop _ G H (Nat.le_refl _) mw.go.gg mw.cx.sub, m.nx _ _ _ _ (m1.mw.trans mw) (hd S' hI)⟩
end
end DL
/-! DL7: list comprehensions on data. -/
namespace DL
open PySem L2

def Fam.blk (F : Fam) (scope : Scope) : Fam where
  I := F.I × (Shared × Hp × Addr × List (Str × Addr) × List Addr)
  X := fun j => (F.X j.1).blk j.2.1 j.2.2.1 scope (compEnvC scope j.2.2.2.2.1 j.2.2.2.1 (F.X j.1).env) j.2.2.2.2.2
  P := F.P
  w := F.w
  C := F.C
  mg := F.mg
  base := F.base
  N := F.N
  k := F.k
  hP := fun i => F.hP i.1
  hw := fun i => F.hw i.1
  hK := fun i => F.hK i.1
  hmg := fun i => F.hmg i.1
  hbase := fun i => F.hbase i.1
  hN := fun i => F.hN i.1
  nd := F.nd
  room := fun i => F.room i.1
  calm := fun i => F.calm i.1

def noOwn : Option DV → Option DV
  | some (.own _) => none
  | o => o
/-- the slots of the block's own names, and the own lists, forgotten -/
def hidS (s : List (Option DV)) : List Nat → List (Option DV)
  | [] => s.map noOwn
  | v :: vs => (hidS s vs).set v none
theorem hidS_length (s : List (Option DV)) : ∀ vs, (hidS s vs).length = s.length
  | [] => by simp [hidS]
  | v :: vs => by unfold hidS; rw [List.length_set, hidS_length s vs]
theorem hidS_get {s : List (Option DV)} {i : Nat} {o : DV} : ∀ {vs : List Nat}, (hidS s vs)[i]? = some (some o) → s[i]? = some (some o) ∧ i ∉ vs ∧ ∀ es, o ≠ .own es
  | [], h => by
    unfold hidS at h
    rw [List.getElem?_map] at h
    cases q : s[i]? with
    | none => rw [q] at h; cases h
    | some u =>
      rw [q] at h
      cases u with
      | none => cases h
      | some u =>
        cases u with
        | imm d => cases h; exact ⟨rfl, by simp, fun _ z => nomatch z⟩
        | own d => cases h
        | bag => cases h; exact ⟨rfl, by simp, fun _ z => nomatch z⟩
  | v :: vs, h => by
    unfold hidS at h
    by_cases e : v = i
    · subst e
      rcases Nat.lt_or_ge v (hidS s vs).length with z | z
      · rw [List.getElem?_set_self z] at h; cases h
      · rw [List.getElem?_eq_none (by simpa using z)] at h; cases h
    · rw [List.getElem?_set_ne e] at h
      obtain ⟨h1, h2, h3⟩ := hidS_get h
      exact ⟨h1, by simp only [List.mem_cons, not_or]; exact ⟨fun z => e z.symm, h2⟩, h3⟩
theorem wipe_keep {σ : L2.St} {i : Nat} : ∀ {vs : List Nat}, i ∉ vs → (wipe σ vs)[i]? = σ[i]?
  | [], _ => rfl
  | v :: vs, h => by
    unfold wipe
    have h2 : i ≠ v ∧ i ∉ vs := by simpa using h
    rw [List.getElem?_set_ne (Ne.symm h2.1)]
    exact wipe_keep h2.2
theorem Ctx.hid {C : Kc} {G H : Hp} {σ : L2.St} {S : ST} (c : Ctx C G H σ S) (vs : List Nat) : Ctx C G H (wipe σ vs) ⟨hidS S.s vs, S.g⟩ where
  sub := c.sub
  len := by rw [wipe_length, hidS_length]; exact c.len
  im := fun i d h => by obtain ⟨h1, h2, _⟩ := hidS_get h; rw [wipe_keep h2]; exact c.im i d h1
  ow := fun i es h => by obtain ⟨_, _, h3⟩ := hidS_get h; exact absurd rfl (h3 es)
  apart := fun i j es fs a h => by obtain ⟨_, _, h3⟩ := hidS_get h; exact absurd rfl (h3 es)
  bg := fun i b o hg h => by obtain ⟨h1, h2, _⟩ := hidS_get h; rw [wipe_keep h2]; exact c.bg i b o hg h1
  bag := c.bag
  nob := fun i b o es hg h => by obtain ⟨_, _, h3⟩ := hidS_get h; exact absurd rfl (h3 es)
theorem oa_hid {C : Kc} {σ : L2.St} {S : ST} {vs : List Nat} {a : Addr} (z : OA C (wipe σ vs) ⟨hidS S.s vs, S.g⟩ a) : ∃ o, S.g = some (a, o) := by
  rcases z with ⟨i, es, r, _⟩ | z
  · obtain ⟨_, _, h3⟩ := hidS_get r; exact absurd rfl (h3 es)
  · exact z
/-- from a block's state back to the state around it -/
theorem Ctx.outer {C : Kc} {G H G2 H2 : Hp} {σ σ2 : L2.St} {S T : ST} {vs : List Nat} (c : Ctx C G H σ S) (m : Mw C (wipe σ vs) ⟨hidS S.s vs, S.g⟩ G H σ2 T G2 H2) (hg : T.g.map (·.1) = S.g.map (·.1)) : Mv C σ S G H ⟨S.s, T.g⟩ G2 H2 := by
  have ad : ∀ b o, T.g = some (b, o) → ∃ o', S.g = some (b, o') := fun b o h => by
    rw [h] at hg
    cases q : S.g with
    | none => rw [q] at hg; cases hg
    | some bo => obtain ⟨b', o'⟩ := bo; rw [q] at hg; cases hg; exact ⟨o', rfl⟩
  refine ⟨m.go.mono fun a z => .inr (oa_hid z), ⟨m.cx.sub, c.len, fun i d h => ?_, fun i es h => ?_, c.apart, fun i b o h h1 => ?_, m.cx.bag, fun i b o es h h1 => ?_⟩, fun a z => ?_⟩
  · obtain ⟨v, h1, h2⟩ := c.im i d h
    exact ⟨v, h1, h2.mono m.go.gg⟩
  · obtain ⟨a, ws, h1, h2, h3, h4⟩ := c.ow i es h
    have na : ¬ OA C (wipe σ vs) ⟨hidS S.s vs, S.g⟩ a := fun z => by
      obtain ⟨o, z⟩ := oa_hid z
      exact c.nob i a o es z h h1
    exact ⟨a, ws, h1, m.go.fr a na (by rw [h3]; simp) h2, m.go.keep a _ na h3, h4.mono m.go.gg⟩
  · obtain ⟨o', r⟩ := ad b o h
    exact c.bg i b o' r h1
  · obtain ⟨o', r⟩ := ad b o h
    exact c.nob i b o' es r h1
  · rcases z with z | ⟨o, z⟩
    · exact .inl z
    · obtain ⟨o', r⟩ := ad a o z
      exact .inr ⟨o', r⟩

theorem wipe_wipe (σ : L2.St) (vs : List Nat) : wipe (wipe σ vs) vs = wipe σ vs := by
  have key : ∀ (us : List Nat) (τ : L2.St), (∀ v ∈ us, v ∈ vs) → wipe (wipe τ us) vs = wipe τ vs := fun us => by
    induction us with
    | nil => intro τ _; rfl
    | cons u us ih =>
      intro τ h
      show wipe ((wipe τ us).set u none) vs = wipe τ vs
      rw [wipe_set_in _ u none vs (h u List.mem_cons_self)]
      exact ih τ fun v hv => h v (List.mem_cons_of_mem _ hv)
  exact key vs σ fun _ h => h
/-- an object that is nobody's data, no own list and not the handed one is changed -/
theorem ctx_priv {C : Kc} {G H : Hp} {σ : L2.St} {S : ST} {q : Addr} {o o' : HO} (c : Ctx C G H σ S) (gq : G q = none) (no : ∀ (j : Nat) es, S.s[j]? = some (some (.own es)) → σ[j]? ≠ some (some (.ref q))) (nb : ∀ o, S.g ≠ some (q, o)) (hq : H q = some o) : Ctx C G (upd H q o') σ S where
  sub := fun a u h => by
    have : a ≠ q := fun z => by rw [z, gq] at h; cases h
    rw [upd_ne this]; exact c.sub a u h
  len := c.len
  im := c.im
  ow := fun i es h => by
    obtain ⟨a, ws, h1, h2, h3, h4⟩ := c.ow i es h
    have : a ≠ q := fun z => no i es h (by rw [← z]; exact h1)
    exact ⟨a, ws, h1, h2, by rw [upd_ne this]; exact h3, h4⟩
  apart := c.apart
  bg := c.bg
  bag := by
    have z := c.bag
    cases r : S.g with
    | none => trivial
    | some bo =>
      obtain ⟨b, bo⟩ := bo
      have nq : b ≠ q := fun e => nb bo (by rw [r, e])
      rw [r] at z
      cases bo with
      | lst es => obtain ⟨h1, ws, h2, h3⟩ := z; exact ⟨h1, ws, by rw [upd_ne nq]; exact h2, h3⟩
      | ins cc fs => obtain ⟨h1, dx, ws, h2, h3⟩ := z; exact ⟨h1, dx, ws, by rw [upd_ne nq]; exact h2, h3⟩
  nob := c.nob

section
variable {F : Fam} {S S1 S2 S3 : ST} {e a b c tg iter elt : Expr} {d x y z : D} {pos p apos : Pos} {es : List Expr} {ds : List D} {k : Bool} {nm : Str} {P : Po} {rest t u body : List Stmt} {st : Stmt} {M : ST → Prop} {ifs : List Expr} {scope : Scope} {own : List (Str × Nat)}
def anyTs (F : Fam) (ifs : List Expr) : TT := fun σ H Q => ∃ te, (∀ i, PTs (F.X i) ifs te) ∧ te σ H Q
theorem anyTs_ok {ifs : List Expr} (i : F.I) : PTs (F.X i) ifs (anyTs F ifs) := ⟨fun pins s σ H Q I h => let ⟨te, h1, h2⟩ := h; (h1 i).run pins s σ H Q I h2⟩
def DTs (F : Fam) (ifs : List Expr) (S S' : ST) (b : Bool) : Prop := EvT F.C (anyTs F ifs) S S' b
theorem dts_nil : DTs F [] S S true := fun σ G H c Q q => ⟨tYes, fun _ => pts_nil, q G H (.refl c)⟩
theorem dts_one {k : Bool} (h : DT F c S S1 k) : DTs F [c] S S1 k := fun σ G H cx Q q => ⟨anyT F c, fun i => pts_one (anyT_ok i), h σ G H cx Q q⟩
/-- one turn of a comprehension: from the bag g and what is made so far to g', out' -/
def Turn1 (F : Fam) (tg : Expr) (ifs : List Expr) (elt : Expr) (vs : List Nat) (s : List (Option DV)) (d : D) (g : Option (Addr × BG)) (out : List D) (g' : Option (Addr × BG)) (out' : List D) : Prop :=
  ∃ T1 T2 b js, DG F tg d ⟨hidS s vs, g⟩ T1 js ∧ (∀ j ∈ js, j ∈ vs) ∧ DTs F ifs T1 T2 b ∧ (b = true → ∃ T3 y, DE F elt T2 T3 y ∧ T3.g = g' ∧ out' = out ++ [y] ∧ out.length < sizeLine) ∧ (b = false → T2.g = g' ∧ out' = out)
theorem ev_lc {vs0 : List Nat} (hi : DI F tg iter S S1 ds) (gO : Nat → Option (Addr × BG)) (out : Nat → List D) (hg0 : gO 0 = S1.g) (ho0 : out 0 = []) (hga : ∀ i, (gO i).map (·.1) = S1.g.map (·.1))
    (step : ∀ i d, ds[i]? = some d → Turn1 (F.blk scope) tg ifs elt vs0 S1.s d (gO i) (out i) (gO (i + 1)) (out (i + 1))) :
    ∀ σ G H, Ctx F.C G H σ S → ∀ Q : VK, (∀ q vs G2 H2, Mv F.C σ S G H ⟨S1.s, gO ds.length⟩ G2 H2 → H q = none → G2 q = none → H2 q = some (.lst vs) → DenL F.C G2 vs (out ds.length) → Q (.ref q) H2) →
      tLc (anyI F tg iter) (anyG (F.blk scope) tg) (anyTs (F.blk scope) ifs) (anyE (F.blk scope) elt) vs0 σ H Q := by
  intro σ G0 H0 c0 Q q
  refine hi σ G0 H0 c0 _ fun J G1 H1 m1 it => ?_
  intro Da hD
  have gD : G1 Da = none := m1.cx.sub.free hD
  have hD0 : H0 Da = none := by
    cases r : H0 Da with
    | none => rfl
    | some o => exact absurd hD (m1.go.dom Da (by rw [r]; simp))
  refine ⟨fun i m' H => i ≤ ds.length ∧ m' = ds.length - i ∧ ∃ G vs, Mv F.C σ S1 G1 H1 ⟨S1.s, gO i⟩ G H ∧ G Da = none ∧ H Da = some (.lst vs) ∧ DenL F.C G vs (out i), ⟨_, Nat.zero_le _, rfl, G1, [], ?_, gD, upd_same, by rw [ho0]; exact .nil⟩, ?_⟩
  · have sm : Same H1 (upd H1 Da (.lst [])) := fun a o h => by rw [upd_ne (ne_of_none h hD)]; exact h
    have := m1.cx.mv sm (fun _ _ h => h) (m1.cx.sub.trans sm) fun _ _ h => h
    rw [hg0]
    exact this
  · rintro i m' H ⟨hle, rfl, G, vs, mv, gDi, hDi, dl⟩
    by_cases hlt : i < ds.length
    · refine .inr ⟨it.go i G H hlt mv.go.gg mv.cx.sub, fun H' => ∃ G' vs', Mv F.C σ S1 G1 H1 ⟨S1.s, gO (i + 1)⟩ G' H' ∧ G' Da = none ∧ H' Da = some (.lst vs') ∧ DenL F.C G' vs' (out (i + 1)), fun H' z => ⟨_, by omega, hlt, rfl, z⟩, fun x H' hy => ?_⟩
      obtain ⟨G', pu, dx⟩ := it.yld i _ G H x H' (List.getElem?_eq_getElem hlt) mv.go.gg mv.cx.sub hy
      obtain ⟨T1, T2, b, js, hg, hjs, ht, h1, h2⟩ := step i _ (List.getElem?_eq_getElem hlt)
      have m2 := mv.cx.pu pu
      refine hg (wipe σ vs0) G' H' x (m2.cx.hid _) dx _ fun σ2 G2 H2 m3 only => ⟨(only _ hjs).trans (by
        have := only _ hjs
        exact wipe_wipe σ _), ?_⟩
      refine ht σ2 G2 H2 m3.cx _ fun G3 H3 m4 => ?_
      have nD : ∀ o, gO i ≠ some (Da, o) := fun o z => by
        have r := hga i
        rw [z] at r
        cases r2 : S1.g with
        | none => rw [r2] at r; cases r
        | some bo =>
          obtain ⟨b', o'⟩ := bo
          rw [r2] at r
          cases r
          have z2 := m1.cx.bag
          rw [r2] at z2
          cases o' with
          | lst => obtain ⟨_, _, z3, _⟩ := z2; rw [hD] at z3; cases z3
          | ins => obtain ⟨_, _, _, z3, _⟩ := z2; rw [hD] at z3; cases z3
      have nOA : ¬ OA F.C (wipe σ vs0) ⟨hidS S1.s vs0, gO i⟩ Da := fun z => by
        obtain ⟨o, z⟩ := oa_hid (S := ⟨S1.s, gO i⟩) z
        exact nD o z
      have hDp : H' Da = some (.lst vs) := pu.hh _ _ hDi
      have gDp : G' Da = none := pu.fr Da (by rw [hDi]; simp) gDi
      cases b with
      | false =>
        rw [if_neg Bool.false_ne_true]
        obtain ⟨e1, e2⟩ := h2 rfl
        have mm := m3.trans m4.mw
        have mo := m2.cx.outer mm (by rw [e1]; exact (hga (i + 1)).trans (hga i).symm)
        rw [e1] at mo
        refine ⟨G3, vs, (mv.trans m2).trans mo, mm.go.fr Da nOA (by rw [hDp]; simp) gDp, mm.go.keep Da _ nOA hDp, ?_⟩
        rw [e2]
        exact (dl.mono pu.gg).mono mm.go.gg
      | true =>
        rw [if_pos rfl]
        obtain ⟨T3, y, he, e1, e2, e3⟩ := h1 rfl
        refine he σ2 G3 H3 m4.cx _ fun v G4 H4 m5 dv => ?_
        have mm := (m3.trans m4.mw).trans m5.mw
        have mo := m2.cx.outer mm (by rw [e1]; exact (hga (i + 1)).trans (hga i).symm)
        rw [e1] at mo
        have k1 := mm.go.keep Da _ nOA hDp
        have k2 := mm.go.fr Da nOA (by rw [hDp]; simp) gDp
        refine ⟨vs, k1, by rw [dl.length]; exact e3, G4, vs ++ [v], ?_, k2, upd_same, ?_⟩
        · have mf := (mv.trans m2).trans mo
          refine ⟨⟨fun a o n h => ?_, mf.go.gg, mf.go.fr, fun a h => ?_⟩, ?_, mf.oa⟩
          · have na : a ≠ Da := fun z => by rw [z, hD] at h; cases h
            rw [upd_ne na]; exact mf.go.keep a o n h
          · by_cases na : a = Da
            · rw [na, upd_same]; simp
            · rw [upd_ne na]; exact mf.go.dom a h
          exact ctx_priv mo.cx k2 (fun j es r z => by
            obtain ⟨a', _, r1, r2, r3, _⟩ := m1.cx.ow j es r
            rw [r1] at z; cases z
            rw [hD] at r3; cases r3) (fun o z => by
              have r := hga (i + 1)
              have z' : gO (i + 1) = some (Da, o) := z
              rw [z'] at r
              cases r2 : S1.g with
              | none => rw [r2] at r; cases r
              | some bo =>
                obtain ⟨b', o'⟩ := bo
                rw [r2] at r
                cases r
                have z2 := m1.cx.bag
                rw [r2] at z2
                cases o' with
                | lst => obtain ⟨_, _, z3, _⟩ := z2; rw [hD] at z3; cases z3
                | ins => obtain ⟨_, _, _, z3, _⟩ := z2; rw [hD] at z3; cases z3) k1
        · rw [e2]
          exact ((dl.mono pu.gg).mono mm.go.gg).append (.cons dv .nil)
    · have e : i = ds.length := by omega
      subst e
      exact .inl ⟨it.stop _ G H (Nat.le_refl _) mv.go.gg mv.cx.sub, q Da vs G H (m1.trans mv) hD0 gDi hDi dl⟩
end
end DL
/-! DL8: comprehensions as expressions and stores; == and repr of plain data; isinstance; all, any, sum, tuple, list. -/
namespace DL
open PySem L2

theorem Mv.freezeNew {C : Kc} {σ : L2.St} {S S' : ST} {G H G2 H2 : Hp} {q : Addr} {vs : List V} (c : Ctx C G H σ S) (m : Mv C σ S G H S' G2 H2) (hq : H q = none) (gq : G2 q = none) (h2 : H2 q = some (.lst vs)) : Mv C σ S G H S' (upd G2 q (.lst vs)) H2 := by
  have gg : Same G2 (upd G2 q (.lst vs)) := fun a o h => by rw [upd_ne (ne_of_none h gq)]; exact h
  have nOA : ¬ OA C σ S q := fun z => by
    rcases z with ⟨j, es, r1, r2⟩ | ⟨o, r⟩
    · obtain ⟨a, ws, h1, _, h3, _⟩ := c.ow j es r1
      rw [r2] at h1; cases h1; rw [hq] at h3; cases h3
    · have z := c.bag
      rw [r] at z
      cases o with
      | lst => obtain ⟨_, _, h3, _⟩ := z; rw [hq] at h3; cases h3
      | ins => obtain ⟨_, _, _, h3, _⟩ := z; rw [hq] at h3; cases h3
  refine ⟨⟨m.go.keep, m.go.gg.trans gg, fun a n h g => ?_, m.go.dom⟩, ⟨fun a o h => ?_, m.cx.len, fun i d h => ?_, fun i es h => ?_, m.cx.apart, m.cx.bg, ?_, m.cx.nob⟩, m.oa⟩
  · have na : a ≠ q := fun z => h (by rw [z]; exact hq)
    rw [upd_ne na]; exact m.go.fr a n h g
  · by_cases na : a = q
    · subst na; rw [upd_same] at h; cases h; exact h2
    · rw [upd_ne na] at h; exact m.cx.sub a o h
  · obtain ⟨v, r1, r2⟩ := m.cx.im i d h
    exact ⟨v, r1, r2.mono gg⟩
  · obtain ⟨a, ws, r1, r2, r3, r4⟩ := m.cx.ow i es h
    have na : a ≠ q := fun z => nOA (m.oa q (.inl ⟨i, es, h, by rw [← z]; exact r1⟩))
    exact ⟨a, ws, r1, by rw [upd_ne na]; exact r2, r3, r4.mono gg⟩
  · have z := m.cx.bag
    cases r : S'.g with
    | none => trivial
    | some bo =>
      obtain ⟨b, o⟩ := bo
      have nb : b ≠ q := fun e => nOA (m.oa q (.inr ⟨o, by rw [r, e]⟩))
      rw [r] at z
      cases o with
      | lst es => obtain ⟨h1, ws, h2, h3⟩ := z; exact ⟨by rw [upd_ne nb]; exact h1, ws, h2, h3.mono gg⟩
      | ins cc fs => obtain ⟨h1, dx, ws, h2, h3⟩ := z; exact ⟨by rw [upd_ne nb]; exact h1, dx, ws, h2, h3.mono gg⟩
section
variable {F : Fam} {S S1 S2 S3 : ST} {e a b c tg iter elt : Expr} {d x y z : D} {pos p apos : Pos} {es : List Expr} {ds : List D} {k : Bool} {nm : Str} {P : Po} {rest t u body : List Stmt} {st : Stmt} {M : ST → Prop} {ifs : List Expr} {scope : Scope} {own : List (Str × Nat)}
theorem ev_freeze {C : Kc} {te : TE} (h : EvO C te S S1 ds) : EvM C te S S1 (.lst ds) := fun σ G H c Q q => h σ G H c Q fun p vs G2 H2 m hp gp h2 dl => by
  have m2 := m.freezeNew c hp gp h2
  exact q _ _ _ m2 (.lst (SqL.of upd_same) (dl.mono fun a o h => by rw [upd_ne (ne_of_none h gp)]; exact h))
theorem de_do (h : DO F e S S1 ds) : DE F e S S1 (.lst ds) := ev_freeze h
/-- [elt for tg in iter if ..]: turn by turn -/
theorem do_lc (hi : DI F tg iter S S1 ds) (own : List (Str × Nat)) (ok : ∀ i, BlkOk (F.X i).N (F.X i).env.scope scope own) (gO : Nat → Option (Addr × BG)) (out : Nat → List D) (hg0 : gO 0 = S1.g) (ho0 : out 0 = []) (hga : ∀ i, (gO i).map (·.1) = S1.g.map (·.1))
    (step : ∀ (i : Nat) d, ds[i]? = some d → Turn1 (F.blk scope) tg ifs elt (own.map (·.2)) S1.s d (gO i) (out i) (gO (i + 1)) (out (i + 1))) (hs : ∀ i x, foldedSetIterable iter (F.X i).env x = pure x := by intro _ _; rfl) :
    DO F (.ListComp elt [⟨tg, iter, ifs, 0⟩] scope pos) S ⟨S1.s, gO ds.length⟩ (out ds.length) :=
  do_of (fun i => pe_lc (F.calm i) (by rw [F.hN i]; exact F.nd) (anyI_ok i) (ok i) (fun s H C cl fp => anyG_ok (F := F.blk scope) (i, s, H, C, cl, fp)) (fun s H C cl fp => anyTs_ok (F := F.blk scope) (i, s, H, C, cl, fp)) (fun s H C cl fp => anyE_ok (F := F.blk scope) (i, s, H, C, cl, fp)) (hs i))
    (ev_lc hi gO out hg0 ho0 hga step)
/-- .. the elements by a function of the turn, nothing left out, nothing handed changed -/
theorem do_lcI (g : Nat → D) (hi : DI F tg iter S S1 ds) (own : List (Str × Nat)) (ok : ∀ i, BlkOk (F.X i).N (F.X i).env.scope scope own) (hl : ds.length ≤ sizeLine)
    (step : ∀ (i : Nat) d, ds[i]? = some d → ∃ T1 T3 js, DG (F.blk scope) tg d ⟨hidS S1.s (own.map (·.2)), S1.g⟩ T1 js ∧ (∀ j ∈ js, j ∈ own.map (·.2)) ∧ DE (F.blk scope) elt T1 T3 (g i) ∧ T3.g = S1.g) (hs : ∀ i x, foldedSetIterable iter (F.X i).env x = pure x := by intro _ _; rfl) :
    DO F (.ListComp elt [⟨tg, iter, [], 0⟩] scope pos) S S1 ((List.range ds.length).map g) := by
  have := do_lc (ifs := []) (elt := elt) (pos := pos) hi own ok (fun _ => S1.g) (fun i => (List.range i).map g) rfl rfl (fun _ => rfl) (fun i d hd => by
    obtain ⟨T1, T3, js, h1, h2, h3, h4⟩ := step i d hd
    have hlt : i < ds.length := (List.getElem?_eq_some_iff.mp hd).1
    refine ⟨T1, T1, true, js, h1, h2, dts_nil, fun _ => ⟨T3, g i, h3, h4, by rw [List.range_succ, List.map_append]; rfl, by rw [List.length_map, List.length_range]; omega⟩, fun z => nomatch z⟩) hs
  exact this
/-- .. by a function of the element -/
theorem do_lcM (f : D → D) (hi : DI F tg iter S S1 ds) (own : List (Str × Nat)) (ok : ∀ i, BlkOk (F.X i).N (F.X i).env.scope scope own) (hl : ds.length ≤ sizeLine)
    (step : ∀ (i : Nat) d, ds[i]? = some d → ∃ T1 T3 js, DG (F.blk scope) tg d ⟨hidS S1.s (own.map (·.2)), S1.g⟩ T1 js ∧ (∀ j ∈ js, j ∈ own.map (·.2)) ∧ DE (F.blk scope) elt T1 T3 (f d) ∧ T3.g = S1.g) (hs : ∀ i x, foldedSetIterable iter (F.X i).env x = pure x := by intro _ _; rfl) :
    DO F (.ListComp elt [⟨tg, iter, [], 0⟩] scope pos) S S1 (ds.map f) := by
  have := do_lc (ifs := []) (elt := elt) (pos := pos) hi own ok (fun _ => S1.g) (fun i => (ds.take i).map f) rfl rfl (fun _ => rfl) (fun i d hd => by
    obtain ⟨T1, T3, js, h1, h2, h3, h4⟩ := step i d hd
    have hlt : i < ds.length := (List.getElem?_eq_some_iff.mp hd).1
    refine ⟨T1, T1, true, js, h1, h2, dts_nil, fun _ => ⟨T3, f d, h3, h4, ?_, by rw [List.length_map, List.length_take]; omega⟩, fun z => nomatch z⟩
    have e : ds[i] = d := (List.getElem?_eq_some_iff.mp hd).2
    rw [List.take_succ, hd, List.map_append]; rfl) hs
  rw [List.take_length] at this
  exact this
/-- .. with a test -/
theorem do_lcF (kp : D → Bool) (f : D → D) (hi : DI F tg iter S S1 ds) (own : List (Str × Nat)) (ok : ∀ i, BlkOk (F.X i).N (F.X i).env.scope scope own) (hl : ds.length ≤ sizeLine)
    (step : ∀ (i : Nat) d, ds[i]? = some d → ∃ T1 T2 js, DG (F.blk scope) tg d ⟨hidS S1.s (own.map (·.2)), S1.g⟩ T1 js ∧ (∀ j ∈ js, j ∈ own.map (·.2)) ∧ DT (F.blk scope) c T1 T2 (kp d) ∧ T2.g = S1.g ∧ (kp d = true → ∃ T3, DE (F.blk scope) elt T2 T3 (f d) ∧ T3.g = S1.g)) (hs : ∀ i x, foldedSetIterable iter (F.X i).env x = pure x := by intro _ _; rfl) :
    DO F (.ListComp elt [⟨tg, iter, [c], 0⟩] scope pos) S S1 ((ds.filter kp).map f) := by
  have := do_lc (ifs := [c]) (elt := elt) (pos := pos) hi own ok (fun _ => S1.g) (fun i => ((ds.take i).filter kp).map f) rfl rfl (fun _ => rfl) (fun i d hd => by
    obtain ⟨T1, T2, js, h1, h2, h3, h4, h5⟩ := step i d hd
    have hlt : i < ds.length := (List.getElem?_eq_some_iff.mp hd).1
    have et : ds.take (i + 1) = ds.take i ++ [d] := by rw [List.take_succ, hd]; rfl
    refine ⟨T1, T2, kp d, js, h1, h2, dts_one h3, fun hk => ?_, fun hk => ⟨h4, ?_⟩⟩
    · obtain ⟨T3, h6, h7⟩ := h5 hk
      refine ⟨T3, f d, h6, h7, ?_, ?_⟩
      · rw [et, List.filter_append, List.map_append]
        simp [hk]
      · rw [List.length_map]
        have := List.length_filter_le kp (ds.take i)
        rw [List.length_take] at this
        omega
    · rw [et, List.filter_append, List.map_append]
      simp [hk]) hs
  rw [List.take_length] at this
  exact this
/-- y = [..] as an own list -/
theorem ds_setLcO {j : Nat} {y : Str} {py : Pos} (hi : DI F tg iter S S1 ds) (own : List (Str × Nat)) (ok : ∀ i, BlkOk (F.X i).N (F.X i).env.scope scope own) (gO : Nat → Option (Addr × BG)) (out : Nat → List D) (hg0 : gO 0 = S1.g) (ho0 : out 0 = []) (hga : ∀ i, (gO i).map (·.1) = S1.g.map (·.1))
    (step : ∀ (i : Nat) d, ds[i]? = some d → Turn1 (F.blk scope) tg ifs elt (own.map (·.2)) S1.s d (gO i) (out i) (gO (i + 1)) (out (i + 1)))
    (q : DS F rest ((⟨S1.s, gO ds.length⟩ : ST).set j (.lst (out ds.length))) P)
    (hp : ∀ i, PS (F.X i) (.Assign [.Name y py] (.ListComp elt [⟨tg, iter, ifs, 0⟩] scope p) pos) (tAsg (tLc (anyI F tg iter) (anyG (F.blk scope) tg) (anyTs (F.blk scope) ifs) (anyE (F.blk scope) elt) (own.map (·.2))) (gName j))) :
    DS F (.Assign [.Name y py] (.ListComp elt [⟨tg, iter, ifs, 0⟩] scope p) pos :: rest) S P := by
  refine ds_cons (M := fun S2 => S2 = (⟨S1.s, gO ds.length⟩ : ST).set j (.lst (out ds.length))) (d1_of (te := tAsg (tLc (anyI F tg iter) (anyG (F.blk scope) tg) (anyTs (F.blk scope) ifs) (anyE (F.blk scope) elt) (own.map (·.2))) (gName j)) hp ?_) fun _ z => z ▸ q
  intro σ G H c E m
  have hev : EvM F.C (tLc (anyI F tg iter) (anyG (F.blk scope) tg) (anyTs (F.blk scope) ifs) (anyE (F.blk scope) elt) (own.map (·.2))) S ⟨S1.s, gO ds.length⟩ (.lst (out ds.length)) := ev_freeze (ev_lc hi gO out hg0 ho0 hga step)
  exact hev σ G H c _ fun v G1 H1 m1 dv => m.nx _ _ G1 H1 (m1.mw.trans (m1.cx.store dv)) rfl

/-! ### plain data -/
mutual
def toP : D → PyData
  | .non => .none
  | .bl b => .bool b
  | .int i => .int i
  | .str x => .str x
  | .tup xs => .tuple (toPs xs)
  | .lst xs => .list (toPs xs)
  | .obj _ _ => .none
  | .cst _ => .none
def toPs : List D → List PyData
  | [] => []
  | x :: xs => toP x :: toPs xs
end
mutual
def okP : D → Bool
  | .non => true
  | .bl _ => true
  | .int _ => true
  | .str _ => true
  | .tup xs => okPs xs
  | .lst xs => okPs xs
  | .obj _ _ => false
  | .cst _ => false
def okPs : List D → Bool
  | [] => true
  | x :: xs => okP x && okPs xs
end
mutual
theorem Den.dp {C : Kc} {G H : Hp} (s : Same G H) : ∀ {v : V} {d : D}, Den C G v d → okP d = true → Dp C.K H v (toP d)
  | _, _, .non, _ => by unfold toP; exact .non
  | _, _, .bl b, _ => by unfold toP; exact .bl b
  | _, _, .int i, _ => by unfold toP; exact .int i
  | _, _, .str x, _ => by unfold toP; exact .str x
  | _, _, .tup h l, k => by
    unfold okP at k
    unfold toP
    exact .tup (same_t s h) (DenL.dp s l k)
  | _, _, .lst h l, k => by
    unfold okP at k
    unfold toP
    exact .lst (s.seq h) (DenL.dp s l k)
  | _, _, .obj _ _, k => by unfold okP at k; cases k
  | _, _, .cst _, k => by unfold okP at k; cases k
theorem DenL.dp {C : Kc} {G H : Hp} (s : Same G H) : ∀ {v : List V} {d : List D}, DenL C G v d → okPs d = true → DpAll C.K H v (toPs d)
  | _, _, .nil, _ => by unfold toPs; exact .nil
  | _, _, .cons h l, k => by
    unfold okPs at k
    rw [Bool.and_eq_true] at k
    unfold toPs
    exact .cons (Den.dp s h k.1) (DenL.dp s l k.2)
end
theorem od_eqP (h1 : okP x = true) (h2 : okP y = true) (h3 : SeqAt.shaped (toP x) = true) (h4 : SeqAt.shaped (toP y) = true) : OpD F (compareOp .Eq) x y (.bl (PyData.eqv (toP x) (toP y))) :=
  ⟨rEqD F.C.K, fun i => by have := op_eqD (X := F.X i) (F.room i).units; rw [F.hK i] at this; exact this, fun G H u v s hu hv Q q => ⟨_, _, hu.dp s h1, hv.dp s h2, h3, h4, q _ _ _ (.refl s) (.bl _)⟩⟩
theorem od_neP (h1 : okP x = true) (h2 : okP y = true) (h3 : SeqAt.shaped (toP x) = true) (h4 : SeqAt.shaped (toP y) = true) : OpD F (compareOp .NotEq) x y (.bl (!PyData.eqv (toP x) (toP y))) :=
  ⟨rNeD F.C.K, fun i => by have := op_neD (X := F.X i) (F.room i).units; rw [F.hK i] at this; exact this, fun G H u v s hu hv Q q => ⟨_, _, hu.dp s h1, hv.dp s h2, h3, h4, q _ _ _ (.refl s) (.bl _)⟩⟩
theorem od_eqR (h1 : okP x = true) (h3 : SeqAt.shaped (toP x) = true) : OpD F (compareOp .Eq) x x (.bl true) := by
  have := od_eqP (F := F) h1 h1 h3 h3
  rw [PySem.SeqAt.eqv_refl _ (SeqAt.canLay_of_shaped h3)] at this
  exact this
theorem od_neR (h1 : okP x = true) (h3 : SeqAt.shaped (toP x) = true) : OpD F (compareOp .NotEq) x x (.bl false) := by
  have := od_neP (F := F) h1 h1 h3 h3
  rw [PySem.SeqAt.eqv_refl _ (SeqAt.canLay_of_shaped h3)] at this
  exact this

/-! ### isinstance -/
def tyD (C : Kc) : D → Value
  | .non => .type "NoneType"
  | .bl _ => .type "bool"
  | .int _ => .type "int"
  | .str _ => .type "str"
  | .tup _ => .type "tuple"
  | .lst _ => .type "list"
  | .obj c _ => .ref (C.cl c)
  | .cst _ => .none
/-- what isinstance wants to know of an own class -/
structure InsF (K : PySem.W.Frag) (c : Addr) : Prop where
  cl : Cls K c
  ha : PySem.W.findIn K (.ref c) "__class__" = some (some (.builtin "object.__class__"))
  hn : PySem.W.specialIn K (.builtin "object.__class__") "__get__" = some (some (.builtin "getset_descriptor.__get__"))
  htk : PySem.W.takesIn K (.builtin "object.__class__") = some true
  hm : PySem.W.mroIn K c (.type "object") = some true
theorem Den.tyX {C : Kc} {G H : Hp} (s : Same G H) {v : V} {d : D} (h : Den C G v d) (ho : ∀ c fs, d = .obj c fs → InsF C.K (C.cl c)) (hc : ∀ v, d ≠ .cst v) : TyX C.K H v (tyD C d) := by
  cases h with
  | non => exact .base .non
  | bl b => exact .base (.bl b)
  | int i => exact .base (.int i)
  | str x => exact .base (.str x)
  | tup h l =>
    rcases same_t s h with (h | ⟨o, h⟩) | ⟨o, _, _, h, h', _⟩
    · exact .base (.tup h)
    · exact .fTuple h
    · exact .kTuple h h'
  | lst h l =>
    rcases s.seq h with (h | ⟨o, h⟩) | ⟨o, _, _, h, h', _⟩
    · exact .base (.lst h)
    · exact .base (.frz h)
    · exact .kList h h'
  | obj h l => have := ho _ _ rfl; exact .base (.ins (s _ _ h) this.cl this.ha this.hn this.htk this.hm)
  | cst v => exact absurd rfl (hc v)
/-- isinstance(x, T): t, x's type; u, the class -/
theorem ca_isi {cv : V} {u : Value} {k : Bool} (hc : ClsV cv u) (ho : ∀ c fs, x = .obj c fs → InsF F.C.K (F.C.cl c)) (hn : ∀ v, x ≠ .cst v) (hk : PySem.W.kitOne F.C.K (tyD F.C x) u = some k) : CaD F (.builtin "isinstance") [x, .cst cv] (.bl k) :=
  ⟨rIsi F.C.K, fun i => by have := call_isi (X := F.X i); rw [F.hK i] at this; exact this, fun G H us s h Q q => by
    cases h with
    | cons h l => cases l with
      | cons h2 l => cases l; cases h2; exact ⟨_, _, _, _, k, rfl, hc, h.tyX s ho hn, hk, q _ _ _ (.refl s) (.bl _)⟩⟩

/-! ### all, any, sum, tuple, list -/
theorem denL_bl {C : Kc} {G : Hp} : ∀ {vs : List V} {bs : List Bool}, DenL C G vs (bs.map D.bl) → vs = bs.map V.bl
  | _, [], .nil => rfl
  | _, b :: bs, .cons h l => by cases h; rw [denL_bl l]; rfl
theorem denL_int {C : Kc} {G : Hp} : ∀ {vs : List V} {bs : List Int}, DenL C G vs (bs.map D.int) → vs = bs.map V.int
  | _, [], .nil => rfl
  | _, b :: bs, .cons h l => by cases h; rw [denL_int l]; rfl
theorem denL_str {C : Kc} {G : Hp} : ∀ {vs : List V} {bs : List Str}, DenL C G vs (bs.map D.str) → vs = bs.map V.str
  | _, [], .nil => rfl
  | _, b :: bs, .cons h l => by cases h; rw [denL_str l]; rfl
theorem ca_all {bs : List Bool} : CaD F (.builtin "all") [.lst (bs.map D.bl)] (.bl (bs.all id)) := ⟨rAll F.C.K, fun i => by have := cr_all (X := F.X i) (F.calm i); rw [F.hK i] at this; exact this, fun G H us s h Q q => by
  cases h with
  | cons h l => cases h with
    | lst h1 h2 => cases l; exact ⟨_, bs, rfl, by rw [← denL_bl h2]; exact s.seq h1, q _ _ _ (.refl s) (.bl _)⟩⟩
theorem ca_any {bs : List Bool} : CaD F (.builtin "any") [.lst (bs.map D.bl)] (.bl (bs.any id)) := ⟨rAny F.C.K, fun i => by have := cr_any (X := F.X i) (F.calm i); rw [F.hK i] at this; exact this, fun G H us s h Q q => by
  cases h with
  | cons h l => cases h with
    | lst h1 h2 => cases l; exact ⟨_, bs, rfl, by rw [← denL_bl h2]; exact s.seq h1, q _ _ _ (.refl s) (.bl _)⟩⟩
theorem ca_sum {bs : List Int} : CaD F (.builtin "sum") [.lst (bs.map D.int)] (.int bs.sum) := ⟨rSum F.C.K, fun i => by have := cr_sum (X := F.X i) (F.calm i); rw [F.hK i] at this; exact this, fun G H us s h Q q => by
  cases h with
  | cons h l => cases h with
    | lst h1 h2 => cases l; exact ⟨_, bs, rfl, by rw [← denL_int h2]; exact s.seq h1, q _ _ _ (.refl s) (.int _)⟩⟩
theorem ca_tupL : CaD F (.type "tuple") [.lst ds] (.tup ds) := ⟨fun xs H Q => ∃ p ys, xs = [.ref p] ∧ ((SqL F.C.K H p ys ∧ ∀ l, H l = none → Q (.ref l) (upd H l (.tup ys))) ∨ (SqT F.C.K H p ys ∧ Q (.ref p) H)), fun i => by have := call_tuple_of (X := F.X i); rw [F.hK i] at this; exact this, fun G H us s h Q q => by
  cases h with
  | cons h l => cases h with
    | lst h1 h2 => cases l; exact ⟨_, _, rfl, .inl ⟨s.seq h1, fun p hp => by
      exact q _ _ _ (Pu.new s hp) (.tup (SqT.of upd_same) (h2.mono (Pu.new s hp).gg))⟩⟩⟩
theorem ca_tupT : CaD F (.type "tuple") [.tup ds] (.tup ds) := ⟨fun xs H Q => ∃ p ys, xs = [.ref p] ∧ ((SqL F.C.K H p ys ∧ ∀ l, H l = none → Q (.ref l) (upd H l (.tup ys))) ∨ (SqT F.C.K H p ys ∧ Q (.ref p) H)), fun i => by have := call_tuple_of (X := F.X i); rw [F.hK i] at this; exact this, fun G H us s h Q q => by
  cases h with
  | cons h l => cases h with
    | tup h1 h2 => cases l; exact ⟨_, _, rfl, .inr ⟨same_t s h1, q _ _ _ (.refl s) (.tup h1 h2)⟩⟩⟩
theorem ca_listL : CaD F (.type "list") [.lst ds] (.lst ds) := ⟨fun xs H Q => ∃ p ys, xs = [.ref p] ∧ (SqL F.C.K H p ys ∨ SqT F.C.K H p ys) ∧ ∀ l, H l = none → Q (.ref l) (upd H l (.lst ys)), fun i => by have := call_list_of (X := F.X i); rw [F.hK i] at this; exact this, fun G H us s h Q q => by
  cases h with
  | cons h l => cases h with
    | lst h1 h2 => cases l; exact ⟨_, _, rfl, .inl (s.seq h1), fun p hp => by
      exact q _ _ _ (Pu.new s hp) (.lst (SqL.of upd_same) (h2.mono (Pu.new s hp).gg))⟩⟩
theorem ca_listT : CaD F (.type "list") [.tup ds] (.lst ds) := ⟨fun xs H Q => ∃ p ys, xs = [.ref p] ∧ (SqL F.C.K H p ys ∨ SqT F.C.K H p ys) ∧ ∀ l, H l = none → Q (.ref l) (upd H l (.lst ys)), fun i => by have := call_list_of (X := F.X i); rw [F.hK i] at this; exact this, fun G H us s h Q q => by
  cases h with
  | cons h l => cases h with
    | tup h1 h2 => cases l; exact ⟨_, _, rfl, .inr (same_t s h1), fun p hp => by
      exact q _ _ _ (Pu.new s hp) (.lst (SqL.of upd_same) (h2.mono (Pu.new s hp).gg))⟩⟩
end
end DL
/-! DL9: operators and comparisons by own methods. -/
namespace DLO
open PySem PySem.W PySem.SeqAt PySem.Calls PyProof.Rows
open AutoSeq1 (wpAny_loadPart')
section
variable {M : Model} {prog : Program} {w : World} {A : Around} {E : Value → Shared → Prop} {s : Shared} {K : Frag} {x y C b f : Addr} {ox oy : Obj} {od od' : Option Obj} {dx : Addr} {i : Int} {t : Tok}
theorem int_add_ref {Q : Fin → Shared → Prop} (hb : s.heap.get? b = some (instObj C dx)) (h : Q (.done (.ret .notImplemented)) s) : wpAny M A (Builtin.«int.__add__» ⟨[.int i t, .ref b], []⟩) Q E s := by
  obtain ⟨hp, g, d, tk, os⟩ := s
  wp_walk using wpAny_loadPart' hb
  exact h
theorem int_sub_ref {Q : Fin → Shared → Prop} (hb : s.heap.get? b = some (instObj C dx)) (h : Q (.done (.ret .notImplemented)) s) : wpAny M A (Builtin.«int.__sub__» ⟨[.int i t, .ref b], []⟩) Q E s := by
  obtain ⟨hp, g, d, tk, os⟩ := s
  wp_walk using wpAny_loadPart' hb
  exact h
theorem int_mul_ref {Q : Fin → Shared → Prop} (hb : s.heap.get? b = some (instObj C dx)) (h : Q (.done (.ret .notImplemented)) s) : wpAny M A (Builtin.«int.__mul__» ⟨[.int i t, .ref b], []⟩) Q E s := by
  obtain ⟨hp, g, d, tk, os⟩ := s
  wp_walk using wpAny_loadPart' hb
  exact h
theorem int_eq_ref {Q : Fin → Shared → Prop} (hb : s.heap.get? b = some (instObj C dx)) (h : Q (.done (.ret .notImplemented)) s) : wpAny M A (Builtin.«int.__eq__» ⟨[.int i t, .ref b], []⟩) Q E s := by
  obtain ⟨hp, g, d, tk, os⟩ := s
  wp_walk using wpAny_loadPart' hb
  exact h
theorem int_ne_ref {Q : Fin → Shared → Prop} (hb : s.heap.get? b = some (instObj C dx)) (h : Q (.done (.ret .notImplemented)) s) : wpAny M A (Builtin.«int.__ne__» ⟨[.int i t, .ref b], []⟩) Q E s := by
  obtain ⟨hp, g, d, tk, os⟩ := s
  wp_walk using wpAny_loadPart' hb
  exact h

/-- x op y, both of one own class -/
theorem binS {op : Operator} {Q : Value → Shared → Prop} (X : K.In s.heap) (I : InstAt s.heap x ox C od) (J : InstAt s.heap y oy C od') (hc : selfFirst K C = true)
    (hs : findIn K (.ref C) (PySem.dunder op.info.2) = some (some (.ref f))) (hf : isFn K (.ref f) = true)
    (h : wpAny (model prog w) A (call (.ref f) [.ref x, .ref y]) (PySem.W.CmpBack Q) E s) : wpAny (model prog w) A (binaryOp op (.ref x) (.ref y)) Q E s := by
  obtain ⟨cd, rest, hcd, hm⟩ := ksp_first hc
  rcases hi : op.info with ⟨sym, nm'⟩
  rw [hi] at hs
  dsimp only at hs
  have one := ksp_try X I hs hf h
  obtain ⟨hh, g, d, tt, os⟩ := s
  have L1 : Looks (model prog w) hh (typeOf (.ref x)) (.ref C) := I.type
  have L2 : Looks (model prog w) hh (typeOf (.ref y)) (.ref C) := J.type
  have L3 : Looks (model prog w) hh (fillsNumberSlot (.ref C) nm') true := fills_K X hcd hm hs
  have he : (Value.ref C == Value.ref C) = true := by simp
  simp only [binaryOp, hi]
  refine wpAny_holding (wpAny_bind ?_)
  unfold binaryOp1
  refine wpAny_bind (L1.at (wpAny_bind (L2.at (wpAny_bind (L3.at ?_)))))
  simp only [he, if_true]
  ksp_lk
  refine wpAny_mono one (fun r s' hr' => ?_) fun _ _ e => e
  obtain ⟨v, rfl, hq⟩ := hr'
  ksp_lk
  exact hq
/-- i op y, y of an own class: the int's own method declines -/
theorem binR {op : Operator} {id : String} {B : Builtin} {Q : Value → Shared → Prop} {fo ro : Option Value} (X : K.In s.heap) (J : InstAt s.heap y oy C od) (hc : selfFirst K C = true)
    (sl : Slot "int" (PySem.dunder op.info.2) id) (en : entryFor table id = some B) (ag : argsOk id ⟨[.int i t, .ref y], []⟩)
    (hB : ∀ (A : Around) (E : Value → Shared → Prop) (Q : Fin → Shared → Prop), Q (.done (.ret .notImplemented)) s → wpAny (model prog w) A (B ⟨[.int i t, .ref y], []⟩) Q E s)
    (h1 : findIn K (.type "int") (PySem.dunder op.info.2) = some fo) (h2 : findIn K (.type "int") (dunderR op.info.2) = some ro) (h3 : ((fo.isSome && !isSeqSlot fo) || (ro.isSome && !isSeqSlot ro)) = true)
    (hs : findIn K (.ref C) (PySem.dunder op.info.2) = some (some (.ref b))) (hr : findIn K (.ref C) (dunderR op.info.2) = some (some (.ref f))) (hf : isFn K (.ref f) = true) (hsub : subIn K (.ref C) (.type "int") = some false)
    (h : wpAny (model prog w) A (call (.ref f) [.ref y, .int i t]) (PySem.W.CmpBack Q) E s) : wpAny (model prog w) A (binaryOp op (.int i t) (.ref y)) Q E s := by
  obtain ⟨cd, rest, hcd, hm⟩ := ksp_first hc
  rcases hi : op.info with ⟨sym, nm'⟩
  rw [hi] at hs sl h1 h2 hr
  dsimp only at hs sl h1 h2 hr
  have one : wpAny (model prog w) A (tryMethod (.int i t) (PySem.dunder nm') (.ref y)) (fun r s' => r = none ∧ s' = s) E s :=
    wpAny_tryMethod_declines (typeIs_int s i t) sl (wpAny_call (codeAny_call_builtin sl.plain en (sl.check _ _ _ _ _ _ _ _ (typeIs_int s i t) ag (hB _ _ _ ⟨rfl, rfl, rfl⟩))))
  have two := ksp_try X J hr hf h
  obtain ⟨hh, g, d, tt, os⟩ := s
  have L1 : Looks (model prog w) hh (typeOf (.int i t)) (.type "int") := Looks.of_pure rfl
  have L2 : Looks (model prog w) hh (typeOf (.ref y)) (.ref C) := J.type
  have L3 : Looks (model prog w) hh (fillsNumberSlot (.type "int") nm') true := by have := ksp_fillsT (M := model prog w) X h1 h2; rw [h3] at this; exact this
  have L4 : Looks (model prog w) hh (fillsNumberSlot (.ref C) nm') true := fills_K X hcd hm hs
  have L5 : Looks (model prog w) hh (isSubtype (.ref C) (.type "int")) false := looks_subIn X hsub
  have L6 : Looks (model prog w) hh (numberSlotInPython (.type "int") nm') false := Looks.of_pure rfl
  have hne : (Value.type "int" == Value.ref C) = false := Bool.eq_false_iff.mpr fun q => by cases beq_iff_eq.mp q
  simp only [binaryOp, hi]
  refine wpAny_holding (wpAny_bind ?_)
  unfold binaryOp1
  refine wpAny_bind (L1.at (wpAny_bind (L2.at (wpAny_bind (L3.at ?_)))))
  simp only [hne, Bool.false_eq_true, if_false]
  ksp_lk
  refine wpAny_mono one (fun r s' hr' => ?_) fun _ _ e => e
  obtain ⟨rfl, rfl⟩ := hr'
  ksp_lk
  refine wpAny_mono two (fun r s' hr' => ?_) fun _ _ e => e
  obtain ⟨v, rfl, hq⟩ := hr'
  ksp_lk
  exact hq
/-- i == y, y of an own class with its own == -/
theorem eqR {Q : Value → Shared → Prop} (hu : A.units < cLine) (X : K.In s.heap) (J : InstAt s.heap y (instObj C dx) C od) (hs : findIn K (.ref C) "__eq__" = some (some (.ref f))) (hf : isFn K (.ref f) = true) (hsub : subIn K (.ref C) (.type "int") = some false)
    (h : wpAny (model prog w) A (call (.ref f) [.ref y, .int i t]) (PySem.W.CmpBack Q) E s) : wpAny (model prog w) A (richCompare .Eq (.int i t) (.ref y)) Q E s := by
  have one : wpAny (model prog w) A (tryCompare (.int i t) "__eq__" (.ref y)) (fun r s' => r = none ∧ s' = s) E s :=
    wpAny_tryCompare_declines (typeIs_int s i t) F.slot_int_eq (wpAny_call (codeAny_call_builtin F.slot_int_eq.plain F.entry_int_eq (F.slot_int_eq.check _ _ _ _ _ _ _ _ (typeIs_int s i t) (F.args_int_eq_2 _ _) (int_eq_ref J.at_ ⟨rfl, rfl, rfl⟩))))
  have two : wpAny (model prog w) A (tryCompare (.ref y) "__eq__" (.int i t)) (fun r s' => ∃ v, r = some v ∧ Q v s') E s := by
    unfold tryCompare
    refine wpAny_bind (ifBound_K X J hs hf (wpAny_mono h (fun v s' hv => ?_) fun _ _ e => e))
    cases v <;> first | exact hv.elim | exact wpAny_pure ⟨_, rfl, hv⟩
  have hot : oneThing? .Eq (.int i t) (.ref y) = none := rfl
  simp only [richCompare, cmpInfo_Eq, hot]
  refine wpAny_holding (wpAny_bind (wpAny_cRoomFor hu ?_))
  refine wpAny_bind (wpAny_typeOf (typeIs_int s i t) ?_)
  refine wpAny_bind (J.type.here ?_)
  have hne : (Value.type "int" != Value.ref C) = true := by
    rw [bne_iff_ne]; intro q; cases q
  rw [hne]
  refine wpAny_bind ((looks_subIn X hsub).here ?_)
  simp only [Bool.false_eq_true, if_false, Bool.not_false, if_true]
  refine wpAny_bind (m := tryCompare (.int i t) _ (.ref y)) (wpAny_mono one (fun r s1 z => ?_) fun _ _ e => e)
  obtain ⟨rfl, rfl⟩ := z
  refine wpAny_bind (m := tryCompare (.ref y) _ (.int i t)) (wpAny_mono two (fun r s2 z => ?_) fun _ _ e => e)
  obtain ⟨v, rfl, hq⟩ := z
  exact wpAny_pure hq
/-- != by the own == -/
theorem objNe_own {v : Value} {Q : Fin → Shared → Prop} (hu : A.units < cLine) (X : K.In s.heap) (I : InstAt s.heap x ox C od) (hs : findIn K (.ref C) "__eq__" = some (some (.ref f))) (hf : isFn K (.ref f) = true)
    (h : wpAny (model prog w) A (call (.ref f) [.ref x, v]) (fun r s' => ∃ b, r = .bool b ∧ Q (.done (.ret (.bool (!b)))) s') E s) : wpAny (model prog w) A (Builtin.«object.__ne__» ⟨[.ref x, v], []⟩) Q E s := by
  have one := ifBound_K (M := model prog w) (args := [v]) (Q := fun r s' => ∃ b, r = some (.bool b) ∧ Q (.done (.ret (.bool (!b)))) s') X I hs hf (wpAny_mono h (fun r s' hr => by obtain ⟨b, rfl, hq⟩ := hr; exact ⟨b, rfl, hq⟩) fun _ _ e => e)
  obtain ⟨hp, g, d, tk, os⟩ := s
  unfold Builtin.«object.__ne__»
  repeat (first
    | with_reducible refine wpAny_cRoomFor hu ?_
    | (refine wpAny_bind (m := callSpecialIfBound? (.ref x) (Str.ofString "__eq__") [v])
        (wpAny_mono one (fun r s' hr => by
          obtain ⟨b, rfl, hq⟩ := hr
          repeat (first | exact hq | exact wpAny_pure hq | exact wpAny_truthy_bool hq | (refine wpAny_bind (m := truthy (.bool _)) (wpAny_truthy_bool ?_)) | wp_step)) fun _ _ e => e))
    | wp_step)
theorem ifBound_objNe {args : List Value} {Q : Option Value → Shared → Prop} (X : K.In s.heap) (I : InstAt s.heap x ox C od) (hs : findIn K (.ref C) "__ne__" = some (some (.builtin "object.__ne__")))
    (h : wpAny M A (call (.builtin "object.__ne__") (.ref x :: args)) (fun v => Q (some v)) E s) : wpAny M A (callSpecialIfBound? (.ref x) "__ne__" args) Q E s := by
  simp only [callSpecialIfBound?, bindSpecialIfBound?]
  refine wpAny_holding (wpAny_bind (wpAny_bind (wpAny_bind (I.type.here ((PySem.W.looks_findIn X hs).here ?_)))))
  refine wpAny_bind (wpAny_askSetting (wpAny_ite ?_))
  have fin : wpAny M A (call (.builtin "object.__ne__") ([.ref x] ++ args) >>= fun v => pure (some v)) Q E s := wpAny_bind (wpAny_mono h (fun v s' h' => wpAny_pure h') fun _ _ h' => h')
  split
  · exact wpAny_bind (wpAny_of_eq (F.cmp_object.ne.bind _) (wpAny_pure (by exact fin)))
  · exact wpAny_tryCatch (wpAny_bind (wpAny_of_eq (F.cmp_object.ne.bind _) (wpAny_pure (by exact fin))))
theorem neO {v tb : Value} {Q : Value → Shared → Prop} (hu : A.units + 1 < cLine) (X : K.In s.heap) (I : InstAt s.heap x ox C od) (hb : Looks (model prog w) s.heap (typeOf v) tb) (hn : notFirst K C tb = true) (hm : mroIn K C (.type "object") = some true)
    (hne : findIn K (.ref C) "__ne__" = some (some (.builtin "object.__ne__"))) (hs : findIn K (.ref C) "__eq__" = some (some (.ref f))) (hf : isFn K (.ref f) = true)
    (h : wpAny (model prog w) A.in1 (call (.ref f) [.ref x, v]) (fun r s' => ∃ b, r = .bool b ∧ Q (.bool (!b)) s') E s) : wpAny (model prog w) A (richCompare .NotEq (.ref x) v) Q E s := by
  have one : wpAny (model prog w) A (tryCompare (.ref x) "__ne__" v) (fun r s' => ∃ b, r = some (.bool b) ∧ Q (.bool b) s') E s := by
    unfold tryCompare
    refine wpAny_bind (ifBound_objNe X I hne (wpAny_call (codeAny_call_builtin F.cmp_object.ne.plain F.cmpEntry_ne (PySem.W.check_slot F.cmpKind_ne F.cmpSplit_ne (I.type.andThen (PySem.W.looks_mroIn X hm)) (F.cmpArgs_ne _ _) (objNe_own (A := A.in1) hu X I hs hf (wpAny_mono h (fun r s' hr => ?_) fun _ _ e => e))))))
    obtain ⟨b, rfl, hq⟩ := hr
    first | exact ⟨b, rfl, wpAny_pure ⟨_, rfl, hq⟩⟩ | exact ⟨b, rfl, ⟨_, rfl, hq⟩⟩
  unfold richCompare
  simp only [oneThing_ref]
  refine wpAny_holding (wpAny_bind (wpAny_cRoomFor (Nat.lt_of_succ_lt hu) ?_))
  rw [cmpInfo_NotEq]
  dsimp only
  refine wpAny_bind (I.type.here (wpAny_bind (hb.here ?_)))
  split
  · rename_i q
    have e : subIn K tb (.ref C) = some false := by
      rcases Bool.or_eq_true_iff.mp hn with e | e
      · rw [beq_iff_eq.mp e] at q; simp at q
      · exact beq_iff_eq.mp e
    refine wpAny_bind ((looks_subIn X e).here ?_)
    simp only [Bool.false_eq_true, if_false]
    refine wpAny_bind (wpAny_mono one (fun r s' z => ?_) fun _ _ e => e)
    obtain ⟨b, rfl, hq⟩ := z
    exact wpAny_pure hq
  · refine wpAny_bind (wpAny_pure ?_)
    simp only [Bool.false_eq_true, if_false]
    refine wpAny_bind (wpAny_mono one (fun r s' z => ?_) fun _ _ e => e)
    obtain ⟨b, rfl, hq⟩ := z
    exact wpAny_pure hq
end
end DLO
/-! DLA: own operators on data; defs that hand back new lists; a def that changes a new list. -/
namespace DL
open PySem L2
theorem back_of {X : Cx} {pins : List (Addr × Obj)} {σ : L2.St} {Q : VK} {A : Around} {c : Sem Value} {s : Shared} {M : Model} {E : Value → Shared → Prop} (h : wpAny M A c (EP X pins σ Q) E s) : wpAny M A c (PySem.W.CmpBack (EP X pins σ Q)) E s := by
  refine wpAny_mono h (fun v s' q => ?_) fun _ _ e => e
  cases v with
  | notImplemented =>
    obtain ⟨z, _, _, r, _⟩ := q
    cases z with
    | int => obtain ⟨_, r⟩ := r; cases r
    | str => obtain ⟨_, r⟩ := r; cases r
    | byt => obtain ⟨_, r⟩ := r; cases r
    | flt => obtain ⟨_, r⟩ := r; cases r
    | non => cases r
    | bl => cases r
    | ref => cases r
    | ty => cases r
  | _ => exact q
/-- what the operators by own methods ask of the class -/
structure OpF (K : PySem.W.Frag) (C : Addr) : Prop where
  sf : PySem.W.selfFirst K C = true
  ic : PySem.W.subIn K (.type "int") (.ref C) = some false
  ci : PySem.W.subIn K (.ref C) (.type "int") = some false
structure IntF (K : PySem.W.Frag) (op : Operator) : Prop where
  ex : ∃ fo ro, PySem.W.findIn K (.type "int") (PySem.dunder op.info.2) = some fo ∧ PySem.W.findIn K (.type "int") (dunderR op.info.2) = some ro ∧ ((fo.isSome && !isSeqSlot fo) || (ro.isSome && !isSeqSlot ro)) = true
section
variable {F : Fam} {S S1 S2 S3 : ST} {e a b c tg iter elt : Expr} {d x y z : D} {pos p apos : Pos} {es : List Expr} {ds : List D} {k : Nat} {nm : Str} {P : Po} {rest : List Stmt} {cn : Nat} {fs gs : List (Str × D)} {R R' : List D → D → Prop} {op : Operator} {m m' : Str}

theorem inst_of {X : Cx} {pins : List (Addr × Obj)} {σ : L2.St} {H : Hp} {s : Shared} {a C dx : Addr} {vs : List (Str × V)} (I : Inv X pins σ H s) (h : H a = some (.ins C dx vs)) : ∃ od, PySem.W.InstAt s.heap a (PySem.W.instObj C dx) C (some od) := by
  obtain ⟨mA, J, _⟩ := ins_get I.hok h
  obtain ⟨od, J, _⟩ := J.look
  exact ⟨od, J⟩
/-- x op y, x and y of the class cn -/
theorem od_binS (hF : OpF F.C.K (F.C.cl cn)) (mt : Met F.P F.w F.C F.mg F.base k cn m (spP F.C R)) (hm : PySem.dunder op.info.2 = m) (hk : k ≤ F.k) (hR : R [.obj cn fs, .obj cn gs] z) : OpD F (binaryOp op) (.obj cn fs) (.obj cn gs) z := by
  obtain ⟨f, fd, ps, G, hc, hme, hb⟩ := mt
  refine ⟨fun x y H Q => ∃ a b dx dy vs ws, x = .ref a ∧ y = .ref b ∧ H a = some (.ins (F.C.cl cn) dx vs) ∧ H b = some (.ins (F.C.cl cn) dy ws) ∧ spP F.C R [x, y] H Q E0, fun i => ?_, fun G H u v s hu hv Q q => ?_⟩
  · intro pins s σ H x y v u Q I rx ry h
    obtain ⟨a, b, dx, dy, vs, ws, rfl, rfl, ha, hb', hsp⟩ := h
    cases rx
    cases ry
    obtain ⟨od, J⟩ := inst_of I ha
    obtain ⟨od', J'⟩ := inst_of I hb'
    refine DLO.binS I.kIn J J' (by rw [F.hK i]; exact hF.sf) (by rw [F.hK i, hm]; exact hme.at_) (by rw [F.hK i]; exact hme.fn) (back_of ?_)
    exact run_fn (vs := [.ref a, .ref b]) (dvs := []) (fn_at G) ((F.room i).mono hk) (by rw [F.hK i]; exact hb) .nil pass0 I (.cons rfl (.cons rfl .nil)) hsp
  · have hu' := hu
    have hv' := hv
    cases hu with
    | obj h1 h2 => cases hv with
      | obj h3 h4 => exact ⟨_, _, _, _, _, _, rfl, rfl, s _ _ h1, s _ _ h3, G, _, z, hR, s, .cons hu' (.cons hv' .nil), q⟩
/-- x op i -/
theorem od_binT {i : Int} (hF : OpF F.C.K (F.C.cl cn)) (hI : IntF F.C.K op) (mt : Met F.P F.w F.C F.mg F.base k cn m (spP F.C R)) (hm : PySem.dunder op.info.2 = m) {k' : Nat} (mt' : Met F.P F.w F.C F.mg F.base k' cn m' (spP F.C R')) (hm' : dunderR op.info.2 = m') (hk : k ≤ F.k) (hR : R [.obj cn fs, .int i] z) : OpD F (binaryOp op) (.obj cn fs) (.int i) z := by
  obtain ⟨f, fd, ps, G, hc, hme, hb⟩ := mt
  obtain ⟨f', _, _, _, _, hme', _⟩ := mt'
  obtain ⟨fo, ro, i1, i2, _⟩ := hI.ex
  refine ⟨fun x y H Q => ∃ a j dx vs, x = .ref a ∧ y = .int j ∧ H a = some (.ins (F.C.cl cn) dx vs) ∧ spP F.C R [x, y] H Q E0, fun l => ?_, fun G H u v s hu hv Q q => ?_⟩
  · intro pins s σ H x y v u Q I rx ry h
    obtain ⟨a, j, dx, vs, rfl, rfl, ha, hsp⟩ := h
    cases rx
    obtain ⟨t, rfl⟩ := ry
    obtain ⟨od, J⟩ := inst_of I ha
    obtain ⟨mm, hFr⟩ := I.fr
    refine PySem.W.ksp_binT (T := "int") (rc := some (.ref f')) hFr I.ok.mod.kin J rfl (by rw [F.hK l]; exact hF.sf) (by rw [F.hK l, hm]; exact hme.at_) (by rw [F.hK l]; exact hme.fn) (by rw [F.hK l, hm']; exact hme'.at_) (.inr ⟨f', rfl⟩) (by rw [F.hK l]; exact i1) (by rw [F.hK l]; exact i2) (by rw [F.hK l]; exact hF.ic) (back_of ?_)
    exact run_fn (vs := [.ref a, .int j]) (dvs := []) (fn_at G) ((F.room l).mono hk) (by rw [F.hK l]; exact hb) .nil pass0 I (.cons rfl (.cons ⟨t, rfl⟩ .nil)) hsp
  · have hu' := hu
    have hv' := hv
    cases hu with
    | obj h1 h2 => cases hv with
      | int => exact ⟨_, _, _, _, rfl, rfl, s _ _ h1, G, _, z, hR, s, .cons hu' (.cons hv' .nil), q⟩
/-- i op x, by the reflected method -/
theorem od_binR {i : Int} {id : String} {B : Builtin} (hF : OpF F.C.K (F.C.cl cn)) (hI : IntF F.C.K op) (mt : Met F.P F.w F.C F.mg F.base k cn m (spP F.C R)) (hm : dunderR op.info.2 = m) {k' : Nat} (mt' : Met F.P F.w F.C F.mg F.base k' cn m' (spP F.C R')) (hm' : PySem.dunder op.info.2 = m') (hk : k ≤ F.k) (hR : R [.obj cn fs, .int i] z)
    (sl : Slot "int" (PySem.dunder op.info.2) id) (en : entryFor table id = some B) (ag : ∀ a b, argsOk id ⟨[a, b], []⟩)
    (hB : ∀ (M : Model) (i : Int) (t : Tok) (b C dx : Addr) (s : Shared) (A : Around) (E : Value → Shared → Prop) (Q : Fin → Shared → Prop), s.heap.get? b = some (PySem.W.instObj C dx) → Q (.done (.ret .notImplemented)) s → wpAny M A (B ⟨[.int i t, .ref b], []⟩) Q E s) : OpD F (binaryOp op) (.int i) (.obj cn fs) z := by
  obtain ⟨f, fd, ps, G, hc, hme, hb⟩ := mt
  obtain ⟨f', _, _, _, _, hme', _⟩ := mt'
  obtain ⟨fo, ro, i1, i2, i3⟩ := hI.ex
  refine ⟨fun x y H Q => ∃ a j dx vs, y = .ref a ∧ x = .int j ∧ H a = some (.ins (F.C.cl cn) dx vs) ∧ spP F.C R [y, x] H Q E0, fun l => ?_, fun G H u v s hu hv Q q => ?_⟩
  · intro pins s σ H x y v u Q I rx ry h
    obtain ⟨a, j, dx, vs, rfl, rfl, ha, hsp⟩ := h
    cases ry
    obtain ⟨t, rfl⟩ := rx
    obtain ⟨od, J⟩ := inst_of I ha
    refine DLO.binR (b := f') I.kIn J (by rw [F.hK l]; exact hF.sf) sl en (ag _ _) (fun A E Q hq => hB _ _ _ _ _ _ _ _ _ _ J.at_ hq) (by rw [F.hK l]; exact i1) (by rw [F.hK l]; exact i2) i3 (by rw [F.hK l, hm']; exact hme'.at_) (by rw [F.hK l, hm]; exact hme.at_) (by rw [F.hK l]; exact hme.fn) (by rw [F.hK l]; exact hF.ci) (back_of ?_)
    exact run_fn (vs := [.ref a, .int j]) (dvs := []) (fn_at G) ((F.room l).mono hk) (by rw [F.hK l]; exact hb) .nil pass0 I (.cons rfl (.cons ⟨t, rfl⟩ .nil)) hsp
  · have hu' := hu
    have hv' := hv
    cases hv with
    | obj h1 h2 => cases hu with
      | int => exact ⟨_, _, _, _, rfl, rfl, s _ _ h1, G, _, z, hR, s, .cons hv' (.cons hu' .nil), q⟩
/-- -x -/
theorem ud_own (mt : Met F.P F.w F.C F.mg F.base k cn "__neg__" (spP F.C R)) (hk : k ≤ F.k) (hR : R [.obj cn fs] z) : UnD F (unaryOp .USub) (.obj cn fs) z := by
  obtain ⟨f, fd, ps, G, hc, hme, hb⟩ := mt
  refine ⟨fun x H Q => ∃ a dx vs, x = .ref a ∧ H a = some (.ins (F.C.cl cn) dx vs) ∧ spP F.C R [x] H Q E0, fun l => ?_, fun G H u s hu Q q => ?_⟩
  · intro pins s σ H x v Q I rx h
    obtain ⟨a, dx, vs, rfl, ha, hsp⟩ := h
    cases rx
    obtain ⟨od, J⟩ := inst_of I ha
    obtain ⟨mm, hFr⟩ := I.fr
    refine PySem.W.ksp_neg hFr I.ok.mod.kin J (by rw [F.hK l]; exact hme.at_) (by rw [F.hK l]; exact hme.fn) ?_
    exact run_fn (vs := [.ref a]) (dvs := []) (fn_at G) ((F.room l).mono hk) (by rw [F.hK l]; exact hb) .nil pass0 I (.cons rfl .nil) hsp
  · have hu' := hu
    cases hu with
    | obj h1 h2 => exact ⟨_, _, _, rfl, s _ _ h1, G, _, z, hR, s, .cons hu' .nil, q⟩
theorem looks_ty {X : Cx} {pins : List (Addr × Obj)} {σ : L2.St} {H : Hp} {s : Shared} {x : V} {u t : Value} (I : Inv X pins σ H s) (r : RelV x u) (ty : TyX X.K H x t) (M : Model) : PySem.W.Looks M s.heap (typeOf u) t := by
  obtain ⟨P, Z, hp, _⟩ := kit_of I r ty
  exact Z.ty M s.heap I.kIn hp
/-- x == y by the own == of x's class, y anything -/
theorem od_eqO {kb : Bool} (mt : Met F.P F.w F.C F.mg F.base k cn "__eq__" (spP F.C R)) (hk : k ≤ F.k) (ho : ∀ c fs, y = .obj c fs → InsF F.C.K (F.C.cl c)) (hn : ∀ v, y ≠ .cst v) (hf : PySem.W.notFirst F.C.K (F.C.cl cn) (tyD F.C y) = true) (hR : R [.obj cn fs, y] (.bl kb)) : OpD F (compareOp .Eq) (.obj cn fs) y (.bl kb) := by
  obtain ⟨f, fd, ps, G, hc, hme, hb⟩ := mt
  refine ⟨fun x y' H Q => ∃ a dx vs, x = .ref a ∧ H a = some (.ins (F.C.cl cn) dx vs) ∧ TyX F.C.K H y' (tyD F.C y) ∧ spP F.C R [x, y'] H Q E0, fun l => ?_, fun G H u v s hu hv Q q => ?_⟩
  · intro pins s σ H x y' v u Q I rx ry h
    obtain ⟨a, dx, vs, rfl, ha, ty, hsp⟩ := h
    cases rx
    obtain ⟨od, J⟩ := inst_of I ha
    obtain ⟨mm, hFr⟩ := I.fr
    show wpAny _ _ (richCompare .Eq _ _) _ _ _
    refine PySem.W.cmp_K (op := .Eq) (F.room l).units0 hFr I.ok.mod.kin J (looks_ty I ry (by rw [F.hK l]; exact ty) _) (by rw [F.hK l]; exact hf) (by rw [F.hK l]; exact hme.at_) (by rw [F.hK l]; exact hme.fn) (back_of ?_)
    exact run_fn (vs := [.ref a, y']) (dvs := []) (fn_at G) ((F.room l).mono hk) (by rw [F.hK l]; exact hb) .nil pass0 I (.cons rfl (.cons ry .nil)) hsp
  · have hu' := hu
    cases hu with
    | obj h1 h2 => exact ⟨_, _, _, rfl, s _ _ h1, hv.tyX s ho hn, G, _, _, hR, s, .cons hu' (.cons hv .nil), q⟩
theorem run_in1 {X : Cx} {pins : List (Addr × Obj)} {σ : L2.St} {H : Hp} {s : Shared} {Q : VK} {us : List Value} {vs : List V} {f : Addr} {fd : FuncData} {ps : List Str} {sp : Sp} (G : FnOk X.prog X.w X.K X.mg X.base CX0 k f fd ps sp) (hr : Room (k + 1) X.A) (hb : Binds X.K fd ps []) (I : Inv X pins σ H s) (r : Vals vs us) (h : sp vs H Q E0) :
    wpAny (model X.prog X.w) X.A.in1 (call (.ref f) us) (EP X pins σ Q) X.xe s := by
  have hl : (us ++ []).length = ps.length := by rw [List.append_nil, ← r.length]; exact G.len _ _ _ _ h
  refine wpAny_call (codeAny_mono (G.run X.A.in1 X.stack s H ⟨us, []⟩ us vs Q E0 hr.in1 I.env0.in1 (by have := hb s us I.kIn hl; rw [List.append_nil] at this; exact this) r h) fun r s' hq => ?_)
  cases r with
  | error e => exact hq.elim
  | ok fl =>
    cases fl with
    | ret u => exact I.after hq
    | next => exact False.elim hq
    | brk => exact False.elim hq
    | cont => exact False.elim hq
theorem od_neO {kb : Bool} (mt : Met F.P F.w F.C F.mg F.base k cn "__eq__" (spP F.C R)) (hk : k + 1 ≤ F.k) (ho : ∀ c fs, y = .obj c fs → InsF F.C.K (F.C.cl c)) (hn : ∀ v, y ≠ .cst v) (hf : PySem.W.notFirst F.C.K (F.C.cl cn) (tyD F.C y) = true) (hi : InsF F.C.K (F.C.cl cn)) (hne : PySem.W.findIn F.C.K (.ref (F.C.cl cn)) "__ne__" = some (some (.builtin "object.__ne__")))
    (hR : R [.obj cn fs, y] (.bl kb)) : OpD F (compareOp .NotEq) (.obj cn fs) y (.bl (!kb)) := by
  obtain ⟨f, fd, ps, G, hc, hme, hb⟩ := mt
  refine ⟨fun x y' H Q => ∃ a dx vs, x = .ref a ∧ H a = some (.ins (F.C.cl cn) dx vs) ∧ TyX F.C.K H y' (tyD F.C y) ∧ spP F.C R [x, y'] H (fun v H' => ∃ b, v = .bl b ∧ Q (.bl (!b)) H') E0, fun l => ?_, fun G H u v s hu hv Q q => ?_⟩
  · intro pins s σ H x y' v u Q I rx ry h
    obtain ⟨a, dx, vs, rfl, ha, ty, hsp⟩ := h
    cases rx
    obtain ⟨od, J⟩ := inst_of I ha
    show wpAny _ _ (richCompare .NotEq _ _) _ _ _
    refine DLO.neO (by have := (F.room l).un; omega) I.kIn J (looks_ty I ry (by rw [F.hK l]; exact ty) _) (by rw [F.hK l]; exact hf) (by rw [F.hK l]; exact hi.hm) (by rw [F.hK l]; exact hne) (by rw [F.hK l]; exact hme.at_) (by rw [F.hK l]; exact hme.fn) ?_
    refine wpAny_mono (run_in1 (vs := [.ref a, y']) (fn_at G) ((F.room l).mono hk) (by rw [F.hK l]; exact hb) I (.cons rfl (.cons ry .nil)) hsp) (fun w s' hw => ?_) fun _ _ e => e
    obtain ⟨w', H', I', rw', b, rfl, q⟩ := hw
    cases rw'
    exact ⟨b, rfl, .bl (!b), H', I', rfl, q⟩
  · have hu' := hu
    cases hu with
    | obj h1 h2 => exact ⟨_, _, _, rfl, s _ _ h1, hv.tyX s ho hn, G, _, _, hR, s, .cons hu' (.cons hv .nil), fun v G2 H2 p dv => by cases dv; exact ⟨kb, rfl, q _ _ _ p (.bl _)⟩⟩
/-- i == x -/
theorem od_eqR2 {i : Int} {kb : Bool} (mt : Met F.P F.w F.C F.mg F.base k cn "__eq__" (spP F.C R)) (hk : k ≤ F.k) (hF : OpF F.C.K (F.C.cl cn)) (hR : R [.obj cn fs, .int i] (.bl kb)) : OpD F (compareOp .Eq) (.int i) (.obj cn fs) (.bl kb) := by
  obtain ⟨f, fd, ps, G, hc, hme, hb⟩ := mt
  refine ⟨fun x y H Q => ∃ a j dx vs, y = .ref a ∧ x = .int j ∧ H a = some (.ins (F.C.cl cn) dx vs) ∧ spP F.C R [y, x] H Q E0, fun l => ?_, fun G H u v s hu hv Q q => ?_⟩
  · intro pins s σ H x y v u Q I rx ry h
    obtain ⟨a, j, dx, vs, rfl, rfl, ha, hsp⟩ := h
    cases ry
    obtain ⟨t, rfl⟩ := rx
    obtain ⟨od, J⟩ := inst_of I ha
    show wpAny _ _ (richCompare .Eq _ _) _ _ _
    refine DLO.eqR (F.room l).units0 I.kIn J (by rw [F.hK l]; exact hme.at_) (by rw [F.hK l]; exact hme.fn) (by rw [F.hK l]; exact hF.ci) (back_of ?_)
    exact run_fn (vs := [.ref a, .int j]) (dvs := []) (fn_at G) ((F.room l).mono hk) (by rw [F.hK l]; exact hb) .nil pass0 I (.cons rfl (.cons ⟨t, rfl⟩ .nil)) hsp
  · have hu' := hu
    have hv' := hv
    cases hv with
    | obj h1 h2 => cases hu with
      | int => exact ⟨_, _, _, _, rfl, rfl, s _ _ h1, G, _, _, hR, s, .cons hv' (.cons hu' .nil), q⟩
/-- not x, x of a class without __bool__ and __len__ -/
theorem de_notO (ha : DE F a S S1 (.obj cn fs)) (h1 : PySem.W.findIn F.C.K (.ref (F.C.cl cn)) "__bool__" = some none) (h2 : PySem.W.findIn F.C.K (.ref (F.C.cl cn)) "__len__" = some none) : DE F (.UnaryOp .Not a pos) S S1 (.bl false) :=
  de_of (te := fun σ H Q => anyE F a σ H fun x H1 => ∃ o dx vs, x = .ref o ∧ H1 o = some (.ins (F.C.cl cn) dx vs) ∧ Q (.bl false) H1) (fun i => ⟨fun pins s σ H Q I h => by
    refine PyProof.Rows.UnaryOp_ (thn ((anyE_ok (e := a) i).run pins s σ H _ I h) fun v s1 ⟨x, H1, I1, r1, q1⟩ => ?_)
    obtain ⟨o, dx, vs, rfl, ho, q1⟩ := q1
    cases r1
    obtain ⟨od, J⟩ := inst_of I1 ho
    obtain ⟨mm, hFr⟩ := I1.fr
    exact PyProof.Rows.not_of (PySem.W.truthy_K0 hFr I1.ok.mod.kin J (by rw [F.hK i]; exact h1) (by rw [F.hK i]; exact h2) ⟨.bl false, H1, I1, rfl, q1⟩)⟩)
    fun σ G H c Q q => ha σ G H c _ fun v G1 H1 m dv => by
      cases dv with
      | obj h1 h2 => exact ⟨_, _, _, rfl, m.cx.sub _ _ h1, q _ _ _ m (.bl false)⟩

/-! ### new lists handed back -/
/-- f(..) that hands back a new list, to be owned -/
theorem do_call {R : List D → List D → Prop} {gs : List D} (c : Cal F.P F.w F.C F.mg F.base k nm (spO F.C R)) (ha : DA F (e :: es) S S1 ds) (hR : R ds gs) (hk : k ≤ F.k := by exact Nat.le_of_ble_eq_true rfl)
    (hg : ∀ i, Gl (F.X i) nm := by intro _; rfl) (hdb : (nm == ("__debug__" : Str)) = false := by decide)
    (he : ∀ i, starEach (e :: es) (F.X i).env = (false, eval e (F.X i).env) :: starEach es (F.X i).env := by intro _; rfl) (hpl : ∀ i, (backTo pos (starEach es (F.X i).env)).any (·.1) = false := by intro _; rfl) : DO F (.Call (.Name nm p) (e :: es) [] pos) S S1 gs := by
  obtain ⟨f, fd, ps, G, hm, hkp, hb⟩ := c
  refine do_of (te := tCall (spO F.C R) [] E0 (anyA F (e :: es))) (fun i => pe_call (fn_at G) ((F.room i).mono hk) (hg i) (by rw [F.hmg i]; exact hm) (by rw [F.hK i]; exact hkp) (by rw [F.hK i]; exact hb) .nil pass0 (anyA_ok i) hdb (he i) (hpl i)) ?_
  intro σ G H cx Q q
  refine ha σ G H cx _ fun vs G1 H1 m dl => ?_
  refine ⟨G1, ds, gs, hR, m.cx.sub, by rw [List.append_nil]; exact dl, fun p ev G2 H2 pu hp g2 h2 de => ?_⟩
  have hp0 : H p = none := by
    cases r : H p with
    | none => rfl
    | some o => exact absurd hp (m.go.dom p (by rw [r]; simp))
  exact q p ev G2 H2 (m.pu pu) hp0 g2 h2 de
/-- f(e): the first argument a new list that f changes; nobody sees it behind -/
theorem de_callNew {R : List D → List D → D → List D → Prop} {gs gs' : List D} (c : Cal F.P F.w F.C F.mg F.base k nm (spB F.C R)) (ha : DO F e S S1 gs) (hR : R [] gs d gs') (hk : k ≤ F.k := by exact Nat.le_of_ble_eq_true rfl)
    (hg : ∀ i, Gl (F.X i) nm := by intro _; rfl) (hdb : (nm == ("__debug__" : Str)) = false := by decide)
    (he : ∀ i, starEach [e] (F.X i).env = (false, eval e (F.X i).env) :: starEach [] (F.X i).env := by intro _; rfl) (hpl : ∀ i, (backTo pos (starEach [] (F.X i).env)).any (·.1) = false := by intro _; rfl) : DE F (.Call (.Name nm p) [e] [] pos) S S1 d := by
  obtain ⟨f, fd, ps, G, hm, hkp, hb⟩ := c
  refine de_of (te := tCall (spB F.C R) [] E0 (tCons (anyE F e) tNil)) (fun i => pe_call (fn_at G) ((F.room i).mono hk) (hg i) (by rw [F.hmg i]; exact hm) (by rw [F.hK i]; exact hkp) (by rw [F.hK i]; exact hb) .nil pass0 (pa_cons (anyE_ok i) pa_nil (he i)) hdb (he i) (hpl i)) ?_
  intro σ G H cx Q q
  refine ha σ G H cx _ fun p vs G1 H1 m hp g1 h1 dl => ?_
  have nOA : ¬ OA F.C σ S1 p := fun z => by
    rcases m.oa p z with ⟨j, es, r1, r2⟩ | ⟨o, r⟩
    · obtain ⟨a, ws, q1, _, q3, _⟩ := cx.ow j es r1
      rw [r2] at q1; cases q1; rw [hp] at q3; cases q3
    · have z := cx.bag
      rw [r] at z
      cases o with
      | lst => obtain ⟨_, _, h3, _⟩ := z; rw [hp] at h3; cases h3
      | ins => obtain ⟨_, _, _, h3, _⟩ := z; rw [hp] at h3; cases h3
  refine ⟨G1, p, [], vs, [], gs, d, gs', rfl, hR, m.cx.sub, g1, h1, dl, .nil, fun v G2 H2 gv' go sub g2 h2 dl' dv => ?_⟩
  refine q v G2 H2 ⟨⟨fun a o n h => ?_, m.go.gg.trans go.gg, fun a n h g => ?_, fun a h => go.dom a (m.go.dom a h)⟩, ?_, m.oa⟩ dv
  · have na : a ≠ p := fun z => by rw [z, hp] at h; cases h
    exact go.keep a o na (m.go.keep a o n h)
  · have na : a ≠ p := fun z => h (by rw [z]; exact hp)
    exact go.fr a na (m.go.dom a h) (m.go.fr a n h g)
  · have c1 := m.cx
    have nb : ∀ o, S1.g ≠ some (p, o) := fun o r => nOA (.inr ⟨o, r⟩)
    refine ⟨sub, c1.len, fun i d h => ?_, fun i es h => ?_, c1.apart, c1.bg, ?_, c1.nob⟩
    · obtain ⟨v, h1, h2⟩ := c1.im i d h
      exact ⟨v, h1, h2.mono go.gg⟩
    · obtain ⟨a, ws, r1, r2, r3, r4⟩ := c1.ow i es h
      have na : a ≠ p := fun z => nOA (.inl ⟨i, es, h, by rw [← z]; exact r1⟩)
      exact ⟨a, ws, r1, go.fr a na (by rw [r3]; simp) r2, go.keep a _ na r3, r4.mono go.gg⟩
    · have z := c1.bag
      cases r : S1.g with
      | none => trivial
      | some bo =>
        obtain ⟨b, o⟩ := bo
        have nq : b ≠ p := fun e => nb o (by rw [r, e])
        rw [r] at z
        cases o with
        | lst es => obtain ⟨h1, ws, h2, h3⟩ := z; exact ⟨go.fr b nq (by rw [h2]; simp) h1, ws, go.keep b _ nq h2, h3.mono go.gg⟩
        | ins cc fs => obtain ⟨h1, dx, ws, h2, h3⟩ := z; exact ⟨go.fr b nq (by rw [h2]; simp) h1, dx, ws, go.keep b _ nq h2, h3.mono go.gg⟩
end

end DL
/-! DLB: items, slices, joining, if else, written powers. -/
namespace L2
open PySem PySem.Spec PyProof.Rows
def rCatK (K : PySem.W.Frag) : R2 := fun x y H Q => ∃ a b xs ys, x = V.ref a ∧ y = V.ref b ∧ SqL K H a xs ∧ SqL K H b ys ∧ xs.length + ys.length ≤ sizeLine ∧ ∀ p, H p = none → Q (.ref p) (upd H p (.lst (xs ++ ys)))
theorem op_catK {X : Cx} : OpR X (binaryOp .Add) (rCatK X.K) := by
  intro pins s σ H x y v u Q I rx ry h
  obtain ⟨l, b, xs, zs, rfl, rfl, hH, hB, hz, q⟩ := h
  cases rx
  cases ry
  obtain ⟨its, r, ⟨⟨cls, dd, data, sl⟩, n, ho, hc, hdd, hd⟩, _⟩ := I.list hH
  obtain ⟨its2, r2, ⟨⟨cls2, dd2, data2, sl2⟩, n2, ho2, hc2, hdd2, hd2⟩, _⟩ := I.list hB
  simp only at hc hd hc2 hd2
  subst hc hd hc2 hd2
  refine concat_meets ⟨_, ho, rfl⟩ ⟨_, ho2, rfl⟩ noFill_list_add seq_list_add PySem.F.slot_list_add PySem.F.entry_list_add (PySem.F.args_list_add_2 _ _) (list_addW l b its.toArray its2.toArray n n2 dd dd2 sl sl2 (by rw [List.size_toArray, List.size_toArray, ← r.length, ← r2.length]; exact hz)) ⟨ho, ho2, ?_⟩
  have ea : its.toArray ++ its2.toArray = (its ++ its2).toArray := by simp
  rw [ea]
  exact ⟨.ref _, _, I.lnew (t' := s.toks) (r.append r2) (by rw [List.length_append]; omega), rfl, q _ I.fresh⟩
end L2
namespace DL
open PySem L2
section
variable {F : Fam} {S S1 S2 S3 : ST} {e a b c : Expr} {d x y z : D} {pos p apos : Pos} {es : List Expr} {ds : List D} {k : Bool} {nm : Str} {P : Po} {rest : List Stmt}

/-! ### if else -/
theorem de_ite (hc : DT F c S S1 k) (h1 : k = true → DE F a S1 S2 x) (h2 : k = false → DE F b S1 S2 y) : DE F (.IfExp c a b pos) S S2 (bif k then x else y) := by
  cases k with
  | true => exact de_if hc (fun _ => h1 rfl) (fun h => nomatch h)
  | false => exact de_if hc (fun h => nomatch h) (fun _ => h2 rfl)
theorem de_iteI {i j : Int} (hc : DT F c S S1 k) (h1 : k = true → DE F a S1 S2 (.int i)) (h2 : k = false → DE F b S1 S2 (.int j)) : DE F (.IfExp c a b pos) S S2 (.int (bif k then i else j)) := by
  cases k with
  | true => exact de_if hc (fun _ => h1 rfl) (fun h => nomatch h)
  | false => exact de_if hc (fun h => nomatch h) (fun _ => h2 rfl)
theorem de_iteS {i j : Str} (hc : DT F c S S1 k) (h1 : k = true → DE F a S1 S2 (.str i)) (h2 : k = false → DE F b S1 S2 (.str j)) : DE F (.IfExp c a b pos) S S2 (.str (bif k then i else j)) := by
  cases k with
  | true => exact de_if hc (fun _ => h1 rfl) (fun h => nomatch h)
  | false => exact de_if hc (fun h => nomatch h) (fun _ => h2 rfl)
theorem de_ifT (hc : DT F c S S1 true) (h1 : DE F a S1 S2 d) : DE F (.IfExp c a b pos) S S2 d := de_if hc (fun _ => h1) (fun h => nomatch h)
theorem de_ifF (hc : DT F c S S1 false) (h1 : DE F b S1 S2 d) : DE F (.IfExp c a b pos) S S2 d := de_if hc (fun h => nomatch h) (fun _ => h1)
theorem dt_chain {op op' : CmpOp} {w : D} {k l : Bool} (ha : DE F a S S1 x) (hb : DE F b S1 S2 y) (hc : k = true → DE F c S2 S3 w) (hr : OpD F (compareOp op) x y (.bl k)) (hr' : k = true → OpD F (compareOp op') y w (.bl l)) (h0 : k = false → S2 = S3 := by intro _; rfl) (hm : lastMarks [op, op'] [b, c] = false := by with_unfolding_all rfl) : DT F (.Compare a [op, op'] [b, c] pos) S S3 (k && l) := by
  obtain ⟨r, h1, h2⟩ := hr
  cases k with
  | true =>
    obtain ⟨r', h1', h2'⟩ := hr' rfl
    refine dt_of (fun i => pt_chain (h1 i) (h1' i) (anyE_ok i) (anyE_ok i) (anyE_ok i) (hm := hm)) fun σ G H c' Q q => ?_
    refine ha σ G H c' _ fun u G1 H1 m1 d1 => hb σ G1 H1 m1.cx _ fun v G2 H2 m2 d2 => h2 G2 H2 u v m2.cx.sub (d1.mono m2.go.gg) d2 _ fun t G3 H3 p d3 => ?_
    cases d3 with
    | bl =>
      refine ⟨true, rfl, ?_⟩
      rw [if_pos rfl]
      have m3 := (m1.trans m2).pu p
      refine hc rfl σ G3 H3 m3.cx _ fun t' G4 H4 m4 d4 => h2' G4 H4 v t' m4.cx.sub ((d2.mono p.gg).mono m4.go.gg) d4 _ fun w5 G5 H5 p5 d5 => ?_
      cases d5
      exact ⟨l, rfl, q _ _ ((m3.trans m4).pu p5)⟩
  | false =>
    cases h0 rfl
    refine dt_of (fun i => pt_chain (h1 i) (fun _ _ _ _ _ _ _ _ _ _ _ _ z => False.elim z : OpR (F.X i) (compareOp op') fun _ _ _ _ => False) (anyE_ok i) (anyE_ok i) (anyE_ok i) (hm := hm)) fun σ G H c' Q q => ?_
    refine ha σ G H c' _ fun u G1 H1 m1 d1 => hb σ G1 H1 m1.cx _ fun v G2 H2 m2 d2 => h2 G2 H2 u v m2.cx.sub (d1.mono m2.go.gg) d2 _ fun t G3 H3 p d3 => ?_
    cases d3 with
    | bl =>
      refine ⟨false, rfl, ?_⟩
      rw [if_neg Bool.false_ne_true]
      exact ⟨false, rfl, q _ _ ((m1.trans m2).pu p)⟩

/-! ### items -/
def itemD : D → Int → Option D
  | .tup ds, i => atI ds i
  | .lst ds, i => atI ds i
  | _, _ => none
theorem de_ix {i : Int} (ha : DE F a S S1 x) (hb : DE F b S1 S2 (.int i)) (hi : itemD x i = some d) (hs : PlainIx b := by intro _ _; rfl) : DE F (.Subscript a b pos) S S2 d := by
  cases x with
  | tup ds => exact de_ixT ha hb hi hs
  | lst ds => exact de_ixL ha hb hi hs
  | _ => cases hi
theorem de_ixS {i : Int} {t : Str} {cc : Nat} (ha : DE F a S S1 (.str t)) (hb : DE F b S1 S2 (.int i)) (hl : t.length ≤ sizeLine) (hi : atI t.cps.toList i = some cc) (hs : PlainIx b := by intro _ _; rfl) : DE F (.Subscript a b pos) S S2 (.str ⟨#[cc]⟩) :=
  de_of (te := tOp rIxS (anyE F a) (anyE F b)) (fun j => pe_ix (pos := pos) (ix_str (X := F.X j)) (anyE_ok (e := a) j) (anyE_ok (e := b) j) hs)
    (ev_op (fun G H u v s hu hv Q q => by
      cases hu; cases hv
      exact ⟨t, i, cc, rfl, rfl, hl, hi, q _ _ _ (.refl s) (.str _)⟩) ha hb)

/-! ### slices -/
def anyO (F : Fam) (o : Option Expr) : TO := fun σ H Q => ∃ te, (∀ i, PO (F.X i) o te) ∧ te σ H Q
theorem anyO_ok {o : Option Expr} (i : F.I) : PO (F.X i) o (anyO F o) := ⟨fun pins s σ H Q I h => let ⟨te, h1, h2⟩ := h; (h1 i).run pins s σ H Q I h2⟩
def DOp (F : Fam) (o : Option Expr) (S S' : ST) (i : Option Int) : Prop := ∀ σ G H, Ctx F.C G H σ S → ∀ Q : Option Int → Hp → Prop, (∀ G2 H2, Mv F.C σ S G H S' G2 H2 → Q i H2) → anyO F o σ H Q
theorem do_none : DOp F none S S none := fun σ G H c Q q => ⟨tNoPart, fun _ => po_none, q G H (.refl c)⟩
theorem do_some {i : Int} (h : DE F e S S1 (.int i)) : DOp F (some e) S S1 (some i) := fun σ G H c Q q => ⟨tPart (anyE F e), fun l => po_some (anyE_ok l), h σ G H c _ fun v G1 H1 m dv => by cases dv; exact ⟨i, rfl, q G1 H1 m⟩⟩
def cutD (xs : List D) (lo hi : Option Int) : List D := (xs.drop (HT.sIx xs.length 0 lo)).take (HT.sIx xs.length xs.length hi - HT.sIx xs.length 0 lo)
theorem DenL.cut {C : Kc} {G : Hp} {vs : List V} {ds : List D} (h : DenL C G vs ds) (lo hi : Option Int) : DenL C G (cutV vs lo hi) (cutD ds lo hi) := by
  unfold cutV cutD
  rw [h.length]
  exact (h.drop _).take _
variable {lo hi : Option Expr} {l h : Option Int} {p2 : Pos}
theorem do_sliceL (ha : DE F e S S1 (.lst ds)) (hl : DOp F lo S1 S2 l) (hh : DOp F hi S2 S3 h) : DO F (.Subscript e (.Slice lo hi none p2) pos) S S3 (cutD ds l h) :=
  do_of (te := tSl (rSlL F.C.K) (anyE F e) (anyO F lo) (anyO F hi)) (fun i => by have := pe_slice (p2 := p2) (pos := pos) (sl_list (X := F.X i)) (anyE_ok (e := e) i) (anyO_ok (o := lo) i) (anyO_ok (o := hi) i); rw [F.hK i] at this; exact this) fun σ G H c Q q =>
    ha σ G H c _ fun v G1 H1 m1 dv => hl σ G1 H1 m1.cx _ fun G2 H2 m2 => hh σ G2 H2 m2.cx _ fun G3 H3 m3 => by
      cases dv with
      | @lst o vs _ h1 h2 =>
        have m := (m1.trans m2).trans m3
        refine ⟨o, vs, rfl, m3.cx.sub.seq (m3.go.gg.seq (m2.go.gg.seq h1)), fun p hp => ?_⟩
        have sm : Same H3 (upd H3 p (.lst (cutV vs l h))) := fun a u hh => by rw [upd_ne (ne_of_none hh hp)]; exact hh
        exact q p _ G3 _ (m.trans (m3.cx.mv sm (fun _ _ h => h) (m3.cx.sub.trans sm) fun _ _ h => h)) (back_none m.go hp) (m3.cx.sub.free hp) upd_same (((h2.mono m2.go.gg).mono m3.go.gg).cut l h)
theorem de_sliceL (ha : DE F e S S1 (.lst ds)) (hl : DOp F lo S1 S2 l) (hh : DOp F hi S2 S3 h) : DE F (.Subscript e (.Slice lo hi none p2) pos) S S3 (.lst (cutD ds l h)) := de_do (do_sliceL ha hl hh)
theorem de_sliceT (ha : DE F e S S1 (.tup ds)) (hl : DOp F lo S1 S2 l) (hh : DOp F hi S2 S3 h) : DE F (.Subscript e (.Slice lo hi none p2) pos) S S3 (.tup (cutD ds l h)) :=
  de_of (te := tSl (rSlA F.C.K) (anyE F e) (anyO F lo) (anyO F hi)) (fun i => by have := pe_slice (p2 := p2) (pos := pos) (sl_tupA (X := F.X i)) (anyE_ok (e := e) i) (anyO_ok (o := lo) i) (anyO_ok (o := hi) i); rw [F.hK i] at this; exact this) fun σ G H c Q q =>
    ha σ G H c _ fun v G1 H1 m1 dv => hl σ G1 H1 m1.cx _ fun G2 H2 m2 => hh σ G2 H2 m2.cx _ fun G3 H3 m3 => by
      cases dv with
      | @tup o vs _ h1 h2 =>
        have m := (m1.trans m2).trans m3
        have h1' := same_t m3.go.gg (same_t m2.go.gg h1)
        have h2' := (h2.mono m2.go.gg).mono m3.go.gg
        refine ⟨o, vs, rfl, same_t m3.cx.sub h1', fun w => ?_, fun _ p hp => ?_⟩
        · have e : cutV vs l h = vs := by unfold cutV; rw [w.1, w.2]; simp
          have := h2'.cut l h
          rw [e] at this
          exact q _ _ _ m (.tup h1' this)
        · have pn := m3.cx.pu (Pu.new (o := .tup (cutV vs l h)) m3.cx.sub hp)
          exact q _ _ _ (m.trans pn) (.tup (SqT.of upd_same) ((h2'.cut l h).mono pn.go.gg))
theorem de_sliceS {t : Str} (ha : DE F e S S1 (.str t)) (hl : DOp F lo S1 S2 l) (hh : DOp F hi S2 S3 h) (hz : t.length ≤ sizeLine) : DE F (.Subscript e (.Slice lo hi none p2) pos) S S3 (.str (cutS t l h)) :=
  de_of (te := tSl rSlS (anyE F e) (anyO F lo) (anyO F hi)) (fun i => pe_slice (p2 := p2) (pos := pos) (sl_str (X := F.X i)) (anyE_ok (e := e) i) (anyO_ok (o := lo) i) (anyO_ok (o := hi) i)) fun σ G H c Q q =>
    ha σ G H c _ fun v G1 H1 m1 dv => hl σ G1 H1 m1.cx _ fun G2 H2 m2 => hh σ G2 H2 m2.cx _ fun G3 H3 m3 => by
      cases dv
      exact ⟨t, rfl, hz, q _ _ _ ((m1.trans m2).trans m3) (.str _)⟩

/-! ### y = [..] -/
theorem ps_lc {j : Nat} {yn : Str} {py : Pos} {elt tg iter : Expr} {ifs : List Expr} {scope : Scope} {own : List (Str × Nat)} (ok : ∀ i, BlkOk (F.X i).N (F.X i).env.scope scope own) (hN : ∀ i, (F.X i).N[j]? = some yn) (hl : ∀ i, (F.X i).env.scope.names.lookup yn = some .local)
    (hsw : ∀ i, swapsWith (.ListComp elt [⟨tg, iter, ifs, 0⟩] scope p) (some (.Name yn py)) pos.line (F.X i).env = pure true) (hs : ∀ i x, foldedSetIterable iter (F.X i).env x = pure x) (i : F.I) :
    PS (F.X i) (.Assign [.Name yn py] (.ListComp elt [⟨tg, iter, ifs, 0⟩] scope p) pos) (tAsg (tLc (anyI F tg iter) (anyG (F.blk scope) tg) (anyTs (F.blk scope) ifs) (anyE (F.blk scope) elt) (own.map (·.2))) (gName j)) :=
  ps_setLc (F.calm i) (by rw [F.hN i]; exact F.nd) (hN i) (hl i) (hsw i) (anyI_ok i) (ok i) (fun s H C cl fp => anyG_ok (F := F.blk scope) (i, s, H, C, cl, fp)) (fun s H C cl fp => anyTs_ok (F := F.blk scope) (i, s, H, C, cl, fp)) (fun s H C cl fp => anyE_ok (F := F.blk scope) (i, s, H, C, cl, fp)) (hs i)
theorem ds_setDO {j : Nat} {yn : Str} {py : Pos} {elt tg iter : Expr} {ifs : List Expr} {scope : Scope} {own : List (Str × Nat)} (hev : EvO F.C (tLc (anyI F tg iter) (anyG (F.blk scope) tg) (anyTs (F.blk scope) ifs) (anyE (F.blk scope) elt) (own.map (·.2))) S S1 ds) (ok : ∀ i, BlkOk (F.X i).N (F.X i).env.scope scope own) (q : DS F rest (S1.set j (.lst ds)) P)
    (hN : ∀ i, (F.X i).N[j]? = some yn := by intro _; rfl) (hl : ∀ i, (F.X i).env.scope.names.lookup yn = some .local := by intro _; rfl)
    (hsw : ∀ i, swapsWith (.ListComp elt [⟨tg, iter, ifs, 0⟩] scope p) (some (.Name yn py)) pos.line (F.X i).env = pure true := by intro _; exact sw_true rfl rfl rfl (by decide +kernel)) (hs : ∀ i x, foldedSetIterable iter (F.X i).env x = pure x := by intro _ _; rfl) :
    DS F (.Assign [.Name yn py] (.ListComp elt [⟨tg, iter, ifs, 0⟩] scope p) pos :: rest) S P := by
  refine ds_cons (M := fun S2 => S2 = S1.set j (.lst ds)) (d1_of (te := tAsg (tLc (anyI F tg iter) (anyG (F.blk scope) tg) (anyTs (F.blk scope) ifs) (anyE (F.blk scope) elt) (own.map (·.2))) (gName j)) (ps_lc ok hN hl hsw hs) ?_) fun _ z => z ▸ q
  intro σ G H c E m
  exact ev_freeze hev σ G H c _ fun v G1 H1 m1 dv => m.nx _ _ G1 H1 (m1.mw.trans (m1.cx.store dv)) rfl
theorem ev_lcM {elt tg iter : Expr} {scope : Scope} (f : D → D) (own : List (Str × Nat)) (hi : DI F tg iter S S1 ds) (hl : ds.length ≤ sizeLine)
    (step : ∀ (i : Nat) d, ds[i]? = some d → ∃ T1 T3 js, DG (F.blk scope) tg d ⟨hidS S1.s (own.map (·.2)), S1.g⟩ T1 js ∧ (∀ j ∈ js, j ∈ own.map (·.2)) ∧ DE (F.blk scope) elt T1 T3 (f d) ∧ T3.g = S1.g) :
    EvO F.C (tLc (anyI F tg iter) (anyG (F.blk scope) tg) (anyTs (F.blk scope) []) (anyE (F.blk scope) elt) (own.map (·.2))) S S1 (ds.map f) := by
  have := ev_lc (ifs := []) (elt := elt) (vs0 := own.map (·.2)) hi (fun _ => S1.g) (fun i => (ds.take i).map f) rfl rfl (fun _ => rfl) (fun i d hd => by
    obtain ⟨T1, T3, js, h1, h2, h3, h4⟩ := step i d hd
    have hlt : i < ds.length := (List.getElem?_eq_some_iff.mp hd).1
    refine ⟨T1, T1, true, js, h1, h2, dts_nil, fun _ => ⟨T3, f d, h3, h4, ?_, by rw [List.length_map, List.length_take]; omega⟩, fun z => nomatch z⟩
    rw [List.take_succ, hd, List.map_append]; rfl)
  rw [List.take_length] at this
  exact this

/-! ### joining -/
theorem od_addS {i j : Str} (h : i.length + j.length ≤ sizeLine) : OpD F (binaryOp .Add) (.str i) (.str j) (.str (i ++ j)) := ⟨_, fun _ => op_add_str, fun G H u v s hu hv Q q => by
  cases hu; cases hv
  exact ⟨i, j, rfl, rfl, h, q _ _ _ (.refl s) (.str _)⟩⟩
theorem od_catT {xs ys : List D} (h : xs.length + ys.length ≤ sizeLine) : OpD F (binaryOp .Add) (.tup xs) (.tup ys) (.tup (xs ++ ys)) :=
  ⟨rCatA F.C.K, fun i => by have := op_catA (X := F.X i); rw [F.hK i] at this; exact this, fun G H u v s hu hv Q q => by
    cases hu with
    | @tup a vs _ h1 h2 => cases hv with
      | @tup b ws _ h3 h4 =>
        refine ⟨a, b, vs, ws, rfl, rfl, same_t s h1, same_t s h3, by rw [h2.length, h4.length]; exact h, fun e => ?_, fun _ e => ?_, fun _ _ p hp => ?_⟩
        · subst e
          cases h2
          exact q _ _ _ (.refl s) (.tup h3 h4)
        · subst e
          cases h4
          exact q _ _ _ (.refl s) (by rw [List.append_nil]; exact .tup h1 h2)
        · exact q _ _ _ (Pu.new s hp) (.tup (SqT.of upd_same) ((h2.append h4).mono (Pu.new s hp).gg))⟩
theorem od_catL {xs ys : List D} (h : xs.length + ys.length ≤ sizeLine) : OpD F (binaryOp .Add) (.lst xs) (.lst ys) (.lst (xs ++ ys)) :=
  ⟨rCatK F.C.K, fun i => by have := op_catK (X := F.X i); rw [F.hK i] at this; exact this, fun G H u v s hu hv Q q => by
    cases hu with
    | @lst a vs _ h1 h2 => cases hv with
      | @lst b ws _ h3 h4 =>
        exact ⟨a, b, vs, ws, rfl, rfl, s.seq h1, s.seq h3, by rw [h2.length, h4.length]; exact h, fun p hp => q _ _ _ (Pu.new s hp) (.lst (SqL.of upd_same) ((h2.append h4).mono (Pu.new s hp).gg))⟩⟩
theorem od_pow9 : OpD F (binaryOp .Pow) (.int 10) (.int 9) (.int 1000000000) := od_pow (F := F) (i := 10) (j := 9) (by unfold CPow; decide)
theorem od_pow6 : OpD F (binaryOp .Pow) (.int 10) (.int 6) (.int 1000000) := od_pow (F := F) (i := 10) (j := 6) (by unfold CPow; decide)
theorem od_pow15 : OpD F (binaryOp .Pow) (.int 10) (.int 15) (.int 1000000000000000) := od_pow (F := F) (i := 10) (j := 15) (by unfold CPow; decide)
theorem od_pow18 : OpD F (binaryOp .Pow) (.int 10) (.int 18) (.int 1000000000000000000) := od_pow (F := F) (i := 10) (j := 18) (by unfold CPow; decide)
theorem od_pow20 : OpD F (binaryOp .Pow) (.int 10) (.int 20) (.int 100000000000000000000) := od_pow (F := F) (i := 10) (j := 20) (by unfold CPow; decide)
end
end DL
/-! DLC: the end of a law: from a promise on data to the row. -/
namespace DL
open PySem L2
def spLaw (K : PySem.W.Frag) : Sp := fun vs H Q _ => ∃ (a : Addr) (ns : List Int), vs = [.ref a] ∧ ns.length ≤ 63 ∧ SqL K H a (ns.map V.int) ∧ ∀ H', Q (.bl true) H'
theorem denL_ints {C : Kc} {G : Hp} : ∀ ns : List Int, DenL C G (ns.map V.int) (ns.map D.int)
  | [] => .nil
  | n :: ns => .cons (.int n) (denL_ints ns)
section
variable {P : Program} {w : World} {C : Kc} {mg : Str → Option Value} {base : Heap} {f : Addr} {fd : FuncData} {k : Nat} {ps : List Str}
theorem law_of {R : List D → D → Prop} (h : FnOk P w C.K mg base CX0 k f fd ps (spP C R)) (hR : ∀ is : List Int, is.length ≤ 63 → R [.lst (is.map D.int)] (.bl true)) : FnOk P w C.K mg base CX0 k f fd ps (spLaw C.K) :=
  h.imp fun vs H Q E ⟨a, ns, e, hl, hS, q⟩ => ⟨H, _, _, hR ns hl, fun _ _ h => h, by subst e; exact .cons (.lst hS (denL_ints ns)) .nil, fun v G2 H2 _ d => by cases d; exact q _⟩
variable {x qual : Str} {st : Stmt} {sp : Sp}
theorem cal_mk (ok : FnOk P w C.K mg base CX0 k f fd ps sp) (F : Fun C.K x qual st f fd) (b : Binds C.K fd ps []) (hm : mg x = some (.ref f)) : Cal P w C mg base k x sp := ⟨f, fd, ps, ok, hm, F.kp, b⟩
theorem met_mk {c : Nat} (ok : FnOk P w C.K mg base CX0 k f fd ps sp) (cl : Cls C.K (C.cl c)) (m : Meth C.K (C.cl c) x f) (b : Binds C.K fd ps []) : Met P w C mg base k c x sp := ⟨f, fd, ps, ok, cl, m, b⟩
theorem Fun.kbn (F : Fun C.K x qual st f fd) (n : Nat) (ks : List Str) (ix : List Nat)
    (h : ∀ (kV doc pm : Value) (an : Option Addr) (cdv ct : Value) (us ws : List Value), us.length = n → ws.length = ks.length → bindArgs (PySem.W.fnOf x qual (defArgs st) (defBody st) (defScope st) .none kV doc pm an cdv ct) ⟨us, ks.zip ws⟩ = pure (ps.zip (us ++ perm ix ws))) :
    KBn C.K fd ps n ks (fun us ws => us ++ perm ix ws) (fun vs zs => vs ++ perm ix zs) := by
  obtain ⟨oc, od, kV, doc, pm, an, cdv, ct, osl, rfl, lk, hcd⟩ := F.ex
  exact ⟨fun s us ws X l1 l2 => .of_eq (h kV doc pm an cdv ct us ws l1 l2), fun r1 r2 => r1.append (DL.Vals.perm r2 ix)⟩
end
theorem walk {l : PySem.W.OpenLaw} {q : Program} {loose : List Str} {XP : (Str → Option Value) → Heap → Prop} {YP : World → Heap → Prop} {d : DefRec} {K : Params → PySem.W.Frag} {k : Nat} (x : Str) (hk : k ≤ 100) (hn : l.most = some 63) (hdf : d.params.defaults = [])
    (hY : ∀ (w : World) (h : Heap), YP w h → (K w.params).In h)
    (F : ∀ (w : World) (mg : Str → Option Value) (fa : Addr) (h : Heap), (K w.params).In h → h.Ns mainGlobals mg → mg d.name = some (.ref fa) →
      ∃ fd : FuncData, (∀ (s : Shared) (u : Value), BindsTo s fd ⟨[u], []⟩ [(x, u)]) ∧ ∀ base : Heap, (K w.params).In base → base.Ns mainGlobals mg → FnOk l.prog w (K w.params) mg base CX0 k fa fd [x] (spLaw (K w.params))) :
    PySem.W.WalkO q loose XP YP l.row.toRowW d [] (fun f vs => PySem.call f vs) :=
  L2.walk_of (n := 63) (k := k) (x := x) (CX := fun _ => CX0) (sp := fun w => spLaw (K w.params)) hn (by decide) hdf (Room.mono (k := 100) ⟨rfl, by decide, by decide⟩ hk) hY F (fun _ _ a ns hl _ hS => ⟨a, ns, rfl, hl, hS, fun _ => rfl⟩) fun _ _ _ _ _ z => z
end DL
/-! DLD: texts: ==, f-strings, str; in; a list taken apart. -/
namespace DL
open PySem L2
section
variable {F : Fam} {S S1 S2 S3 : ST} {e a b c : Expr} {d x y z : D} {pos p apos : Pos} {es : List Expr} {ds : List D} {k : Nat} {nm : Str} {P : Po} {rest : List Stmt} {cn : Nat} {fs : List (Str × D)} {R : List D → D → Prop}
theorem od_eqS {i j : Str} : OpD F (compareOp .Eq) (.str i) (.str j) (.bl (decide (i = j))) := ⟨_, fun _ => op_eq, fun G H u v s hu hv Q q => by
  cases hu; cases hv
  refine ⟨rfl, ?_⟩
  have e : decide (V.str i = V.str j) = decide (i = j) := by
    by_cases h : i = j
    · rw [decide_eq_true h, decide_eq_true (by rw [h])]
    · rw [decide_eq_false h, decide_eq_false (by intro z; exact h (V.str.inj z))]
  rw [e]
  exact q _ _ _ (.refl s) (.bl _)⟩
theorem od_neS {i j : Str} : OpD F (compareOp .NotEq) (.str i) (.str j) (.bl (!decide (i = j))) := ⟨_, fun _ => op_ne, fun G H u v s hu hv Q q => by
  cases hu; cases hv
  refine ⟨rfl, ?_⟩
  have e : decide (V.str i = V.str j) = decide (i = j) := by
    by_cases h : i = j
    · rw [decide_eq_true h, decide_eq_true (by rw [h])]
    · rw [decide_eq_false h, decide_eq_false (by intro z; exact h (V.str.inj z))]
  rw [e]
  exact q _ _ _ (.refl s) (.bl _)⟩
/-! ### str -/
theorem ca_strI {i : Int} (h : i.natAbs.log2 < 1920) : CaD F (.type "str") [.int i] (.str (toString i)) := ⟨_, fun _ => call_str_int, fun G H us s hl Q q => by
  cases hl with
  | cons h1 l => cases h1; cases l; exact ⟨i, rfl, h, q _ _ _ (.refl s) (.str _)⟩⟩
theorem run_in2 {X : Cx} {pins : List (Addr × Obj)} {σ : L2.St} {H : Hp} {s : Shared} {Q : VK} {us : List Value} {vs : List V} {f : Addr} {fd : FuncData} {ps : List Str} {sp : Sp} (G : FnOk X.prog X.w X.K X.mg X.base CX0 k f fd ps sp) (hr : Room (k + 2) X.A) (hb : Binds X.K fd ps []) (I : Inv X pins σ H s) (r : Vals vs us) (h : sp vs H Q E0) :
    wpAny (model X.prog X.w) X.A.in1.in1 (call (.ref f) us) (EP X pins σ Q) X.xe s := by
  have hl : (us ++ []).length = ps.length := by rw [List.append_nil, ← r.length]; exact G.len _ _ _ _ h
  refine wpAny_call (codeAny_mono (G.run X.A.in1.in1 X.stack s H ⟨us, []⟩ us vs Q E0 hr.in1.in1 I.env0.in1.in1 (by have := hb s us I.kIn hl; rw [List.append_nil] at this; exact this) r h) fun r s' hq => ?_)
  cases r with
  | error e => exact hq.elim
  | ok fl =>
    cases fl with
    | ret u => exact I.after hq
    | next => exact False.elim hq
    | brk => exact False.elim hq
    | cont => exact False.elim hq
/-- str(x) by the own __str__ of x's class -/
theorem ca_strO {t : Str} (mt : Met F.P F.w F.C F.mg F.base k cn "__str__" (spP F.C R)) (hk : k + 2 ≤ F.k) (hR : R [.obj cn fs] (.str t)) : CaD F (.type "str") [.obj cn fs] (.str t) := by
  obtain ⟨f, fd, ps, G, hc, hme, hb⟩ := mt
  refine ⟨fun xs H Q => ∃ a dx vs, xs = [.ref a] ∧ H a = some (.ins (F.C.cl cn) dx vs) ∧ spP F.C R [.ref a] H (fun v H' => ∃ b, v = .str b ∧ Q (.str b) H') E0, fun l => ?_, fun G H us s hu Q q => ?_⟩
  · intro pins s σ H xs us Q I rx h
    obtain ⟨a, dx, vs, rfl, ha, hsp⟩ := h
    cases rx with
    | cons r0 r1 =>
      cases r1
      cases r0
      obtain ⟨od, J⟩ := inst_of I ha
      refine PySem.W.kso_call ((F.room l).mono hk).in1.in1.units0 I.kIn J (by rw [F.hK l]; exact hme.at_) (by rw [F.hK l]; exact hme.fn) ?_
      refine wpAny_mono (run_in2 (vs := [.ref a]) (fn_at G) ((F.room l).mono hk) (by rw [F.hK l]; exact hb) I (.cons rfl .nil) hsp) (fun w s' hw => ?_) fun _ _ e => e
      obtain ⟨w', H', I', rw', b, rfl, q⟩ := hw
      obtain ⟨tk, rfl⟩ := rw'
      exact ⟨.str b, H', I', ⟨tk, rfl⟩, q⟩
  · cases hu with
    | cons h0 l0 =>
      have h0' := h0
      cases l0
      cases h0 with
      | obj h1 h2 => exact ⟨_, _, _, rfl, s _ _ h1, G, _, _, hR, s, .cons h0' .nil, fun v G2 H2 p dv => by cases dv; exact ⟨t, rfl, q _ _ _ p (.str _)⟩⟩
/-! ### f-strings -/
theorem de_fmtI {i : Int} (h : DE F e S S1 (.int i)) (hz : i.natAbs.log2 < 1920) : DE F (.FormattedValue e (-1) none pos) S S1 (.str (toString i)) :=
  de_of (te := tFmt (anyE F e)) (fun l => pe_fmt (anyE_ok l)) fun σ G H c Q q => h σ G H c _ fun v G1 H1 m dv => by cases dv; exact .inr ⟨i, rfl, hz, q _ _ _ m (.str _)⟩
theorem de_fmtS {t : Str} (h : DE F e S S1 (.str t)) (hz : t.length ≤ sizeLine) : DE F (.FormattedValue e (-1) none pos) S S1 (.str t) :=
  de_of (te := tFmt (anyE F e)) (fun l => pe_fmt (anyE_ok l)) fun σ G H c Q q => h σ G H c _ fun v G1 H1 m dv => by cases dv; exact .inl ⟨t, rfl, hz, q _ _ _ m (.str _)⟩
theorem de_join1 (h : DE F e S S1 d) : DE F (.JoinedStr [e] pos) S S1 d :=
  de_of (te := anyE F e) (fun l => pe_joined1 (anyE_ok l)) fun σ G H c Q q => h σ G H c Q q
def DJ (F : Fam) (es : List Expr) (acc : Str) (S S' : ST) (out : Str) : Prop := ∀ σ G H, Ctx F.C G H σ S → ∀ Q : Str → Hp → Prop, (∀ G2 H2, Mv F.C σ S G H S' G2 H2 → Q out H2) → tJs (es.map (anyE F)) acc σ H Q
theorem dj_nil {acc : Str} : DJ F [] acc S S acc := fun σ G H c Q q => q G H (.refl c)
theorem dj_cons {acc t out : Str} (h : DE F e S S1 (.str t)) (hz : (acc ++ t).length ≤ sizeLine) (hr : DJ F es (acc ++ t) S1 S2 out) : DJ F (e :: es) acc S S2 out := fun σ G H c Q q =>
  h σ G H c _ fun v G1 H1 m dv => by
    cases dv
    exact ⟨t, rfl, hz, hr σ G1 H1 m.cx Q fun G2 H2 m2 => q G2 H2 (m.trans m2)⟩
theorem pj_any (i : F.I) : ∀ es : List Expr, PJ (F.X i) es (es.map (anyE F))
  | [] => .nil
  | _ :: es => .cons (anyE_ok i) (pj_any i es)
theorem de_join {v1 v2 : Expr} {out : Str} (h : DJ F (v1 :: v2 :: es) Str.empty S S1 out) : DE F (.JoinedStr (v1 :: v2 :: es) pos) S S1 (.str out) :=
  de_of (fun i => pe_joined (pj_any i (v1 :: v2 :: es))) fun σ G H c Q q => h σ G H c _ fun G2 H2 m => q _ _ _ m (.str _)
/-! ### in -/
theorem od_inS {t : Str} {ss : List Str} : OpD F (compareOp .In) (.str t) (.tup (ss.map D.str)) (.bl (inV (.str t) (ss.map V.str))) := ⟨rIn F.C.K false, fun i => by have := op_in_seq (X := F.X i); rw [F.hK i] at this; exact this, fun G H u v s hu hv Q q => by
  cases hu
  cases hv with
  | @tup a vs _ h1 h2 =>
    have e := denL_str h2
    subst e
    exact ⟨a, _, rfl, .inr (same_t s h1), rfl, by simp [flatV], q _ _ _ (.refl s) (.bl _)⟩⟩
theorem od_ninS {t : Str} {ss : List Str} : OpD F (compareOp .NotIn) (.str t) (.tup (ss.map D.str)) (.bl (!inV (.str t) (ss.map V.str))) := ⟨rIn F.C.K true, fun i => by have := op_notIn_seq (X := F.X i); rw [F.hK i] at this; exact this, fun G H u v s hu hv Q q => by
  cases hu
  cases hv with
  | @tup a vs _ h1 h2 =>
    have e := denL_str h2
    subst e
    exact ⟨a, _, rfl, .inr (same_t s h1), rfl, by simp [flatV], q _ _ _ (.refl s) (.bl _)⟩⟩
/-! ### a, b = [..] -/
theorem dg_lst {tgs : List Expr} {kk : Nat} {js : List Nat} (h : DGs F tgs ds S S1 js) (hp : ∀ i, PG (F.X i) (.Tuple tgs kk pos) (gLst (F.X i).K ds.length (anyGs F tgs)) := by intro i; exact pg_lst (Fam.calm _ i) (anyGs_ok i)) : DG F (.Tuple tgs kk pos) (.lst ds) S S1 js := fun σ G H v c dv Q q =>
  ⟨gLst F.C.K ds.length (anyGs F tgs), fun i => by have := hp i; rw [F.hK i] at this; exact this, by
    cases dv with
    | lst h1 h2 => exact ⟨_, _, rfl, c.sub.seq h1, h2.length, h σ G H _ c h2 Q q⟩⟩
end
/-- a tuple of the top, in the written part -/
theorem den_kt {C : Kc} {G : Hp} {a : Addr} {oc : Value} {od : Option Addr} {n : Nat} {sl : Array (Option Value)} {its : List Value} {vs : List V} {ds : List D} (h : C.K.lookup a = some ⟨oc, od, .seq its.toArray n, sl⟩) (hc : oc = .type "tuple") (hz : its.length ≤ sizeLine) (r : Vals vs its) (d : DenL C G vs ds) : Den C G (.ref a) (.tup ds) :=
  .tup (.inr ⟨_, its.toArray, n, h, hc, rfl, by simpa using hz, by simpa using r⟩) d
end DL
/-! DLG: defs that run where no repr is under way; repr of data. (Calls and defs: printed by dlg_gen.py from DL3 and DLA.) -/
namespace DL
open PySem PySem.Spec PyProof.Rows L2
/-- a promise kept wherever no repr is under way -/
structure FnG (P : Program) (w : World) (K : PySem.W.Frag) (mg : Str → Option Value) (base : Heap) (k : Nat) (f : Addr) (fd : FuncData) (ps : List Str) (sp : Sp) : Prop where
  size : ∀ vs H Q E, sp vs H Q E → vs.length = ps.length
  runs : ∀ (A : Around), Room k A → A.guards = some [] → ∀ (outer : List Env) (s : Shared) (H : Hp), Env0 P w K mg base A outer s H → ∀ (args : Args) (us : List Value), BindsTo s fd args (ps.zip us) → ∀ (vs : List V) (Q : VK) (E : XK), Vals vs us → sp vs H Q E → codeAny (model P w) A (.call (.ref f) args) (CR CX0 outer P w H s Q E) s
section
variable {P : Program} {w : World} {K : PySem.W.Frag} {mg : Str → Option Value} {base : Heap} {k : Nat} {f : Addr} {fd : FuncData} {ps : List Str} {sp sp' : Sp}
theorem FnG.of (F : FnOk P w K mg base CX0 k f fd ps sp) : FnG P w K mg base k f fd ps sp := ⟨F.len, fun A hr _ outer s H e args us b vs Q E r q => F.run A outer s H args us vs Q E hr e b r q⟩
theorem FnG.imp (F : FnG P w K mg base k f fd ps sp) (h : ∀ vs H Q E, sp' vs H Q E → sp vs H Q E) : FnG P w K mg base k f fd ps sp' := ⟨fun vs H Q E q => F.size vs H Q E (h _ _ _ _ q), fun A hr hA outer s H e args us b vs Q E r q => F.runs A hr hA outer s H e args us b vs Q E r (h _ _ _ _ q)⟩
/-- THE RULE: the body read at an Around without a repr under way -/
theorem okG {x qual : Str} {st : Stmt} {N : List Str} (F : Fun K x qual st f fd) (Sc : FnScope N ps (defScope st)) (len : ∀ vs H Q E, sp vs H Q E → vs.length = ps.length)
    (hbody : ∀ (cdv : Value) (A : Around) (outer : List Env) (s : Shared) (H : Hp) (vs : List V) (Q : VK) (E : XK), Room k (A.deeper (PyProof.Rows.envOfC qual (defScope st) s.heap.objs.size f cdv)) → A.guards = some [] → sp vs H Q E →
      ∃ t, PSs (cxOf CX0 P w K mg base N qual (defScope st) f cdv A outer s H E).nox (defBody st) t ∧ t { nx := fun _ H' => Q .non H', rt := Q } (L2.start N vs) H) : FnG P w K mg base (k + 1) f fd ps sp := by
  obtain ⟨oc, od, kV, doc, pm, an, cdv, ct, osl, rfl, lk, hcd⟩ := F.ex
  refine ⟨len, fun A hr hA outer s H en args us b vs Q E r q => ?_⟩
  have kept : ∀ a o, base.get? a = some o → s.heap.get? a = some o := fun a o h => (en.bs a o h).1
  have hK : K.In s.heap := en.mod.kin.keeps kept
  refine codeAny_call_function hr.depth (hK _ _ lk) rfl Sc.co Sc.gen rfl (PySem.W.codeRec_of hK hcd) (b _ _ _ _ ?_)
  refine wpAny_newFunctionEnv_cells Sc.kind ?_ ?_
  · rintro ⟨n, v⟩ hy
    exact (Sc.par n (List.of_mem_zip hy).1).imp id fun c => ⟨c, PySem.W.cellsFrom_some _ _ _ (.inl c)⟩
  · rintro env rfl s1 x1
    refine ⟨(en.mod.nolimit.keeps kept).keeps x1.toInCall.keep, codeAny_func ?_⟩
    obtain ⟨t, h1, h2⟩ := hbody cdv A outer s H vs Q E (hr.deeper _) hA q
    have J0 := inv_start (CX := CX0) (E := E) Sc hr.hd en (len _ _ _ _ q) r x1
    refine wpAny_mono (h1.nox.run [] s1 (L2.start N vs) H _ J0 h2) (fun fl s2 z => ?_) fun _ _ z => z
    cases fl with
    | next => obtain ⟨_, H2, J, z⟩ := z; exact ⟨.non, H2, J.os, J.bare, J.base, J.hok, rfl, z⟩
    | ret u => obtain ⟨v, _, H2, J, rv, z⟩ := z; exact ⟨v, H2, J.os, J.bare, J.base, J.hok, rv, z⟩
    | brk => obtain ⟨_, _, _, z⟩ := z; exact z.elim
    | cont => obtain ⟨_, _, _, z⟩ := z; exact z.elim
theorem run_fnG {X : Cx} {pins : List (Addr × Obj)} {σ : L2.St} {H : Hp} {s : Shared} {Q : VK} {us : List Value} {vs : List V} (hA : X.A.guards = some []) (F : FnG X.prog X.w X.K X.mg X.base k f fd ps sp) (hr : Room k X.A) (hb : Binds X.K fd ps []) (I : Inv X pins σ H s) (r : Vals vs us) (h : sp vs H Q E0) :
    wpAny (model X.prog X.w) X.A (call (.ref f) us) (EP X pins σ Q) X.xe s := by
  have hl : (us ++ []).length = ps.length := by rw [List.append_nil, ← r.length]; exact F.size _ _ _ _ h
  have bd := hb s us I.kIn hl
  rw [List.append_nil] at bd
  refine wpAny_call (codeAny_mono (F.runs X.A hr hA X.stack s H I.env0 ⟨us, []⟩ us bd vs Q E0 r h) fun z s2 hz => ?_)
  cases z with
  | error _ => exact hz.elim
  | ok fl => cases fl with
    | ret _ => exact I.after hz
    | next => exact hz.elim
    | brk => exact hz.elim
    | cont => exact hz.elim
theorem pe_callG {X : Cx} {x : Str} {p pos : Pos} {e : Expr} {es : List Expr} {t : TA} (hA : X.A.guards = some []) (F : FnG X.prog X.w X.K X.mg X.base k f fd ps sp) (hr : Room k X.A) (hg : Gl X x) (hm : X.mg x = some (.ref f)) (hk : PySem.W.keepIn X.K (.ref f) = true) (hb : Binds X.K fd ps []) (_ : Vals ([] : List V) []) (_ : True) (ha : PA X (e :: es) t)
    (hdb : (x == ("__debug__" : Str)) = false) (he : starEach (e :: es) X.env = (false, eval e X.env) :: starEach es X.env) (hpl : (backTo pos (starEach es X.env)).any (·.1) = false) : PE X (.Call (.Name x p) (e :: es) [] pos) (tCall sp [] E0 t) :=
  ⟨fun pins s σ H Q I h => wpAny_Call_Name_kw (ld_glob I hg hm (PySem.W.callWith_K (h₀ := X.base) I.ok.mod.kin hk (thn (ha.run pos pins s σ H _ I h) fun us s1 ⟨vs, H1, I1, r, q⟩ => ⟨I1.kIn, run_fnG hA F hr hb I1 r (by have q1 : sp (vs ++ []) H1 Q E0 := q; rw [List.append_nil] at q1; exact q1)⟩) he hpl) hdb)⟩
end
def CalG (P : Program) (w : World) (C : Kc) (mg : Str → Option Value) (base : Heap) (k : Nat) (x : Str) (sp : Sp) : Prop := ∃ f fd ps, FnG P w C.K mg base k f fd ps sp ∧ mg x = some (.ref f) ∧ PySem.W.keepIn C.K (.ref f) = true ∧ Binds C.K fd ps []
section
variable {F : Fam} {S S1 S2 S3 : ST} {e a b : Expr} {d x y z : D} {pos p apos : Pos} {es : List Expr} {ds : List D} {k : Nat} {nm : Str}
theorem fn_atG {i : F.I} {f : Addr} {fd : FuncData} {ps : List Str} {sp : Sp} (G : FnG F.P F.w F.C.K F.mg F.base k f fd ps sp) : FnG (F.X i).prog (F.X i).w (F.X i).K (F.X i).mg (F.X i).base k f fd ps sp := by
  rw [F.hP, F.hw, F.hK, F.hmg, F.hbase]; exact G
theorem de_callG (hG : ∀ i, (F.X i).A.guards = some []) {R : List D → D → Prop} (c : CalG F.P F.w F.C F.mg F.base k nm (spP F.C R)) (ha : DA F (e :: es) S S1 ds) (hR : R ds d) (hk : k ≤ F.k := by exact Nat.le_of_ble_eq_true rfl)
    (hg : ∀ i, Gl (F.X i) nm := by intro _; rfl) (hdb : (nm == ("__debug__" : Str)) = false := by decide)
    (he : ∀ i, starEach (e :: es) (F.X i).env = (false, eval e (F.X i).env) :: starEach es (F.X i).env := by intro _; rfl) (hpl : ∀ i, (backTo pos (starEach es (F.X i).env)).any (·.1) = false := by intro _; rfl) : DE F (.Call (.Name nm p) (e :: es) [] pos) S S1 d := by
  obtain ⟨f, fd, ps, G, hm, hkp, hb⟩ := c
  refine de_of (te := tCall (spP F.C R) [] E0 (anyA F (e :: es))) (fun i => pe_callG (hG i) (fn_atG G) ((F.room i).mono hk) (hg i) (by rw [F.hmg i]; exact hm) (by rw [F.hK i]; exact hkp) (by rw [F.hK i]; exact hb) .nil trivial (anyA_ok i) hdb (he i) (hpl i)) ?_
  intro σ G H cx Q q
  refine ha σ G H cx _ fun vs G1 H1 m dl => ?_
  rw [List.append_nil]
  exact ⟨G1, ds, d, hR, m.cx.sub, dl, fun v G2 H2 p dv => q v G2 H2 (m.pu p) dv⟩
theorem de_callBagG (hG : ∀ i, (F.X i).A.guards = some []) {R : List D → List D → D → List D → Prop} {j : Nat} {x : Str} {bb : Addr} {gs gs' : List D} {q' : Pos} (c : CalG F.P F.w F.C F.mg F.base k nm (spB F.C R)) (hj : S.s[j]? = some (some .bag)) (hS : S.g.map (·.1) = some bb) (ha : DA F es S S1 ds) (hg : S1.g = some (bb, .lst gs)) (hR : R ds gs d gs') (hk : k ≤ F.k := by exact Nat.le_of_ble_eq_true rfl)
    (hN : ∀ i, (F.X i).N[j]? = some x := by intro _; rfl) (hv : ∀ i, Vis (F.X i).env.scope x := by intro _; first | exact Or.inl rfl | exact Or.inr (Or.inl rfl) | exact Or.inr (Or.inr rfl))
    (hd : (x == ("__debug__" : Str)) = false := by decide) (hcd : (x == ("__classdict__" : Str)) = false := by decide)
    (hgl : ∀ i, Gl (F.X i) nm := by intro _; rfl) (hdb : (nm == ("__debug__" : Str)) = false := by decide)
    (he : ∀ i, starEach (.Name x q' :: es) (F.X i).env = (false, eval (.Name x q') (F.X i).env) :: starEach es (F.X i).env := by intro _; rfl) (hpl : ∀ i, (backTo pos (starEach es (F.X i).env)).any (·.1) = false := by intro _; rfl) :
    DE F (.Call (.Name nm p) (.Name x q' :: es) [] pos) S ⟨S1.s, some (bb, .lst gs')⟩ d := by
  obtain ⟨f, fd, ps, G, hm, hkp, hb⟩ := c
  refine de_of (te := tCall (spB F.C R) [] E0 (tCons (tVar j) (anyA F es))) (fun i => pe_callG (hG i) (fn_atG G) ((F.room i).mono hk) (hgl i) (by rw [F.hmg i]; exact hm) (by rw [F.hK i]; exact hkp) (by rw [F.hK i]; exact hb) .nil trivial (pa_bag i (hN i) (hv i) hd hcd (he i)) hdb (he i) (hpl i)) ?_
  intro σ G H cx Q q
  have hb0 : σ[j]? = some (some (.ref bb)) := by
    cases e : S.g with
    | none => rw [e] at hS; cases hS
    | some bo =>
      obtain ⟨b0, o⟩ := bo
      rw [e] at hS
      cases hS
      exact cx.bg j _ o e hj
  refine ⟨_, hb0, ha σ G H cx _ fun vs G1 H1 m dl => ?_⟩
  have z := m.cx.bag
  rw [hg] at z
  obtain ⟨z1, gv, z2, z3⟩ := z
  refine ⟨G1, bb, vs, gv, ds, gs, d, gs', List.append_nil _, hR, m.cx.sub, z1, z2, z3, dl, fun v G2 H2 gv' go sub g2 h2 dl' dv => ?_⟩
  exact q v G2 H2 (m.trans (ctx_bag m.cx hg go sub g2 h2 dl')) dv
theorem do_callG (hG : ∀ i, (F.X i).A.guards = some []) {R : List D → List D → Prop} {gs : List D} (c : CalG F.P F.w F.C F.mg F.base k nm (spO F.C R)) (ha : DA F (e :: es) S S1 ds) (hR : R ds gs) (hk : k ≤ F.k := by exact Nat.le_of_ble_eq_true rfl)
    (hg : ∀ i, Gl (F.X i) nm := by intro _; rfl) (hdb : (nm == ("__debug__" : Str)) = false := by decide)
    (he : ∀ i, starEach (e :: es) (F.X i).env = (false, eval e (F.X i).env) :: starEach es (F.X i).env := by intro _; rfl) (hpl : ∀ i, (backTo pos (starEach es (F.X i).env)).any (·.1) = false := by intro _; rfl) : DO F (.Call (.Name nm p) (e :: es) [] pos) S S1 gs := by
  obtain ⟨f, fd, ps, G, hm, hkp, hb⟩ := c
  refine do_of (te := tCall (spO F.C R) [] E0 (anyA F (e :: es))) (fun i => pe_callG (hG i) (fn_atG G) ((F.room i).mono hk) (hg i) (by rw [F.hmg i]; exact hm) (by rw [F.hK i]; exact hkp) (by rw [F.hK i]; exact hb) .nil trivial (anyA_ok i) hdb (he i) (hpl i)) ?_
  intro σ G H cx Q q
  refine ha σ G H cx _ fun vs G1 H1 m dl => ?_
  refine ⟨G1, ds, gs, hR, m.cx.sub, by rw [List.append_nil]; exact dl, fun p ev G2 H2 pu hp g2 h2 de => ?_⟩
  have hp0 : H p = none := by
    cases r : H p with
    | none => rfl
    | some o => exact absurd hp (m.go.dom p (by rw [r]; simp))
  exact q p ev G2 H2 (m.pu pu) hp0 g2 h2 de
theorem de_callNewG (hG : ∀ i, (F.X i).A.guards = some []) {R : List D → List D → D → List D → Prop} {gs gs' : List D} (c : CalG F.P F.w F.C F.mg F.base k nm (spB F.C R)) (ha : DO F e S S1 gs) (hR : R [] gs d gs') (hk : k ≤ F.k := by exact Nat.le_of_ble_eq_true rfl)
    (hg : ∀ i, Gl (F.X i) nm := by intro _; rfl) (hdb : (nm == ("__debug__" : Str)) = false := by decide)
    (he : ∀ i, starEach [e] (F.X i).env = (false, eval e (F.X i).env) :: starEach [] (F.X i).env := by intro _; rfl) (hpl : ∀ i, (backTo pos (starEach [] (F.X i).env)).any (·.1) = false := by intro _; rfl) : DE F (.Call (.Name nm p) [e] [] pos) S S1 d := by
  obtain ⟨f, fd, ps, G, hm, hkp, hb⟩ := c
  refine de_of (te := tCall (spB F.C R) [] E0 (tCons (anyE F e) tNil)) (fun i => pe_callG (hG i) (fn_atG G) ((F.room i).mono hk) (hg i) (by rw [F.hmg i]; exact hm) (by rw [F.hK i]; exact hkp) (by rw [F.hK i]; exact hb) .nil trivial (pa_cons (anyE_ok i) pa_nil (he i)) hdb (he i) (hpl i)) ?_
  intro σ G H cx Q q
  refine ha σ G H cx _ fun p vs G1 H1 m hp g1 h1 dl => ?_
  have nOA : ¬ OA F.C σ S1 p := fun z => by
    rcases m.oa p z with ⟨j, es, r1, r2⟩ | ⟨o, r⟩
    · obtain ⟨a, ws, q1, _, q3, _⟩ := cx.ow j es r1
      rw [r2] at q1; cases q1; rw [hp] at q3; cases q3
    · have z := cx.bag
      rw [r] at z
      cases o with
      | lst => obtain ⟨_, _, h3, _⟩ := z; rw [hp] at h3; cases h3
      | ins => obtain ⟨_, _, _, h3, _⟩ := z; rw [hp] at h3; cases h3
  refine ⟨G1, p, [], vs, [], gs, d, gs', rfl, hR, m.cx.sub, g1, h1, dl, .nil, fun v G2 H2 gv' go sub g2 h2 dl' dv => ?_⟩
  refine q v G2 H2 ⟨⟨fun a o n h => ?_, m.go.gg.trans go.gg, fun a n h g => ?_, fun a h => go.dom a (m.go.dom a h)⟩, ?_, m.oa⟩ dv
  · have na : a ≠ p := fun z => by rw [z, hp] at h; cases h
    exact go.keep a o na (m.go.keep a o n h)
  · have na : a ≠ p := fun z => h (by rw [z]; exact hp)
    exact go.fr a na (m.go.dom a h) (m.go.fr a n h g)
  · have c1 := m.cx
    have nb : ∀ o, S1.g ≠ some (p, o) := fun o r => nOA (.inr ⟨o, r⟩)
    refine ⟨sub, c1.len, fun i d h => ?_, fun i es h => ?_, c1.apart, c1.bg, ?_, c1.nob⟩
    · obtain ⟨v, h1, h2⟩ := c1.im i d h
      exact ⟨v, h1, h2.mono go.gg⟩
    · obtain ⟨a, ws, r1, r2, r3, r4⟩ := c1.ow i es h
      have na : a ≠ p := fun z => nOA (.inl ⟨i, es, h, by rw [← z]; exact r1⟩)
      exact ⟨a, ws, r1, go.fr a na (by rw [r3]; simp) r2, go.keep a _ na r3, r4.mono go.gg⟩
    · have z := c1.bag
      cases r : S1.g with
      | none => trivial
      | some bo =>
        obtain ⟨b, o⟩ := bo
        have nq : b ≠ p := fun e => nb o (by rw [r, e])
        rw [r] at z
        cases o with
        | lst es => obtain ⟨h1, ws, h2, h3⟩ := z; exact ⟨go.fr b nq (by rw [h2]; simp) h1, ws, go.keep b _ nq h2, h3.mono go.gg⟩
        | ins cc fs => obtain ⟨h1, dx, ws, h2, h3⟩ := z; exact ⟨go.fr b nq (by rw [h2]; simp) h1, dx, ws, go.keep b _ nq h2, h3.mono go.gg⟩
end
section
variable {P : Program} {w : World} {C : Kc} {mg : Str → Option Value} {base : Heap}
theorem fnPG {x qual : Str} {st : Stmt} {f : Addr} {fd : FuncData} {N ps : List Str} {k : Nat} {R : List D → D → Prop} (F : Fun C.K x qual st f fd) (Sc : FnScope N ps (defScope st)) (len : ∀ ds d, R ds d → ds.length = ps.length)
    (body : ∀ ds d, R ds d → ∀ cdv A outer s H E hr, A.guards = some [] → DS (famD C P w mg base N Sc.nd qual (defScope st) f cdv A outer s H E k hr) (defBody st) ⟨start N ds, none⟩ { rt := fun d' _ => d' = d, nx := fun _ => d = .non }) : FnG P w C.K mg base (k + 1) f fd ps (spP C R) := by
  refine okG F Sc (fun vs H Q E h => ?_) (fun cdv A outer s H vs Q E hr hA h => ?_)
  · obtain ⟨G, ds, d, hR, _, dl, _⟩ := h
    rw [dl.length]; exact len ds d hR
  · obtain ⟨G, ds, d, hR, sub, dl, q⟩ := h
    refine ⟨_, anyS_ok (F := famD C P w mg base N Sc.nd qual (defScope st) f cdv A outer s H E k hr) (), ?_⟩
    have key : ∀ σ2 S2 G2 H2, Mw C (L2.start N vs) ⟨start N ds, none⟩ G H σ2 S2 G2 H2 → Pu G H G2 H2 := fun σ2 S2 G2 H2 m =>
      ⟨fun a o h => m.go.keep a o (oa_start dl a) h, m.go.gg, m.cx.sub, fun a h1 h2 => m.go.fr a (oa_start dl a) h1 h2⟩
    refine body ds d hR cdv A outer s H E hr hA (L2.start N vs) G H (ctx_start sub dl) _ ⟨fun σ2 S2 G2 H2 m e => ?_, fun v d' σ2 S2 G2 H2 m dv e => ?_, fun _ _ _ _ _ e => e.elim, fun _ _ _ _ _ e => e.elim, fun _ _ _ _ _ _ _ _ _ _ _ _ e => e.elim⟩
    · exact q .non G2 H2 (key _ _ _ _ m) (by rw [e]; exact .non)
    · cases e
      exact q v G2 H2 (key _ _ _ _ m) dv
theorem fnOG {x qual : Str} {st : Stmt} {f : Addr} {fd : FuncData} {N ps : List Str} {k : Nat} {R : List D → List D → Prop} (F : Fun C.K x qual st f fd) (Sc : FnScope N ps (defScope st)) (len : ∀ ds es, R ds es → ds.length = ps.length)
    (body : ∀ ds es, R ds es → ∀ cdv A outer s H E hr, A.guards = some [] → DS (famD C P w mg base N Sc.nd qual (defScope st) f cdv A outer s H E k hr) (defBody st) ⟨start N ds, none⟩ { ro := fun es' _ => es' = es }) : FnG P w C.K mg base (k + 1) f fd ps (spO C R) := by
  refine okG F Sc (fun vs H Q E h => ?_) (fun cdv A outer s H vs Q E hr hA h => ?_)
  · obtain ⟨G, ds, es, hR, _, dl, _⟩ := h
    rw [dl.length]; exact len ds es hR
  · obtain ⟨G, ds, es, hR, sub, dl, q⟩ := h
    refine ⟨_, anyS_ok (F := famD C P w mg base N Sc.nd qual (defScope st) f cdv A outer s H E k hr) (), ?_⟩
    refine body ds es hR cdv A outer s H E hr hA (L2.start N vs) G H (ctx_start sub dl) _ ⟨fun _ _ _ _ _ e => e.elim, fun _ _ _ _ _ _ _ _ e => e.elim, fun _ _ _ _ _ e => e.elim, fun _ _ _ _ _ e => e.elim, fun p ev es' σ2 S2 G2 H2 m h1 h2 h3 h4 e => ?_⟩
    cases e
    exact q p ev G2 H2 ⟨fun a o h => m.go.keep a o (oa_start dl a) h, m.go.gg, m.cx.sub, fun a h1 h2 => m.go.fr a (oa_start dl a) h1 h2⟩ h1 h2 h3 h4
theorem fnBG {x qual : Str} {st : Stmt} {f : Addr} {fd : FuncData} {n : Str} {N ps : List Str} {k : Nat} {R : List D → List D → D → List D → Prop} (F : Fun C.K x qual st f fd) (Sc : FnScope (n :: N) ps (defScope st)) (len : ∀ ds gs d gs', R ds gs d gs' → ds.length + 1 = ps.length)
    (body : ∀ ds gs d gs', R ds gs d gs' → ∀ b cdv A outer s H E hr, A.guards = some [] → DS (famD C P w mg base (n :: N) Sc.nd qual (defScope st) f cdv A outer s H E k hr) (defBody st) ⟨startB (n :: N) ds, some (b, .lst gs)⟩
      { rt := fun d' S => d' = d ∧ S.g = some (b, .lst gs'), nx := fun S => d = .non ∧ S.g = some (b, .lst gs') }) : FnG P w C.K mg base (k + 1) f fd ps (spB C R) := by
  refine okG F Sc (fun vs H Q E h => ?_) (fun cdv A outer s H vs Q E hr hA h => ?_)
  · obtain ⟨G, b, ws, gv, ds, gs, d, gs', rfl, hR, _, _, _, _, dl, _⟩ := h
    rw [List.length_cons, dl.length]; exact len ds gs d gs' hR
  · obtain ⟨G, b, ws, gv, ds, gs, d, gs', rfl, hR, sub, gb, hb, dg, dl, q⟩ := h
    refine ⟨_, anyS_ok (F := famD C P w mg base (n :: N) Sc.nd qual (defScope st) f cdv A outer s H E k hr) (), ?_⟩
    have fin : ∀ v σ2 S2 G2 H2, Mw C (L2.start (n :: N) (.ref b :: ws)) ⟨startB (n :: N) ds, some (b, .lst gs)⟩ G H σ2 S2 G2 H2 → S2.g = some (b, .lst gs') → Den C G2 v d → Q v H2 := fun v σ2 S2 G2 H2 m e dv => by
      have z := m.cx.bag
      rw [e] at z
      obtain ⟨z1, gv', z2, z3⟩ := z
      exact q v G2 H2 gv' (m.go.mono fun a => oa_startB dl a) m.cx.sub z1 z2 z3 dv
    refine body ds gs d gs' hR b cdv A outer s H E hr hA _ G H (ctx_startB sub dl ⟨gb, gv, hb, dg⟩) _ ⟨fun σ2 S2 G2 H2 m e => ?_, fun v d' σ2 S2 G2 H2 m dv e => ?_, fun _ _ _ _ _ e => e.elim, fun _ _ _ _ _ e => e.elim, fun _ _ _ _ _ _ _ _ _ _ _ _ e => e.elim⟩
    · exact fin .non _ _ _ _ m e.2 (by rw [e.1]; exact .non)
    · exact fin v _ _ _ _ m e.2 (e.1 ▸ dv)
theorem calG_mk {f : Addr} {fd : FuncData} {k : Nat} {ps : List Str} {x qual : Str} {st : Stmt} {sp : Sp} (ok : FnG P w C.K mg base k f fd ps sp) (F : Fun C.K x qual st f fd) (b : Binds C.K fd ps []) (hm : mg x = some (.ref f)) : CalG P w C mg base k x sp := ⟨f, fd, ps, ok, hm, F.kp, b⟩
theorem law_ofG {f : Addr} {fd : FuncData} {k : Nat} {ps : List Str} {R : List D → D → Prop} (h : FnG P w C.K mg base k f fd ps (spP C R)) (hR : ∀ is : List Int, is.length ≤ 63 → R [.lst (is.map D.int)] (.bl true)) : FnG P w C.K mg base k f fd ps (spLaw C.K) :=
  h.imp fun vs H Q E ⟨a, ns, e, hl, hS, q⟩ => ⟨H, _, _, hR ns hl, fun _ _ h => h, by subst e; exact .cons (.lst hS (denL_ints ns)) .nil, fun v G2 H2 _ d => by cases d; exact q _⟩
end
/-! ### the law's call -/
section
variable {P : Program} {w : World} {K : PySem.W.Frag} {mg mb : Str → Option Value} {s : Shared} {H : Hp} {a : Addr} {vs : List Value} {ns : List Int}
/-- what stands around the law's call, H telling of the script alone -/
theorem env_call (KX : K.In s.heap) (hns : s.heap.Ns mainGlobals mg) (hb : s.heap.Ns builtinsNs mb) (hbb : ∀ x : Str, x ≠ "__name__" → mb x = bootBuiltins x) (hlim : s.heap.NoLimit) (hg : s.gens = #[])
    (ha : s.heap.get? a = some { cls := .type "list", data := .seq vs.toArray }) (hok : HOk P w H s.heap) (hA : ∀ b, H b ≠ none → b = a) (hK : H a ≠ none → K.lookup a = none) :
    K.In (hidT s.heap H) ∧ (hidT s.heap H).Ns mainGlobals mg ∧ Env0 P w K mg (hidT s.heap H) callerA [] s H := by
  have nd : ∀ {b : Addr} {o : Obj} {es : Array DictEntry} {ep : Nat}, s.heap.get? b = some o → o.data = .dict es ep → H b = none := by
    intro b o es ep h1 h2
    by_cases z : H b = none
    · exact z
    · have e := hA b z
      rw [e, ha] at h1
      cases h1
      exact (nomatch (h2 : Data.seq vs.toArray _ = Data.dict es ep))
  have nk : ∀ {b : Addr} {m : Str → Option Value}, s.heap.Ns b m → (hidT s.heap H).Ns b m := by
    rintro b m ⟨o, es, ep, h1, h2, h3⟩
    exact ⟨o, es, ep, hidT_get h1 (nd h1 h2), h2, h3⟩
  have kin : K.In (hidT s.heap H) := by
    intro b o h1
    refine hidT_get (KX b o h1) ?_
    by_cases z : H b = none
    · exact z
    · have e := hA b z
      rw [e] at z h1
      rw [hK z] at h1
      cases h1
  obtain ⟨mc, l1, l2⟩ := hlim
  exact ⟨kin, nk hns, ⟨rfl, ⟨kin, nk hns, ⟨mb, nk hb, hbb⟩, ⟨mc, nk l1, l2⟩⟩, fun _ _ h => of_hidT h, Nat.le_of_eq (hidT_size _ _), trivial, fun _ h => (List.not_mem_nil h).elim, hok, .of_eq hg⟩⟩
/-- the abstract heap that tells of the script -/
def hScript (K : PySem.W.Frag) (a : Addr) (vs : List Value) (ns : List Int) : Hp := fun b => match K.lookup a with
  | some _ => none
  | none => if b = a then some (.frz { cls := .type "list", data := .seq vs.toArray } (.lst (ns.map V.int))) else none
theorem hScript_k {o : Obj} (h : K.lookup a = some o) : hScript K a vs ns = fun _ => none := by
  funext b; unfold hScript; rw [h]
theorem hScript_n (h : K.lookup a = none) (b : Addr) : hScript K a vs ns b = if b = a then some (.frz { cls := .type "list", data := .seq vs.toArray } (.lst (ns.map V.int))) else none := by
  unfold hScript; rw [h]
theorem law_callG {k : Nat} {fa : Addr} {fd : FuncData} {x : Str} (KX : K.In s.heap) (hns : s.heap.Ns mainGlobals mg) (hb : s.heap.Ns builtinsNs mb) (hbb : ∀ x : Str, x ≠ "__name__" → mb x = bootBuiltins x) (hlim : s.heap.NoLimit) (hg : s.gens = #[])
    (ha : s.heap.get? a = some { cls := .type "list", data := .seq vs.toArray }) (hi : IntsAre vs ns) (hl : ns.length ≤ 63) (hr : Room k callerA)
    (F : ∀ base : Heap, K.In base → base.Ns mainGlobals mg → FnG P w K mg base k fa fd [x] (spLaw K)) (hbind : ∀ (s : Shared) (u : Value), BindsTo s fd ⟨[u], []⟩ [(x, u)]) :
    codeAny (model P w) callerA (.call (.ref fa) ⟨[.ref a], []⟩) (fun r s' => r = .ok (.ret (.bool true)) ∧ OldK s.heap s'.heap ∧ s'.os = s.os ∧ AllBare s'.gens) s := by
  have rv := vals_ints hi
  have lz : ns.length ≤ sizeLine := Nat.le_trans hl (by decide)
  have facts : HOk P w (hScript K a vs ns) s.heap ∧ (∀ b, hScript K a vs ns b ≠ none → b = a) ∧ (hScript K a vs ns a ≠ none → K.lookup a = none) ∧ SqL K (hScript K a vs ns) a (ns.map V.int) ∧ (∀ b u, hScript K a vs ns b = some u → ∃ o xs, u = .frz o xs) := by
    cases hk : K.lookup a with
    | some o =>
      have h1 := KX a o hk
      rw [ha] at h1
      cases h1
      rw [hScript_k hk]
      refine ⟨?_, fun b z => absurd rfl z, fun z => absurd rfl z, ?_, fun b u z => ?_⟩
      · intro b u z
        have z1 : (none : Option HO) = some u := z
        cases z1
      · exact Or.inr ⟨_, vs.toArray, _, hk, rfl, rfl, rfl, by rw [List.size_toArray, hi.length]; exact lz, by simpa using rv⟩
      · have z1 : (none : Option HO) = some u := z
        cases z1
    | none =>
      have hn := hScript_n (vs := vs) (ns := ns) hk
      refine ⟨fun b u z => ?_, fun b z => ?_, fun _ => rfl, .inl (.inr ⟨_, by rw [hn a, if_pos rfl]⟩), fun b u z => ?_⟩
      · rw [hn b] at z
        split at z
        · rename_i e
          cases z
          subst e
          exact ⟨ha, by rw [List.length_map]; exact lz, vs, _, rv, ha⟩
        · cases z
      · rw [hn b] at z
        by_cases e : b = a
        · exact e
        · rw [if_neg e] at z; exact absurd rfl z
      · rw [hn b] at z
        split at z
        · cases z; exact ⟨_, _, rfl⟩
        · cases z
  obtain ⟨hok, f1, f2, f3, f4⟩ := facts
  obtain ⟨kin, kns, en⟩ := env_call KX hns hb hbb hlim hg ha hok f1 f2
  refine codeAny_mono ((F _ kin kns).runs callerA hr rfl [] s _ en ⟨[.ref a], []⟩ [.ref a] (hbind s (.ref a)) [.ref a] (fun v _ => v = .bl true) (fun _ _ _ => False) (.cons rfl .nil) ⟨a, ns, rfl, hl, f3, fun _ => rfl⟩) fun z s2 hz => ?_
  cases z with
  | error _ => exact hz.elim
  | ok fl => cases fl with
    | next => exact hz.elim
    | brk => exact hz.elim
    | cont => exact hz.elim
    | ret u =>
      obtain ⟨v, H2, os, bare, un, hok2, ru, e⟩ := hz
      have e' : v = .bl true := e
      subst e'
      obtain rfl : u = Value.bool true := ru
      refine ⟨rfl, OldK.of_keep fun b o hbo => ?_, os, bare⟩
      cases hq : hScript K a vs ns b with
      | none => exact un.keep b o hbo hq (fun z => (List.not_mem_nil z).elim) (fun z => (List.not_mem_nil z).elim)
      | some u0 =>
        obtain ⟨ob, xs, rfl⟩ := f4 b u0 hq
        have h2 := un.frzs b ob _ hq
        have p1 := (hok b _ hq).1
        have p2 := (hok2 b _ h2).1
        rw [hbo] at p1
        cases p1
        exact p2
end
theorem walkG {l : PySem.W.OpenLaw} {q : Program} {loose : List Str} {XP : (Str → Option Value) → Heap → Prop} {YP : World → Heap → Prop} {d : DefRec} {K : Params → PySem.W.Frag} {k : Nat} (x : Str) (hk : k ≤ 100) (hn : l.most = some 63) (hdf : d.params.defaults = [])
    (hY : ∀ (w : World) (h : Heap), YP w h → (K w.params).In h)
    (F : ∀ (w : World) (mg : Str → Option Value) (fa : Addr) (h : Heap), (K w.params).In h → h.Ns mainGlobals mg → mg d.name = some (.ref fa) →
      ∃ fd : FuncData, (∀ (s : Shared) (u : Value), BindsTo s fd ⟨[u], []⟩ [(x, u)]) ∧ ∀ base : Heap, (K w.params).In base → base.Ns mainGlobals mg → FnG l.prog w (K w.params) mg base k fa fd [x] (spLaw (K w.params))) :
    PySem.W.WalkO q loose XP YP l.row.toRowW d [] (fun f vs => PySem.call f vs) := by
  refine Att.attach_call hn hdf fun w s₀ s₁ mg mb fa o pm cd doc a vs ns Z Y ho hd hcd hmg hobj hints hlen hg => ?_
  obtain ⟨fd, h1, h2⟩ := F w mg fa _ (hY w _ Y) Z.T.g hmg
  exact law_callG (hY w _ Y) Z.T.g Z.T.b Z.T.builtins Z.T.nolimit hg hobj hints hlen (Room.mono (k := 100) ⟨rfl, by decide, by decide⟩ hk) h2 h1
end DL
/-! DLH: repr of data; texts in order, sign by sign; in; len by an own __len__; enumerate of a tuple. -/
namespace DL
open PySem PySem.Spec PyProof.Rows L2
/-! ### repr -/
/-- data that repr shows: n: how deep, W: how much -/
structure Rep (n W : Nat) (d : D) : Prop where
  ok : okP d = true
  sh : (toP d).showable = true
  ls : (toP d).leavesShort 100 = true
  nd : (toP d).hasDict = false
  dp : (toP d).depth ≤ n
  wt : (toP d).weight ≤ W
  cl : (toP d).canLay0 = true
structure RepL (n W : Nat) (d : List D) : Prop where
  ok : okPs d = true
  sh : PyData.showableAll (toPs d) = true
  ls : PyData.leavesShortAll 100 (toPs d) = true
  nd : PyData.hasDictAll (toPs d) = false
  dp : PyData.depthAll (toPs d) ≤ n
  wt : PyData.weightAll (toPs d) ≤ W
  cl : PyData.canLayAll0 (toPs d) = true
theorem rep_non : Rep 0 0 .non := ⟨rfl, rfl, rfl, rfl, Nat.le_refl _, Nat.le_refl _, rfl⟩
theorem rep_bl (b : Bool) : Rep 0 0 (.bl b) := ⟨rfl, rfl, rfl, rfl, Nat.le_refl _, Nat.le_refl _, rfl⟩
theorem rep_int {i : Int} (h1 : (PyData.int i).shown.length ≤ 100) (h2 : i.natAbs.log2 < 400) : Rep 0 401 (.int i) :=
  ⟨rfl, decide_eq_true (by omega), decide_eq_true h1, rfl, Nat.le_refl _, by
    show (if i == 0 then 0 else i.natAbs.log2 + 1) ≤ 401
    split <;> omega, rfl⟩
theorem rep_i {i : Int} (h : i.natAbs < 10 ^ 12) : Rep 0 401 (.int i) := by
  refine rep_int (Nat.le_trans (PyData.shown_int_le h) (by decide)) ?_
  by_cases z : i.natAbs = 0
  · rw [z]; decide
  · have : i.natAbs < 2 ^ 400 := Nat.lt_of_lt_of_le h (by decide)
    exact (Nat.log2_lt z).mpr this
theorem rep_str {x : Str} {n : Nat} (h : ∀ c ∈ x.cps.toList, c < 1114112) (hn : x.length ≤ n) : Rep 0 n (.str x) :=
  ⟨rfl, rfl, by
    show (x.cps.toList.all fun c => decide (c < 16 ^ 8)) = true
    rw [List.all_eq_true]
    intro c hc
    have := h c hc
    exact decide_eq_true (by omega), rfl, Nat.le_refl _, hn, by
    show x.cps.all (· < 0x110000) = true
    rw [Array.all_eq_true_iff_forall_mem]
    intro c hc
    exact decide_eq_true (h c (Array.mem_toList_iff.mpr hc))⟩
theorem rep_nil {n : Nat} : RepL n 0 [] := ⟨rfl, rfl, rfl, rfl, Nat.zero_le _, Nat.le_refl _, rfl⟩
theorem rep_cons {n W W' : Nat} {d : D} {ds : List D} (h : Rep n W d) (r : RepL n W' ds) : RepL n (W + 1 + W') (d :: ds) := by
  refine ⟨?_, ?_, ?_, ?_, ?_, ?_, ?_⟩
  · show (okP d && okPs ds) = true; rw [h.ok, r.ok]; rfl
  · show (PyData.showable (toP d) && PyData.showableAll (toPs ds)) = true; rw [h.sh, r.sh]; rfl
  · show (PyData.leavesShort 100 (toP d) && PyData.leavesShortAll 100 (toPs ds)) = true; rw [h.ls, r.ls]; rfl
  · show (PyData.hasDict (toP d) || PyData.hasDictAll (toPs ds)) = false; rw [h.nd, r.nd]; rfl
  · show Nat.max (toP d).depth (PyData.depthAll (toPs ds)) ≤ n; exact Nat.max_le.mpr ⟨h.dp, r.dp⟩
  · show (toP d).weight + 1 + PyData.weightAll (toPs ds) ≤ _; have := h.wt; have := r.wt; omega
  · show (PyData.canLay0 (toP d) && PyData.canLayAll0 (toPs ds)) = true; rw [h.cl, r.cl]; rfl
theorem Rep.mono {n W n' W' : Nat} {d : D} (h : Rep n W d) (h1 : n ≤ n') (h2 : W ≤ W') : Rep n' W' d := ⟨h.ok, h.sh, h.ls, h.nd, Nat.le_trans h.dp h1, Nat.le_trans h.wt h2, h.cl⟩
theorem RepL.mono {n W n' W' : Nat} {d : List D} (h : RepL n W d) (h1 : n ≤ n') (h2 : W ≤ W') : RepL n' W' d := ⟨h.ok, h.sh, h.ls, h.nd, Nat.le_trans h.dp h1, Nat.le_trans h.wt h2, h.cl⟩
theorem rep_all {n W : Nat} : ∀ {ds : List D}, (∀ d ∈ ds, Rep n W d) → RepL n ((W + 1) * ds.length) ds
  | [], _ => rep_nil
  | d :: ds, h => (rep_cons (h d List.mem_cons_self) (rep_all fun x hx => h x (List.mem_cons_of_mem _ hx))).mono (Nat.le_refl _) (by rw [List.length_cons, Nat.mul_succ]; omega)
theorem rep_tup {n W : Nat} {ds : List D} (h : RepL n W ds) : Rep (n + 1) W (.tup ds) := ⟨h.ok, h.sh, h.ls, h.nd, by show PyData.depthAll (toPs ds) + 1 ≤ n + 1; have := h.dp; omega, h.wt, h.cl⟩
theorem rep_lst {n W : Nat} {ds : List D} (h : RepL n W ds) : Rep (n + 1) W (.lst ds) := ⟨h.ok, h.sh, h.ls, h.nd, by show PyData.depthAll (toPs ds) + 1 ≤ n + 1; have := h.dp; omega, h.wt, h.cl⟩
theorem Rep.shaped {n W : Nat} {d : D} (h : Rep n W d) (hn : n ≤ 60 := by decide) : SeqAt.shaped (toP d) = true := by
  have := h.dp
  show ((toP d).canLay0 && decide ((toP d).depth ≤ 64)) = true
  rw [h.cl, decide_eq_true (by omega)]; rfl
def isSeqD : D → Bool
  | .tup _ => true
  | .lst _ => true
  | _ => false
section
variable {F : Fam} {S S1 S2 S3 : ST} {e a b c tg iter : Expr} {d x y z : D} {pos p apos : Pos} {es : List Expr} {ds : List D} {k : Nat} {nm : Str} {P : Po} {rest : List Stmt} {cn : Nat} {fs : List (Str × D)} {R : List D → D → Prop}
/-- repr of a list or tuple of data, where no repr is under way -/
theorem ca_repr {n W : Nat} (hG : ∀ i, (F.X i).A.guards = some []) (h : Rep n W d) (hq : isSeqD d = true) (hn : n ≤ 60 := by decide) (hW : W ≤ 100000 := by decide) : CaD F (.builtin "repr") [d] (.str (toP d).shown) := by
  refine ⟨fun xs H Q => ∃ v, xs = [v] ∧ Dp F.C.K H v (toP d) ∧ Q (.str (toP d).shown) H, fun i => ?_, fun G H us s hu Q q => ?_⟩
  · intro pins s σ H xs us Q I rx hx
    obtain ⟨v, rfl, hd, q⟩ := hx
    cases rx with
    | @cons _ u _ _ r0 r1 =>
      cases r1
      have hd' : Dp (F.X i).K H v (toP d) := by rw [F.hK i]; exact hd
      obtain ⟨as, rd⟩ := Dp.reads I _ _ _ hd' r0
      have hr := (F.room i).units
      have hsz := PyData.shown_le 100 (by decide) (toP d) h.ls
      have hwt := h.wt
      have hdp := h.dp
      have hu : ∃ ad, u = .ref ad := by
        cases d with
        | tup xs =>
          have hd2 : Dp F.C.K H v (.tuple (toPs xs)) := hd
          cases hd2
          cases r0
          exact ⟨_, rfl⟩
        | lst xs =>
          have hd2 : Dp F.C.K H v (.list (toPs xs)) := hd
          cases hd2
          cases r0
          exact ⟨_, rfl⟩
        | _ => cases hq
      obtain ⟨ad, rfl⟩ := hu
      refine repr_of_reads' rd h.sh (fun z => by rw [h.nd] at z; cases z) (hG i) (by omega) (fun _ _ z => z) (fun h' t tk kp => ⟨.str _, H, I.kept kp, ⟨t, rfl⟩, q⟩) ?_
      have e : sizeLine = 16777216 := by decide
      omega
  · cases hu with
    | cons h0 l => cases l; exact ⟨_, rfl, h0.dp s h.ok, q _ _ _ (.refl s) (.str _)⟩

/-! ### texts -/
theorem od_ltS {i j : Str} : OpD F (compareOp .Lt) (.str i) (.str j) (.bl (decide (i.cps.toList < j.cps.toList))) := ⟨_, fun _ => op_lt_str, fun G H u v s hu hv Q q => by
  cases hu; cases hv
  exact ⟨i, j, rfl, rfl, q _ _ _ (.refl s) (.bl _)⟩⟩
theorem od_leS {i j : Str} : OpD F (compareOp .LtE) (.str i) (.str j) (.bl (!decide (j.cps.toList < i.cps.toList))) := ⟨_, fun _ => op_le_str, fun G H u v s hu hv Q q => by
  cases hu; cases hv
  exact ⟨i, j, rfl, rfl, q _ _ _ (.refl s) (.bl _)⟩⟩
def signsD (x : Str) : List D := x.cps.toList.map fun c => D.str ⟨#[c]⟩
theorem itd_str {C : Kc} {G : Hp} {x : Str} : ItD C (Its x) G (signsD x) where
  go := fun i _ _ hi _ _ => by
    unfold signsD at hi
    rw [List.length_map] at hi
    exact hi
  yld := fun i d G H v H' hd s s2 hy => by
    obtain ⟨rfl, c, hc, rfl⟩ := hy
    unfold signsD at hd
    rw [List.getElem?_map, Array.getElem?_toList, hc] at hd
    cases hd
    exact ⟨G, .refl s2, .str _⟩
  stop := fun i _ _ hi _ _ => by
    unfold signsD at hi
    rw [List.length_map] at hi
    exact hi
theorem di_str {t : Str} (h : DE F iter S S1 (.str t)) : DI F tg iter S S1 (signsD t) := di_of (wi := iStr (anyE F iter)) (fun i => pi_str (tg := tg) (anyE_ok (e := iter) i)) fun σ G H c R q => h σ G H c _ fun v G1 H1 m dv => by
  cases dv
  exact ⟨t, rfl, q _ _ _ m itd_str⟩
/-! ### in -/
theorem flat_ints {is : List Int} : (is.map V.int).all flatV = true := by simp [flatV]
theorem in_ints {i : Int} {is : List Int} : inV (.int i) (is.map V.int) = decide (i ∈ is) := by
  unfold inV
  rw [List.any_map]
  have : ∀ x : Int, eqV (.int x) (.int i) = decide (x = i) := fun x => by
    show decide _ = _
    first | rfl | simp
  induction is with
  | nil => simp
  | cons x r ih =>
    rw [List.any_cons, ih]
    show (eqV (.int x) (.int i) || _) = _
    rw [this]
    simp [List.mem_cons, eq_comm]
theorem od_inI {i : Int} {is : List Int} : OpD F (compareOp .In) (.int i) (.tup (is.map D.int)) (.bl (decide (i ∈ is))) := ⟨rIn F.C.K false, fun i => by have := op_in_seq (X := F.X i); rw [F.hK i] at this; exact this, fun G H u v s hu hv Q q => by
  cases hu
  cases hv with
  | @tup a vs _ h1 h2 =>
    have e := denL_int h2
    subst e
    refine ⟨a, _, rfl, .inr (same_t s h1), rfl, flat_ints, ?_⟩
    rw [in_ints]
    exact q _ _ _ (.refl s) (.bl _)⟩
theorem od_ninI {i : Int} {is : List Int} : OpD F (compareOp .NotIn) (.int i) (.tup (is.map D.int)) (.bl (!decide (i ∈ is))) := ⟨rIn F.C.K true, fun i => by have := op_notIn_seq (X := F.X i); rw [F.hK i] at this; exact this, fun G H u v s hu hv Q q => by
  cases hu
  cases hv with
  | @tup a vs _ h1 h2 =>
    have e := denL_int h2
    subst e
    refine ⟨a, _, rfl, .inr (same_t s h1), rfl, flat_ints, ?_⟩
    rw [in_ints]
    exact q _ _ _ (.refl s) (.bl _)⟩
/-! ### len(x) by an own __len__ -/
theorem ca_lenO {i : Int} (mt : Met F.P F.w F.C F.mg F.base k cn "__len__" (spP F.C R)) (hk : k + 1 ≤ F.k) (hR : R [.obj cn fs] (.int i)) (h0 : 0 ≤ i) (h1 : i < 2 ^ 63) : CaD F (.builtin "len") [.obj cn fs] (.int i) := by
  obtain ⟨f, fd, ps, G, hc, hme, hb⟩ := mt
  refine ⟨fun xs H Q => ∃ a dx vs, xs = [.ref a] ∧ H a = some (.ins (F.C.cl cn) dx vs) ∧ spP F.C R [.ref a] H (fun v H' => v = .int i ∧ Q (.int i) H') E0, fun l => ?_, fun G H us s hu Q q => ?_⟩
  · intro pins s σ H xs us Q I rx h
    obtain ⟨a, dx, vs, rfl, ha, hsp⟩ := h
    cases rx with
    | cons r0 r1 =>
      cases r1
      cases r0
      obtain ⟨od, J⟩ := inst_of I ha
      obtain ⟨mm, hFr⟩ := I.fr
      refine PySem.W.len_K hFr I.ok.mod.kin J (by rw [F.hK l]; exact hme.at_) (by rw [F.hK l]; exact hme.fn) ?_
      refine wpAny_mono (run_in1 (vs := [.ref a]) (fn_at G) ((F.room l).mono hk) (by rw [F.hK l]; exact hb) I (.cons rfl .nil) hsp) (fun w s' hw => ?_) fun _ _ e => e
      obtain ⟨w', H', I', rw', rfl, q⟩ := hw
      obtain ⟨tk, rfl⟩ := rw'
      exact ⟨⟨h0, h1⟩, .int i, H', I'.tok _, ⟨_, rfl⟩, q⟩
  · cases hu with
    | cons h0 l0 =>
      have h0' := h0
      cases l0
      cases h0 with
      | obj h1 h2 => exact ⟨_, _, _, rfl, s _ _ h1, G, _, _, hR, s, .cons h0' .nil, fun v G2 H2 p dv => by cases dv; exact ⟨rfl, q _ _ _ p (.int _)⟩⟩
end
end DL
/-! DLI: enumerate of a tuple. -/
namespace DLE
open PySem PySem.Spec PyProof.Rows L2
theorem meets_enum {v : Value} {o : Obj} {H : Heap → Prop} (B : Begins v o H) :
    Meets (Builtin.«enumerate.__new__» ⟨[.type "enumerate", v], []⟩) (fun _ R s => H s.heap ∧
      R (.ok (.ret (.ref (s.heap.push o).objs.size))) { s with heap := (s.heap.push o).push { cls := .type "enumerate", data := .fields #[.none, .bool false, .ref s.heap.objs.size, rawInt 0, .none, .none] } }) :=
  .of_wp fun prog w A R s h => by
    obtain ⟨hp, g, d, tk, os⟩ := s
    obtain ⟨h1, h⟩ := h
    have hsub := sub_enumerate
    have it1 : ∀ {A' : Around} {E : Value → Shared → Prop} {Q : Value → Shared → Prop}, Q (.ref hp.objs.size) ⟨hp.push o, g, d, tk, os⟩ → wpAny (model prog w) A' (pyIter v) Q E ⟨hp, g, d, tk, os⟩ := fun q => B.iter prog w _ _ ⟨hp, g, d, tk, os⟩ _ h1 q
    wp_walk using it1
    refine wpAny_stack_any fun st => wpAny_pure ?_
    split
    · rename_i c _ _ _ _ _
      cases (c == Value.type "enumerate") <;> (wp_walk using it1; exact ⟨_, rfl, h⟩)
    · wp_walk using it1
      exact ⟨_, rfl, h⟩
theorem call_enum {prog : Program} {w : World} {A : Around} {E : Value → Shared → Prop} {s : Shared} {v : Value} {o : Obj} {H : Heap → Prop} {Q : Value → Shared → Prop} (B : Begins v o H) (h1 : H s.heap)
    (h : ∀ h', IsEnum h' (s.heap.objs.size + 1) s.heap.objs.size 0 .none → h'.get? s.heap.objs.size = some o → (∀ b u, s.heap.get? b = some u → h'.get? b = some u) → Q (.ref (s.heap.objs.size + 1)) { s with heap := h' }) :
    wpAny (model prog w) A (call (.type "enumerate") [v]) Q E s := by
  refine callType_new F.called_enumerate (by decide) (F.typeCall_enumerate_1 _) (F.newCall_enumerate_1 _) (fun obj => F.args_object_init_2 obj _) F.entry_enumerate_new (meets_enum B) ⟨h1, ?_⟩
  have hz : (s.heap.push o).objs.size = s.heap.objs.size + 1 := Heap.size_push ..
  have he : IsEnum ((s.heap.push o).push { cls := .type "enumerate", data := .fields #[.none, .bool false, .ref s.heap.objs.size, rawInt 0, .none, .none] }) (s.heap.objs.size + 1) s.heap.objs.size 0 .none := by
    have z := Heap.get?_push_size (s.heap.push o) (o := { cls := .type "enumerate", data := .fields #[.none, .bool false, .ref s.heap.objs.size, rawInt 0, .none, .none] }) rfl
    rw [hz] at z
    exact z
  show _ ∧ _
  rw [hz]
  exact ⟨⟨_, he, rfl⟩, h _ he (Heap.get?_push_of_some _ (Heap.get?_push_size _ B.free)) fun b u z => Heap.get?_push_of_some _ (Heap.get?_push_of_some _ z)⟩
theorem enum_end {prog : Program} {w : World} {A : Around} {E : Value → Shared → Prop} {s : Shared} {e it t : Addr} {i : Nat} {items : Array Value} {old : Value} {Q : Option Value → Shared → Prop} (hh : A.handled = none) (he : IsEnum s.heap e it i old) (hit : s.heap.IsTupleIter it t i) (ht : s.heap.IsTuple t items) (hx : items[i]? = none)
    (hQ : ∀ h', Heap.ExtBut it s.heap h' → Q none { s with heap := h' }) : wpAny (model prog w) A (pyNext (.ref e)) Q E s := by
  have ty : s.TypeIs (.ref e) "enumerate" := ⟨_, he, rfl⟩
  have nx : ∀ Q', (∀ h' x, Heap.ExtBut it s.heap h' → (∃ o, h'.get? x = some o ∧ o.cls = .type "StopIteration") → Q' (.ref x) { s with heap := h' }) → wpAny (model prog w) A.in1 (Builtin.«enumerate.__next__» ⟨[.ref e], []⟩) (fun _ _ => False) Q' s := fun Q' h => by
    show wpAny _ _ (field (.ref e) 2 >>= _) _ _ _
    exact wpAny_bind (wpAny_field he rfl (x := .ref it) rfl (wpAny_bind (wpAny_nextOf_tuple_end hh hit ht hx h)))
  unfold pyNext
  refine wpAny_bind (wpAny_attempt (wpAny_callSpecial?_slot (name := Str.ofString "__next__") ty F.slot_enumerate_next (wpAny_call_entry F.slot_enumerate_next ty F.entry_enumerate_next (wpAny_mono (nx _ fun h' x e1 ⟨o, ho, hc⟩ => ?_) (fun _ _ z => z.elim) fun _ _ z => z) (F.args_enumerate_next_1 _))))
  exact wpAny_bind (wpAny_isInstance (T := "StopIteration") (b := true) ⟨o, ho, hc⟩ isSubtype_stop (wpAny_pure (hQ _ e1)))
/-- the tuple at a, each item in a new pair -/
def IteT (K : PySem.W.Frag) (a : Addr) : It :=
  ⟨fun i H => ∃ (xs : List V) (x : V), SqT K H a xs ∧ xs[i]? = some x, fun i H v H' => ∃ T x, v = .ref T ∧ H T = none ∧ H' = upd H T (.tup [.int (i : Nat), x]) ∧ ∀ ys, SqT K H a ys → ys[i]? = some x, fun i H => ∃ xs : List V, SqT K H a xs ∧ xs.length ≤ i⟩
theorem turnT {P : Program} {w : World} {K : PySem.W.Frag} {elts : List Expr} {kk : Nat} {tpos : Pos} (a e it : Addr) (n1 : e ≠ it) (n2 : a ≠ it) (n3 : a ≠ e) :
    Turn P w K (.Tuple elts kk tpos) (IteT K a) [e, it] e (fun i h => (∃ old, IsEnum h e it ((i : Nat) : Int) old) ∧ h.IsTupleIter it a i) where
  mem := by simp
  obj := fun i h st b hb => by
    obtain ⟨⟨old, he⟩, o, ho, hc, hd⟩ := st
    rcases (show b = e ∨ b = it by simpa using hb) with rfl | rfl
    · exact ⟨_, he, fun v q => nomatch q⟩
    · exact ⟨o, ho, fun v q => by rw [hd] at q; cases q⟩
  keep := fun i h h' st k => ⟨st.1.imp fun old he => k e (by simp) _ he, st.2.at fun o q => k it (by simp) o q⟩
  item := by
    intro X hP hw hK hc i pins s σ H E I hf st hg
    subst hP hw hK
    obtain ⟨⟨old, he⟩, hit⟩ := st
    obtain ⟨xs, x, hq, hx⟩ := hg
    obtain ⟨its, rv, p, hz⟩ := I.tuple hq
    obtain ⟨u, hu, ru⟩ := rv.get hx
    have le : e < s.heap.objs.size := Heap.lt_size he
    have li : it < s.heap.objs.size := by obtain ⟨_, q, _⟩ := hit; exact Heap.lt_size q
    have Dr := Draws.tuple (prog := X.prog) (w := X.w) (A := X.A.in1) (I.ok.hd hc) it a n2 its.toArray
    refine wpAny_pyNext_enum_itemD Dr he ⟨hit, p⟩ (by have := (List.getElem?_eq_some_iff.mp hu).1; simpa using this) n1 (by simp [n1, n3.symm]) fun y h' tk hy ho hst hT hsz hk => ?_
    obtain rfl : y = u := by
      have hy' : its[i]? = some y := by simpa using hy
      rw [hu] at hy'
      exact (Option.some.inj hy').symm
    refine ⟨_, rfl, wpAny_letOwnedTupleGo_enum (s := { s with heap := h', toks := tk + 1 }) ho fun h2 he2 sb => ?_⟩
    have hT2 : h2.get? s.heap.objs.size = some { cls := .type "tuple", data := .seq #[.int i tk, y] } := (sb.2 _ (Nat.ne_of_gt le)).trans hT
    have new : ObjOk X.prog X.w (upd H s.heap.objs.size (.tup [.int (i : Nat), x])) h2 s.heap.objs.size (.tup [.int (i : Nat), x]) := ⟨by show 2 ≤ sizeLine; decide, [.int i tk, y], .cons ⟨_, rfl⟩ (.cons ru .nil), ⟨_, hT2, rfl, _, rfl⟩⟩
    have J := I.turnedNew (ch := [e, it]) (t' := tk + 1) (fun b ob hb q => (sb.2 b (fun z => hb (by simp [z]))).trans (hk b ob (fun z => hb (by simp [z])) (fun z => hb (by simp [z])) q)) hf (Nat.le_refl _) new
    refine ⟨.ref s.heap.objs.size, _, J, rfl, ⟨_, x, rfl, I.hok.fresh (Nat.le_refl _), rfl, fun ys hys => by rw [I.tuple_inj hys hq]; exact hx⟩, ⟨⟨y, ?_⟩, hst.1.at fun o q => (sb.2 it (Ne.symm n1)).trans q⟩, fun b hb => ?_⟩
    · rw [show ((i + 1 : Nat) : Int) = (i : Int) + 1 by omega]
      exact he2
    · have lb : b < s.heap.objs.size := by
        rcases (show b = e ∨ b = it by simpa using hb) with rfl | rfl
        · exact le
        · exact li
      rw [upd_ne (Nat.ne_of_lt lb)]
      exact (hf b hb).1
  done := by
    intro X hP hw hK hc i pins s σ H E I hf st hg
    subst hP hw hK
    obtain ⟨⟨old, he⟩, hit⟩ := st
    obtain ⟨xs, hq, hx⟩ := hg
    obtain ⟨its, rv, p, hz⟩ := I.tuple hq
    obtain ⟨f0, f1, f2, f3, f4, f5⟩ := hf it (by simp)
    have hl := rv.length
    refine enum_end (I.ok.hd hc) he hit p (by simp; omega) fun h' eb => ⟨rfl, I.turned (t' := s.toks) (fun b o hb q => eb b o hb q) f0 f1 f3 f4 f5⟩
  self := fun A i s Q E st h => let ⟨⟨_, he⟩, _⟩ := st; wpAny_pyIter_enum he h
def iEnumT (K : PySem.W.Frag) (ta : TA) : TI := fun σ H R => ta σ H fun vs H1 => ∃ a xs, vs = [.ref a] ∧ SqT K H1 a xs ∧ R (IteT K a) H1
theorem pi_enumT {X : Cx} {e : Expr} {ta : TA} {p pos tpos : Pos} {elts : List Expr} {kk : Nat} (hg : Gl X "enumerate") (hm : X.mg "enumerate" = none) (ha : PA X [e] ta) (hs : starEach [e] X.env = [(false, eval e X.env)]) :
    PI X (.Tuple elts kk tpos) (.Call (.Name "enumerate" p) [e] [] pos) (iEnumT X.K ta) := by
  refine ⟨fun pins s σ H R I h => ?_⟩
  refine Call_ (ld_blt I hg hm boot_enumerate (PyProof.Rows.callWith_type1 (thn (ha.run pos pins s σ H _ I h) fun us s1 ⟨vs, H1, I1, r1, a, xs, ex, hq, q⟩ => ?_) hs rfl))
  subst ex
  cases r1 with
  | cons r rr =>
    cases rr
    cases r
    obtain ⟨its, rv, p', hz⟩ := I1.tuple hq
    have la : a < s1.heap.objs.size := by obtain ⟨_, z, _⟩ := p'; exact Heap.lt_size z
    refine call_enum (begins_tuple a its.toArray) p' fun h' he hi hk => wpAny_pyIter_enum he ?_
    refine ⟨s1.heap.objs.size + 1, [s1.heap.objs.size + 1, s1.heap.objs.size], _, _, H1, rfl, I1.kept (t' := s1.toks) hk, turnT a (s1.heap.objs.size + 1) s1.heap.objs.size (Nat.succ_ne_self _) (Nat.ne_of_lt la) (Nat.ne_of_lt (Nat.lt_succ_of_lt la)), ⟨⟨.none, he⟩, ⟨_, hi, rfl, rfl⟩⟩, fun b hb => ?_, q⟩
    have hle : s1.heap.objs.size ≤ b := by
      rcases (show b = s1.heap.objs.size + 1 ∨ b = s1.heap.objs.size by simpa using hb) with z | z <;> rw [z]
      · exact Nat.le_succ _
      · exact Nat.le_refl _
    exact I1.fpOk hle (I1.hok.fresh hle)
end DLE
namespace DL
open PySem L2
def enumD (ds : List D) : List D := ds.zipIdx.map fun t => D.tup [.int (t.2 : Nat), t.1]
theorem enumD_get {ds : List D} {i : Nat} {d : D} (h : (enumD ds)[i]? = some d) : ∃ x, ds[i]? = some x ∧ d = .tup [.int (i : Nat), x] := by
  unfold enumD at h
  rw [List.getElem?_map, List.getElem?_zipIdx] at h
  cases q : ds[i]? with
  | none => rw [q] at h; cases h
  | some x =>
    rw [q] at h
    refine ⟨x, rfl, ?_⟩
    have := (Option.some.inj h).symm
    simpa using this
theorem enumD_length {ds : List D} : (enumD ds).length = ds.length := by simp [enumD]
section
variable {F : Fam} {S S1 S2 S3 : ST} {e : Expr} {p : Pos} {ds : List D}
theorem itd_enumT {C : Kc} {G0 : Hp} {a : Addr} {vs : List V} (h : SqT C.K G0 a vs) (dl : DenL C G0 vs ds) : ItD C (DLE.IteT C.K a) G0 (enumD ds) where
  go := fun i G H hi s s2 => by
    rw [enumD_length] at hi
    obtain ⟨v, h1, _⟩ := dl.get (List.getElem?_eq_getElem hi)
    exact ⟨vs, v, same_t s2 (same_t s h), h1⟩
  yld := fun i d G H x H' hd s s2 hy => by
    obtain ⟨y, hy1, rfl⟩ := enumD_get hd
    obtain ⟨T, v, rfl, hT, rfl, hv⟩ := hy
    obtain ⟨v', h1, h2⟩ := dl.get hy1
    have e1 := hv vs (same_t s2 (same_t s h))
    rw [h1] at e1
    cases e1
    refine ⟨_, Pu.new s2 hT, .tup (SqT.of upd_same) ?_⟩
    exact .cons (.int _) (.cons ((h2.mono s).mono (Pu.new s2 hT).gg) .nil)
  stop := fun i G H hi s s2 => ⟨vs, same_t s2 (same_t s h), by rw [dl.length, ← enumD_length]; exact hi⟩
theorem di_enumT {elts : List Expr} {kk : Nat} {tpos q1 : Pos} (hm : F.mg "enumerate" = none) (h : DE F e S S1 (.tup ds)) (hg : ∀ l, Gl (F.X l) "enumerate" := by intro _; rfl) (hs : ∀ l, starEach [e] (F.X l).env = [(false, eval e (F.X l).env)] := by intro _; rfl) :
    DI F (.Tuple elts kk tpos) (.Call (.Name "enumerate" p) [e] [] q1) S S1 (enumD ds) :=
  di_of (wi := DLE.iEnumT F.C.K (tCons (anyE F e) tNil)) (fun l => by have := DLE.pi_enumT (X := F.X l) (elts := elts) (kk := kk) (tpos := tpos) (p := p) (pos := q1) (hg l) (by rw [F.hmg l]; exact hm) (pa_cons (anyE_ok (e := e) l) pa_nil (hs l)) (hs l); rw [F.hK l] at this; exact this) fun σ G H c R q => h σ G H c _ fun v G1 H1 m dv => by
    cases dv with
    | @tup a vs _ h1 h2 => exact ⟨a, vs, rfl, same_t m.cx.sub h1, q _ _ _ m (itd_enumT h1 h2)⟩
end
end DL
/-! DLJ: small helps for laws. -/
namespace DL
open PySem L2
section
variable {F : Fam} {x y : D} {ds : List D}
theorem ca_allT : CaD F (.builtin "all") [.lst (ds.map fun _ => D.bl true)] (.bl true) := by
  have h := ca_all (F := F) (bs := ds.map fun _ => true)
  have e1 : (ds.map fun _ => true).map D.bl = ds.map fun _ => D.bl true := by rw [List.map_map]; rfl
  have e2 : (ds.map fun _ => true).all id = true := by rw [List.all_map]; simp
  rw [e1, e2] at h
  exact h
theorem ca_anyF : CaD F (.builtin "any") [.lst (ds.map fun _ => D.bl false)] (.bl false) := by
  have h := ca_any (F := F) (bs := ds.map fun _ => false)
  have e1 : (ds.map fun _ => false).map D.bl = ds.map fun _ => D.bl false := by rw [List.map_map]; rfl
  have e2 : (ds.map fun _ => false).any id = false := by rw [List.any_map]; simp
  rw [e1, e2] at h
  exact h
theorem od_neE (e : x = y) (h1 : okP x = true) (h3 : SeqAt.shaped (toP x) = true) : OpD F (compareOp .NotEq) x y (.bl false) := e ▸ od_neR h1 h3
theorem od_eqE (e : x = y) (h1 : okP x = true) (h3 : SeqAt.shaped (toP x) = true) : OpD F (compareOp .Eq) x y (.bl true) := e ▸ od_eqR h1 h3
theorem od_neT {i j : Str} (e : i = j) : OpD F (compareOp .NotEq) (.str i) (.str j) (.bl false) := by
  have := od_neS (F := F) (i := i) (j := j)
  rw [decide_eq_true e] at this
  exact this
theorem od_eqT {i j : Str} (e : i = j) : OpD F (compareOp .Eq) (.str i) (.str j) (.bl true) := by
  have := od_eqS (F := F) (i := i) (j := j)
  rw [decide_eq_true e] at this
  exact this
end
theorem lt_one {a b : Nat} : decide (([a] : List Nat) < [b]) = decide (a < b) := by
  refine decide_eq_decide.mpr ?_
  rw [List.cons_lt_cons_iff]
  simp
theorem take_one {α : Type} {l : List α} {i : Nat} {x : α} (h : l[i]? = some x) : l.take (i + 1) = l.take i ++ [x] := by
  rw [List.take_succ, h]; rfl
theorem sl_le {n : Nat} (h : n ≤ 100000) : n ≤ sizeLine := Nat.le_trans h (by decide)
theorem bb_isinstance : bootBuiltins "isinstance" = some (.builtin "isinstance") := by decide +kernel
theorem bb_abs : bootBuiltins "abs" = some (.builtin "abs") := by decide +kernel
theorem bb_len : bootBuiltins "len" = some (.builtin "len") := by decide +kernel
theorem bb_max : bootBuiltins "max" = some (.builtin "max") := by decide +kernel
theorem bb_min : bootBuiltins "min" = some (.builtin "min") := by decide +kernel
theorem bb_all : bootBuiltins "all" = some (.builtin "all") := by decide +kernel
theorem bb_any : bootBuiltins "any" = some (.builtin "any") := by decide +kernel
theorem bb_sum : bootBuiltins "sum" = some (.builtin "sum") := by decide +kernel
theorem bb_repr : bootBuiltins "repr" = some (.builtin "repr") := by decide +kernel
theorem bb_int : bootBuiltins "int" = some (.type "int") := by decide +kernel
theorem bb_bool : bootBuiltins "bool" = some (.type "bool") := by decide +kernel
theorem bb_str : bootBuiltins "str" = some (.type "str") := by decide +kernel
theorem bb_tuple : bootBuiltins "tuple" = some (.type "tuple") := by decide +kernel
theorem bb_list : bootBuiltins "list" = some (.type "list") := by decide +kernel
end DL
namespace KW
open PySem L2 DL
def topS (i : Nat) : Stmt := PySem.Challenge.pw_doughfolds_k23_watches_made.main.body.getD i (.Pass ⟨0, 0, 0, 0⟩)
/-! ### data -/
def chS (cs : List Nat) : Str := ⟨cs.toArray⟩
theorem chS_list (cs : List Nat) : (chS cs).cps.toList = cs := by simp [chS]
theorem chS_len (cs : List Nat) : (chS cs).length = cs.length := by simp [chS, Str.length]
def rowD (r : List Int) : D := .tup (r.map D.int)
def mvD (mv : List (List Int)) : D := .tup (mv.map rowD)
abbrev Wt := List Nat × List (List Int) × List Int
structure CsOk (cs : List Nat) : Prop where
  l1 : 1 ≤ cs.length
  l2 : cs.length ≤ 8
  az : ∀ c ∈ cs, 97 ≤ c ∧ c ≤ 122
  so : ∀ i a b, cs[i]? = some a → cs[i + 1]? = some b → a < b
structure MvOk (n : Nat) (mv : List (List Int)) : Prop where
  m1 : 1 ≤ mv.length
  m2 : mv.length ≤ 6
  row : ∀ r ∈ mv, r.length = n
  el : ∀ r ∈ mv, ∀ x ∈ r, 0 ≤ x ∧ x < mv.length
structure GdOk (m : Nat) (gd : List Int) : Prop where
  el : ∀ x ∈ gd, 0 ≤ x ∧ x < m
  so : ∀ i a b, gd[i]? = some a → gd[i + 1]? = some b → a < b
structure WOk (w : Wt) : Prop where
  c : CsOk w.1
  m : MvOk w.1.length w.2.1
  g : GdOk w.2.1.length w.2.2
def wF (w : Wt) : List (Str × D) := [("letters", .str (chS w.1)), ("moves", mvD w.2.1), ("good", rowD w.2.2)]
def wD (w : Wt) : D := .obj 0 (wF w)
def wT (w : Wt) : D := .tup [.str (chS w.1), mvD w.2.1, rowD w.2.2]
theorem wF_letters {w : Wt} : (wF w).lookup ("letters" : Str) = some (.str (chS w.1)) := by
  unfold wF
  rw [List.lookup_cons, show (("letters" : Str) == "letters") = true by decide +kernel]
theorem wF_moves {w : Wt} : (wF w).lookup ("moves" : Str) = some (mvD w.2.1) := by
  unfold wF
  rw [List.lookup_cons, show (("moves" : Str) == "letters") = false by decide +kernel, List.lookup_cons, show (("moves" : Str) == "moves") = true by decide +kernel]
theorem wF_good {w : Wt} : (wF w).lookup ("good" : Str) = some (rowD w.2.2) := by
  unfold wF
  rw [List.lookup_cons, show (("good" : Str) == "letters") = false by decide +kernel, List.lookup_cons, show (("good" : Str) == "moves") = false by decide +kernel, List.lookup_cons, show (("good" : Str) == "good") = true by decide +kernel]
theorem wF_put {a b c : D} : putD "good" c (putD "moves" b (putD "letters" a [])) = [(("letters" : Str), a), (("moves" : Str), b), (("good" : Str), c)] := by
  have e1 : putD "moves" b (putD "letters" a []) = [(("letters" : Str), a), (("moves" : Str), b)] := by
    show (if ("letters" : Str) = "moves" then _ else (("letters" : Str), a) :: putD "moves" b []) = _
    rw [if_neg (by decide +kernel)]; rfl
  rw [e1]
  show (if ("letters" : Str) = "good" then _ else (("letters" : Str), a) :: (if ("moves" : Str) = "good" then _ else (("moves" : Str), b) :: putD "good" c [])) = _
  rw [if_neg (by decide +kernel), if_neg (by decide +kernel)]; rfl
structure TxW (C : Kc) (mg : Str → Option Value) : Prop where
  b_isinstance : mg "isinstance" = none
  b_len : mg "len" = none
  b_all : mg "all" = none
  b_int : mg "int" = none
  b_bool : mg "bool" = none
  b_str : mg "str" = none
  b_tuple : mg "tuple" = none
  b_range : mg "range" = none
  b_enumerate : mg "enumerate" = none
  gW : mg "Watch" = some (.ref (C.cl 0))
  ins : InsF C.K (C.cl 0)
  n_letters : NoAttr C.K (C.cl 0) "letters"
  n_moves : NoAttr C.K (C.cl 0) "moves"
  n_good : NoAttr C.K (C.cl 0) "good"
  gC : ∃ t, mg "MOST_CELLS" = some (.int 8 t)
  gS : ∃ t, mg "MOST_STANDS" = some (.int 6 t)
  kTW : ∀ T, T ∈ ["NoneType", "int", "str", "tuple"] → PySem.W.kitOne C.K (.type T) (.ref (C.cl 0)) = some false
section
variable {P : Program} {w : World} {C : Kc} {mg : Str → Option Value} {base : Heap}
theorem gC {S : ST} {F : Fam} {pos : Pos} (T : TxW F.C F.mg) (hg : ∀ i, Gl (F.X i) "MOST_CELLS" := by intro _; rfl) : DE F (.Name "MOST_CELLS" pos) S S (.int 8) := by
  obtain ⟨t, h⟩ := T.gC
  exact de_glob h (v := .int 8) ⟨t, rfl⟩ (fun _ => .int 8) hg
theorem gSt {S : ST} {F : Fam} {pos : Pos} (T : TxW F.C F.mg) (hg : ∀ i, Gl (F.X i) "MOST_STANDS" := by intro _; rfl) : DE F (.Name "MOST_STANDS" pos) S S (.int 6) := by
  obtain ⟨t, h⟩ := T.gS
  exact de_glob h (v := .int 6) ⟨t, rfl⟩ (fun _ => .int 6) hg
theorem gWa {S : ST} {F : Fam} {pos : Pos} (T : TxW F.C F.mg) (hg : ∀ i, Gl (F.X i) "Watch" := by intro _; rfl) : DE F (.Name "Watch" pos) S S (.cst (.ref (F.C.cl 0))) := de_glob T.gW (v := .ref (F.C.cl 0)) rfl (fun _ => .cst _) hg
theorem nOW (T : TxW C mg) {v : Wt} : ∀ c fs, wD v = .obj c fs → InsF C.K (C.cl c) := by
  intro c fs h
  cases h
  exact T.ins
theorem nCW {v : Wt} : ∀ u, wD v ≠ .cst u := by intro u h; cases h
theorem kWW {v : Wt} : PySem.W.kitOne C.K (tyD C (wD v)) (.ref (C.cl 0)) = some true := by
  show (if (Value.ref (C.cl 0) == Value.ref (C.cl 0)) = true then some true else _) = _
  rw [if_pos (by simp)]
/-! ### is_integer, is_between -/
abbrev s_is_integer : Stmt := topS 1
theorem sc_is_integer : FnScope ["value"] ["value"] (defScope s_is_integer) := ⟨rfl, rfl, rfl, by decide +kernel, rfl, by decide +kernel, by decide +kernel⟩
def RIsI : List D → D → Prop := fun ds d => ∃ i : Int, ds = [.int i] ∧ d = .bl true
theorem ok_is_integer {f : Addr} {fd : FuncData} (Fn : Fun C.K "is_integer" "is_integer" s_is_integer f fd) (T : TxW C mg) : FnOk P w C.K mg base CX0 1 f fd ["value"] (spP C RIsI) := by
  refine fnP Fn sc_is_integer (fun ds d h => by obtain ⟨x, rfl, _⟩ := h; rfl) ?_
  rintro ds d ⟨i, rfl, rfl⟩ cdv A outer s H E hr
  exact ds_ret (de_and (k := true) (l := true) (de_callB T.b_isinstance bb_isinstance (da_cons (de_var (j := 0) rfl) (da_cons (de_bltn T.b_int bb_int (v := .ty "int") rfl) da_nil)) (ca_isi (.ty "int") (fun _ _ h => nomatch h) (fun _ h => nomatch h) (kit_ty (show kitB "int" "int" = some true by decide +kernel)))) (fun _ => (de_one (de_not (de_callB T.b_isinstance bb_isinstance (da_cons (de_var (j := 0) rfl) (da_cons (de_bltn T.b_bool bb_bool (v := .ty "bool") rfl) da_nil)) (ca_isi (x := .int i) (k := false) (.ty "bool") (fun _ _ h => nomatch h) (fun _ h => nomatch h) (kit_ty (show kitB "int" "bool" = some false by decide +kernel)))))))) rfl
abbrev s_is_between : Stmt := topS 2
theorem sc_is_between : FnScope ["value", "least", "most"] ["value", "least", "most"] (defScope s_is_between) := ⟨rfl, rfl, rfl, by decide +kernel, rfl, by decide +kernel, by decide +kernel⟩
def RBtw : List D → D → Prop := fun ds d => ∃ i l m : Int, ds = [.int i, .int l, .int m] ∧ d = .bl (decide (l ≤ i) && decide (i ≤ m))
theorem ok_is_between {f : Addr} {fd : FuncData} (Fn : Fun C.K "is_between" "is_between" s_is_between f fd) (T : TxW C mg) (c_ii : Cal P w C mg base 1 "is_integer" (spP C RIsI)) : FnOk P w C.K mg base CX0 2 f fd ["value", "least", "most"] (spP C RBtw) := by
  refine fnP Fn sc_is_between (fun ds d h => by obtain ⟨_, _, _, rfl, _⟩ := h; rfl) ?_
  rintro ds d ⟨i, l, m, rfl, rfl⟩ cdv A outer s H E hr
  exact ds_ret (de_and (k := true) (l := decide (l ≤ i) && decide (i ≤ m)) (de_call c_ii (da_cons (de_var (j := 0) rfl) da_nil) ⟨i, rfl, rfl⟩) (fun _ => (de_one (de_chain (de_var (j := 1) rfl) (de_var (j := 0) rfl) (fun _ => (de_var (j := 2) rfl)) od_le (fun _ => od_le))))) rfl
/-! ### are_small, is_in_order -/
abbrev s_are_small : Stmt := topS 3
theorem sc_are_small : FnScope ["value", "least", "most", "sign"] ["value", "least", "most"] (defScope s_are_small) := ⟨rfl, rfl, rfl, by decide +kernel, rfl, by decide +kernel, by decide +kernel⟩
def RSmall : List D → D → Prop := fun ds d => ∃ (cs : List Nat) (l m : Int), ds = [.str (chS cs), .int l, .int m] ∧ l ≤ cs.length ∧ (cs.length : Int) ≤ m ∧ cs.length ≤ 300 ∧ (∀ c ∈ cs, 97 ≤ c ∧ c ≤ 122) ∧ d = .bl true
theorem ok_are_small {f : Addr} {fd : FuncData} (Fn : Fun C.K "are_small" "are_small" s_are_small f fd) (T : TxW C mg) : FnOk P w C.K mg base CX0 1 f fd ["value", "least", "most"] (spP C RSmall) := by
  refine fnP Fn sc_are_small (fun ds d h => by obtain ⟨_, _, _, rfl, _⟩ := h; rfl) ?_
  rintro ds d ⟨cs, l, m, rfl, h1, h2, h4, h3, rfl⟩ cdv A outer s H E hr
  have hl := chS_len cs
  refine ds_ifr (k := false) (dt_is (dt_w (dw_or (dt_not (dt_val (de_callB T.b_isinstance bb_isinstance (da_cons (de_var (j := 0) rfl) (da_cons (de_bltn T.b_str bb_str (v := .ty "str") rfl) da_nil)) (ca_isi (.ty "str") (fun _ _ h => nomatch h) (fun _ h => nomatch h) (kit_ty (show kitB "str" "str" = some true by decide +kernel)))))) (fun _ => (dw_or1 (dt_not (dt_chain (de_var (j := 1) rfl) (de_callB T.b_len bb_len (da_cons (de_var (j := 0) rfl) da_nil) (ca_lenS (by rw [chS_len]; exact sl_le (by omega)))) (fun _ => (de_var (j := 2) rfl)) od_le (fun _ => od_le))))))) ?_) (fun h => nomatch h) (fun _ => ?_)
  · rw [hl, decide_eq_true h1, decide_eq_true h2]
    rfl
  refine ds_ret (de_callB T.b_all bb_all (da_cons (de_do (do_lcM (fun _ => .bl true) (di_str (de_var (j := 0) rfl)) [("sign", 3)] (fun _ => blkOk_by (N := ["value", "least", "most", "sign"]) (sc := defScope s_are_small) (own := [("sign", 3)]) (by decide +kernel)) (by unfold signsD; rw [List.length_map, chS_list]; exact sl_le (by omega)) (fun i d hd => ?_))) da_nil) ca_allT) rfl
  unfold signsD at hd
  rw [List.getElem?_map, chS_list] at hd
  cases hq : cs[i]? with
  | none => rw [hq] at hd; cases hd
  | some c =>
    rw [hq] at hd
    cases hd
    obtain ⟨c1, c2⟩ := h3 c (List.mem_of_getElem? hq)
    have e1 : (!decide ((⟨#[c]⟩ : Str).cps.toList < ("a" : Str).cps.toList)) = true := by
      show (!decide ([c] < [97])) = true
      rw [lt_one, decide_eq_false (by omega)]; rfl
    have e2 : (!decide (("z" : Str).cps.toList < (⟨#[c]⟩ : Str).cps.toList)) = true := by
      show (!decide ([122] < [c])) = true
      rw [lt_one, decide_eq_false (by omega)]; rfl
    exact ⟨_, _, _, dg_name (j := 3), by decide, de_is (de_chain de_str (de_var (j := 3) rfl) (fun _ => de_str) od_leS (fun _ => od_leS)) (by rw [e1, e2]; rfl), rfl⟩
abbrev s_is_in_order : Stmt := topS 4
theorem sc_is_in_order : FnScope ["value", "at"] ["value"] (defScope s_is_in_order) := ⟨rfl, rfl, rfl, by decide +kernel, rfl, by decide +kernel, by decide +kernel⟩
def RInOrd : List D → D → Prop := fun ds d => d = .bl true ∧ ((∃ cs : List Nat, ds = [.str (chS cs)] ∧ cs.length ≤ 300 ∧ (∀ i a b, cs[i]? = some a → cs[i + 1]? = some b → a < b)) ∨ ∃ gd : List Int, ds = [rowD gd] ∧ gd.length ≤ 300 ∧ (∀ i a b, gd[i]? = some a → gd[i + 1]? = some b → a < b))
theorem ok_is_in_order {f : Addr} {fd : FuncData} (Fn : Fun C.K "is_in_order" "is_in_order" s_is_in_order f fd) (T : TxW C mg) : FnOk P w C.K mg base CX0 1 f fd ["value"] (spP C RInOrd) := by
  refine fnP Fn sc_is_in_order (fun ds d h => by obtain ⟨_, ⟨_, rfl, _⟩ | ⟨_, rfl, _⟩⟩ := h <;> rfl) ?_
  rintro ds d ⟨rfl, ⟨cs, rfl, hl, so⟩ | ⟨gd, rfl, hl, so⟩⟩ cdv A outer s H E hr
  · have hn := chS_len cs
    refine ds_ret (de_callB T.b_all bb_all (da_cons (de_do (do_lcM (fun _ => .bl true) (di_range2 T.b_range de_int (de_callB T.b_len bb_len (da_cons (de_var (j := 0) rfl) da_nil) (ca_lenS (by rw [chS_len]; exact sl_le (by omega)))) ⟨by decide, by decide, by omega, by omega⟩) [("at", 1)] (fun _ => blkOk_by (N := ["value", "at"]) (sc := defScope s_is_in_order) (own := [("at", 1)]) (by decide +kernel)) (by rw [rangeD_length]; exact sl_le (by omega)) (fun i d hd => ?_))) da_nil) ca_allT) rfl
    obtain ⟨hi, rfl⟩ := rangeD_get hd
    have i0 : i < cs.length := by omega
    have i1 : i + 1 < cs.length := by omega
    have a0 : atI (chS cs).cps.toList (1 + (i : Int) - 1) = some cs[i] := by
      rw [chS_list, show (1 + (i : Int) - 1) = ((i : Nat) : Int) by omega]
      exact atI_nat (List.getElem?_eq_getElem i0)
    have a1 : atI (chS cs).cps.toList (1 + (i : Int)) = some cs[i + 1] := by
      rw [chS_list, show (1 + (i : Int)) = ((i + 1 : Nat) : Int) by omega]
      exact atI_nat (List.getElem?_eq_getElem i1)
    have lt := so i _ _ (List.getElem?_eq_getElem i0) (List.getElem?_eq_getElem i1)
    refine ⟨_, _, _, dg_name (j := 1), by decide, de_is (de_cmp (de_ixS (de_var (j := 0) rfl) (de_op (de_var (j := 1) rfl) de_int od_sub) (by rw [hn]; exact sl_le (by omega)) a0) (de_ixS (de_var (j := 0) rfl) (de_var (j := 1) rfl) (by rw [hn]; exact sl_le (by omega)) a1) od_ltS) ?_, rfl⟩
    show D.bl (decide ([cs[i]] < [cs[i + 1]])) = _
    rw [lt_one, decide_eq_true lt]
  · have hn : (gd.map D.int).length = gd.length := List.length_map ..
    refine ds_ret (de_callB T.b_all bb_all (da_cons (de_do (do_lcM (fun _ => .bl true) (di_range2 T.b_range de_int (de_callB T.b_len bb_len (da_cons (de_var (j := 0) rfl) da_nil) ca_lenT) ⟨by decide, by decide, by omega, by omega⟩) [("at", 1)] (fun _ => blkOk_by (N := ["value", "at"]) (sc := defScope s_is_in_order) (own := [("at", 1)]) (by decide +kernel)) (by rw [rangeD_length]; exact sl_le (by omega)) (fun i d hd => ?_))) da_nil) ca_allT) rfl
    obtain ⟨hi, rfl⟩ := rangeD_get hd
    have i0 : i < gd.length := by omega
    have i1 : i + 1 < gd.length := by omega
    have a0 : itemD (rowD gd) (1 + (i : Int) - 1) = some (.int gd[i]) := by
      show atI _ _ = _
      rw [show (1 + (i : Int) - 1) = ((i : Nat) : Int) by omega]
      exact atI_nat (by rw [List.getElem?_map, List.getElem?_eq_getElem i0]; rfl)
    have a1 : itemD (rowD gd) (1 + (i : Int)) = some (.int gd[i + 1]) := by
      show atI _ _ = _
      rw [show (1 + (i : Int)) = ((i + 1 : Nat) : Int) by omega]
      exact atI_nat (by rw [List.getElem?_map, List.getElem?_eq_getElem i1]; rfl)
    have lt := so i _ _ (List.getElem?_eq_getElem i0) (List.getElem?_eq_getElem i1)
    exact ⟨_, _, _, dg_name (j := 1), by decide, de_is (de_cmp (de_ix (de_var (j := 0) rfl) (de_op (de_var (j := 1) rfl) de_int od_sub) a0) (de_ix (de_var (j := 0) rfl) (de_var (j := 1) rfl) a1) od_lt) (by rw [decide_eq_true lt]), rfl⟩
end
end KW
namespace KW
open PySem L2 DL
/-! ### plain laws -/
theorem pw_so {l : List Int} (h : l.Pairwise (· < ·)) : ∀ i a b, l[i]? = some a → l[i + 1]? = some b → a < b := by
  intro i a b ha hb
  obtain ⟨h1, rfl⟩ := List.getElem?_eq_some_iff.mp ha
  obtain ⟨h2, rfl⟩ := List.getElem?_eq_some_iff.mp hb
  exact List.pairwise_iff_getElem.mp h i (i + 1) h1 h2 (Nat.lt_succ_self _)
/-- those of 0 .. m - 1 that q holds of -/
def pickI (m : Nat) (q : Int → Bool) : List Int := ((List.range m).map fun (n : Nat) => (n : Int)).filter q
theorem pickI_mem {m : Nat} {q : Int → Bool} {x : Int} : x ∈ pickI m q ↔ (0 ≤ x ∧ x < m) ∧ q x = true := by
  unfold pickI
  rw [List.mem_filter, List.mem_map]
  constructor
  · rintro ⟨⟨n, hn, rfl⟩, h⟩
    have := List.mem_range.mp hn
    exact ⟨⟨by omega, by omega⟩, h⟩
  · rintro ⟨⟨h0, h1⟩, h⟩
    exact ⟨⟨x.toNat, List.mem_range.mpr (by omega), by omega⟩, h⟩
theorem pickI_ok {m : Nat} {q : Int → Bool} : GdOk m (pickI m q) := by
  refine ⟨fun x hx => (pickI_mem.mp hx).1, pw_so ?_⟩
  unfold pickI
  refine List.Pairwise.filter _ ?_
  rw [List.pairwise_map]
  exact (List.pairwise_lt_range (n := m)).imp fun h => by omega
theorem pickI_len {m : Nat} {q : Int → Bool} : (pickI m q).length ≤ m := by
  unfold pickI
  exact Nat.le_trans (List.length_filter_le _ _) (by simp)
theorem pickI_congr {m : Nat} {q r : Int → Bool} (h : ∀ x, 0 ≤ x → x < m → q x = r x) : pickI m q = pickI m r := by
  unfold pickI
  refine List.filter_congr fun x hx => ?_
  obtain ⟨n, hn, rfl⟩ := List.mem_map.mp hx
  have := List.mem_range.mp hn
  exact h _ (by omega) (by omega)
def keepD (q : Int → Bool) : D → Bool
  | .int i => q i
  | _ => false
theorem range_keep {m : Nat} {q : Int → Bool} : ((rangeD 0 m).filter (keepD q)).map id = (pickI m q).map D.int := by
  unfold rangeD pickI
  rw [List.map_id, List.filter_map, List.filter_map, List.map_map]
  have e : (keepD q ∘ fun (i : Nat) => D.int (0 + (i : Int))) = (q ∘ fun (n : Nat) => (n : Int)) := by
    funext i
    show q (0 + (i : Int)) = q (i : Int)
    rw [Int.zero_add]
  rw [e]
  refine List.map_congr_left fun i _ => ?_
  show D.int (0 + (i : Int)) = D.int (i : Int)
  rw [Int.zero_add]
theorem so_len {m : Nat} {gd : List Int} (h : GdOk m gd) (hm : m ≤ 6) : gd.length ≤ 6 := by
  have key : ∀ i, i < gd.length → (i : Int) ≤ gd.getD i 0 := by
    intro i
    induction i with
    | zero =>
      intro hi
      rw [List.getD_eq_getElem?_getD, List.getElem?_eq_getElem hi]
      exact (h.el _ (List.getElem_mem hi)).1
    | succ i ih =>
      intro hi
      have h0 := ih (by omega)
      have h1 := h.so i _ _ (List.getElem?_eq_getElem (by omega)) (List.getElem?_eq_getElem hi)
      rw [List.getD_eq_getElem?_getD, List.getElem?_eq_getElem (by omega)] at h0
      rw [List.getD_eq_getElem?_getD, List.getElem?_eq_getElem hi]
      simp only [Option.getD_some] at h0 ⊢
      omega
  rcases Nat.lt_or_ge 6 gd.length with z | z
  · exfalso
    have k := key 6 z
    rw [List.getD_eq_getElem?_getD, List.getElem?_eq_getElem z] at k
    simp only [Option.getD_some] at k
    have := (h.el _ (List.getElem_mem z)).2
    omega
  · exact z
section
variable {P : Program} {w : World} {C : Kc} {mg : Str → Option Value} {base : Heap}
/-! ### check_moves, are_good -/
abbrev s_check_moves : Stmt := topS 15
theorem sc_check_moves : FnScope ["letters", "moves", "index", "line", "stand"] ["letters", "moves"] (defScope s_check_moves) := ⟨rfl, rfl, rfl, by decide +kernel, rfl, by decide +kernel, by decide +kernel⟩
def RChk : List D → D → Prop := fun ds d => ∃ (cs : List Nat) (mv : List (List Int)), ds = [.str (chS cs), mvD mv] ∧ cs.length ≤ 8 ∧ MvOk cs.length mv ∧ d = .non
theorem ok_check_moves {f : Addr} {fd : FuncData} (Fn : Fun C.K "check_moves" "check_moves" s_check_moves f fd) (T : TxW C mg) (c_btw : Cal P w C mg base 2 "is_between" (spP C RBtw)) : FnOk P w C.K mg base CX0 3 f fd ["letters", "moves"] (spP C RChk) := by
  refine fnP Fn sc_check_moves (fun ds d h => by obtain ⟨_, _, rfl, _⟩ := h; rfl) ?_
  rintro ds d ⟨cs, mv, rfl, hc, hm, rfl⟩ cdv A outer s H E hr
  have hl : (mv.map rowD).length = mv.length := List.length_map ..
  have m1 := hm.m1
  have m2 := hm.m2
  refine ds_ifr (k := false) (dt_is (dt_w (dw_or (dt_not (dt_val (de_callB T.b_isinstance bb_isinstance (da_cons (de_var (j := 1) rfl) (da_cons (de_bltn T.b_tuple bb_tuple (v := .ty "tuple") rfl) da_nil)) (ca_isi (x := mvD mv) (.ty "tuple") (fun _ _ h => nomatch h) (fun _ h => nomatch h) (kit_ty (show kitB "tuple" "tuple" = some true by decide +kernel)))))) (fun _ => (dw_or1 (dt_not (dt_chain de_int (de_callB T.b_len bb_len (da_cons (de_var (j := 1) rfl) da_nil) ca_lenT) (fun _ => (gSt T)) od_le (fun _ => od_le))))))) ?_) (fun h => nomatch h) (fun _ => ?_)
  · rw [hl, decide_eq_true (show (1 : Int) ≤ (mv.length : Int) by omega), decide_eq_true (show (mv.length : Int) ≤ 6 by omega)]
    rfl
  refine ds_for (fun i S => ∃ a2 a3, S = ⟨[some (.imm (.str (chS cs))), some (.imm (mvD mv)), a2, a3, none], none⟩) (fun _ => True) (di_enumT T.b_enumerate (de_var (j := 1) rfl)) ⟨none, none, rfl⟩ ?_ (fun _ _ => trivial) (fun S _ => ds_nil rfl)
  rintro i _ d hd ⟨a2, a3, rfl⟩
  obtain ⟨x, hx, rfl⟩ := enumD_get hd
  rw [List.getElem?_map] at hx
  cases hq : mv[i]? with
  | none => rw [hq] at hx; cases hx
  | some r =>
    rw [hq] at hx
    have hx' : x = rowD r := (Option.some.inj hx).symm
    subst hx'
    have hr1 := hm.row r (List.mem_of_getElem? hq)
    have hr2 := hm.el r (List.mem_of_getElem? hq)
    have hrl : (r.map D.int).length = r.length := List.length_map ..
    refine ⟨_, _, dg_tup (dgs_cons (dg_name (j := 2)) (dgs_cons (dg_name (j := 3)) dgs_nil)), ?_⟩
    refine ds_ifr (k := false) (dt_is (dt_w (dw_or (dt_not (dt_val (de_callB T.b_isinstance bb_isinstance (da_cons (de_var (j := 3) rfl) (da_cons (de_bltn T.b_tuple bb_tuple (v := .ty "tuple") rfl) da_nil)) (ca_isi (x := rowD r) (.ty "tuple") (fun _ _ h => nomatch h) (fun _ h => nomatch h) (kit_ty (show kitB "tuple" "tuple" = some true by decide +kernel)))))) (fun _ => (dw_or1 (dt_cmp (de_callB T.b_len bb_len (da_cons (de_var (j := 3) rfl) da_nil) ca_lenT) (de_callB T.b_len bb_len (da_cons (de_var (j := 0) rfl) da_nil) (ca_lenS (by rw [chS_len]; exact sl_le (by omega)))) od_neI))))) ?_) (fun h => nomatch h) (fun _ => ?_)
    · rw [hrl, chS_len, hr1]
      simp
    refine ds_ifr (k := false) (dt_not (k := true) (dt_val (de_callB T.b_all bb_all (da_cons (de_do (do_lcM (fun _ => .bl true) (di_tup (ds := r.map D.int) (de_var (j := 3) rfl)) [("stand", 4)] (fun _ => blkOk_by (N := ["letters", "moves", "index", "line", "stand"]) (sc := defScope s_check_moves) (own := [("stand", 4)]) (by decide +kernel)) (by rw [hrl]; exact sl_le (by omega)) (fun j d hd => ?_))) da_nil) ca_allT))) (fun h => nomatch h) (fun _ => ds_nil ⟨_, _, rfl⟩)
    rw [List.getElem?_map] at hd
    cases hj : r[j]? with
    | none => rw [hj] at hd; cases hd
    | some x =>
      rw [hj] at hd
      have hd' : d = .int x := (Option.some.inj hd).symm
      subst hd'
      obtain ⟨x0, x1⟩ := hr2 x (List.mem_of_getElem? hj)
      refine ⟨_, _, _, dg_name (j := 4), by decide, de_is (de_call c_btw (da_cons (de_var (j := 4) rfl) (da_cons de_int (da_cons (de_op (de_callB T.b_len bb_len (da_cons (de_var (j := 1) rfl) da_nil) ca_lenT) de_int od_sub) da_nil))) ⟨_, _, _, rfl, rfl⟩) ?_, rfl⟩
      rw [hl, decide_eq_true x0, decide_eq_true (show x ≤ (mv.length : Int) - 1 by omega)]
      rfl
abbrev s_are_good : Stmt := topS 16
theorem sc_are_good : FnScope ["many", "good", "stand"] ["many", "good"] (defScope s_are_good) := ⟨rfl, rfl, rfl, by decide +kernel, rfl, by decide +kernel, by decide +kernel⟩
def RGood : List D → D → Prop := fun ds d => ∃ (m : Nat) (gd : List Int), ds = [.int m, rowD gd] ∧ m ≤ 6 ∧ GdOk m gd ∧ d = .bl true
theorem ok_are_good {f : Addr} {fd : FuncData} (Fn : Fun C.K "are_good" "are_good" s_are_good f fd) (T : TxW C mg) (c_btw : Cal P w C mg base 2 "is_between" (spP C RBtw)) (c_ord : Cal P w C mg base 1 "is_in_order" (spP C RInOrd)) : FnOk P w C.K mg base CX0 3 f fd ["many", "good"] (spP C RGood) := by
  refine fnP Fn sc_are_good (fun ds d h => by obtain ⟨_, _, rfl, _⟩ := h; rfl) ?_
  rintro ds d ⟨m, gd, rfl, m6, hg, rfl⟩ cdv A outer s H E hr
  have gl := so_len hg m6
  have hrl : (gd.map D.int).length = gd.length := List.length_map ..
  refine ds_ifr (k := false) (dt_is (dt_w (dw_or (dt_not (dt_val (de_callB T.b_isinstance bb_isinstance (da_cons (de_var (j := 1) rfl) (da_cons (de_bltn T.b_tuple bb_tuple (v := .ty "tuple") rfl) da_nil)) (ca_isi (x := rowD gd) (.ty "tuple") (fun _ _ h => nomatch h) (fun _ h => nomatch h) (kit_ty (show kitB "tuple" "tuple" = some true by decide +kernel)))))) (fun _ => (dw_or1 (dt_not (k := true) (dt_val (de_callB T.b_all bb_all (da_cons (de_do (do_lcM (fun _ => .bl true) (di_tup (ds := gd.map D.int) (de_var (j := 1) rfl)) [("stand", 2)] (fun _ => blkOk_by (N := ["many", "good", "stand"]) (sc := defScope s_are_good) (own := [("stand", 2)]) (by decide +kernel)) (by rw [hrl]; exact sl_le (by omega)) (fun j d hd => ?_))) da_nil) ca_allT))))))) rfl) (fun h => nomatch h) (fun _ => ?_)
  · rw [List.getElem?_map] at hd
    cases hj : gd[j]? with
    | none => rw [hj] at hd; cases hd
    | some x =>
      rw [hj] at hd
      have hd' : d = .int x := (Option.some.inj hd).symm
      subst hd'
      obtain ⟨x0, x1⟩ := hg.el x (List.mem_of_getElem? hj)
      refine ⟨_, _, _, dg_name (j := 2), by decide, de_is (de_call c_btw (da_cons (de_var (j := 2) rfl) (da_cons de_int (da_cons (de_op (de_var (j := 0) rfl) de_int od_sub) da_nil))) ⟨_, _, _, rfl, rfl⟩) ?_, rfl⟩
      rw [decide_eq_true x0, decide_eq_true (show x ≤ (m : Int) - 1 by omega)]
      rfl
  · exact ds_ret (de_call c_ord (da_cons (de_var (j := 1) rfl) da_nil) ⟨rfl, .inr ⟨gd, rfl, by omega, hg.so⟩⟩) rfl
/-! ### Watch -/
abbrev s_Watch_init : Stmt := inClass (topS 17) 0
theorem sc_Watch_init : FnScope ["self", "letters", "moves", "good"] ["self", "letters", "moves", "good"] (defScope s_Watch_init) := ⟨rfl, rfl, rfl, by decide +kernel, rfl, by decide +kernel, by decide +kernel⟩
def RWt : List D → List (Str × D) → Prop := fun ds fs => ∃ v : Wt, ds = [.str (chS v.1), mvD v.2.1, rowD v.2.2] ∧ WOk v ∧ fs = wF v
theorem ok_Watch_init {f : Addr} {fd : FuncData} (Fn : Fun C.K "__init__" "Watch.__init__" s_Watch_init f fd) (T : TxW C mg) (c_sm : Cal P w C mg base 1 "are_small" (spP C RSmall)) (c_ord : Cal P w C mg base 1 "is_in_order" (spP C RInOrd)) (c_chk : Cal P w C mg base 3 "check_moves" (spP C RChk)) (c_good : Cal P w C mg base 3 "are_good" (spP C RGood)) :
    FnOk P w C.K mg base CX0 4 f fd ["self", "letters", "moves", "good"] (spI C 0 RWt) := by
  refine fnI Fn sc_Watch_init (fun ds fs h => by obtain ⟨_, rfl, _⟩ := h; rfl) ?_
  rintro ds fs ⟨v, rfl, hv, rfl⟩ bb cdv A outer s H E hr
  have hl : (v.2.1.map rowD).length = v.2.1.length := List.length_map ..
  have c1 := hv.c.l1
  have c2 := hv.c.l2
  refine ds_ifr (k := false) (dt_w (dw_or (dt_not (k := true) (dt_val (de_call c_sm (da_cons (de_var (j := 1) rfl) (da_cons de_int (da_cons (gC T) da_nil))) ⟨v.1, 1, 8, rfl, by omega, by omega, by omega, hv.c.az, rfl⟩))) (fun _ => (dw_or1 (dt_not (k := true) (dt_val (de_call c_ord (da_cons (de_var (j := 1) rfl) da_nil) ⟨rfl, .inl ⟨v.1, rfl, by omega, hv.c.so⟩⟩))))))) (fun h => nomatch h) (fun _ => ?_)
  refine ds_expr (de_call c_chk (da_cons (de_var (j := 1) rfl) (da_cons (de_var (j := 2) rfl) da_nil)) ⟨v.1, v.2.1, rfl, c2, hv.m, rfl⟩) ?_
  refine ds_ifr (k := false) (dt_not (k := true) (dt_val (de_call c_good (da_cons (de_callB T.b_len bb_len (da_cons (de_var (j := 2) rfl) da_nil) ca_lenT) (da_cons (de_var (j := 3) rfl) da_nil)) ⟨v.2.1.length, v.2.2, by rw [hl], hv.m.m2, hv.g, rfl⟩))) (fun h => nomatch h) (fun _ => ?_)
  refine ds_fld (j := 0) (de_var (j := 1) rfl) rfl rfl T.ins.cl T.n_letters ?_
  refine ds_fld (j := 0) (de_var (j := 2) rfl) rfl rfl T.ins.cl T.n_moves ?_ (by show 1 < 1000; decide)
  refine ds_fld (j := 0) (de_var (j := 3) rfl) rfl rfl T.ins.cl T.n_good ?_ (by rw [show (putD "moves" (mvD v.2.1) (putD "letters" (.str (chS v.1)) [])).length = 2 by show (if ("letters" : Str) = "moves" then _ else (("letters" : Str), _) :: putD "moves" (mvD v.2.1) []).length = 2; rw [if_neg (by decide +kernel)]; rfl]; decide)
  refine ds_nil ?_
  show some (bb, BG.ins 0 _) = some (bb, BG.ins 0 _)
  rw [wF_put]
  rfl
abbrev s_form_of : Stmt := topS 18
theorem sc_form_of : FnScope ["watch"] ["watch"] (defScope s_form_of) := ⟨rfl, rfl, rfl, by decide +kernel, rfl, by decide +kernel, by decide +kernel⟩
def RForm : List D → D → Prop := fun ds d => ∃ v : Wt, ds = [wD v] ∧ d = wT v
theorem ok_form_of {f : Addr} {fd : FuncData} (Fn : Fun C.K "form_of" "form_of" s_form_of f fd) (T : TxW C mg) : FnOk P w C.K mg base CX0 1 f fd ["watch"] (spP C RForm) := by
  refine fnP Fn sc_form_of (fun ds d h => by obtain ⟨_, rfl, _⟩ := h; rfl) ?_
  rintro ds d ⟨v, rfl, rfl⟩ cdv A outer s H E hr
  exact ds_ret (de_tup (da_cons (de_fld (de_var (j := 0) rfl) T.ins.cl T.n_letters wF_letters) (da_cons (de_fld (de_var (j := 0) rfl) T.ins.cl T.n_moves wF_moves) (da_cons (de_fld (de_var (j := 0) rfl) T.ins.cl T.n_good wF_good) da_nil))) (by show 3 ≤ sizeLine; decide)) rfl
abbrev s_Watch_len : Stmt := inClass (topS 17) 3
theorem sc_Watch_len : FnScope ["self"] ["self"] (defScope s_Watch_len) := ⟨rfl, rfl, rfl, by decide +kernel, rfl, by decide +kernel, by decide +kernel⟩
def RLen : List D → D → Prop := fun ds d => ∃ v : Wt, ds = [wD v] ∧ d = .int v.2.1.length
theorem ok_Watch_len {f : Addr} {fd : FuncData} (Fn : Fun C.K "__len__" "Watch.__len__" s_Watch_len f fd) (T : TxW C mg) : FnOk P w C.K mg base CX0 1 f fd ["self"] (spP C RLen) := by
  refine fnP Fn sc_Watch_len (fun ds d h => by obtain ⟨_, rfl, _⟩ := h; rfl) ?_
  rintro ds d ⟨v, rfl, rfl⟩ cdv A outer s H E hr
  refine ds_ret (de_callB T.b_len bb_len (da_cons (de_fld (de_var (j := 0) rfl) T.ins.cl T.n_moves wF_moves) da_nil) ca_lenT) ?_
  show D.int ((v.2.1.map rowD).length : Nat) = D.int (v.2.1.length : Nat)
  rw [List.length_map]
/-! what repr and == want of a watch's parts -/
theorem rep_row {m : Nat} {r : List Int} (hm : m ≤ 1000) (h : ∀ x ∈ r, 0 ≤ x ∧ x < m) : Rep 1 (402 * r.length) (rowD r) := by
  have := rep_tup (rep_all (n := 0) (W := 401) (ds := r.map D.int) fun d hd => by
    obtain ⟨x, hx, rfl⟩ := List.mem_map.mp hd
    obtain ⟨h0, h1⟩ := h x hx
    exact rep_i (by omega))
  rw [List.length_map] at this
  exact this
theorem rep_mv {n : Nat} {mv : List (List Int)} (hn : n ≤ 8) (h : MvOk n mv) : Rep 2 19302 (mvD mv) := by
  have h2 := h.m2
  have := rep_tup (rep_all (n := 1) (W := 3216) (ds := mv.map rowD) fun d hd => by
    obtain ⟨r, hr, rfl⟩ := List.mem_map.mp hd
    have e := h.row r hr
    exact (rep_row (m := mv.length) (by omega) (h.el r hr)).mono (Nat.le_refl _) (by rw [e]; omega))
  rw [List.length_map] at this
  exact this.mono (Nat.le_refl _) (by omega)
theorem rep_gd {m : Nat} {gd : List Int} (hm : m ≤ 6) (h : GdOk m gd) : Rep 1 2412 (rowD gd) := by
  have gl := so_len h hm
  exact (rep_row (m := m) (by omega) h.el).mono (Nat.le_refl _) (by omega)
theorem rep_cs {cs : List Nat} (h : CsOk cs) : Rep 0 8 (.str (chS cs)) := rep_str (by rw [chS_list]; intro c hc; have := h.az c hc; omega) (by rw [chS_len]; exact h.l2)
theorem rep_w {v : Wt} (h : WOk v) : Rep 3 21800 (wT v) := by
  have a := (rep_cs h.c).mono (n' := 2) (W' := 8) (by decide) (Nat.le_refl _)
  have b := rep_mv h.c.l2 h.m
  have c := (rep_gd h.m.m2 h.g).mono (n' := 2) (W' := 2412) (by decide) (Nat.le_refl _)
  exact (rep_tup (rep_cons a (rep_cons b (rep_cons c rep_nil)))).mono (Nat.le_refl _) (by omega)
abbrev s_Watch_eq : Stmt := inClass (topS 17) 4
theorem sc_Watch_eq : FnScope ["self", "other"] ["self", "other"] (defScope s_Watch_eq) := ⟨rfl, rfl, rfl, by decide +kernel, rfl, by decide +kernel, by decide +kernel⟩
def eqW (v u : Wt) : Bool := PyData.eqv (toP (wT v)) (toP (wT u))
def other : D → Bool
  | .non => true
  | .int _ => true
  | .str _ => true
  | .tup _ => true
  | _ => false
def REqW : List D → D → Prop := fun ds d => ∃ v : Wt, WOk v ∧ ((∃ u, WOk u ∧ ds = [wD v, wD u] ∧ d = .bl (eqW v u)) ∨ ∃ y, other y = true ∧ ds = [wD v, y] ∧ d = .bl false)
theorem ok_Watch_eq {f : Addr} {fd : FuncData} (Fn : Fun C.K "__eq__" "Watch.__eq__" s_Watch_eq f fd) (T : TxW C mg) (c_form : Cal P w C mg base 1 "form_of" (spP C RForm)) : FnOk P w C.K mg base CX0 2 f fd ["self", "other"] (spP C REqW) := by
  refine fnP Fn sc_Watch_eq (fun ds d h => by obtain ⟨_, _, ⟨_, _, rfl, _⟩ | ⟨_, _, rfl, _⟩⟩ := h <;> rfl) ?_
  rintro ds d ⟨v, hv, ⟨u, hu, rfl, rfl⟩ | ⟨y, hy, rfl, rfl⟩⟩ cdv A outer s H E hr
  · exact ds_ret (de_and (k := true) (l := eqW v u) (de_callB T.b_isinstance bb_isinstance (da_cons (de_var (j := 1) rfl) (da_cons (gWa T) da_nil)) (ca_isi (.own _) (nOW T) nCW kWW)) (fun _ => (de_one (de_cmp (de_call c_form (da_cons (de_var (j := 0) rfl) da_nil) ⟨v, rfl, rfl⟩) (de_call c_form (da_cons (de_var (j := 1) rfl) da_nil) ⟨u, rfl, rfl⟩) (od_eqP (rep_w hv).ok (rep_w hu).ok (rep_w hv).shaped (rep_w hu).shaped))))) rfl
  · have hk : PySem.W.kitOne C.K (tyD C y) (.ref (C.cl 0)) = some false ∧ (∀ c fs, y = .obj c fs → InsF C.K (C.cl c)) ∧ ∀ q, y ≠ .cst q := by
      cases y with
      | non => exact ⟨T.kTW _ (by decide), (by intro _ _ h; cases h), (by intro _ h; cases h)⟩
      | int i => exact ⟨T.kTW _ (by decide), (by intro _ _ h; cases h), (by intro _ h; cases h)⟩
      | str x => exact ⟨T.kTW _ (by decide), (by intro _ _ h; cases h), (by intro _ h; cases h)⟩
      | tup xs => exact ⟨T.kTW _ (by decide), (by intro _ _ h; cases h), (by intro _ h; cases h)⟩
      | _ => cases hy
    exact ds_ret (de_and (k := false) (l := false) (de_callB T.b_isinstance bb_isinstance (da_cons (de_var (j := 1) rfl) (da_cons (gWa T) da_nil)) (ca_isi (.own _) hk.2.1 hk.2.2 hk.1)) (fun h => nomatch h)) rfl
abbrev s_Watch_denied : Stmt := inClass (topS 17) 2
theorem sc_Watch_denied : FnScope ["self", "k"] ["self"] (defScope s_Watch_denied) := ⟨rfl, rfl, rfl, by decide +kernel, rfl, by decide +kernel, by decide +kernel⟩
def den (v : Wt) : Wt := (v.1, v.2.1, pickI v.2.1.length fun i => !decide (i ∈ v.2.2))
theorem den_ok {v : Wt} (h : WOk v) : WOk (den v) := ⟨h.c, h.m, pickI_ok⟩
def RDen : List D → D → Prop := fun ds d => ∃ v : Wt, ds = [wD v] ∧ WOk v ∧ d = wD (den v)
theorem ok_Watch_denied {f : Addr} {fd : FuncData} (Fn : Fun C.K "denied" "Watch.denied" s_Watch_denied f fd) (T : TxW C mg) (m_W : Mak P w C mg base 4 "Watch" 0 RWt []) : FnOk P w C.K mg base CX0 6 f fd ["self"] (spP C RDen) := by
  refine fnP Fn sc_Watch_denied (fun ds d h => by obtain ⟨_, rfl, _⟩ := h; rfl) ?_
  rintro ds d ⟨v, rfl, hv, rfl⟩ cdv A outer s H E hr
  have hl : (v.2.1.map rowD).length = v.2.1.length := List.length_map ..
  have m2 := hv.m.m2
  refine ds_ret (de_make (ds := [.str (chS v.1), mvD v.2.1, rowD (pickI v.2.1.length fun i => !decide (i ∈ v.2.2))]) (fs := wF (den v)) m_W (da_cons (de_fld (de_var (j := 0) rfl) T.ins.cl T.n_letters wF_letters) (da_cons (de_fld (de_var (j := 0) rfl) T.ins.cl T.n_moves wF_moves) (da_cons (de_is (de_callTy T.b_tuple bb_tuple (da_cons (de_do (do_lcF (keepD fun i => !decide (i ∈ v.2.2)) id (di_range1 T.b_range (de_callB T.b_len bb_len (da_cons (de_fld (de_var (j := 0) rfl) T.ins.cl T.n_moves wF_moves) da_nil) ca_lenT) (by omega) (by omega)) [("k", 1)] (fun _ => blkOk_by (N := ["self", "k"]) (sc := defScope s_Watch_denied) (own := [("k", 1)]) (by decide +kernel)) (by rw [rangeD_length]; exact sl_le (by omega)) (fun i d hd => ?_))) da_nil) ca_tupL) ?_) da_nil))) ⟨den v, rfl, den_ok hv, rfl⟩) rfl
  · obtain ⟨hi, rfl⟩ := rangeD_get hd
    exact ⟨_, _, _, dg_name (j := 1), by decide, dt_cmp (de_var (j := 1) rfl) (de_fld (de_var (j := 0) rfl) T.ins.cl T.n_good wF_good) od_ninI, rfl, fun _ => ⟨_, de_var (j := 1) rfl, rfl⟩⟩
  · rw [hl, Int.toNat_natCast, range_keep]
    rfl
end
end KW
namespace KW
open PySem L2 DL
/-! ### drawing -/
abbrev Bg := Int × Int × Int
def bagL (g : Bg) : List D := [.int g.1, .int g.2.1, .int g.2.2]
def nseed (g : Bg) : Int := (g.1 * (g.1 % 30011 + 12347) + 39373 * (g.2.2 + 1)) % 2147483563
def draw (g : Bg) (w : Int) : Int × Bg := if 0 < g.2.1 then (g.2.1 % w, (nseed g, g.2.1 / w, g.2.2 + 1)) else (nseed g / 733 % w, (nseed g, g.2.1, g.2.2 + 1))
theorem draw_pos {g : Bg} {w : Int} (h : 0 < g.2.1) : draw g w = (g.2.1 % w, (nseed g, g.2.1 / w, g.2.2 + 1)) := by unfold draw; rw [if_pos h]
theorem draw_neg {g : Bg} {w : Int} (h : ¬ 0 < g.2.1) : draw g w = (nseed g / 733 % w, (nseed g, g.2.1, g.2.2 + 1)) := by unfold draw; rw [if_neg h]
theorem draw_lo {g : Bg} {w : Int} (h : 0 < w) : 0 ≤ (draw g w).1 := by
  by_cases z : 0 < g.2.1
  · rw [draw_pos z]; exact Int.emod_nonneg _ (by omega)
  · rw [draw_neg z]; exact Int.emod_nonneg _ (by omega)
theorem draw_hi {g : Bg} {w : Int} (h : 0 < w) : (draw g w).1 < w := by
  by_cases z : 0 < g.2.1
  · rw [draw_pos z]; exact Int.emod_lt_of_pos _ h
  · rw [draw_neg z]; exact Int.emod_lt_of_pos _ h
structure TxL (C : Kc) (mg : Str → Option Value) : Prop where
  t : TxW C mg
  b_abs : mg "abs" = none
  b_max : mg "max" = none
  b_min : mg "min" = none
  b_any : mg "any" = none
  b_repr : mg "repr" = none
  ne : PySem.W.findIn C.K (.ref (C.cl 0)) "__ne__" = some (some (.builtin "object.__ne__"))
  nfW : PySem.W.notFirst C.K (C.cl 0) (.ref (C.cl 0)) = true
  nfT : ∀ T, T ∈ ["NoneType", "int", "str", "tuple"] → PySem.W.notFirst C.K (C.cl 0) (.type T) = true
section
variable {P : Program} {w : World} {C : Kc} {mg : Str → Option Value} {base : Heap}
abbrev s_law_draw : Stmt := topS 22
theorem sc_law_draw : FnScope ["_law_purse_here", "_law_many", "_law_seed", "_law_digit"] ["_law_purse_here", "_law_many"] (defScope s_law_draw) := ⟨rfl, rfl, rfl, by decide +kernel, rfl, by decide +kernel, by decide +kernel⟩
def RDraw : List D → List D → D → List D → Prop := fun ds gs d gs' => ∃ (g : Bg) (w : Int), ds = [.int w] ∧ gs = bagL g ∧ 0 < w ∧ w < 1073741824 ∧ d = .int (draw g w).1 ∧ gs' = bagL (draw g w).2
theorem ok_law_draw {f : Addr} {fd : FuncData} (Fn : Fun C.K "_law_draw" "_law_draw" s_law_draw f fd) (T : TxL C mg) : FnOk P w C.K mg base CX0 1 f fd ["_law_purse_here", "_law_many"] (spB C RDraw) := by
  refine fnB Fn sc_law_draw (fun ds gs d gs' h => by obtain ⟨g, w, rfl, _⟩ := h; rfl) ?_
  rintro ds gs d gs' ⟨g, wd, rfl, rfl, w0, w1, rfl, rfl⟩ bb cdv A outer s H E hr
  have t0 := Int.emod_nonneg g.1 (show (30011 : Int) ≠ 0 by decide)
  have t1 := Int.emod_lt_of_pos g.1 (show (0 : Int) < 30011 by decide)
  refine ds_bagSet (j := 0) (de_op (de_bagIx (j := 0) rfl de_int rfl rfl rfl) de_int od_add) rfl de_int rfl rfl ?_
  refine ds_set (j := 2) (de_callTy T.t.b_int bb_int (da_cons (de_bagIx (j := 0) rfl de_int rfl rfl rfl) da_nil) ca_int) ?_
  refine ds_bagSet (j := 0) (de_op (de_callTy T.t.b_int bb_int (da_cons (de_op (de_op (de_var (j := 2) rfl) (de_op (de_op (de_callTy T.t.b_int bb_int (da_cons (de_var (j := 2) rfl) da_nil) ca_int) de_int (od_mod (by decide))) de_int od_add) (od_mul (.inr ⟨by omega, by omega⟩))) (de_op de_int (de_bagIx (j := 0) rfl de_int rfl rfl rfl) (od_mul (.inl ⟨by decide, by decide⟩))) od_add) da_nil) ca_int) de_int (od_mod (by decide))) rfl de_int rfl rfl ?_
  refine ds_ifr (dt_cmp (de_bagIx (j := 0) rfl de_int rfl rfl rfl) de_int od_gt) (fun h => ?_) (fun h => ?_)
  · have h' : 0 < g.2.1 := of_decide_eq_true h
    refine ds_set (j := 3) (de_op (de_callTy T.t.b_int bb_int (da_cons (de_bagIx (j := 0) rfl de_int rfl rfl rfl) da_nil) ca_int) (de_var (j := 1) rfl) (od_mod w0)) ?_
    refine ds_bagSet (j := 0) (de_op (de_bagIx (j := 0) rfl de_int rfl rfl rfl) (de_var (j := 1) rfl) (od_fdiv ⟨w0, w1⟩)) rfl de_int rfl rfl ?_
    refine ds_ret (de_var (j := 3) rfl) ?_
    rw [draw_pos h']
    exact ⟨rfl, rfl⟩
  · have h' : ¬ 0 < g.2.1 := of_decide_eq_false h
    refine ds_ret (de_op (de_op (de_callTy T.t.b_int bb_int (da_cons (de_bagIx (j := 0) rfl de_int rfl rfl rfl) da_nil) ca_int) de_int (od_fdiv ⟨by decide, by decide⟩)) (de_var (j := 1) rfl) (od_mod w0)) ?_
    rw [draw_neg h']
    exact ⟨rfl, rfl⟩
/-! ### _law_purse -/
abbrev s_law_purse : Stmt := topS 21
theorem sc_law_purse : FnScope ["_law_script", "_law_k", "_law_held", "_law_seed", "_law_each"] ["_law_script", "_law_k"] (defScope s_law_purse) := ⟨rfl, rfl, rfl, by decide +kernel, rfl, by decide +kernel, by decide +kernel⟩
def heldOf (is : List Int) (k : Int) : Int := if k < is.length then is.getD k.toNat 0 else 7 * k + 2
def seedOf (is : List Int) (k : Int) : Int := (is.take 5).foldl (fun s t => (s * 39373 + t % 2147483399 + 1) % 2147483563) (90001 + k)
def absI (i : Int) : Int := if i < 0 then -i else i
def purse (is : List Int) (k : Int) : Bg := ((seedOf is k * 48271 + heldOf is k % 2147483399) % 2147483563, bif decide (absI (heldOf is k) ≥ 1000000000000000000) then absI (heldOf is k) else 0, 0)
def RPurse : List D → List D → Prop := fun ds gs => ∃ (is : List Int) (k : Int), ds = [.lst (is.map D.int), .int k] ∧ 0 ≤ k ∧ k < 1000 ∧ gs = bagL (purse is k)
theorem cut5 {is : List Int} : cutD (is.map D.int) none (some 5) = (is.take 5).map D.int := by
  unfold cutD
  have e0 : HT.sIx (is.map D.int).length 0 none = 0 := rfl
  have e1 : HT.sIx (is.map D.int).length (is.map D.int).length (some 5) = min 5 (is.map D.int).length := HT.sIx_nat _ _ 5
  rw [e0, e1, List.drop_zero, Nat.sub_zero, List.map_take]
  rw [← List.take_take, List.take_length]
theorem ok_law_purse {f : Addr} {fd : FuncData} (Fn : Fun C.K "_law_purse" "_law_purse" s_law_purse f fd) (T : TxL C mg) : FnOk P w C.K mg base CX0 1 f fd ["_law_script", "_law_k"] (spO C RPurse) := by
  refine fnO Fn sc_law_purse (fun ds es h => by obtain ⟨is, k, rfl, _⟩ := h; rfl) ?_
  rintro ds es ⟨is, k, rfl, k0, k1, rfl⟩ cdv A outer s H E hr
  have el : ((is.map D.int).length : Int) = is.length := by rw [List.length_map]
  refine ds_par (i := 2) (j := 3) (de_op (de_op de_int (de_var (j := 1) rfl) (od_mul (.inl ⟨by decide, by decide⟩))) de_int od_add) (de_op de_int (de_var (j := 1) rfl) od_add) ?_
  refine ds_if (fun S => S = ⟨[some (.imm (.lst (is.map D.int))), some (.imm (.int k)), some (.imm (.int (heldOf is k))), some (.imm (.int (90001 + k))), none], none⟩) (dt_cmp (de_var (j := 1) rfl) (de_callB T.t.b_len bb_len (da_cons (de_var (j := 0) rfl) da_nil) ca_lenL) od_lt) (fun h => ?_) (fun h => ?_) ?_
  · have h' : k < is.length := by rw [← el]; exact of_decide_eq_true h
    have e : itemD (.lst (is.map D.int)) k = some (.int (heldOf is k)) := by
      show atI _ _ = _
      unfold heldOf
      rw [if_pos h']
      have e : k = ((k.toNat : Nat) : Int) := by omega
      conv => lhs; rw [e]
      refine atI_nat ?_
      have hl : k.toNat < is.length := by omega
      rw [List.getElem?_map, List.getElem?_eq_getElem hl, List.getD_eq_getElem?_getD, List.getElem?_eq_getElem hl]
      rfl
    exact ds_set (j := 2) (de_callTy T.t.b_int bb_int (da_cons (de_ix (de_var (j := 0) rfl) (de_var (j := 1) rfl) e) da_nil) ca_int) (ds_nil rfl)
  · have h' : ¬ k < is.length := by rw [← el]; exact of_decide_eq_false h
    refine ds_nil ?_
    unfold heldOf
    rw [if_neg h']
    rfl
  rintro _ rfl
  refine ds_for (fun i S => ∃ t, S = ⟨[some (.imm (.lst (is.map D.int))), some (.imm (.int k)), some (.imm (.int (heldOf is k))), some (.imm (.int (((is.take 5).take i).foldl (fun s t => (s * 39373 + t % 2147483399 + 1) % 2147483563) (90001 + k)))), t], none⟩)
    (fun S => ∃ t, S = ⟨[some (.imm (.lst (is.map D.int))), some (.imm (.int k)), some (.imm (.int (heldOf is k))), some (.imm (.int (seedOf is k))), t], none⟩)
    (di_list (de_sliceL (de_var (j := 0) rfl) do_none (do_some de_int))) ⟨none, rfl⟩ ?_ ?_ ?_
  · rintro i _ d hd ⟨t, rfl⟩
    rw [cut5, List.getElem?_map] at hd
    cases q : (is.take 5)[i]? with
    | none => rw [q] at hd; cases hd
    | some x =>
      rw [q] at hd
      cases hd
      refine ⟨_, _, dg_name (j := 4), ds_set (j := 3) (de_op (de_callTy T.t.b_int bb_int (da_cons (de_op (de_op (de_op (de_var (j := 3) rfl) de_int (od_mul (.inr ⟨by decide, by decide⟩))) (de_op (de_callTy T.t.b_int bb_int (da_cons (de_var (j := 4) rfl) da_nil) ca_int) de_int (od_mod (by decide))) od_add) de_int od_add) da_nil) ca_int) de_int (od_mod (by decide))) (ds_nil ⟨some (.imm (.int x)), ?_⟩)⟩
      rw [take_one q]
      show _ = ST.mk [_, _, _, some (.imm (.int (List.foldl _ _ (_ ++ [x])))), _] none
      rw [List.foldl_append]
      rfl
  · rintro _ ⟨t, rfl⟩
    refine ⟨t, ?_⟩
    rw [cut5, List.length_map, List.take_length]
    rfl
  · rintro _ ⟨t, rfl⟩
    refine ds_set (j := 3) (de_op (de_callTy T.t.b_int bb_int (da_cons (de_op (de_op (de_var (j := 3) rfl) de_int (od_mul (.inr ⟨by decide, by decide⟩))) (de_op (de_callTy T.t.b_int bb_int (da_cons (de_var (j := 2) rfl) da_nil) ca_int) de_int (od_mod (by decide))) od_add) da_nil) ca_int) de_int (od_mod (by decide))) ?_
    exact ds_retO (do_lst (da_cons (de_var (j := 3) rfl) (da_cons (de_iteI (dt_cmp (de_callB T.b_abs bb_abs (da_cons (de_var (j := 2) rfl) da_nil) ca_abs) (de_op de_int de_int od_pow18) od_ge) (fun _ => (de_callB T.b_abs bb_abs (da_cons (de_var (j := 2) rfl) da_nil) ca_abs)) (fun _ => de_int)) (da_cons de_int da_nil))) (by show 3 ≤ sizeLine; decide)) rfl
/-! ### _law_signs -/
def alpha : List Nat := (List.range 26).map (97 + ·)
theorem alpha_get {n : Nat} (h : n < 26) : alpha[n]? = some (97 + n) := by
  unfold alpha
  rw [List.getElem?_map, List.getElem?_range h]; rfl
/-- behind i of n: what is gone of the alphabet, the signs, the bag -/
def sg (n : Nat) (g : Bg) : Nat → Nat × List Nat × Bg
  | 0 => (0, [], g)
  | i + 1 =>
    let r := sg n g i
    let a := draw r.2.2 ((26 - r.1 : Nat) - (n : Int) + (i : Int) + 1)
    (r.1 + a.1.toNat + 1, r.2.1 ++ [97 + r.1 + a.1.toNat], a.2)
structure SgOk (n i : Nat) (r : Nat × List Nat × Bg) : Prop where
  s : r.1 ≤ 26 - n + i
  l : r.2.1.length = i
  az : ∀ c ∈ r.2.1, 97 ≤ c ∧ c < 97 + r.1
  so : ∀ j a b, r.2.1[j]? = some a → r.2.1[j + 1]? = some b → a < b
theorem sg_at {n i : Nat} {r : Nat × List Nat × Bg} (h : SgOk n i r) (hn : n ≤ 8) (hi : i < n) : 0 < ((26 - r.1 : Nat) : Int) - (n : Int) + (i : Int) + 1 ∧ ((26 - r.1 : Nat) : Int) - (n : Int) + (i : Int) + 1 < 100 ∧ r.1 + (draw r.2.2 ((26 - r.1 : Nat) - (n : Int) + (i : Int) + 1)).1.toNat < 26 - n + i + 1 ∧ 0 ≤ (draw r.2.2 ((26 - r.1 : Nat) - (n : Int) + (i : Int) + 1)).1 := by
  have h1 := h.s
  have w0 : 0 < ((26 - r.1 : Nat) : Int) - (n : Int) + (i : Int) + 1 := by omega
  have a := draw_lo (g := r.2.2) w0
  have b := draw_hi (g := r.2.2) w0
  refine ⟨w0, by omega, by omega, a⟩
theorem sg_ok {n : Nat} (g : Bg) (hn : n ≤ 8) : ∀ i, i ≤ n → SgOk n i (sg n g i)
  | 0, _ => ⟨by show 0 ≤ _; omega, rfl, fun c hc => (nomatch hc), fun j a b hj => by cases hj⟩
  | i + 1, hi => by
    have ih := sg_ok g hn i (by omega)
    obtain ⟨_, _, a2, a3⟩ := sg_at ih hn (by omega)
    show SgOk n (i + 1) ((sg n g i).1 + _ + 1, (sg n g i).2.1 ++ [_], _)
    generalize sg n g i = r at ih a2 a3 ⊢
    generalize (draw r.2.2 ((26 - r.1 : Nat) - (n : Int) + (i : Int) + 1)).1.toNat = t at a2 ⊢
    refine ⟨by show r.1 + t + 1 ≤ _; omega, by show (r.2.1 ++ [_]).length = _; rw [List.length_append, ih.l]; rfl, fun c hc => ?_, fun j a b ha hb => ?_⟩
    · show 97 ≤ c ∧ c < 97 + (r.1 + t + 1)
      have hc' : c ∈ r.2.1 ++ [97 + r.1 + t] := hc
      rcases List.mem_append.mp hc' with z | z
      · have := ih.az c z; omega
      · rw [List.mem_singleton.mp z]; omega
    · have ha' : (r.2.1 ++ [97 + r.1 + t])[j]? = some a := ha
      have hb' : (r.2.1 ++ [97 + r.1 + t])[j + 1]? = some b := hb
      rcases Nat.lt_or_ge (j + 1) r.2.1.length with z | z
      · rw [List.getElem?_append_left (by omega)] at ha'
        rw [List.getElem?_append_left z] at hb'
        exact ih.so j a b ha' hb'
      · have jl : j + 1 < (r.2.1 ++ [97 + r.1 + t]).length := (List.getElem?_eq_some_iff.mp hb').1
        rw [List.length_append] at jl
        have jl' : j + 1 < r.2.1.length + 1 := jl
        have e : j + 1 = r.2.1.length := by omega
        rw [List.getElem?_append_right z, e, Nat.sub_self] at hb'
        cases hb'
        rw [List.getElem?_append_left (by omega)] at ha'
        have := ih.az a (List.mem_of_getElem? ha')
        omega
def sgC (n : Nat) (g : Bg) : List Nat := (sg n g n).2.1
def sgG (n : Nat) (g : Bg) : Bg := (sg n g n).2.2
theorem sgC_ok {n : Nat} (g : Bg) (h1 : 1 ≤ n) (hn : n ≤ 8) : CsOk (sgC n g) ∧ (sgC n g).length = n := by
  have h := sg_ok g hn n (Nat.le_refl _)
  have hl : (sgC n g).length = n := h.l
  have hs := h.s
  exact ⟨⟨by omega, by omega, fun c hc => by have := h.az c hc; omega, h.so⟩, hl⟩
abbrev s_law_signs : Stmt := topS 23
theorem sc_law_signs : FnScope ["_law_purse_here", "_law_many", "_law_left", "_law_found", "_law_turn", "_law_at"] ["_law_purse_here", "_law_many"] (defScope s_law_signs) := ⟨rfl, rfl, rfl, by decide +kernel, rfl, by decide +kernel, by decide +kernel⟩
def RSigns : List D → List D → D → List D → Prop := fun ds gs d gs' => ∃ (g : Bg) (n : Nat), ds = [.int n] ∧ gs = bagL g ∧ 1 ≤ n ∧ n ≤ 8 ∧ d = .str (chS (sgC n g)) ∧ gs' = bagL (sgG n g)
theorem chS_app (a : List Nat) (c : Nat) : chS a ++ (⟨#[c]⟩ : Str) = chS (a ++ [c]) := by
  show Str.mk (a.toArray ++ #[c]) = Str.mk (a ++ [c]).toArray
  simp
theorem ok_law_signs {f : Addr} {fd : FuncData} (Fn : Fun C.K "_law_signs" "_law_signs" s_law_signs f fd) (T : TxL C mg) (c_draw : Cal P w C mg base 1 "_law_draw" (spB C RDraw)) : FnOk P w C.K mg base CX0 2 f fd ["_law_purse_here", "_law_many"] (spB C RSigns) := by
  refine fnB Fn sc_law_signs (fun ds gs d gs' h => by obtain ⟨g, n, rfl, _⟩ := h; rfl) ?_
  rintro ds gs d gs' ⟨g, n, rfl, rfl, n1, n8, rfl, rfl⟩ bb cdv A outer s H E hr
  refine ds_asg (de_tup (ds := [.str (chS (alpha.drop 0)), .str (chS [])]) (da_cons (de_is de_str (show _ = D.str (chS (alpha.drop 0)) by rw [show (chS (alpha.drop 0)) = ("abcdefghijklmnopqrstuvwxyz" : Str) by decide +kernel])) (da_cons (de_is de_str (show _ = D.str (chS []) by rw [show (chS []) = ("" : Str) by decide +kernel])) da_nil)) (by show 2 ≤ sizeLine; decide)) (dg_tup (dgs_cons (dg_name (j := 2)) (dgs_cons (dg_name (j := 3)) dgs_nil))) ?_
  refine ds_for (fun i S => ∃ t4 t5, S = ⟨[some .bag, some (.imm (.int n)), some (.imm (.str (chS (alpha.drop (sg n g i).1)))), some (.imm (.str (chS (sg n g i).2.1))), t4, t5], some (bb, .lst (bagL (sg n g i).2.2))⟩)
    (fun S => ∃ t4 t5, S = ⟨[some .bag, some (.imm (.int n)), some (.imm (.str (chS (alpha.drop (sg n g n).1)))), some (.imm (.str (chS (sg n g n).2.1))), t4, t5], some (bb, .lst (bagL (sg n g n).2.2))⟩)
    (di_range1 T.t.b_range (de_var (j := 1) rfl) (by omega) (by omega)) ⟨none, none, rfl⟩ ?_ ?_ ?_
  · rintro i _ d hd ⟨t4, t5, rfl⟩
    obtain ⟨hi, rfl⟩ := rangeD_get hd
    have hi' : i < n := by omega
    have ih := sg_ok g n8 i (by omega)
    obtain ⟨w0, w1, a2, a3⟩ := sg_at ih n8 hi'
    have e1 : sg n g (i + 1) = ((sg n g i).1 + (draw (sg n g i).2.2 ((26 - (sg n g i).1 : Nat) - (n : Int) + (i : Int) + 1)).1.toNat + 1, (sg n g i).2.1 ++ [97 + (sg n g i).1 + (draw (sg n g i).2.2 ((26 - (sg n g i).1 : Nat) - (n : Int) + (i : Int) + 1)).1.toNat], (draw (sg n g i).2.2 ((26 - (sg n g i).1 : Nat) - (n : Int) + (i : Int) + 1)).2) := rfl
    rw [e1]
    generalize sg n g i = r at ih w0 w1 a2 a3 ⊢
    have la : (alpha.drop r.1).length = 26 - r.1 := by rw [List.length_drop]; rfl
    have hl := ih.l
    generalize hD : draw r.2.2 ((26 - r.1 : Nat) - (n : Int) + (i : Int) + 1) = D0 at a2 a3 ⊢
    have ti : D0.1 = ((D0.1.toNat : Nat) : Int) := by omega
    refine ⟨_, _, dg_name (j := 4), ?_⟩
    refine ds_set (j := 5) (de_callBag (j := 0) (d := .int D0.1) (gs' := bagL D0.2) c_draw rfl rfl (da_cons (de_op (de_op (de_op (de_callB T.t.b_len bb_len (da_cons (de_var (j := 2) rfl) da_nil) (ca_lenS (by rw [chS_len, la]; exact sl_le (by omega)))) (de_var (j := 1) rfl) od_sub) (de_var (j := 4) rfl) od_add) de_int od_add) da_nil) rfl ⟨r.2.2, (26 - r.1 : Nat) - (n : Int) + (i : Int) + 1, by rw [chS_len, la, Int.zero_add], rfl, w0, by omega, by rw [hD], by rw [hD]⟩) ?_
    have at0 : atI (chS (alpha.drop r.1)).cps.toList D0.1 = some (97 + r.1 + D0.1.toNat) := by
      rw [chS_list]
      conv => lhs; rw [ti]
      refine atI_nat ?_
      rw [List.getElem?_drop, alpha_get (by omega)]
      congr 1
      omega
    have cut : cutS (chS (alpha.drop r.1)) (some (D0.1 + 1)) none = chS (alpha.drop (r.1 + D0.1.toNat + 1)) := by
      unfold cutS
      have e2 : HT.sIx (chS (alpha.drop r.1)).length 0 (some (D0.1 + 1)) = D0.1.toNat + 1 := by
        rw [show D0.1 + 1 = ((D0.1.toNat + 1 : Nat) : Int) by omega, HT.sIx_nat, chS_len, la]
        omega
      have e3 : HT.sIx (chS (alpha.drop r.1)).length (chS (alpha.drop r.1)).length none = 26 - r.1 := by
        rw [HT.sIx_none, chS_len, la]
      rw [e2, e3, chS_list, List.drop_drop]
      show Str.mk _ = Str.mk _
      rw [List.take_of_length_le (by rw [List.length_drop]; show 26 - (r.1 + (D0.1.toNat + 1)) ≤ _; omega)]
      rw [Nat.add_assoc]
    refine ds_par (i := 3) (j := 2) (de_op (de_var (j := 3) rfl) (de_ixS (de_var (j := 2) rfl) (de_var (j := 5) rfl) (by rw [chS_len, la]; exact sl_le (by omega)) at0) (od_addS (by rw [chS_len, hl]; exact sl_le (by show i + 1 ≤ 100000; omega)))) (de_is (de_sliceS (de_var (j := 2) rfl) (do_some (de_op (de_var (j := 5) rfl) de_int od_add)) do_none (by rw [chS_len, la]; exact sl_le (by omega))) (by rw [cut])) ?_
    rw [chS_app]
    exact ds_nil ⟨_, _, rfl⟩
  · rintro _ h
    rw [rangeD_length, Int.toNat_natCast] at h
    exact h
  · rintro _ ⟨t4, t5, rfl⟩
    exact ds_ret (de_var (j := 3) rfl) ⟨rfl, rfl⟩
end
end KW
namespace KW
open PySem L2 DL
def rowF (m : Int) (g : Bg) : Nat → List Int × Bg
  | 0 => ([], g)
  | j + 1 => ((rowF m g j).1 ++ [(draw (rowF m g j).2 m).1], (draw (rowF m g j).2 m).2)
theorem rowF_ok {m : Int} (hm : 0 < m) (g : Bg) : ∀ j, (rowF m g j).1.length = j ∧ ∀ x ∈ (rowF m g j).1, 0 ≤ x ∧ x < m
  | 0 => ⟨rfl, fun _ h => nomatch h⟩
  | j + 1 => by
    obtain ⟨h1, h2⟩ := rowF_ok hm g j
    refine ⟨by show ((rowF m g j).1 ++ [_]).length = _; rw [List.length_append, h1]; rfl, fun x hx => ?_⟩
    have hx' : x ∈ (rowF m g j).1 ++ [(draw (rowF m g j).2 m).1] := hx
    rcases List.mem_append.mp hx' with z | z
    · exact h2 x z
    · rw [List.mem_singleton.mp z]; exact ⟨draw_lo hm, draw_hi hm⟩
def rowsF (m : Int) (n : Nat) (g : Bg) : Nat → List (List Int) × Bg
  | 0 => ([], g)
  | k + 1 => ((rowsF m n g k).1 ++ [(rowF m (rowsF m n g k).2 n).1], (rowF m (rowsF m n g k).2 n).2)
theorem rowsF_ok {m : Int} (hm : 0 < m) (n : Nat) (g : Bg) : ∀ k, (rowsF m n g k).1.length = k ∧ ∀ r ∈ (rowsF m n g k).1, r.length = n ∧ ∀ x ∈ r, 0 ≤ x ∧ x < m
  | 0 => ⟨rfl, fun _ h => nomatch h⟩
  | k + 1 => by
    obtain ⟨h1, h2⟩ := rowsF_ok hm n g k
    refine ⟨by show ((rowsF m n g k).1 ++ [_]).length = _; rw [List.length_append, h1]; rfl, fun x hx => ?_⟩
    have hx' : x ∈ (rowsF m n g k).1 ++ [(rowF m (rowsF m n g k).2 n).1] := hx
    rcases List.mem_append.mp hx' with z | z
    · exact h2 x z
    · rw [List.mem_singleton.mp z]; exact rowF_ok hm _ n
def gdF (g : Bg) : Nat → List Int × Bg
  | 0 => ([], g)
  | k + 1 => (bif decide ((draw (gdF g k).2 3).1 > 0) then (gdF g k).1 ++ [(k : Int)] else (gdF g k).1, (draw (gdF g k).2 3).2)
def gdQ (g : Bg) (i : Int) : Bool := decide ((draw (gdF g i.toNat).2 3).1 > 0)
theorem gdF_pick (g : Bg) : ∀ k, (gdF g k).1 = pickI k (gdQ g)
  | 0 => rfl
  | k + 1 => by
    have ih := gdF_pick g k
    have e : pickI (k + 1) (gdQ g) = pickI k (gdQ g) ++ (bif gdQ g (k : Int) then [(k : Int)] else []) := by
      unfold pickI
      rw [List.range_succ, List.map_append, List.filter_append]
      show _ ++ List.filter (gdQ g) [(k : Int)] = _
      rw [List.filter_cons]
      cases gdQ g (k : Int) <;> simp
    rw [e, ← ih]
    show (bif decide ((draw (gdF g k).2 3).1 > 0) then (gdF g k).1 ++ [(k : Int)] else (gdF g k).1) = _
    have e2 : gdQ g (k : Int) = decide ((draw (gdF g k).2 3).1 > 0) := by unfold gdQ; rw [Int.toNat_natCast]
    rw [e2]
    cases decide ((draw (gdF g k).2 3).1 > 0)
    · show _ = _ ++ []; rw [List.append_nil]; rfl
    · rfl
def mI (g : Bg) : Int := 1 + (draw g 6).1
def mN (g : Bg) : Nat := (mI g).toNat
theorem mI_is (g : Bg) : 1 ≤ mI g ∧ mI g ≤ 6 ∧ mI g = (mN g : Nat) := by
  have a := draw_lo (g := g) (w := 6) (by decide)
  have b := draw_hi (g := g) (w := 6) (by decide)
  unfold mN mI
  omega
def eG (g : Bg) : Bg := (draw g 6).2
def eR (n : Nat) (g : Bg) : List (List Int) × Bg := rowsF (mI g) n (eG g) (mN g)
def eD (n : Nat) (g : Bg) : List Int × Bg := gdF (eR n g).2 (mN g)
def eyeW (cs : List Nat) (g : Bg) : Wt := (cs, (eR cs.length g).1, (eD cs.length g).1)
theorem eR_len (n : Nat) (g : Bg) : (eR n g).1.length = mN g := (rowsF_ok (by have := mI_is g; omega) n (eG g) (mN g)).1
theorem eye_ok {cs : List Nat} (h : CsOk cs) (g : Bg) : WOk (eyeW cs g) := by
  obtain ⟨m1, m2, m3⟩ := mI_is g
  have hl := eR_len cs.length g
  obtain ⟨_, h2⟩ := rowsF_ok (show 0 < mI g by omega) cs.length (eG g) (mN g)
  refine ⟨h, ⟨by show 1 ≤ (eR cs.length g).1.length; omega, by show (eR cs.length g).1.length ≤ 6; omega, fun r hr => (h2 r hr).1, fun r hr x hx => ?_⟩, ?_⟩
  · have := (h2 r hr).2 x hx
    show 0 ≤ x ∧ x < ((eR cs.length g).1.length : Int)
    omega
  · show GdOk (eR cs.length g).1.length (eD cs.length g).1
    rw [hl]
    unfold eD
    rw [gdF_pick]
    exact pickI_ok
theorem do_eq {F : Fam} {e : Expr} {S S1 S2 : ST} {ds es : List D} (h : DO F e S S1 ds) (e1 : S1 = S2) (e2 : ds = es) : DO F e S S2 es := by subst e1; subst e2; exact h
section
variable {P : Program} {w : World} {C : Kc} {mg : Str → Option Value} {base : Heap}
abbrev s_law_eye : Stmt := topS 24
theorem sc_law_eye : FnScope ["_law_purse_here", "_law_signs_here", "_law_most", "_law_many", "_law_lines", "_law_k", "_law_sign"] ["_law_purse_here", "_law_signs_here", "_law_most"] (defScope s_law_eye) := ⟨rfl, rfl, rfl, by decide +kernel, rfl, by decide +kernel, by decide +kernel⟩
def NE : List Str := ["_law_purse_here", "_law_signs_here", "_law_most", "_law_many", "_law_lines", "_law_k", "_law_sign"]
def scO : Scope := { kind := .function, names := [(".0", .local), ("_law_k", .local), ("tuple", .globalImplicit), ("_law_many", .cell), ("_law_purse_here", .cell), ("_law_signs_here", .cell)], isGenerator := false, isCoroutine := false }
def scI : Scope := { kind := .function, names := [(".0", .local), ("_law_sign", .local), ("_law_draw", .globalImplicit), ("_law_many", .free), ("_law_purse_here", .free)], isGenerator := false, isCoroutine := false }
def REye : List D → List D → D → List D → Prop := fun ds gs d gs' => ∃ (g : Bg) (cs : List Nat), ds = [.str (chS cs), .int 6] ∧ gs = bagL g ∧ cs.length ≤ 8 ∧ d = wT (eyeW cs g) ∧ gs' = bagL (eD cs.length g).2
theorem ok_law_eye {f : Addr} {fd : FuncData} (Fn : Fun C.K "_law_eye" "_law_eye" s_law_eye f fd) (T : TxL C mg) (c_draw : Cal P w C mg base 1 "_law_draw" (spB C RDraw)) : FnOk P w C.K mg base CX0 2 f fd ["_law_purse_here", "_law_signs_here", "_law_most"] (spB C REye) := by
  refine fnB Fn sc_law_eye (fun ds gs d gs' h => by obtain ⟨g, n, rfl, _⟩ := h; rfl) ?_
  rintro ds gs d gs' ⟨g, cs, rfl, rfl, n8, rfl, rfl⟩ bb cdv A outer s H E hr
  obtain ⟨m1, m2, m3⟩ := mI_is g
  refine ds_set (j := 3) (de_op de_int (de_callBag (j := 0) c_draw rfl rfl (da_cons (de_var (j := 2) rfl) da_nil) rfl ⟨g, 6, rfl, rfl, by decide, by decide, rfl, rfl⟩) od_add) ?_
  have lr : (rangeD 0 (mI g).toNat).length = mN g := rangeD_length _ _
  have ls : (signsD (chS cs)).length = cs.length := by unfold signsD; rw [List.length_map, chS_list]
  refine ds_set (j := 4) (d := mvD (eR cs.length g).1) (S1 := ⟨[some .bag, some (.imm (.str (chS cs))), some (.imm (.int 6)), some (.imm (.int (mI g))), none, none, none], some (bb, .lst (bagL (eR cs.length g).2))⟩) (de_callTy T.t.b_tuple bb_tuple (da_cons (de_do (do_eq (do_lc (di_range1 (i := mI g) T.t.b_range (de_var (j := 3) rfl) (by omega) (by omega)) [("_law_k", 5)] (fun _ => blkOk_by (N := NE) (sc := defScope s_law_eye) (own := [("_law_k", 5)]) (by decide +kernel)) (fun i => some (bb, .lst (bagL (rowsF (mI g) cs.length (eG g) i).2))) (fun i => (rowsF (mI g) cs.length (eG g) i).1.map rowD) rfl rfl (fun _ => rfl) (fun i d hd => ?_)) ?_ ?_)) da_nil) ca_tupL) ?_
  · obtain ⟨hi, rfl⟩ := rangeD_get hd
    have hl := (rowsF_ok (show 0 < mI g by omega) cs.length (eG g) i).1
    generalize hG : (rowsF (mI g) cs.length (eG g) i).2 = G
    refine ⟨_, _, true, _, dg_name (j := 5), by decide, dts_nil, fun _ => ⟨⟨[some .bag, some (.imm (.str (chS cs))), some (.imm (.int 6)), some (.imm (.int (mI g))), none, some (.imm (.int (0 + (i : Int)))), none], some (bb, .lst (bagL (rowF (mI g) G cs.length).2))⟩, rowD (rowF (mI g) G cs.length).1, de_callTy T.t.b_tuple bb_tuple (da_cons (de_do (do_eq (do_lc (di_str (de_var (j := 1) rfl)) [("_law_sign", 6)] (fun _ => blkOk_by (N := NE) (sc := scO) (scope := scI) (own := [("_law_sign", 6)]) (by decide +kernel)) (fun j => some (bb, .lst (bagL (rowF (mI g) G j).2))) (fun j => (rowF (mI g) G j).1.map D.int) rfl rfl (fun _ => rfl) (fun j d hd => ?_)) ?_ ?_)) da_nil) ca_tupL, ?_, ?_, ?_⟩, fun z => nomatch z⟩
    · have hjl := (rowF_ok (show 0 < mI g by omega) G j).1
      have hj : j < cs.length := by rw [← ls]; exact (List.getElem?_eq_some_iff.mp hd).1
      unfold signsD at hd
      rw [List.getElem?_map] at hd
      cases hq : (chS cs).cps.toList[j]? with
      | none => rw [hq] at hd; cases hd
      | some c =>
        rw [hq] at hd
        cases hd
        refine ⟨_, _, true, _, dg_name (j := 6), by decide, dts_nil, fun _ => ⟨_, _, de_callBag (j := 0) c_draw rfl rfl (da_cons (de_var (j := 3) rfl) da_nil) rfl ⟨(rowF (mI g) G j).2, mI g, rfl, rfl, by omega, by omega, rfl, rfl⟩, rfl, ?_, by rw [List.length_map, hjl]; exact Nat.lt_of_lt_of_le hj (sl_le (by omega))⟩, fun z => nomatch z⟩
        show ((rowF (mI g) G j).1 ++ [_]).map D.int = _
        rw [List.map_append]
        rfl
    · rw [ls]; rfl
    · rw [ls]
    · show _ = some (bb, BG.lst (bagL (rowF (mI g) (rowsF (mI g) cs.length (eG g) i).2 cs.length).2))
      rw [hG]
    · show ((rowsF (mI g) cs.length (eG g) i).1 ++ [(rowF (mI g) (rowsF (mI g) cs.length (eG g) i).2 cs.length).1]).map rowD = _
      rw [List.map_append, hG]
      rfl
    · rw [List.length_map, hl]
      exact Nat.lt_of_lt_of_le hi (sl_le (by omega))
  · rw [lr]; rfl
  · rw [lr]; rfl
  refine ds_ret (d := wT (eyeW cs g)) (S1 := ⟨[some .bag, some (.imm (.str (chS cs))), some (.imm (.int 6)), some (.imm (.int (mI g))), some (.imm (mvD (eR cs.length g).1)), none, none], some (bb, .lst (bagL (eD cs.length g).2))⟩) (de_tup (da_cons (de_var (j := 1) rfl) (da_cons (de_var (j := 4) rfl) (da_cons (de_callTy T.t.b_tuple bb_tuple (da_cons (de_do (do_eq (do_lc (di_range1 (i := mI g) T.t.b_range (de_var (j := 3) rfl) (by omega) (by omega)) [("_law_k", 5)] (fun _ => blkOk_by (N := NE) (sc := defScope s_law_eye) (own := [("_law_k", 5)]) (by decide +kernel)) (fun i => some (bb, .lst (bagL (gdF (eR cs.length g).2 i).2))) (fun i => (gdF (eR cs.length g).2 i).1.map D.int) rfl rfl (fun _ => rfl) (fun i d hd => ?_)) ?_ ?_)) da_nil) ca_tupL) da_nil))) (by show 3 ≤ sizeLine; decide)) ⟨rfl, rfl⟩
  · obtain ⟨hi, rfl⟩ := rangeD_get hd
    have hl : (gdF (eR cs.length g).2 i).1.length ≤ i := by rw [gdF_pick]; exact pickI_len
    generalize hG : (eR cs.length g).2 = G at hl ⊢
    refine ⟨_, _, decide ((draw (gdF G i).2 3).1 > 0), _, dg_name (j := 5), by decide, dts_one (dt_cmp (de_callBag (j := 0) c_draw rfl rfl (da_cons de_int da_nil) rfl ⟨(gdF G i).2, 3, rfl, rfl, by decide, by decide, rfl, rfl⟩) de_int od_gt), fun hk => ⟨_, _, de_var (j := 5) rfl, rfl, ?_, by rw [List.length_map]; exact Nat.lt_of_le_of_lt hl (Nat.lt_of_lt_of_le hi (sl_le (by omega)))⟩, fun hk => ⟨rfl, ?_⟩⟩
    · show (bif decide ((draw (gdF G i).2 3).1 > 0) then (gdF G i).1 ++ [(i : Int)] else (gdF G i).1).map D.int = _
      rw [hk]
      show ((gdF G i).1 ++ [(i : Int)]).map D.int = _
      rw [List.map_append, Int.zero_add]
      rfl
    · show (bif decide ((draw (gdF G i).2 3).1 > 0) then (gdF G i).1 ++ [(i : Int)] else (gdF G i).1).map D.int = _
      rw [hk]
      rfl
  · rw [lr]; rfl
  · rw [lr]; rfl
end
end KW
namespace KW
open PySem L2 DL
/-! ### plain laws -/
theorem eqv_row : ∀ {a b : List Int}, PyData.eqvAll (toPs (a.map D.int)) (toPs (b.map D.int)) = true → a = b
  | [], [], _ => rfl
  | [], _ :: _, h => by cases h
  | _ :: _, [], h => by cases h
  | x :: a, y :: b, h => by
    have h' : ((x == y) && PyData.eqvAll (toPs (a.map D.int)) (toPs (b.map D.int))) = true := h
    rw [Bool.and_eq_true] at h'
    rw [eqv_row h'.2, beq_iff_eq.mp h'.1]
theorem eqW_comm (v u : Wt) : eqW v u = eqW u v := PySem.W.eqv_comm _ _
theorem eqW_refl {v : Wt} (h : WOk v) : eqW v v = true := PySem.SeqAt.eqv_refl _ (SeqAt.canLay_of_shaped (rep_w h).shaped)
theorem eqW_good {v u : Wt} (h : eqW v u = true) : v.2.2 = u.2.2 := by
  have h' : (PyData.eqv (.str (chS v.1)) (.str (chS u.1)) && (PyData.eqv (toP (mvD v.2.1)) (toP (mvD u.2.1)) && (PyData.eqv (toP (rowD v.2.2)) (toP (rowD u.2.2)) && true))) = true := h
  rw [Bool.and_eq_true, Bool.and_eq_true, Bool.and_eq_true] at h'
  exact eqv_row h'.2.2.1
theorem den_ne {v : Wt} (h : WOk v) : eqW (den v) v = false := by
  cases e : eqW (den v) v with
  | false => rfl
  | true =>
    exfalso
    have e1 := eqW_good e
    have e2 : pickI v.2.1.length (fun i => !decide (i ∈ v.2.2)) = v.2.2 := e1
    have m1 := h.m.m1
    by_cases z : (0 : Int) ∈ v.2.2
    · have z1 := z
      rw [← e2] at z1
      have z2 := (pickI_mem.mp z1).2
      rw [decide_eq_true z] at z2
      cases z2
    · have : (0 : Int) ∈ pickI v.2.1.length (fun i => !decide (i ∈ v.2.2)) := pickI_mem.mpr ⟨⟨by omega, by omega⟩, by rw [decide_eq_false z]; rfl⟩
      rw [e2] at this
      exact z this
theorem den_den {v : Wt} {q : Int → Bool} (hq : v.2.2 = pickI v.2.1.length q) : den (den v) = v := by
  have e : pickI v.2.1.length (fun i => !decide (i ∈ pickI v.2.1.length (fun i => !decide (i ∈ v.2.2)))) = v.2.2 := by
    conv => rhs; rw [hq]
    refine pickI_congr fun n _ h2 => ?_
    have h0 : (0 : Int) ≤ (n : Int) := by omega
    have h1 : (n : Int) < (v.2.1.length : Int) := by omega
    generalize (n : Int) = x at h0 h1
    have hx : x ∈ v.2.2 ↔ q x = true := by rw [hq]; exact ⟨fun z => (pickI_mem.mp z).2, fun z => pickI_mem.mpr ⟨⟨h0, h1⟩, z⟩⟩
    have hy : x ∈ pickI v.2.1.length (fun i => !decide (i ∈ v.2.2)) ↔ ¬ q x = true := by
      rw [← hx]
      constructor
      · intro z
        have := (pickI_mem.mp z).2
        simpa using this
      · intro z
        exact pickI_mem.mpr ⟨⟨h0, h1⟩, by rw [decide_eq_false z]; rfl⟩
    cases hc : q x
    · rw [decide_eq_true (hy.mpr (by rw [hc]; simp))]; rfl
    · rw [decide_eq_false (fun z => hy.mp z hc)]; rfl
  show (v.1, v.2.1, pickI v.2.1.length (fun i => !decide (i ∈ pickI v.2.1.length (fun i => !decide (i ∈ v.2.2))))) = v
  rw [e]
theorem cut_to {f : Int → D} {r : List Int} {n : Nat} : cutD (r.map f) none (some (n : Int)) = (r.take n).map f := by
  unfold cutD
  rw [HT.sIx_none, HT.sIx_nat, List.drop_zero, Nat.sub_zero, List.map_take, ← List.take_take, List.take_length]
theorem cut_to' {f : List Int → D} {r : List (List Int)} {n : Nat} : cutD (r.map f) none (some (n : Int)) = (r.take n).map f := by
  unfold cutD
  rw [HT.sIx_none, HT.sIx_nat, List.drop_zero, Nat.sub_zero, List.map_take, ← List.take_take, List.take_length]
theorem cut_from {α : Type} {f : α → D} {r : List α} {n : Nat} (h : n ≤ r.length) : cutD (r.map f) (some (n : Int)) none = (r.drop n).map f := by
  unfold cutD
  have e : min n (r.map f).length = n := by rw [List.length_map]; omega
  rw [HT.sIx_none, HT.sIx_nat, e, List.map_drop]
  exact List.take_of_length_le (by rw [List.length_drop]; exact Nat.le_refl _)
def bent (r : List Int) (a : Nat) (o : Int) : List Int := r.take a ++ [o] ++ r.drop (a + 1)
def lines' (mv : List (List Int)) (l a : Nat) (o : Int) : List (List Int) := mv.take l ++ [bent (mv.getD l []) a o] ++ mv.drop (l + 1)
theorem bent_ok {r : List Int} {a : Nat} {o : Int} {m : Int} (ha : a < r.length) (ho : 0 ≤ o ∧ o < m) (h : ∀ x ∈ r, 0 ≤ x ∧ x < m) : (bent r a o).length = r.length ∧ ∀ x ∈ bent r a o, 0 ≤ x ∧ x < m := by
  refine ⟨by unfold bent; simp; omega, fun x hx => ?_⟩
  unfold bent at hx
  rcases List.mem_append.mp hx with z | z
  · rcases List.mem_append.mp z with z | z
    · exact h x (List.mem_of_mem_take z)
    · rw [List.mem_singleton.mp z]; exact ho
  · exact h x (List.mem_of_mem_drop z)
theorem lines_ok {n : Nat} {mv : List (List Int)} {l a : Nat} {o : Int} (h : MvOk n mv) (hl : l < mv.length) (ha : a < n) (ho : 0 ≤ o ∧ o < (mv.length : Int)) : MvOk n (lines' mv l a o) ∧ (lines' mv l a o).length = mv.length := by
  have ll : (lines' mv l a o).length = mv.length := by unfold lines'; simp; omega
  have hr : mv.getD l [] ∈ mv := by rw [List.getD_eq_getElem?_getD, List.getElem?_eq_getElem hl]; exact List.getElem_mem hl
  have b := bent_ok (a := a) (o := o) (m := (mv.length : Int)) (by rw [h.row _ hr]; exact ha) ho (h.el _ hr)
  have key : ∀ r ∈ lines' mv l a o, r.length = n ∧ ∀ x ∈ r, 0 ≤ x ∧ x < (mv.length : Int) := by
    intro r hx
    unfold lines' at hx
    rcases List.mem_append.mp hx with z | z
    · rcases List.mem_append.mp z with z | z
      · exact ⟨h.row r (List.mem_of_mem_take z), h.el r (List.mem_of_mem_take z)⟩
      · rw [List.mem_singleton.mp z]
        exact ⟨b.1.trans (h.row _ hr), b.2⟩
    · exact ⟨h.row r (List.mem_of_mem_drop z), h.el r (List.mem_of_mem_drop z)⟩
  exact ⟨⟨by rw [ll]; exact h.m1, by rw [ll]; exact h.m2, fun r hr => (key r hr).1, fun r hr => by rw [ll]; exact (key r hr).2⟩, ll⟩
/-! ### what is drawn -/
def nN (g : Bg) : Nat := (1 + (draw g 8).1).toNat
theorem nN_is (g : Bg) : 1 ≤ nN g ∧ nN g ≤ 8 ∧ 1 + (draw g 8).1 = (nN g : Nat) := by
  have a := draw_lo (g := g) (w := 8) (by decide)
  have b := draw_hi (g := g) (w := 8) (by decide)
  unfold nN
  omega
def csA (g : Bg) : List Nat := sgC (nN g) (draw g 8).2
def gA (g : Bg) : Bg := sgG (nN g) (draw g 8).2
def vA (g : Bg) : Wt := eyeW (csA g) (gA g)
def gB (g : Bg) : Bg := (eD (csA g).length (gA g)).2
theorem vA_ok (g : Bg) : WOk (vA g) ∧ ∃ q, (vA g).2.2 = pickI (vA g).2.1.length q := by
  obtain ⟨n1, n8, _⟩ := nN_is g
  have hc := (sgC_ok (draw g 8).2 n1 n8).1
  refine ⟨eye_ok hc (gA g), ?_⟩
  show ∃ q, (eD (csA g).length (gA g)).1 = pickI (eR (csA g).length (gA g)).1.length q
  rw [eR_len]
  exact ⟨_, gdF_pick _ _⟩
def finB (v : Wt) (g : Bg) : Bg := sgG v.1.length (draw (draw (draw g v.2.1.length).2 v.1.length).2 v.2.1.length).2
end KW
namespace KW
open PySem L2 DL
structure MetW (P : Program) (w : World) (C : Kc) (mg : Str → Option Value) (base : Heap) : Prop where
  mW : Mak P w C mg base 4 "Watch" 0 RWt []
  mK : MakK P w C mg base 4 "Watch" 0 RWt ["good", "moves", "letters"] [2, 1, 0]
  den : Met P w C mg base 6 0 "denied" (spP C RDen)
  len : Met P w C mg base 1 0 "__len__" (spP C RLen)
  eq : Met P w C mg base 2 0 "__eq__" (spP C REqW)
theorem oth {C : Kc} {mg : Str → Option Value} (T : TxL C mg) {y : D} (h : other y = true) : PySem.W.notFirst C.K (C.cl 0) (tyD C y) = true ∧ (∀ c fs, y = .obj c fs → InsF C.K (C.cl c)) ∧ ∀ q, y ≠ .cst q := by
  cases y with
  | non => exact ⟨T.nfT _ (by decide), (by intro _ _ h; cases h), (by intro _ h; cases h)⟩
  | int i => exact ⟨T.nfT _ (by decide), (by intro _ _ h; cases h), (by intro _ h; cases h)⟩
  | str x => exact ⟨T.nfT _ (by decide), (by intro _ _ h; cases h), (by intro _ h; cases h)⟩
  | tup xs => exact ⟨T.nfT _ (by decide), (by intro _ _ h; cases h), (by intro _ h; cases h)⟩
  | _ => cases h
theorem mem4 {a b c d x : D} {i : Nat} (h : [a, b, c, d][i]? = some x) : x = a ∨ x = b ∨ x = c ∨ x = d := by
  match i, h with
  | 0, h => exact .inl (Option.some.inj h).symm
  | 1, h => exact .inr (.inl (Option.some.inj h).symm)
  | 2, h => exact .inr (.inr (.inl (Option.some.inj h).symm))
  | 3, h => exact .inr (.inr (.inr (Option.some.inj h).symm))
  | i + 4, h => cases h
def NR : List Str := ["_law_purse_here", "_law_eye_here", "_law_signs_here", "_law_lines", "_law_fine", "_law_mine", "_law_line", "_law_at", "_law_other", "_law_bent", "_law_unlike", "_law_some", "_law_each", "_law_twin", "_law_none", "_law_k"]
section
variable {P : Program} {w : World} {C : Kc} {mg : Str → Option Value} {base : Heap}
abbrev s_law_right : Stmt := topS 25
theorem sc_law_right : FnScope ["_law_purse_here", "_law_eye_here", "_law_signs_here", "_law_lines", "_law_fine", "_law_mine", "_law_line", "_law_at", "_law_other", "_law_bent", "_law_unlike", "_law_some", "_law_each", "_law_twin", "_law_none", "_law_k"] ["_law_purse_here"] (defScope s_law_right) := ⟨rfl, rfl, rfl, by decide +kernel, rfl, by decide +kernel, by decide +kernel⟩
def RRight : List D → List D → D → List D → Prop := fun ds gs d gs' => ∃ g : Bg, ds = [] ∧ gs = bagL g ∧ d = .bl true ∧ gs' = bagL (finB (vA g) (gB g))
theorem ok_law_right {f : Addr} {fd : FuncData} (Fn : Fun C.K "_law_right" "_law_right" s_law_right f fd) (T : TxL C mg) (M : MetW P w C mg base) (c_draw : Cal P w C mg base 1 "_law_draw" (spB C RDraw)) (c_signs : Cal P w C mg base 2 "_law_signs" (spB C RSigns)) (c_eye : Cal P w C mg base 2 "_law_eye" (spB C REye)) :
    FnG P w C.K mg base 8 f fd ["_law_purse_here"] (spB C RRight) := by
  refine fnBG Fn sc_law_right (fun ds gs d gs' h => by obtain ⟨g, rfl, _⟩ := h; rfl) ?_
  rintro ds gs d gs' ⟨g, rfl, rfl, rfl, rfl⟩ bb cdv A outer s H E hr hA
  obtain ⟨n1, n8, en⟩ := nN_is g
  obtain ⟨hC, lC⟩ := sgC_ok (draw g 8).2 n1 n8
  refine ds_set (j := 1) (d := wT (vA g)) (S1 := ⟨[some .bag, none, none, none, none, none, none, none, none, none, none, none, none, none, none, none], some (bb, .lst (bagL (gB g)))⟩) (de_callBag (j := 0) c_eye rfl rfl (da_cons (de_callBag (j := 0) c_signs rfl rfl (da_cons (de_is (de_op de_int (de_callBag (j := 0) c_draw rfl rfl (da_cons de_int da_nil) rfl ⟨g, 8, rfl, rfl, by decide, by decide, rfl, rfl⟩) od_add) (by rw [en])) da_nil) rfl ⟨(draw g 8).2, nN g, rfl, rfl, n1, n8, rfl, rfl⟩) (da_cons de_int da_nil)) rfl ⟨gA g, csA g, rfl, rfl, by have := hC.l2; exact this, rfl, rfl⟩) ?_
  obtain ⟨hv, q, hq⟩ := vA_ok g
  generalize vA g = v at hv hq ⊢
  generalize gB g = G
  have hl : (v.2.1.map rowD).length = v.2.1.length := List.length_map ..
  have hn := chS_len v.1
  have m1 := hv.m.m1
  have m2 := hv.m.m2
  have c1 := hv.c.l1
  have c2 := hv.c.l2
  have gl := so_len hv.g m2
  have R1 := rep_cs hv.c
  have R2 := rep_mv hv.c.l2 hv.m
  have R3 := rep_gd hv.m.m2 hv.g
  have Rm : Rep 0 401 (.int v.2.1.length) := rep_i (by omega)
  refine ds_asg (de_var (j := 1) rfl) (dg_tup (dgs_cons (dg_name (j := 2)) (dgs_cons (dg_name (j := 3)) (dgs_cons (dg_name (j := 4)) dgs_nil)))) ?_
  refine ds_set (j := 5) (d := wD v) (de_make M.mW (da_cons (de_var (j := 2) rfl) (da_cons (de_var (j := 3) rfl) (da_cons (de_var (j := 4) rfl) da_nil))) ⟨v, rfl, hv, rfl⟩) ?_
  have RL : Rep 3 30000 (.lst [.str (chS v.1), mvD v.2.1, rowD v.2.2, .int v.2.1.length]) := (rep_lst (rep_cons (R1.mono (n' := 2) (by decide) (Nat.le_refl _)) (rep_cons R2 (rep_cons (R3.mono (n' := 2) (by decide) (Nat.le_refl _)) (rep_cons (Rm.mono (n' := 2) (by decide) (Nat.le_refl _)) rep_nil))))).mono (by decide) (by decide)
  refine ds_ifr (k := false) (dt_cmp (de_callB T.b_repr bb_repr (da_cons (de_lst (da_cons (de_fld (de_var (j := 5) rfl) T.t.ins.cl T.t.n_letters wF_letters) (da_cons (de_fld (de_var (j := 5) rfl) T.t.ins.cl T.t.n_moves wF_moves) (da_cons (de_fld (de_var (j := 5) rfl) T.t.ins.cl T.t.n_good wF_good) (da_cons (de_callB T.t.b_len bb_len (da_cons (de_var (j := 5) rfl) da_nil) (ca_lenO M.len (Nat.le_of_ble_eq_true rfl) ⟨v, rfl, rfl⟩ (by omega) (by omega))) da_nil)))) (by show 4 ≤ sizeLine; decide)) da_nil) (ca_repr (fun _ => hA) RL rfl)) (de_callB T.b_repr bb_repr (da_cons (de_lst (da_cons (de_var (j := 2) rfl) (da_cons (de_var (j := 3) rfl) (da_cons (de_var (j := 4) rfl) (da_cons (de_is (de_callB T.t.b_len bb_len (da_cons (de_var (j := 3) rfl) da_nil) ca_lenT) (by rw [hl])) da_nil)))) (by show 4 ≤ sizeLine; decide)) da_nil) (ca_repr (fun _ => hA) RL rfl)) (od_neT rfl)) (fun h => nomatch h) (fun _ => ?_)
  -- three draws
  have a0 := draw_lo (g := G) (w := (v.2.1.length : Int)) (by omega)
  have a1 := draw_hi (g := G) (w := (v.2.1.length : Int)) (by omega)
  generalize hD1 : draw G (v.2.1.length : Int) = D1 at a0 a1
  have b0 := draw_lo (g := D1.2) (w := (v.1.length : Int)) (by omega)
  have b1 := draw_hi (g := D1.2) (w := (v.1.length : Int)) (by omega)
  generalize hD2 : draw D1.2 (v.1.length : Int) = D2 at b0 b1
  have o0 := draw_lo (g := D2.2) (w := (v.2.1.length : Int)) (by omega)
  have o1 := draw_hi (g := D2.2) (w := (v.2.1.length : Int)) (by omega)
  generalize hD3 : draw D2.2 (v.2.1.length : Int) = D3 at o0 o1
  have eF : finB v G = sgG v.1.length D3.2 := by unfold finB; rw [hD1, hD2, hD3]
  rw [eF]
  refine ds_asg (de_tup (ds := [.int D1.1, .int D2.1, .int D3.1]) (da_cons (de_callBag (j := 0) (d := .int D1.1) (gs' := bagL D1.2) c_draw rfl rfl (da_cons (de_is (de_callB T.t.b_len bb_len (da_cons (de_var (j := 3) rfl) da_nil) ca_lenT) (by rw [hl])) da_nil) rfl ⟨G, v.2.1.length, rfl, rfl, by omega, by omega, by rw [hD1], by rw [hD1]⟩) (da_cons (de_callBag (j := 0) (d := .int D2.1) (gs' := bagL D2.2) c_draw rfl rfl (da_cons (de_is (de_callB T.t.b_len bb_len (da_cons (de_var (j := 2) rfl) da_nil) (ca_lenS (by rw [hn]; exact sl_le (by omega)))) (by rw [hn])) da_nil) rfl ⟨D1.2, v.1.length, rfl, rfl, by omega, by omega, by rw [hD2], by rw [hD2]⟩) (da_cons (de_callBag (j := 0) (d := .int D3.1) (gs' := bagL D3.2) c_draw rfl rfl (da_cons (de_is (de_callB T.t.b_len bb_len (da_cons (de_var (j := 3) rfl) da_nil) ca_lenT) (by rw [hl])) da_nil) rfl ⟨D2.2, v.2.1.length, rfl, rfl, by omega, by omega, by rw [hD3], by rw [hD3]⟩) da_nil))) (by show 3 ≤ sizeLine; decide)) (dg_tup (dgs_cons (dg_name (j := 6)) (dgs_cons (dg_name (j := 7)) (dgs_cons (dg_name (j := 8)) dgs_nil)))) ?_
  have eA : D1.1 = ((D1.1.toNat : Nat) : Int) := by omega
  have eB : D2.1 = ((D2.1.toNat : Nat) : Int) := by omega
  generalize hL : D1.1.toNat = L at eA
  generalize hB : D2.1.toNat = B at eB
  rw [eA, eB]
  have lL : L < v.2.1.length := by omega
  have lB : B < v.1.length := by omega
  have hr0 : v.2.1.getD L [] = v.2.1[L] := by rw [List.getD_eq_getElem?_getD, List.getElem?_eq_getElem lL]; rfl
  have hrm : v.2.1.getD L [] ∈ v.2.1 := by rw [hr0]; exact List.getElem_mem lL
  have hrl := hv.m.row _ hrm
  have iL : itemD (mvD v.2.1) ((L : Nat) : Int) = some (rowD (v.2.1.getD L [])) := by
    show atI _ _ = _
    refine atI_nat ?_
    rw [List.getElem?_map, List.getElem?_eq_getElem lL, hr0]; rfl
  generalize hR : v.2.1.getD L [] = r at hrm hrl iL
  have b_len : (bent r B D3.1).length = r.length := by unfold bent; simp; omega
  refine ds_set (j := 9) (d := rowD (bent r B D3.1)) (de_is (de_op (de_op (de_sliceT (ds := r.map D.int) (de_ix (de_var (j := 3) rfl) (de_var (j := 6) rfl) iL) do_none (do_some (de_var (j := 7) rfl))) (de_tup (da_cons (de_var (j := 8) rfl) da_nil) (by show 1 ≤ sizeLine; decide)) (od_catT (by rw [cut_to, List.length_map, List.length_take]; exact sl_le (by show _ + 1 ≤ _; omega)))) (de_sliceT (ds := r.map D.int) (de_ix (de_var (j := 3) rfl) (de_var (j := 6) rfl) iL) (do_some (de_op (de_var (j := 7) rfl) de_int od_add)) do_none) (od_catT (by rw [cut_to, show ((B : Nat) : Int) + 1 = ((B + 1 : Nat) : Int) by omega, cut_from (by omega), List.length_append, List.length_map, List.length_map, List.length_take, List.length_drop]; exact sl_le (by show _ + 1 + _ ≤ _; omega)))) (by
      rw [cut_to, show ((B : Nat) : Int) + 1 = ((B + 1 : Nat) : Int) by omega, cut_from (by omega)]
      show D.tup ((r.take B).map D.int ++ [D.int D3.1] ++ (r.drop (B + 1)).map D.int) = D.tup ((r.take B ++ [D3.1] ++ r.drop (B + 1)).map D.int)
      rw [List.map_append, List.map_append]; rfl)) ?_
  refine ds_set (j := 10) (d := rowD (pickI v.2.1.length fun i => !decide (decide (i ∈ v.2.2) = decide (i = D3.1)))) (de_is (de_callTy T.t.b_tuple bb_tuple (da_cons (de_do (do_lcF (keepD fun i => !decide (decide (i ∈ v.2.2) = decide (i = D3.1))) id (di_range1 T.t.b_range (de_callB T.t.b_len bb_len (da_cons (de_var (j := 3) rfl) da_nil) ca_lenT) (by omega) (by omega)) [("_law_k", 15)] (fun _ => blkOk_by (N := NR) (sc := defScope s_law_right) (own := [("_law_k", 15)]) (by decide +kernel)) (by rw [rangeD_length]; exact sl_le (by omega)) (fun i d hd => ?_))) da_nil) ca_tupL) ?_) ?_
  · obtain ⟨hi, rfl⟩ := rangeD_get hd
    exact ⟨_, _, _, dg_name (j := 15), by decide, dt_cmp (de_cmp (de_var (j := 15) rfl) (de_var (j := 4) rfl) od_inI) (de_cmp (de_var (j := 15) rfl) (de_var (j := 8) rfl) od_eqI) od_neB, rfl, fun _ => ⟨_, de_var (j := 15) rfl, rfl⟩⟩
  · rw [hl, Int.toNat_natCast, range_keep]; rfl
  have hv1 : WOk (sgC v.1.length D3.2, v.2.1, v.2.2) := by
    obtain ⟨z1, z2⟩ := sgC_ok D3.2 c1 c2
    refine ⟨z1, ?_, hv.g⟩
    show MvOk (sgC v.1.length D3.2).length v.2.1
    rw [z2]; exact hv.m
  have hv2 : WOk (v.1, v.2.1, pickI v.2.1.length fun i => !decide (decide (i ∈ v.2.2) = decide (i = D3.1))) := ⟨hv.c, hv.m, pickI_ok⟩
  have hv3 : WOk (v.1, lines' v.2.1 L B D3.1, v.2.2) := by
    obtain ⟨z1, z2⟩ := lines_ok (l := L) (a := B) (o := D3.1) hv.m lL lB ⟨o0, o1⟩
    refine ⟨hv.c, z1, ?_⟩
    show GdOk (lines' v.2.1 L B D3.1).length v.2.2
    rw [z2]; exact hv.g
  refine ds_set (j := 11) (d := .lst [wT (sgC v.1.length D3.2, v.2.1, v.2.2), wT (v.1, v.2.1, pickI v.2.1.length fun i => !decide (decide (i ∈ v.2.2) = decide (i = D3.1)))]) (de_lst (da_cons (de_tup (da_cons (de_callBag (j := 0) c_signs rfl rfl (da_cons (de_is (de_callB T.t.b_len bb_len (da_cons (de_var (j := 2) rfl) da_nil) (ca_lenS (by rw [hn]; exact sl_le (by omega)))) (by rw [hn])) da_nil) rfl ⟨D3.2, v.1.length, rfl, rfl, c1, c2, rfl, rfl⟩) (da_cons (de_var (j := 3) rfl) (da_cons (de_var (j := 4) rfl) da_nil))) (by show 3 ≤ sizeLine; decide)) (da_cons (de_tup (da_cons (de_var (j := 2) rfl) (da_cons (de_var (j := 3) rfl) (da_cons (de_var (j := 10) rfl) da_nil))) (by show 3 ≤ sizeLine; decide)) da_nil)) (by show 2 ≤ sizeLine; decide)) ?_
  refine ds_for (fun i S => ∃ t12 t13, S = ⟨[some .bag, some (.imm (wT v)), some (.imm (.str (chS v.1))), some (.imm (mvD v.2.1)), some (.imm (rowD v.2.2)), some (.imm (wD v)), some (.imm (.int (L : Nat))), some (.imm (.int (B : Nat))), some (.imm (.int D3.1)), some (.imm (rowD (bent r B D3.1))), some (.imm (rowD (pickI v.2.1.length fun i => !decide (decide (i ∈ v.2.2) = decide (i = D3.1))))), some (.imm (.lst [wT (sgC v.1.length D3.2, v.2.1, v.2.2), wT (v.1, v.2.1, pickI v.2.1.length fun i => !decide (decide (i ∈ v.2.2) = decide (i = D3.1)))])), t12, t13, none, none], some (bb, .lst (bagL (sgG v.1.length D3.2)))⟩)
    (fun S => ∃ t12 t13, S = ⟨[some .bag, some (.imm (wT v)), some (.imm (.str (chS v.1))), some (.imm (mvD v.2.1)), some (.imm (rowD v.2.2)), some (.imm (wD v)), some (.imm (.int (L : Nat))), some (.imm (.int (B : Nat))), some (.imm (.int D3.1)), some (.imm (rowD (bent r B D3.1))), some (.imm (rowD (pickI v.2.1.length fun i => !decide (decide (i ∈ v.2.2) = decide (i = D3.1))))), some (.imm (.lst [wT (sgC v.1.length D3.2, v.2.1, v.2.2), wT (v.1, v.2.1, pickI v.2.1.length fun i => !decide (decide (i ∈ v.2.2) = decide (i = D3.1)))])), t12, t13, none, none], some (bb, .lst (bagL (sgG v.1.length D3.2)))⟩)
    (ds := [wT (sgC v.1.length D3.2, v.2.1, v.2.2), wT (v.1, v.2.1, pickI v.2.1.length fun i => !decide (decide (i ∈ v.2.2) = decide (i = D3.1)))] ++ [wT (v.1, lines' v.2.1 L B D3.1, v.2.2)])
    (di_list (de_op (de_var (j := 11) rfl) (de_lst (da_cons (de_tup (ds := [.str (chS v.1), mvD (lines' v.2.1 L B D3.1), rowD v.2.2]) (da_cons (de_var (j := 2) rfl) (da_cons (de_is (de_op (de_op (de_sliceT (ds := v.2.1.map rowD) (de_var (j := 3) rfl) do_none (do_some (de_var (j := 6) rfl))) (de_tup (da_cons (de_var (j := 9) rfl) da_nil) (by show 1 ≤ sizeLine; decide)) (od_catT (by rw [cut_to', List.length_map, List.length_take]; exact sl_le (by show _ + 1 ≤ _; omega)))) (de_sliceT (ds := v.2.1.map rowD) (de_var (j := 3) rfl) (do_some (de_op (de_var (j := 6) rfl) de_int od_add)) do_none) (od_catT (by rw [cut_to', show ((L : Nat) : Int) + 1 = ((L + 1 : Nat) : Int) by omega, cut_from (by omega), List.length_append, List.length_map, List.length_map, List.length_take, List.length_drop]; exact sl_le (by show _ + 1 + _ ≤ _; omega)))) (by
        rw [cut_to', show ((L : Nat) : Int) + 1 = ((L + 1 : Nat) : Int) by omega, cut_from (by omega)]
        show D.tup ((v.2.1.take L).map rowD ++ [rowD (bent r B D3.1)] ++ (v.2.1.drop (L + 1)).map rowD) = D.tup ((v.2.1.take L ++ [bent (v.2.1.getD L []) B D3.1] ++ v.2.1.drop (L + 1)).map rowD)
        rw [List.map_append, List.map_append, hR]; rfl)) (da_cons (de_var (j := 4) rfl) da_nil))) (by show 3 ≤ sizeLine; decide)) da_nil) (by show 1 ≤ sizeLine; decide)) (od_catL (by show 2 + 1 ≤ sizeLine; decide)))) ⟨none, none, rfl⟩ ?_ ?_ ?_
  · rintro i _ d hd ⟨t12, t13, rfl⟩
    have hu : ∃ u, d = wT u ∧ WOk u := by
      match i, hd with
      | 0, hd => exact ⟨_, (Option.some.inj hd).symm, hv1⟩
      | 1, hd => exact ⟨_, (Option.some.inj hd).symm, hv2⟩
      | 2, hd => exact ⟨_, (Option.some.inj hd).symm, hv3⟩
      | i + 3, hd => cases hd
    obtain ⟨u, rfl, hu⟩ := hu
    have RB : Rep 1 100 (.lst [.bl (eqW u v), .bl (eqW u v), .bl (!eqW u v)]) := (rep_lst (rep_cons (rep_bl _) (rep_cons (rep_bl _) (rep_cons (rep_bl _) rep_nil)))).mono (by decide) (by decide)
    refine ⟨_, _, dg_name (j := 12), ?_⟩
    refine ds_set (j := 13) (d := wD u) (de_makeK M.mK (dk_cons (de_ix (de_var (j := 12) rfl) de_int rfl) (dk_cons (de_ix (de_var (j := 12) rfl) de_int rfl) (dk_cons (de_ix (de_var (j := 12) rfl) de_int rfl) dk_nil))) ⟨u, rfl, hu, rfl⟩) ?_
    refine ds_ifr (k := false) (dt_cmp (de_callB T.b_repr bb_repr (da_cons (de_lst (da_cons (de_cmp (de_var (j := 13) rfl) (de_var (j := 5) rfl) (od_eqO M.eq (Nat.le_of_ble_eq_true rfl) (nOW T.t) nCW T.nfW ⟨u, hu, .inl ⟨v, hv, rfl, rfl⟩⟩)) (da_cons (de_cmp (de_var (j := 5) rfl) (de_var (j := 13) rfl) (od_eqO M.eq (Nat.le_of_ble_eq_true rfl) (nOW T.t) nCW T.nfW ⟨v, hv, .inl ⟨u, hu, rfl, by rw [eqW_comm u v]⟩⟩)) (da_cons (de_cmp (de_var (j := 5) rfl) (de_var (j := 13) rfl) (od_neO M.eq (Nat.le_of_ble_eq_true rfl) (nOW T.t) nCW T.nfW T.t.ins T.ne ⟨v, hv, .inl ⟨u, hu, rfl, by rw [eqW_comm u v]⟩⟩)) da_nil))) (by show 3 ≤ sizeLine; decide)) da_nil) (ca_repr (fun _ => hA) RB rfl)) (de_callB T.b_repr bb_repr (da_cons (de_lst (da_cons (de_cmp (de_var (j := 12) rfl) (de_var (j := 1) rfl) (od_eqP (rep_w hu).ok (rep_w hv).ok (rep_w hu).shaped (rep_w hv).shaped)) (da_cons (de_cmp (de_var (j := 12) rfl) (de_var (j := 1) rfl) (od_eqP (rep_w hu).ok (rep_w hv).ok (rep_w hu).shaped (rep_w hv).shaped)) (da_cons (de_cmp (de_var (j := 12) rfl) (de_var (j := 1) rfl) (od_neP (rep_w hu).ok (rep_w hv).ok (rep_w hu).shaped (rep_w hv).shaped)) da_nil))) (by show 3 ≤ sizeLine; decide)) da_nil) (ca_repr (fun _ => hA) RB rfl)) (od_neT rfl)) (fun h => nomatch h) (fun _ => ds_nil ⟨_, _, rfl⟩)
  · rintro _ h; exact h
  · rintro _ ⟨t12, t13, rfl⟩
    refine ds_ifr (k := false) (dt_w (dw_or (k := false) (l := false) (dt_val (de_callB T.b_any bb_any (da_cons (de_do (do_lcM (fun _ => .bl false) (di_list (ds := [wT v, .str (chS v.1), .non, .int v.2.1.length]) (de_lst (da_cons (de_var (j := 1) rfl) (da_cons (de_var (j := 2) rfl) (da_cons de_non (da_cons (de_is (de_callB T.t.b_len bb_len (da_cons (de_var (j := 3) rfl) da_nil) ca_lenT) (by rw [hl])) da_nil)))) (by show 4 ≤ sizeLine; decide))) [("_law_each", 12)] (fun _ => blkOk_by (N := NR) (sc := defScope s_law_right) (own := [("_law_each", 12)]) (by decide +kernel)) (by show 4 ≤ sizeLine; decide) (fun i d hd => ?_))) da_nil) ca_anyF)) (fun _ => (dw_or1 (dt_not (k := true) (dt_val (de_callB T.t.b_all bb_all (da_cons (de_do (do_lcM (fun _ => .bl true) (di_list (ds := [wT v, .int 0]) (de_lst (da_cons (de_var (j := 1) rfl) (da_cons de_int da_nil)) (by show 2 ≤ sizeLine; decide))) [("_law_each", 12)] (fun _ => blkOk_by (N := NR) (sc := defScope s_law_right) (own := [("_law_each", 12)]) (by decide +kernel)) (by show 2 ≤ sizeLine; decide) (fun i d hd => ?_))) da_nil) ca_allT))))))) (fun h => nomatch h) (fun _ => ?_)
    · have ho : other d = true := by
        rcases mem4 hd with rfl | rfl | rfl | rfl <;> rfl
      obtain ⟨h1, h2, h3⟩ := oth T ho
      exact ⟨_, _, _, dg_name (j := 12), by decide, de_cmp (de_var (j := 5) rfl) (de_var (j := 12) rfl) (od_eqO M.eq (Nat.le_of_ble_eq_true rfl) h2 h3 h1 ⟨v, hv, .inr ⟨d, ho, rfl, rfl⟩⟩), rfl⟩
    · have ho : other d = true := by
        match i, hd with
        | 0, hd => rw [← Option.some.inj hd]; rfl
        | 1, hd => rw [← Option.some.inj hd]; rfl
        | i + 2, hd => cases hd
      obtain ⟨h1, h2, h3⟩ := oth T ho
      exact ⟨_, _, _, dg_name (j := 12), by decide, de_cmp (de_var (j := 5) rfl) (de_var (j := 12) rfl) (od_neO (kb := false) M.eq (Nat.le_of_ble_eq_true rfl) h2 h3 h1 T.t.ins T.ne ⟨v, hv, .inr ⟨d, ho, rfl, rfl⟩⟩), rfl⟩
    refine ds_set (j := 14) (d := wD (den v)) (de_meth0 (pl := fun _ => _) M.den (de_var (j := 5) rfl) ⟨v, rfl, hv, rfl⟩) ?_
    have hd1 := den_ok hv
    have R5 := rep_gd hd1.m.m2 hd1.g
    have RM : Rep 3 30000 (.lst [.str (chS v.1), mvD v.2.1]) := (rep_lst (rep_cons (R1.mono (n' := 2) (by decide) (Nat.le_refl _)) (rep_cons R2 rep_nil))).mono (by decide) (by decide)
    refine ds_ifr (k := false) (dt_w (dw_or (k := false) (l := false) (dt_not (k := true) (dt_val (de_callB T.t.b_isinstance bb_isinstance (da_cons (de_var (j := 14) rfl) (da_cons (gWa T.t) da_nil)) (ca_isi (.own _) (nOW T.t) nCW kWW)))) (fun _ => (dw_or1 (dt_cmp (de_callB T.b_repr bb_repr (da_cons (de_lst (da_cons (de_fld (de_var (j := 14) rfl) T.t.ins.cl T.t.n_letters wF_letters) (da_cons (de_fld (de_var (j := 14) rfl) T.t.ins.cl T.t.n_moves wF_moves) da_nil)) (by show 2 ≤ sizeLine; decide)) da_nil) (ca_repr (fun _ => hA) RM rfl)) (de_callB T.b_repr bb_repr (da_cons (de_lst (da_cons (de_var (j := 2) rfl) (da_cons (de_var (j := 3) rfl) da_nil)) (by show 2 ≤ sizeLine; decide)) da_nil) (ca_repr (fun _ => hA) RM rfl)) (od_neT rfl)))))) (fun h => nomatch h) (fun _ => ?_)
    refine ds_ifr (k := false) (dt_cmp (de_callB T.b_repr bb_repr (da_cons (de_fld (de_var (j := 14) rfl) T.t.ins.cl T.t.n_good wF_good) da_nil) (ca_repr (fun _ => hA) R5 rfl)) (de_callB T.b_repr bb_repr (da_cons (de_is (de_callTy T.t.b_tuple bb_tuple (da_cons (de_do (do_lcF (keepD fun i => !decide (i ∈ v.2.2)) id (di_range1 T.t.b_range (de_callB T.t.b_len bb_len (da_cons (de_var (j := 3) rfl) da_nil) ca_lenT) (by omega) (by omega)) [("_law_k", 15)] (fun _ => blkOk_by (N := NR) (sc := defScope s_law_right) (own := [("_law_k", 15)]) (by decide +kernel)) (by rw [rangeD_length]; exact sl_le (by omega)) (fun i d hd => ?_))) da_nil) ca_tupL) (show _ = rowD (den v).2.2 from ?_)) da_nil) (ca_repr (fun _ => hA) R5 rfl)) (od_neT rfl)) (fun h => nomatch h) (fun _ => ?_)
    · obtain ⟨hi, rfl⟩ := rangeD_get hd
      exact ⟨_, _, _, dg_name (j := 15), by decide, dt_cmp (de_var (j := 15) rfl) (de_var (j := 4) rfl) od_ninI, rfl, fun _ => ⟨_, de_var (j := 15) rfl, rfl⟩⟩
    · rw [hl, Int.toNat_natCast, range_keep]; rfl
    have dd := den_den hq
    refine ds_ret (de_and (k := true) (l := true) (de_cmp (de_meth0 (pl := fun _ => _) M.den (de_var (j := 14) rfl) ⟨den v, rfl, hd1, rfl⟩) (de_var (j := 5) rfl) (od_eqO (kb := true) M.eq (Nat.le_of_ble_eq_true rfl) (nOW T.t) nCW T.nfW ⟨den (den v), den_ok hd1, .inl ⟨v, hv, rfl, by rw [dd, eqW_refl hv]⟩⟩)) (fun _ => (de_and (k := true) (l := true) (de_cmp (de_var (j := 14) rfl) (de_var (j := 5) rfl) (od_neO (kb := false) M.eq (Nat.le_of_ble_eq_true rfl) (nOW T.t) nCW T.nfW T.t.ins T.ne ⟨den v, hd1, .inl ⟨v, hv, rfl, by rw [den_ne hv]⟩⟩)) (fun _ => (de_and (k := true) (l := true) (de_cmp (de_callB T.b_repr bb_repr (da_cons (de_fld (de_var (j := 5) rfl) T.t.ins.cl T.t.n_good wF_good) da_nil) (ca_repr (fun _ => hA) R3 rfl)) (de_callB T.b_repr bb_repr (da_cons (de_var (j := 4) rfl) da_nil) (ca_repr (fun _ => hA) R3 rfl)) (od_eqT rfl)) (fun _ => (de_one (de_is (de_cmp (de_callB T.t.b_len bb_len (da_cons (de_var (j := 14) rfl) da_nil) (ca_lenO M.len (Nat.le_of_ble_eq_true rfl) ⟨den v, rfl, rfl⟩ (by omega) (by show ((den v).2.1.length : Int) < 2 ^ 63; show (v.2.1.length : Int) < 2 ^ 63; omega))) (de_callB T.t.b_len bb_len (da_cons (de_var (j := 3) rfl) da_nil) ca_lenT) od_eqI) (by rw [hl]; show D.bl (decide ((v.2.1.length : Int) = v.2.1.length)) = _; simp))))))))) ⟨rfl, rfl⟩
/-! ### law -/
abbrev s_law : Stmt := topS 26
theorem sc_law : FnScope ["_law_script", "_law_k"] ["_law_script"] (defScope s_law) := ⟨rfl, rfl, rfl, by decide +kernel, rfl, by decide +kernel, by decide +kernel⟩
def RLaw : List D → D → Prop := fun ds d => ∃ is : List Int, ds = [.lst (is.map D.int)] ∧ d = .bl true
theorem ok_law {f : Addr} {fd : FuncData} (Fn : Fun C.K "law" "law" s_law f fd) (T : TxL C mg) (c_purse : Cal P w C mg base 1 "_law_purse" (spO C RPurse)) (c_right : CalG P w C mg base 8 "_law_right" (spB C RRight)) : FnG P w C.K mg base 9 f fd ["_law_script"] (spP C RLaw) := by
  refine fnPG Fn sc_law (fun ds d h => by obtain ⟨is, rfl, _⟩ := h; rfl) ?_
  rintro ds d ⟨is, rfl, rfl⟩ cdv A outer s H E hr hA
  have hn : ∀ n : Int, n = (if (if (6 : Int) < (is.map D.int).length then (6 : Int) else (is.map D.int).length) > 2 then (if (6 : Int) < (is.map D.int).length then (6 : Int) else (is.map D.int).length) else 2) → 2 ≤ n ∧ n ≤ 6 := by
    intro n e
    subst e
    split <;> split <;> omega
  obtain ⟨n0, n1⟩ := hn _ rfl
  generalize hN : (if (if (6 : Int) < (is.map D.int).length then (6 : Int) else (is.map D.int).length) > 2 then (if (6 : Int) < (is.map D.int).length then (6 : Int) else (is.map D.int).length) else 2) = n at n0 n1
  refine ds_ret (de_callB T.t.b_all bb_all (da_cons (de_do (do_lcM (fun _ => .bl true) (di_range1 (i := n) T.t.b_range (hN ▸ de_callB T.b_max bb_max (da_cons de_int (da_cons (de_callB T.b_min bb_min (da_cons (de_callB T.t.b_len bb_len (da_cons (de_var (j := 0) rfl) da_nil) ca_lenL) (da_cons de_int da_nil)) ca_min) da_nil)) ca_max) (by omega) (by omega)) [("_law_k", 1)] (fun _ => blkOk_by (N := ["_law_script", "_law_k"]) (sc := defScope s_law) (own := [("_law_k", 1)]) (by decide +kernel)) (by rw [rangeD_length]; exact Nat.le_trans (show n.toNat ≤ 6 by omega) (by decide)) (fun i d hd => ?_))) da_nil) ca_allT) rfl
  obtain ⟨hi, rfl⟩ := rangeD_get hd
  exact ⟨_, _, _, dg_name (j := 1), by decide, de_callNewG (fun _ => hA) c_right (do_call c_purse (da_cons (de_var (j := 0) rfl) (da_cons (de_var (j := 1) rfl) da_nil)) ⟨is, _, rfl, by omega, by omega, rfl⟩) ⟨_, rfl, rfl, rfl, rfl⟩, rfl⟩
end
end KW
namespace KW
open PySem L2 DL
theorem all_mk {l : PySem.W.OpenLaw} {w : World} {K : PySem.W.Frag} {h : Heap} {mg : Str → Option Value} {fa : Addr} {c_W f_init f_denied f_len f_eq f_is_integer f_is_between f_are_small f_is_in_order f_check_moves f_are_good f_form_of f_purse f_draw f_signs f_eye f_right f_law : Addr} (X : K.In h) (G : h.Ns mainGlobals mg) (hfa : mg "law" = some (.ref fa))
    {od_init an_init od_denied an_denied od_len an_len od_eq an_eq od_is_integer an_is_integer od_is_between an_is_between od_are_small an_are_small od_is_in_order an_is_in_order od_check_moves an_check_moves od_are_good an_are_good od_form_of an_form_of od_purse an_purse od_draw an_draw od_signs an_signs od_eye an_eye od_right an_right od_law an_law : Option Addr} {sl_init sl_denied sl_len sl_eq sl_is_integer sl_is_between sl_are_small sl_is_in_order sl_check_moves sl_are_good sl_form_of sl_purse sl_draw sl_signs sl_eye sl_right sl_law : Array (Option Value)} {oc_init kV_init dc_init pm_init cd_init ct_init oc_denied kV_denied dc_denied pm_denied cd_denied ct_denied oc_len kV_len dc_len pm_len cd_len ct_len oc_eq kV_eq dc_eq pm_eq cd_eq ct_eq oc_is_integer kV_is_integer dc_is_integer pm_is_integer cd_is_integer ct_is_integer oc_is_between kV_is_between dc_is_between pm_is_between cd_is_between ct_is_between oc_are_small kV_are_small dc_are_small pm_are_small cd_are_small ct_are_small oc_is_in_order kV_is_in_order dc_is_in_order pm_is_in_order cd_is_in_order ct_is_in_order oc_check_moves kV_check_moves dc_check_moves pm_check_moves cd_check_moves ct_check_moves oc_are_good kV_are_good dc_are_good pm_are_good cd_are_good ct_are_good oc_form_of kV_form_of dc_form_of pm_form_of cd_form_of ct_form_of oc_purse kV_purse dc_purse pm_purse cd_purse ct_purse oc_draw kV_draw dc_draw pm_draw cd_draw ct_draw oc_signs kV_signs dc_signs pm_signs cd_signs ct_signs oc_eye kV_eye dc_eye pm_eye cd_eye ct_eye oc_right kV_right dc_right pm_right cd_right ct_right oc_law kV_law dc_law pm_law cd_law ct_law : Value} {tC tS : Tok}
    (gs_n : PySem.W.specialIn K (.builtin "object.__class__") "__get__" = some (some (.builtin "getset_descriptor.__get__")))
    (gs_t : PySem.W.takesIn K (.builtin "object.__class__") = some true)
    (a_W : PySem.W.nsIn K mainGlobals "Watch" = some (some (.ref c_W)))
    (pg_W : PySem.W.plainGet K c_W Str.empty = true)
    (hd_W : PySem.W.hasDictIn K c_W = true)
    (po_W : PySem.W.plainOver K c_W = true)
    (sa_W : PySem.W.findIn K (.ref c_W) "__setattr__" = some (some (.builtin "object.__setattr__")))
    (ha_W : PySem.W.findIn K (.ref c_W) "__class__" = some (some (.builtin "object.__class__")))
    (hm_W : PySem.W.mroIn K c_W (.type "object") = some true)
    (mk_W : PySem.W.makesIn K c_W = true)
    (kc_W : PySem.W.keepIn K (.ref c_W) = true)
    (a_init : PySem.W.findIn K (.ref c_W) "__init__" = some (some (.ref f_init)))
    (i_init : PySem.W.isFn K (.ref f_init) = true)
    (l_init : K.lookup f_init = some ⟨oc_init, od_init, .func (PySem.W.fnOf "__init__" "Watch.__init__" (defArgs s_Watch_init) (defBody s_Watch_init) (defScope s_Watch_init) .none kV_init dc_init pm_init an_init cd_init ct_init), sl_init⟩)
    (cd_init_ : PySem.W.codeIn K cd_init "Watch.__init__" = true)
    (k_init : PySem.W.keepIn K (.ref f_init) = true)
    (a_denied : PySem.W.findIn K (.ref c_W) "denied" = some (some (.ref f_denied)))
    (i_denied : PySem.W.isFn K (.ref f_denied) = true)
    (l_denied : K.lookup f_denied = some ⟨oc_denied, od_denied, .func (PySem.W.fnOf "denied" "Watch.denied" (defArgs s_Watch_denied) (defBody s_Watch_denied) (defScope s_Watch_denied) .none kV_denied dc_denied pm_denied an_denied cd_denied ct_denied), sl_denied⟩)
    (cd_denied_ : PySem.W.codeIn K cd_denied "Watch.denied" = true)
    (k_denied : PySem.W.keepIn K (.ref f_denied) = true)
    (a_len : PySem.W.findIn K (.ref c_W) "__len__" = some (some (.ref f_len)))
    (i_len : PySem.W.isFn K (.ref f_len) = true)
    (l_len : K.lookup f_len = some ⟨oc_len, od_len, .func (PySem.W.fnOf "__len__" "Watch.__len__" (defArgs s_Watch_len) (defBody s_Watch_len) (defScope s_Watch_len) .none kV_len dc_len pm_len an_len cd_len ct_len), sl_len⟩)
    (cd_len_ : PySem.W.codeIn K cd_len "Watch.__len__" = true)
    (k_len : PySem.W.keepIn K (.ref f_len) = true)
    (a_eq : PySem.W.findIn K (.ref c_W) "__eq__" = some (some (.ref f_eq)))
    (i_eq : PySem.W.isFn K (.ref f_eq) = true)
    (l_eq : K.lookup f_eq = some ⟨oc_eq, od_eq, .func (PySem.W.fnOf "__eq__" "Watch.__eq__" (defArgs s_Watch_eq) (defBody s_Watch_eq) (defScope s_Watch_eq) .none kV_eq dc_eq pm_eq an_eq cd_eq ct_eq), sl_eq⟩)
    (cd_eq_ : PySem.W.codeIn K cd_eq "Watch.__eq__" = true)
    (k_eq : PySem.W.keepIn K (.ref f_eq) = true)
    (a_is_integer : PySem.W.nsIn K mainGlobals "is_integer" = some (some (.ref f_is_integer)))
    (l_is_integer : K.lookup f_is_integer = some ⟨oc_is_integer, od_is_integer, .func (PySem.W.fnOf "is_integer" "is_integer" (defArgs s_is_integer) (defBody s_is_integer) (defScope s_is_integer) .none kV_is_integer dc_is_integer pm_is_integer an_is_integer cd_is_integer ct_is_integer), sl_is_integer⟩)
    (cd_is_integer_ : PySem.W.codeIn K cd_is_integer "is_integer" = true)
    (k_is_integer : PySem.W.keepIn K (.ref f_is_integer) = true)
    (a_is_between : PySem.W.nsIn K mainGlobals "is_between" = some (some (.ref f_is_between)))
    (l_is_between : K.lookup f_is_between = some ⟨oc_is_between, od_is_between, .func (PySem.W.fnOf "is_between" "is_between" (defArgs s_is_between) (defBody s_is_between) (defScope s_is_between) .none kV_is_between dc_is_between pm_is_between an_is_between cd_is_between ct_is_between), sl_is_between⟩)
    (cd_is_between_ : PySem.W.codeIn K cd_is_between "is_between" = true)
    (k_is_between : PySem.W.keepIn K (.ref f_is_between) = true)
    (a_are_small : PySem.W.nsIn K mainGlobals "are_small" = some (some (.ref f_are_small)))
    (l_are_small : K.lookup f_are_small = some ⟨oc_are_small, od_are_small, .func (PySem.W.fnOf "are_small" "are_small" (defArgs s_are_small) (defBody s_are_small) (defScope s_are_small) .none kV_are_small dc_are_small pm_are_small an_are_small cd_are_small ct_are_small), sl_are_small⟩)
    (cd_are_small_ : PySem.W.codeIn K cd_are_small "are_small" = true)
    (k_are_small : PySem.W.keepIn K (.ref f_are_small) = true)
    (a_is_in_order : PySem.W.nsIn K mainGlobals "is_in_order" = some (some (.ref f_is_in_order)))
    (l_is_in_order : K.lookup f_is_in_order = some ⟨oc_is_in_order, od_is_in_order, .func (PySem.W.fnOf "is_in_order" "is_in_order" (defArgs s_is_in_order) (defBody s_is_in_order) (defScope s_is_in_order) .none kV_is_in_order dc_is_in_order pm_is_in_order an_is_in_order cd_is_in_order ct_is_in_order), sl_is_in_order⟩)
    (cd_is_in_order_ : PySem.W.codeIn K cd_is_in_order "is_in_order" = true)
    (k_is_in_order : PySem.W.keepIn K (.ref f_is_in_order) = true)
    (a_check_moves : PySem.W.nsIn K mainGlobals "check_moves" = some (some (.ref f_check_moves)))
    (l_check_moves : K.lookup f_check_moves = some ⟨oc_check_moves, od_check_moves, .func (PySem.W.fnOf "check_moves" "check_moves" (defArgs s_check_moves) (defBody s_check_moves) (defScope s_check_moves) .none kV_check_moves dc_check_moves pm_check_moves an_check_moves cd_check_moves ct_check_moves), sl_check_moves⟩)
    (cd_check_moves_ : PySem.W.codeIn K cd_check_moves "check_moves" = true)
    (k_check_moves : PySem.W.keepIn K (.ref f_check_moves) = true)
    (a_are_good : PySem.W.nsIn K mainGlobals "are_good" = some (some (.ref f_are_good)))
    (l_are_good : K.lookup f_are_good = some ⟨oc_are_good, od_are_good, .func (PySem.W.fnOf "are_good" "are_good" (defArgs s_are_good) (defBody s_are_good) (defScope s_are_good) .none kV_are_good dc_are_good pm_are_good an_are_good cd_are_good ct_are_good), sl_are_good⟩)
    (cd_are_good_ : PySem.W.codeIn K cd_are_good "are_good" = true)
    (k_are_good : PySem.W.keepIn K (.ref f_are_good) = true)
    (a_form_of : PySem.W.nsIn K mainGlobals "form_of" = some (some (.ref f_form_of)))
    (l_form_of : K.lookup f_form_of = some ⟨oc_form_of, od_form_of, .func (PySem.W.fnOf "form_of" "form_of" (defArgs s_form_of) (defBody s_form_of) (defScope s_form_of) .none kV_form_of dc_form_of pm_form_of an_form_of cd_form_of ct_form_of), sl_form_of⟩)
    (cd_form_of_ : PySem.W.codeIn K cd_form_of "form_of" = true)
    (k_form_of : PySem.W.keepIn K (.ref f_form_of) = true)
    (a_purse : PySem.W.nsIn K mainGlobals "_law_purse" = some (some (.ref f_purse)))
    (l_purse : K.lookup f_purse = some ⟨oc_purse, od_purse, .func (PySem.W.fnOf "_law_purse" "_law_purse" (defArgs s_law_purse) (defBody s_law_purse) (defScope s_law_purse) .none kV_purse dc_purse pm_purse an_purse cd_purse ct_purse), sl_purse⟩)
    (cd_purse_ : PySem.W.codeIn K cd_purse "_law_purse" = true)
    (k_purse : PySem.W.keepIn K (.ref f_purse) = true)
    (a_draw : PySem.W.nsIn K mainGlobals "_law_draw" = some (some (.ref f_draw)))
    (l_draw : K.lookup f_draw = some ⟨oc_draw, od_draw, .func (PySem.W.fnOf "_law_draw" "_law_draw" (defArgs s_law_draw) (defBody s_law_draw) (defScope s_law_draw) .none kV_draw dc_draw pm_draw an_draw cd_draw ct_draw), sl_draw⟩)
    (cd_draw_ : PySem.W.codeIn K cd_draw "_law_draw" = true)
    (k_draw : PySem.W.keepIn K (.ref f_draw) = true)
    (a_signs : PySem.W.nsIn K mainGlobals "_law_signs" = some (some (.ref f_signs)))
    (l_signs : K.lookup f_signs = some ⟨oc_signs, od_signs, .func (PySem.W.fnOf "_law_signs" "_law_signs" (defArgs s_law_signs) (defBody s_law_signs) (defScope s_law_signs) .none kV_signs dc_signs pm_signs an_signs cd_signs ct_signs), sl_signs⟩)
    (cd_signs_ : PySem.W.codeIn K cd_signs "_law_signs" = true)
    (k_signs : PySem.W.keepIn K (.ref f_signs) = true)
    (a_eye : PySem.W.nsIn K mainGlobals "_law_eye" = some (some (.ref f_eye)))
    (l_eye : K.lookup f_eye = some ⟨oc_eye, od_eye, .func (PySem.W.fnOf "_law_eye" "_law_eye" (defArgs s_law_eye) (defBody s_law_eye) (defScope s_law_eye) .none kV_eye dc_eye pm_eye an_eye cd_eye ct_eye), sl_eye⟩)
    (cd_eye_ : PySem.W.codeIn K cd_eye "_law_eye" = true)
    (k_eye : PySem.W.keepIn K (.ref f_eye) = true)
    (a_right : PySem.W.nsIn K mainGlobals "_law_right" = some (some (.ref f_right)))
    (l_right : K.lookup f_right = some ⟨oc_right, od_right, .func (PySem.W.fnOf "_law_right" "_law_right" (defArgs s_law_right) (defBody s_law_right) (defScope s_law_right) .none kV_right dc_right pm_right an_right cd_right ct_right), sl_right⟩)
    (cd_right_ : PySem.W.codeIn K cd_right "_law_right" = true)
    (k_right : PySem.W.keepIn K (.ref f_right) = true)
    (a_law : PySem.W.nsIn K mainGlobals "law" = some (some (.ref f_law)))
    (l_law : K.lookup f_law = some ⟨oc_law, od_law, .func (PySem.W.fnOf "law" "law" (defArgs s_law) (defBody s_law) (defScope s_law) .none kV_law dc_law pm_law an_law cd_law ct_law), sl_law⟩)
    (cd_law_ : PySem.W.codeIn K cd_law "law" = true)
    (k_law : PySem.W.keepIn K (.ref f_law) = true)
    (z_isinstance : PySem.W.nsIn K mainGlobals "isinstance" = some none)
    (z_len : PySem.W.nsIn K mainGlobals "len" = some none)
    (z_all : PySem.W.nsIn K mainGlobals "all" = some none)
    (z_int : PySem.W.nsIn K mainGlobals "int" = some none)
    (z_bool : PySem.W.nsIn K mainGlobals "bool" = some none)
    (z_str : PySem.W.nsIn K mainGlobals "str" = some none)
    (z_tuple : PySem.W.nsIn K mainGlobals "tuple" = some none)
    (z_range : PySem.W.nsIn K mainGlobals "range" = some none)
    (z_enumerate : PySem.W.nsIn K mainGlobals "enumerate" = some none)
    (z_abs : PySem.W.nsIn K mainGlobals "abs" = some none)
    (z_max : PySem.W.nsIn K mainGlobals "max" = some none)
    (z_min : PySem.W.nsIn K mainGlobals "min" = some none)
    (z_any : PySem.W.nsIn K mainGlobals "any" = some none)
    (z_repr : PySem.W.nsIn K mainGlobals "repr" = some none)
    (n_W_letters : PySem.W.findIn K (.ref c_W) "letters" = some none)
    (n_W_moves : PySem.W.findIn K (.ref c_W) "moves" = some none)
    (n_W_good : PySem.W.findIn K (.ref c_W) "good" = some none)
    (mC : PySem.W.nsIn K mainGlobals "MOST_CELLS" = some (some (.int 8 tC)))
    (mS : PySem.W.nsIn K mainGlobals "MOST_STANDS" = some (some (.int 6 tS)))
    (ne : PySem.W.findIn K (.ref c_W) "__ne__" = some (some (.builtin "object.__ne__")))
    (nfW : PySem.W.notFirst K c_W (.ref c_W) = true)
    (kT0 : PySem.W.kitOne K (.type "NoneType") (.ref c_W) = some false)
    (kT1 : PySem.W.kitOne K (.type "int") (.ref c_W) = some false)
    (kT2 : PySem.W.kitOne K (.type "str") (.ref c_W) = some false)
    (kT3 : PySem.W.kitOne K (.type "tuple") (.ref c_W) = some false)
    (nT0 : PySem.W.notFirst K c_W (.type "NoneType") = true)
    (nT1 : PySem.W.notFirst K c_W (.type "int") = true)
    (nT2 : PySem.W.notFirst K c_W (.type "str") = true)
    (nT3 : PySem.W.notFirst K c_W (.type "tuple") = true)
    : ∃ fd : FuncData, (∀ (s : Shared) (v : Value), BindsTo s fd ⟨[v], []⟩ [("_law_script", v)]) ∧ ∀ base : Heap, K.In base → base.Ns mainGlobals mg → FnG l.prog w K mg base 9 fa fd ["_law_script"] (spLaw K) := by
  have e := hfa.symm.trans (PySem.W.mg_of X G a_law)
  cases e
  have cl_W : Cls K c_W := ⟨pg_W, hd_W, po_W, sa_W⟩
  have ins_W : InsF K c_W := ⟨cl_W, ha_W, gs_n, gs_t, hm_W⟩
  have F_init := fun_mk (st := s_Watch_init) l_init cd_init_ k_init
  have b_init := F_init.binds (ps := ["self", "letters", "moves", "good"]) fun _ _ _ _ _ _ us hl => match us, hl with | [_, _, _, _], _ => rfl
  have me_init : Meth K c_W "__init__" f_init := ⟨a_init, i_init, k_init⟩
  have M_W : Mk K c_W f_init := ⟨mk_W, a_init, i_init, kc_W⟩
  have F_denied := fun_mk (st := s_Watch_denied) l_denied cd_denied_ k_denied
  have b_denied := F_denied.binds (ps := ["self"]) fun _ _ _ _ _ _ us hl => match us, hl with | [_], _ => rfl
  have me_denied : Meth K c_W "denied" f_denied := ⟨a_denied, i_denied, k_denied⟩
  have F_len := fun_mk (st := s_Watch_len) l_len cd_len_ k_len
  have b_len := F_len.binds (ps := ["self"]) fun _ _ _ _ _ _ us hl => match us, hl with | [_], _ => rfl
  have me_len : Meth K c_W "__len__" f_len := ⟨a_len, i_len, k_len⟩
  have F_eq := fun_mk (st := s_Watch_eq) l_eq cd_eq_ k_eq
  have b_eq := F_eq.binds (ps := ["self", "other"]) fun _ _ _ _ _ _ us hl => match us, hl with | [_, _], _ => rfl
  have me_eq : Meth K c_W "__eq__" f_eq := ⟨a_eq, i_eq, k_eq⟩
  have F_is_integer := fun_mk (st := s_is_integer) l_is_integer cd_is_integer_ k_is_integer
  have b_is_integer := F_is_integer.binds (ps := ["value"]) fun _ _ _ _ _ _ us hl => match us, hl with | [_], _ => rfl
  have g_is_integer := PySem.W.mg_of X G a_is_integer
  have F_is_between := fun_mk (st := s_is_between) l_is_between cd_is_between_ k_is_between
  have b_is_between := F_is_between.binds (ps := ["value", "least", "most"]) fun _ _ _ _ _ _ us hl => match us, hl with | [_, _, _], _ => rfl
  have g_is_between := PySem.W.mg_of X G a_is_between
  have F_are_small := fun_mk (st := s_are_small) l_are_small cd_are_small_ k_are_small
  have b_are_small := F_are_small.binds (ps := ["value", "least", "most"]) fun _ _ _ _ _ _ us hl => match us, hl with | [_, _, _], _ => rfl
  have g_are_small := PySem.W.mg_of X G a_are_small
  have F_is_in_order := fun_mk (st := s_is_in_order) l_is_in_order cd_is_in_order_ k_is_in_order
  have b_is_in_order := F_is_in_order.binds (ps := ["value"]) fun _ _ _ _ _ _ us hl => match us, hl with | [_], _ => rfl
  have g_is_in_order := PySem.W.mg_of X G a_is_in_order
  have F_check_moves := fun_mk (st := s_check_moves) l_check_moves cd_check_moves_ k_check_moves
  have b_check_moves := F_check_moves.binds (ps := ["letters", "moves"]) fun _ _ _ _ _ _ us hl => match us, hl with | [_, _], _ => rfl
  have g_check_moves := PySem.W.mg_of X G a_check_moves
  have F_are_good := fun_mk (st := s_are_good) l_are_good cd_are_good_ k_are_good
  have b_are_good := F_are_good.binds (ps := ["many", "good"]) fun _ _ _ _ _ _ us hl => match us, hl with | [_, _], _ => rfl
  have g_are_good := PySem.W.mg_of X G a_are_good
  have F_form_of := fun_mk (st := s_form_of) l_form_of cd_form_of_ k_form_of
  have b_form_of := F_form_of.binds (ps := ["watch"]) fun _ _ _ _ _ _ us hl => match us, hl with | [_], _ => rfl
  have g_form_of := PySem.W.mg_of X G a_form_of
  have F_purse := fun_mk (st := s_law_purse) l_purse cd_purse_ k_purse
  have b_purse := F_purse.binds (ps := ["_law_script", "_law_k"]) fun _ _ _ _ _ _ us hl => match us, hl with | [_, _], _ => rfl
  have g_purse := PySem.W.mg_of X G a_purse
  have F_draw := fun_mk (st := s_law_draw) l_draw cd_draw_ k_draw
  have b_draw := F_draw.binds (ps := ["_law_purse_here", "_law_many"]) fun _ _ _ _ _ _ us hl => match us, hl with | [_, _], _ => rfl
  have g_draw := PySem.W.mg_of X G a_draw
  have F_signs := fun_mk (st := s_law_signs) l_signs cd_signs_ k_signs
  have b_signs := F_signs.binds (ps := ["_law_purse_here", "_law_many"]) fun _ _ _ _ _ _ us hl => match us, hl with | [_, _], _ => rfl
  have g_signs := PySem.W.mg_of X G a_signs
  have F_eye := fun_mk (st := s_law_eye) l_eye cd_eye_ k_eye
  have b_eye := F_eye.binds (ps := ["_law_purse_here", "_law_signs_here", "_law_most"]) fun _ _ _ _ _ _ us hl => match us, hl with | [_, _, _], _ => rfl
  have g_eye := PySem.W.mg_of X G a_eye
  have F_right := fun_mk (st := s_law_right) l_right cd_right_ k_right
  have b_right := F_right.binds (ps := ["_law_purse_here"]) fun _ _ _ _ _ _ us hl => match us, hl with | [_], _ => rfl
  have g_right := PySem.W.mg_of X G a_right
  have F_law := fun_mk (st := s_law) l_law cd_law_ k_law
  have b_law := F_law.binds (ps := ["_law_script"]) fun _ _ _ _ _ _ us hl => match us, hl with | [_], _ => rfl
  have g_law := PySem.W.mg_of X G a_law
  refine ⟨PySem.W.fnOf "law" "law" (defArgs s_law) (defBody s_law) (defScope s_law) .none kV_law dc_law pm_law an_law cd_law ct_law, fun s v => .of_eq rfl, fun base _ _ => ?_⟩
  have zf : ∀ {n : Str}, PySem.W.nsIn K mainGlobals n = some none → mg n = none := fun hz => PySem.W.mg_none_of X G hz
  have gW := PySem.W.mg_of X G a_W
  have T : TxW ⟨K, fun _ => c_W⟩ mg := ⟨zf z_isinstance, zf z_len, zf z_all, zf z_int, zf z_bool, zf z_str, zf z_tuple, zf z_range, zf z_enumerate, gW, ins_W, n_W_letters, n_W_moves, n_W_good, ⟨tC, PySem.W.mg_of X G mC⟩, ⟨tS, PySem.W.mg_of X G mS⟩, fun T hT => by
    simp only [List.mem_cons, List.not_mem_nil, or_false] at hT
    rcases hT with rfl | rfl | rfl | rfl
    · exact kT0
    · exact kT1
    · exact kT2
    · exact kT3⟩
  have TL : TxL ⟨K, fun _ => c_W⟩ mg := ⟨T, zf z_abs, zf z_max, zf z_min, zf z_any, zf z_repr, ne, nfW, fun T hT => by
    simp only [List.mem_cons, List.not_mem_nil, or_false] at hT
    rcases hT with rfl | rfl | rfl | rfl
    · exact nT0
    · exact nT1
    · exact nT2
    · exact nT3⟩
  have c_ii := cal_mk (P := l.prog) (w := w) (base := base) (ok_is_integer F_is_integer T) F_is_integer b_is_integer g_is_integer
  have c_btw := cal_mk (ok_is_between F_is_between T c_ii) F_is_between b_is_between g_is_between
  have c_sm := cal_mk (P := l.prog) (w := w) (base := base) (ok_are_small F_are_small T) F_are_small b_are_small g_are_small
  have c_ord := cal_mk (P := l.prog) (w := w) (base := base) (ok_is_in_order F_is_in_order T) F_is_in_order b_is_in_order g_is_in_order
  have c_chk := cal_mk (ok_check_moves F_check_moves T c_btw) F_check_moves b_check_moves g_check_moves
  have c_good := cal_mk (ok_are_good F_are_good T c_btw c_ord) F_are_good b_are_good g_are_good
  have c_form := cal_mk (P := l.prog) (w := w) (base := base) (ok_form_of F_form_of T) F_form_of b_form_of g_form_of
  have oI := ok_Watch_init F_init T c_sm c_ord c_chk c_good
  have m_W : Mak l.prog w ⟨K, fun _ => c_W⟩ mg base 4 "Watch" 0 RWt [] := ⟨_, _, _, [], [], oI, gW, M_W, b_init, .nil, fun _ => .nil⟩
  have M : MetW l.prog w ⟨K, fun _ => c_W⟩ mg base := ⟨m_W,
    ⟨_, _, _, _, oI, gW, M_W, Fun.kbn (C := ⟨K, fun _ => c_W⟩) F_init 1 ["good", "moves", "letters"] [2, 1, 0] fun _ _ _ _ _ _ us ws hl hw => match us, hl, ws, hw with | [_], _, [_, _, _], _ => rfl⟩,
    ⟨_, _, _, ok_Watch_denied F_denied T m_W, cl_W, me_denied, b_denied⟩, ⟨_, _, _, ok_Watch_len F_len T, cl_W, me_len, b_len⟩, ⟨_, _, _, ok_Watch_eq F_eq T c_form, cl_W, me_eq, b_eq⟩⟩
  have c_draw := cal_mk (P := l.prog) (w := w) (base := base) (ok_law_draw F_draw TL) F_draw b_draw g_draw
  have c_signs := cal_mk (ok_law_signs F_signs TL c_draw) F_signs b_signs g_signs
  have c_eye := cal_mk (ok_law_eye F_eye TL c_draw) F_eye b_eye g_eye
  have c_purse := cal_mk (P := l.prog) (w := w) (base := base) (ok_law_purse F_purse TL) F_purse b_purse g_purse
  have c_right := calG_mk (C := ⟨K, fun _ => c_W⟩) (ok_law_right F_right TL M c_draw c_signs c_eye) F_right b_right g_right
  exact law_ofG (C := ⟨K, fun _ => c_W⟩) (ok_law F_law TL c_purse c_right) fun is _ => ⟨is, rfl, rfl⟩
end KW

open PySem PySem.W PyProof.Rows in
set_option maxRecDepth 100000 in
set_option maxHeartbeats 0 in
theorem PySem.Challenge.cw_doughfolds_k23_watches_made_holds : PySem.Challenge.rw_doughfolds_k23_watches_made.Holds := by
  w_on; o_law; k_head; (case hw => w_witness2)
  k_fill
  refine DL.walkG (l := PySem.Challenge.rw_doughfolds_k23_watches_made) (k := 9) "_law_script" (by decide) rfl rfl (fun w h Y => PySem.W.kIn_of Y) ?F
  case F =>
    intro w mg fa h KX G hmg
    refine' KW.all_mk KX G hmg ?gs_n ?gs_t ?a_W ?pg_W ?hd_W ?po_W ?sa_W ?ha_W ?hm_W ?mk_W ?kc_W ?a_init ?i_init ?l_init ?cd_init_ ?k_init ?a_denied ?i_denied ?l_denied ?cd_denied_ ?k_denied ?a_len ?i_len ?l_len ?cd_len_ ?k_len ?a_eq ?i_eq ?l_eq ?cd_eq_ ?k_eq ?a_is_integer ?l_is_integer ?cd_is_integer_ ?k_is_integer ?a_is_between ?l_is_between ?cd_is_between_ ?k_is_between ?a_are_small ?l_are_small ?cd_are_small_ ?k_are_small ?a_is_in_order ?l_is_in_order ?cd_is_in_order_ ?k_is_in_order ?a_check_moves ?l_check_moves ?cd_check_moves_ ?k_check_moves ?a_are_good ?l_are_good ?cd_are_good_ ?k_are_good ?a_form_of ?l_form_of ?cd_form_of_ ?k_form_of ?a_purse ?l_purse ?cd_purse_ ?k_purse ?a_draw ?l_draw ?cd_draw_ ?k_draw ?a_signs ?l_signs ?cd_signs_ ?k_signs ?a_eye ?l_eye ?cd_eye_ ?k_eye ?a_right ?l_right ?cd_right_ ?k_right ?a_law ?l_law ?cd_law_ ?k_law ?z_isinstance ?z_len ?z_all ?z_int ?z_bool ?z_str ?z_tuple ?z_range ?z_enumerate ?z_abs ?z_max ?z_min ?z_any ?z_repr ?n_W_letters ?n_W_moves ?n_W_good ?mC ?mS ?ne ?nfW ?kT0 ?kT1 ?kT2 ?kT3 ?nT0 ?nT1 ?nT2 ?nT3
    (case gs_n => k_is)
    (case gs_t => k_is)
    (case a_W => k_is)
    (case pg_W => k_is)
    (case hd_W => k_is)
    (case po_W => k_is)
    (case sa_W => k_is)
    (case ha_W => k_is)
    (case hm_W => k_is)
    (case mk_W => k_is)
    (case kc_W => k_is)
    (case a_init => k_is)
    (case i_init => k_is)
    (case l_init => k_is)
    (case cd_init_ => k_is)
    (case k_init => k_is)
    (case a_denied => k_is)
    (case i_denied => k_is)
    (case l_denied => k_is)
    (case cd_denied_ => k_is)
    (case k_denied => k_is)
    (case a_len => k_is)
    (case i_len => k_is)
    (case l_len => k_is)
    (case cd_len_ => k_is)
    (case k_len => k_is)
    (case a_eq => k_is)
    (case i_eq => k_is)
    (case l_eq => k_is)
    (case cd_eq_ => k_is)
    (case k_eq => k_is)
    (case a_is_integer => k_is)
    (case l_is_integer => k_is)
    (case cd_is_integer_ => k_is)
    (case k_is_integer => k_is)
    (case a_is_between => k_is)
    (case l_is_between => k_is)
    (case cd_is_between_ => k_is)
    (case k_is_between => k_is)
    (case a_are_small => k_is)
    (case l_are_small => k_is)
    (case cd_are_small_ => k_is)
    (case k_are_small => k_is)
    (case a_is_in_order => k_is)
    (case l_is_in_order => k_is)
    (case cd_is_in_order_ => k_is)
    (case k_is_in_order => k_is)
    (case a_check_moves => k_is)
    (case l_check_moves => k_is)
    (case cd_check_moves_ => k_is)
    (case k_check_moves => k_is)
    (case a_are_good => k_is)
    (case l_are_good => k_is)
    (case cd_are_good_ => k_is)
    (case k_are_good => k_is)
    (case a_form_of => k_is)
    (case l_form_of => k_is)
    (case cd_form_of_ => k_is)
    (case k_form_of => k_is)
    (case a_purse => k_is)
    (case l_purse => k_is)
    (case cd_purse_ => k_is)
    (case k_purse => k_is)
    (case a_draw => k_is)
    (case l_draw => k_is)
    (case cd_draw_ => k_is)
    (case k_draw => k_is)
    (case a_signs => k_is)
    (case l_signs => k_is)
    (case cd_signs_ => k_is)
    (case k_signs => k_is)
    (case a_eye => k_is)
    (case l_eye => k_is)
    (case cd_eye_ => k_is)
    (case k_eye => k_is)
    (case a_right => k_is)
    (case l_right => k_is)
    (case cd_right_ => k_is)
    (case k_right => k_is)
    (case a_law => k_is)
    (case l_law => k_is)
    (case cd_law_ => k_is)
    (case k_law => k_is)
    (case z_isinstance => k_is)
    (case z_len => k_is)
    (case z_all => k_is)
    (case z_int => k_is)
    (case z_bool => k_is)
    (case z_str => k_is)
    (case z_tuple => k_is)
    (case z_range => k_is)
    (case z_enumerate => k_is)
    (case z_abs => k_is)
    (case z_max => k_is)
    (case z_min => k_is)
    (case z_any => k_is)
    (case z_repr => k_is)
    (case n_W_letters => k_is)
    (case n_W_moves => k_is)
    (case n_W_good => k_is)
    (case mC => k_is)
    (case mS => k_is)
    (case ne => k_is)
    (case nfW => k_is)
    (case kT0 => kernel_rfl)
    (case kT1 => kernel_rfl)
    (case kT2 => kernel_rfl)
    (case kT3 => kernel_rfl)
    (case nT0 => k_is)
    (case nT1 => k_is)
    (case nT2 => k_is)
    (case nT3 => k_is)
#print axioms PySem.Challenge.cw_doughfolds_k23_watches_made_holds

