import PyProof.Rows.All
import Wide.All
import OpenK.AllK
import Wide.FinOn
import HandS.ForMost
import HandS.Flow
import HandS.Conv
import HandS.IsInst
import HandS.OwnEq
import HandS.MakeKw
import HandS.Defaults
import HandS.MakeKwOnly
import HandS.Style
import PyProof.ReprRoads
import KE.KOpsOwn
import OpenK.KOps
import HandS.TupAny
import HandS.TupMul
import HandS.Words
import HandS.FStr
import HandS.TryOnly
import HandS.List
import KE.KCallOwn
import PySem.Challenge.RW_doughfolds_k07_raisins_made_and_in_order
set_option Elab.async false
set_option linter.all false
set_option maxRecDepth 100000
set_option maxHeartbeats 4000000
/-! DL1: data without addresses. D: what a value stands for; Den: that it does; ST: what is known of a frame's slots; EvM, EvT, EvA, SD: what a reading evaluates to. -/
namespace DL
open PySem L2

/-- data: what a value stands for -/
inductive D where
  | non | bl (b : Bool) | int (i : Int) | str (x : Str) | tup (xs : List D) | lst (xs : List D) | obj (c : Nat) (fs : List (Str × D)) | cst (v : V)

/-- the written part, the classes by number -/
structure Kc where
  K : PySem.W.Frag
  cl : Nat → Addr

mutual
/-- v stands for d in the heap G -/
inductive Den (C : Kc) (G : Hp) : V → D → Prop where
  | non : Den C G .non .non
  | bl (b : Bool) : Den C G (.bl b) (.bl b)
  | int (i : Int) : Den C G (.int i) (.int i)
  | str (x : Str) : Den C G (.str x) (.str x)
  | tup {a : Addr} {xs : List V} {ds : List D} : SqT C.K G a xs → DenL C G xs ds → Den C G (.ref a) (.tup ds)
  | lst {a : Addr} {xs : List V} {ds : List D} : SqL C.K G a xs → DenL C G xs ds → Den C G (.ref a) (.lst ds)
  | obj {a dx : Addr} {c : Nat} {vs : List (Str × V)} {fs : List (Str × D)} : G a = some (.ins (C.cl c) dx vs) → DenF C G vs fs → Den C G (.ref a) (.obj c fs)
  | cst (v : V) : Den C G v (.cst v)
inductive DenL (C : Kc) (G : Hp) : List V → List D → Prop where
  | nil : DenL C G [] []
  | cons {v : V} {d : D} {vs : List V} {ds : List D} : Den C G v d → DenL C G vs ds → DenL C G (v :: vs) (d :: ds)
inductive DenF (C : Kc) (G : Hp) : List (Str × V) → List (Str × D) → Prop where
  | nil : DenF C G [] []
  | cons {f : Str} {v : V} {d : D} {vs : List (Str × V)} {ds : List (Str × D)} : Den C G v d → DenF C G vs ds → DenF C G ((f, v) :: vs) ((f, d) :: ds)
end

theorem same_t {K : PySem.W.Frag} {H H' : Hp} {a : Addr} {xs : List V} (e : Same H H') (h : SqT K H a xs) : SqT K H' a xs := by
  rcases h with (h | ⟨o, h⟩) | h
  · exact .inl (.inl (e _ _ h))
  · exact .inl (.inr ⟨o, e _ _ h⟩)
  · exact .inr h

mutual
theorem Den.mono {C : Kc} {G G' : Hp} (e : Same G G') : ∀ {v : V} {d : D}, Den C G v d → Den C G' v d
  | _, _, .non => .non
  | _, _, .bl b => .bl b
  | _, _, .int i => .int i
  | _, _, .str x => .str x
  | _, _, .tup h l => .tup (same_t e h) (DenL.mono e l)
  | _, _, .lst h l => .lst (e.seq h) (DenL.mono e l)
  | _, _, .obj h l => .obj (e _ _ h) (DenF.mono e l)
  | _, _, .cst v => .cst v
theorem DenL.mono {C : Kc} {G G' : Hp} (e : Same G G') : ∀ {v : List V} {d : List D}, DenL C G v d → DenL C G' v d
  | _, _, .nil => .nil
  | _, _, .cons h l => .cons (Den.mono e h) (DenL.mono e l)
theorem DenF.mono {C : Kc} {G G' : Hp} (e : Same G G') : ∀ {v : List (Str × V)} {d : List (Str × D)}, DenF C G v d → DenF C G' v d
  | _, _, .nil => .nil
  | _, _, .cons h l => .cons (Den.mono e h) (DenF.mono e l)
end

theorem DenL.length {C : Kc} {G : Hp} : ∀ {vs : List V} {ds : List D}, DenL C G vs ds → vs.length = ds.length
  | _, _, .nil => rfl
  | _, _, .cons _ l => by rw [List.length_cons, List.length_cons, DenL.length l]
theorem DenL.get {C : Kc} {G : Hp} : ∀ {vs : List V} {ds : List D} {i : Nat} {d : D}, DenL C G vs ds → ds[i]? = some d → ∃ v, vs[i]? = some v ∧ Den C G v d
  | _, _, _, _, .nil, e => by simp at e
  | _, _, 0, _, .cons h _, e => by simp at e; subst e; exact ⟨_, rfl, h⟩
  | _, _, i + 1, d, .cons _ l, e => by
    obtain ⟨v, h1, h2⟩ := DenL.get (i := i) (d := d) l (by simpa using e)
    exact ⟨v, by simpa using h1, h2⟩
theorem DenL.getV {C : Kc} {G : Hp} : ∀ {vs : List V} {ds : List D} {i : Nat} {v : V}, DenL C G vs ds → vs[i]? = some v → ∃ d, ds[i]? = some d ∧ Den C G v d
  | _, _, _, _, .nil, e => by simp at e
  | _, _, 0, _, .cons h _, e => by simp at e; subst e; exact ⟨_, rfl, h⟩
  | _, _, i + 1, d, .cons _ l, e => by
    obtain ⟨v, h1, h2⟩ := DenL.getV (i := i) (v := d) l (by simpa using e)
    exact ⟨v, by simpa using h1, h2⟩
theorem DenL.set {C : Kc} {G : Hp} {v : V} {d : D} (h : Den C G v d) : ∀ {vs : List V} {ds : List D} (i : Nat), DenL C G vs ds → DenL C G (vs.set i v) (ds.set i d)
  | _, _, _, .nil => .nil
  | _, _, 0, .cons _ l => .cons h l
  | _, _, i + 1, .cons q l => .cons q (DenL.set h i l)
theorem DenL.append {C : Kc} {G : Hp} : ∀ {vs ws : List V} {ds es : List D}, DenL C G vs ds → DenL C G ws es → DenL C G (vs ++ ws) (ds ++ es)
  | _, _, _, _, .nil, s => s
  | _, _, _, _, .cons r t, s => .cons r (DenL.append t s)
theorem DenL.take {C : Kc} {G : Hp} : ∀ {vs : List V} {ds : List D} (n : Nat), DenL C G vs ds → DenL C G (vs.take n) (ds.take n)
  | _, _, 0, _ => .nil
  | _, _, _ + 1, .nil => .nil
  | _, _, n + 1, .cons r t => .cons r (DenL.take n t)
theorem DenL.drop {C : Kc} {G : Hp} : ∀ {vs : List V} {ds : List D} (n : Nat), DenL C G vs ds → DenL C G (vs.drop n) (ds.drop n)
  | _, _, 0, r => r
  | _, _, _ + 1, .nil => .nil
  | _, _, n + 1, .cons _ t => DenL.drop n t
theorem DenL.split {C : Kc} {G : Hp} : ∀ {vs : List V} {ds es : List D}, DenL C G vs (ds ++ es) → ∃ us ws, vs = us ++ ws ∧ DenL C G us ds ∧ DenL C G ws es
  | vs, [], es, h => ⟨[], vs, rfl, .nil, h⟩
  | _, d :: ds, es, .cons h l => by
    obtain ⟨us, ws, e, h1, h2⟩ := DenL.split (ds := ds) (es := es) l
    exact ⟨_ :: us, ws, by rw [e]; rfl, .cons h h1, h2⟩
theorem DenF.look {C : Kc} {G : Hp} {f : Str} : ∀ {vs : List (Str × V)} {ds : List (Str × D)} {d : D}, DenF C G vs ds → ds.lookup f = some d → ∃ v, vs.lookup f = some v ∧ Den C G v d
  | _, _, _, .nil, e => by simp at e
  | _, _, d, .cons (f := g) (v := v) h l, e => by
    rw [List.lookup_cons] at e ⊢
    cases q : (f == g) with
    | true => rw [q] at e; exact ⟨v, rfl, Option.some.inj e ▸ h⟩
    | false => rw [q] at e; exact DenF.look (d := d) l e
theorem DenF.lookN {C : Kc} {G : Hp} {f : Str} : ∀ {vs : List (Str × V)} {ds : List (Str × D)}, DenF C G vs ds → ds.lookup f = none → vs.lookup f = none
  | _, _, .nil, _ => rfl
  | _, _, .cons (f := g) h l, e => by
    rw [List.lookup_cons] at e ⊢
    cases q : (f == g) with
    | true => rw [q] at e; cases e
    | false => rw [q] at e; exact DenF.lookN l e
def putD (f : Str) (d : D) : List (Str × D) → List (Str × D)
  | [] => [(f, d)]
  | (g, x) :: r => if g = f then (g, d) :: r else (g, x) :: putD f d r
theorem DenF.put {C : Kc} {G : Hp} {f : Str} {v : V} {d : D} (h : Den C G v d) : ∀ {vs : List (Str × V)} {ds : List (Str × D)}, DenF C G vs ds → DenF C G (putF f v vs) (putD f d ds)
  | _, _, .nil => .cons h .nil
  | _, _, .cons (f := g) q l => by
    unfold putF putD
    by_cases e : g = f
    · rw [if_pos e, if_pos e]; exact .cons h l
    · rw [if_neg e, if_neg e]; exact .cons q (DenF.put h l)
theorem DenF.length {C : Kc} {G : Hp} : ∀ {vs : List (Str × V)} {ds : List (Str × D)}, DenF C G vs ds → vs.length = ds.length
  | _, _, .nil => rfl
  | _, _, .cons _ l => by rw [List.length_cons, List.length_cons, DenF.length l]

/-- what is known of a slot: data; a list of this body's own; the handed object -/
inductive DV where
  | imm (d : D) | own (ds : List D) | bag
/-- the handed object: a list, an instance -/
inductive BG where
  | lst (ds : List D) | ins (c : Nat) (fs : List (Str × D))
structure ST where
  s : List (Option DV)
  g : Option (Addr × BG)
def ST.set (S : ST) (i : Nat) (d : D) : ST := ⟨S.s.set i (some (.imm d)), S.g⟩
def ST.setO (S : ST) (i : Nat) (ds : List D) : ST := ⟨S.s.set i (some (.own ds)), S.g⟩
def ST.clr (S : ST) (i : Nat) : ST := ⟨S.s.set i none, S.g⟩

def BagOk (C : Kc) (G H : Hp) : Option (Addr × BG) → Prop
  | none => True
  | some (b, .lst ds) => G b = none ∧ ∃ vs, H b = some (.lst vs) ∧ DenL C G vs ds
  | some (b, .ins c fs) => G b = none ∧ ∃ dx vs, H b = some (.ins (C.cl c) dx vs) ∧ DenF C G vs fs

/-- the state: G a part of the heap H in which the data stand; what the slots hold -/
structure Ctx (C : Kc) (G H : Hp) (σ : L2.St) (S : ST) : Prop where
  sub : Same G H
  len : σ.length = S.s.length
  im : ∀ (i : Nat) d, S.s[i]? = some (some (.imm d)) → ∃ v, σ[i]? = some (some v) ∧ Den C G v d
  ow : ∀ (i : Nat) ds, S.s[i]? = some (some (.own ds)) → ∃ a vs, σ[i]? = some (some (.ref a)) ∧ G a = none ∧ H a = some (.lst vs) ∧ DenL C G vs ds
  apart : ∀ (i j : Nat) ds es a, S.s[i]? = some (some (.own ds)) → S.s[j]? = some (some (.own es)) → σ[i]? = some (some (.ref a)) → σ[j]? = some (some (.ref a)) → i = j
  bg : ∀ (i : Nat) b o, S.g = some (b, o) → S.s[i]? = some (some .bag) → σ[i]? = some (some (.ref b))
  bag : BagOk C G H S.g
  nob : ∀ (i : Nat) b o ds, S.g = some (b, o) → S.s[i]? = some (some (.own ds)) → σ[i]? ≠ some (some (.ref b))

/-- the addresses that this body may change -/
def OA (C : Kc) (σ : L2.St) (S : ST) (a : Addr) : Prop := (∃ (i : Nat) (ds : List D), S.s[i]? = some (some (.own ds)) ∧ σ[i]? = some (some (.ref a))) ∨ ∃ o, S.g = some (a, o)

structure Go (A : Addr → Prop) (G H G2 H2 : Hp) : Prop where
  keep : ∀ a o, ¬ A a → H a = some o → H2 a = some o
  gg : Same G G2
  fr : ∀ a, ¬ A a → H a ≠ none → G a = none → G2 a = none
  dom : ∀ a, H a ≠ none → H2 a ≠ none
theorem same_dom {H H2 : Hp} (k : Same H H2) : ∀ a, H a ≠ none → H2 a ≠ none := fun a h => by
  cases q : H a with
  | none => exact absurd q h
  | some o => rw [k a o q]; simp
theorem Go.refl {A : Addr → Prop} {G H : Hp} : Go A G H G H := ⟨fun _ _ _ h => h, fun _ _ h => h, fun _ _ _ h => h, fun _ h => h⟩
theorem Go.trans {A A2 : Addr → Prop} {G H G1 H1 G2 H2 : Hp} (a : Go A G H G1 H1) (b : Go A2 G1 H1 G2 H2) (h : ∀ x, A2 x → A x ∨ H x = none) : Go A G H G2 H2 where
  keep := fun x o n e => b.keep x o (fun z => (h x z).elim n fun q => by rw [q] at e; cases e) (a.keep x o n e)
  gg := a.gg.trans b.gg
  fr := fun x n e g => by
    cases q : H x with
    | none => exact absurd q e
    | some o => exact b.fr x (fun z => (h x z).elim n fun q' => by rw [q'] at q; cases q) (by rw [a.keep x o n q]; simp) (a.fr x n e g)
  dom := fun x h => b.dom x (a.dom x h)
theorem Go.mono {A A2 : Addr → Prop} {G H G2 H2 : Hp} (a : Go A G H G2 H2) (h : ∀ x, A x → A2 x) : Go A2 G H G2 H2 := ⟨fun x o n => a.keep x o fun z => n (h x z), a.gg, fun x n => a.fr x fun z => n (h x z), a.dom⟩

/-- a move that stores no name -/
structure Mv (C : Kc) (σ : L2.St) (S : ST) (G H : Hp) (S2 : ST) (G2 H2 : Hp) : Prop where
  go : Go (OA C σ S) G H G2 H2
  cx : Ctx C G2 H2 σ S2
  oa : ∀ a, OA C σ S2 a → OA C σ S a
theorem Mv.trans {C : Kc} {σ : L2.St} {S S1 S2 : ST} {G H G1 H1 G2 H2 : Hp} (a : Mv C σ S G H S1 G1 H1) (b : Mv C σ S1 G1 H1 S2 G2 H2) : Mv C σ S G H S2 G2 H2 :=
  ⟨a.go.trans b.go fun x z => .inl (a.oa x z), b.cx, fun x z => a.oa x (b.oa x z)⟩
theorem Mv.refl {C : Kc} {σ : L2.St} {S : ST} {G H : Hp} (c : Ctx C G H σ S) : Mv C σ S G H S G H := ⟨.refl, c, fun _ z => z⟩

/-- nothing of ours is changed, the data part grows -/
theorem Ctx.step {C : Kc} {G H G2 H2 : Hp} {σ : L2.St} {S : ST} (c : Ctx C G H σ S) (k : Same H H2) (gg : Same G G2) (sub : Same G2 H2) (fr : ∀ a, H a ≠ none → G a = none → G2 a = none) : Ctx C G2 H2 σ S where
  sub := sub
  len := c.len
  im := fun i d h => let ⟨v, h1, h2⟩ := c.im i d h; ⟨v, h1, h2.mono gg⟩
  ow := fun i ds h => let ⟨a, vs, h1, h2, h3, h4⟩ := c.ow i ds h; ⟨a, vs, h1, fr a (by rw [h3]; simp) h2, k _ _ h3, h4.mono gg⟩
  apart := c.apart
  bg := c.bg
  bag := by
    have z := c.bag
    cases q : S.g with
    | none => trivial
    | some bo =>
      obtain ⟨b, o⟩ := bo
      rw [q] at z
      cases o with
      | lst ds => obtain ⟨h1, vs, h2, h3⟩ := z; exact ⟨fr _ (by rw [h2]; simp) h1, vs, k _ _ h2, h3.mono gg⟩
      | ins cc fs => obtain ⟨h1, dx, vs, h2, h3⟩ := z; exact ⟨fr _ (by rw [h2]; simp) h1, dx, vs, k _ _ h2, h3.mono gg⟩
  nob := c.nob
theorem Ctx.mv {C : Kc} {G H G2 H2 : Hp} {σ : L2.St} {S : ST} (c : Ctx C G H σ S) (k : Same H H2) (gg : Same G G2) (sub : Same G2 H2) (fr : ∀ a, H a ≠ none → G a = none → G2 a = none) : Mv C σ S G H S G2 H2 :=
  ⟨⟨fun a o _ h => k a o h, gg, fun a _ h1 h2 => fr a h1 h2, same_dom k⟩, c.step k gg sub fr, fun _ z => z⟩
/-- a new object, data -/
theorem Ctx.new {C : Kc} {G H : Hp} {σ : L2.St} {S : ST} {p : Addr} {o : HO} (c : Ctx C G H σ S) (hp : H p = none) : Mv C σ S G H S (upd G p o) (upd H p o) := by
  have gp : G p = none := c.sub.free hp
  refine c.mv (fun a u h => ?_) (fun a u h => ?_) (fun a u h => ?_) (fun a h1 h2 => ?_)
  · rw [upd_ne (ne_of_none h hp)]; exact h
  · rw [upd_ne (ne_of_none h gp)]; exact h
  · by_cases e : a = p
    · subst e; rw [upd_same] at h ⊢; exact h
    · rw [upd_ne e] at h ⊢; exact c.sub _ _ h
  · have e : a ≠ p := fun z => h1 (by rw [z]; exact hp)
    rw [upd_ne e]; exact h2

def EvM (C : Kc) (te : TE) (S S' : ST) (d : D) : Prop :=
  ∀ σ G H, Ctx C G H σ S → ∀ Q : VK, (∀ v G2 H2, Mv C σ S G H S' G2 H2 → Den C G2 v d → Q v H2) → te σ H Q
def EvT (C : Kc) (tt : TT) (S S' : ST) (b : Bool) : Prop :=
  ∀ σ G H, Ctx C G H σ S → ∀ Q : Bool → Hp → Prop, (∀ G2 H2, Mv C σ S G H S' G2 H2 → Q b H2) → tt σ H Q
def EvA (C : Kc) (ta : TA) (S S' : ST) (ds : List D) : Prop :=
  ∀ σ G H, Ctx C G H σ S → ∀ Q : List V → Hp → Prop, (∀ vs G2 H2, Mv C σ S G H S' G2 H2 → DenL C G2 vs ds → Q vs H2) → ta σ H Q
/-- a new list of its own, handed to nobody yet -/
def EvO (C : Kc) (te : TE) (S S' : ST) (ds : List D) : Prop :=
  ∀ σ G H, Ctx C G H σ S → ∀ Q : VK, (∀ p vs G2 H2, Mv C σ S G H S' G2 H2 → H p = none → G2 p = none → H2 p = some (.lst vs) → DenL C G2 vs ds → Q (.ref p) H2) → te σ H Q

/-- a move that may store names -/
structure Mw (C : Kc) (σ : L2.St) (S : ST) (G H : Hp) (σ2 : L2.St) (S2 : ST) (G2 H2 : Hp) : Prop where
  go : Go (OA C σ S) G H G2 H2
  cx : Ctx C G2 H2 σ2 S2
  oa : ∀ a, OA C σ2 S2 a → OA C σ S a ∨ H a = none
theorem Mw.trans {C : Kc} {σ σ1 σ2 : L2.St} {S S1 S2 : ST} {G H G1 H1 G2 H2 : Hp} (a : Mw C σ S G H σ1 S1 G1 H1) (b : Mw C σ1 S1 G1 H1 σ2 S2 G2 H2) : Mw C σ S G H σ2 S2 G2 H2 :=
  ⟨a.go.trans b.go a.oa, b.cx, fun x z => by
    rcases b.oa x z with q | q
    · exact a.oa x q
    · by_cases n : OA C σ S x
      · exact .inl n
      · refine .inr ?_
        cases r : H x with
        | none => rfl
        | some o => rw [a.go.keep x o n r] at q; cases q⟩
theorem Mw.refl {C : Kc} {σ : L2.St} {S : ST} {G H : Hp} (c : Ctx C G H σ S) : Mw C σ S G H σ S G H := ⟨.refl, c, fun _ z => .inl z⟩
theorem Mv.mw {C : Kc} {σ : L2.St} {S S2 : ST} {G H G2 H2 : Hp} (a : Mv C σ S G H S2 G2 H2) : Mw C σ S G H σ S2 G2 H2 := ⟨a.go, a.cx, fun x z => .inl (a.oa x z)⟩

/-- what is wanted behind statements, of data -/
structure Po where
  nx : ST → Prop := fun _ => False
  rt : D → ST → Prop := fun _ _ => False
  bk : ST → Prop := fun _ => False
  ct : ST → Prop := fun _ => False
  ro : List D → ST → Prop := fun _ _ => False
structure Meets (C : Kc) (P : Po) (σ : L2.St) (S : ST) (G H : Hp) (E : Ends) : Prop where
  nx : ∀ σ2 S2 G2 H2, Mw C σ S G H σ2 S2 G2 H2 → P.nx S2 → E.nx σ2 H2
  rt : ∀ v d σ2 S2 G2 H2, Mw C σ S G H σ2 S2 G2 H2 → Den C G2 v d → P.rt d S2 → E.rt v H2
  bk : ∀ σ2 S2 G2 H2, Mw C σ S G H σ2 S2 G2 H2 → P.bk S2 → E.bk σ2 H2
  ct : ∀ σ2 S2 G2 H2, Mw C σ S G H σ2 S2 G2 H2 → P.ct S2 → E.ct σ2 H2
  ro : ∀ p ev es σ2 S2 G2 H2, Mw C σ S G H σ2 S2 G2 H2 → H p = none → G2 p = none → H2 p = some (.lst ev) → DenL C G2 ev es → P.ro es S2 → E.rt (.ref p) H2
theorem back_none {A : Addr → Prop} {G H G2 H2 : Hp} (g : Go A G H G2 H2) {p : Addr} (h : H2 p = none) : H p = none := by
  cases r : H p with
  | none => rfl
  | some o => exact absurd h (g.dom p (by rw [r]; simp))
theorem Meets.move {C : Kc} {P : Po} {σ σ1 : L2.St} {S S1 : ST} {G H G1 H1 : Hp} {E : Ends} (m : Meets C P σ S G H E) (a : Mw C σ S G H σ1 S1 G1 H1) : Meets C P σ1 S1 G1 H1 E :=
  ⟨fun σ2 S2 G2 H2 b h => m.nx _ _ _ _ (a.trans b) h, fun v d σ2 S2 G2 H2 b q h => m.rt v d _ _ _ _ (a.trans b) q h, fun σ2 S2 G2 H2 b h => m.bk _ _ _ _ (a.trans b) h, fun σ2 S2 G2 H2 b h => m.ct _ _ _ _ (a.trans b) h, fun p ev es σ2 S2 G2 H2 b h1 h2 h3 h4 h => m.ro p ev es _ _ _ _ (a.trans b) (back_none a.go h1) h2 h3 h4 h⟩
def SD (C : Kc) (ts : TS) (S : ST) (P : Po) : Prop := ∀ σ G H, Ctx C G H σ S → ∀ E : Ends, Meets C P σ S G H E → ts E σ H

/-- storing data into a slot -/
theorem Ctx.store {C : Kc} {G H : Hp} {σ : L2.St} {S : ST} {i : Nat} {v : V} {d : D} (c : Ctx C G H σ S) (h : Den C G v d) : Mw C σ S G H (σ.set i (some v)) (S.set i d) G H := by
  refine ⟨.refl, ⟨c.sub, by simp [ST.set, c.len], fun j e q => ?_, fun j e q => ?_, fun j k ds es a q1 q2 q3 q4 => ?_, fun j b o hg q => ?_, c.bag, fun j b o ds q q2 => ?_⟩, fun a z => ?_⟩
  · by_cases ij : i = j
    · subst ij
      have hl : i < S.s.length := by
        rcases Nat.lt_or_ge i S.s.length with z | z
        · exact z
        · rw [ST.set, List.getElem?_eq_none (by simpa using z)] at q; cases q
      rw [ST.set, List.getElem?_set_self hl] at q
      cases q
      exact ⟨v, List.getElem?_set_self (by rw [c.len]; exact hl), h⟩
    · rw [ST.set, List.getElem?_set_ne ij] at q
      rw [List.getElem?_set_ne ij]
      exact c.im j e q
  · by_cases ij : i = j
    · subst ij
      rcases Nat.lt_or_ge i S.s.length with z | z
      · rw [ST.set, List.getElem?_set_self z] at q; cases q
      · rw [ST.set, List.getElem?_eq_none (by simpa using z)] at q; cases q
    · rw [ST.set, List.getElem?_set_ne ij] at q
      rw [List.getElem?_set_ne ij]
      exact c.ow j e q
  · have key : ∀ (j : Nat) ds, (S.set i d).s[j]? = some (some (DV.own ds)) → i ≠ j ∧ S.s[j]? = some (some (DV.own ds)) := fun j ds q => by
      by_cases ij : i = j
      · subst ij
        rcases Nat.lt_or_ge i S.s.length with z | z
        · rw [ST.set, List.getElem?_set_self z] at q; cases q
        · rw [ST.set, List.getElem?_eq_none (by simpa using z)] at q; cases q
      · rw [ST.set, List.getElem?_set_ne ij] at q; exact ⟨ij, q⟩
    obtain ⟨n1, k1⟩ := key j ds q1
    obtain ⟨n2, k2⟩ := key k es q2
    rw [List.getElem?_set_ne n1] at q3
    rw [List.getElem?_set_ne n2] at q4
    exact c.apart j k ds es a k1 k2 q3 q4
  · by_cases ij : i = j
    · subst ij
      rcases Nat.lt_or_ge i S.s.length with z | z
      · rw [ST.set, List.getElem?_set_self z] at q; cases q
      · rw [ST.set, List.getElem?_eq_none (by simpa using z)] at q; cases q
    · rw [ST.set, List.getElem?_set_ne ij] at q
      rw [List.getElem?_set_ne ij]
      exact c.bg j b o hg q
  · by_cases ij : i = j
    · subst ij
      rcases Nat.lt_or_ge i S.s.length with z | z
      · rw [ST.set, List.getElem?_set_self z] at q2; cases q2
      · rw [ST.set, List.getElem?_eq_none (by simpa using z)] at q2; cases q2
    · rw [ST.set, List.getElem?_set_ne ij] at q2
      rw [List.getElem?_set_ne ij]
      exact c.nob j b o ds q q2
  · rcases z with ⟨j, ds, q1, q2⟩ | z
    · have ij : i ≠ j := fun ij => by
        subst ij
        rcases Nat.lt_or_ge i S.s.length with z | z
        · rw [ST.set, List.getElem?_set_self z] at q1; cases q1
        · rw [ST.set, List.getElem?_eq_none (by simpa using z)] at q1; cases q1
      rw [ST.set, List.getElem?_set_ne ij] at q1
      rw [List.getElem?_set_ne ij] at q2
      exact .inl (.inl ⟨j, ds, q1, q2⟩)
    · exact .inl (.inr z)
end DL
/-! DL2: judgements over the text: DE, DT, DA (expressions, tests, arguments), DS (statements), over a family of contexts. -/
namespace DL
open PySem L2

structure Fam where
  I : Type
  X : I → Cx
  P : Program
  w : World
  C : Kc
  mg : Str → Option Value
  base : Heap
  N : List Str
  k : Nat
  hP : ∀ i, (X i).prog = P
  hw : ∀ i, (X i).w = w
  hK : ∀ i, (X i).K = C.K
  hmg : ∀ i, (X i).mg = mg
  hbase : ∀ i, (X i).base = base
  hN : ∀ i, (X i).N = N
  nd : N.Nodup
  room : ∀ i, Room k (X i).A
  calm : ∀ i, (X i).calm = true

def anyE (F : Fam) (e : Expr) : TE := fun σ H Q => ∃ te, (∀ i, PE (F.X i) e te) ∧ te σ H Q
def anyT (F : Fam) (e : Expr) : TT := fun σ H Q => ∃ te, (∀ i, PT (F.X i) e te) ∧ te σ H Q
def anyW (F : Fam) (e : Expr) : TT := fun σ H Q => ∃ te, (∀ i, PW (F.X i) e te) ∧ te σ H Q
def anyA (F : Fam) (e : List Expr) : TA := fun σ H Q => ∃ te, (∀ i, PA (F.X i) e te) ∧ te σ H Q
def anyK (F : Fam) (e : List Keyword) : TA := fun σ H Q => ∃ te, (∀ i, PK (F.X i) e te) ∧ te σ H Q
def any1 (F : Fam) (e : Stmt) : TS := fun E σ H => ∃ te, (∀ i, PS (F.X i) e te) ∧ te E σ H
def anyS (F : Fam) (e : List Stmt) : TS := fun E σ H => ∃ te, (∀ i, PSs (F.X i) e te) ∧ te E σ H
theorem anyE_ok {F : Fam} {e : Expr} (i : F.I) : PE (F.X i) e (anyE F e) := ⟨fun pins s σ H Q I h => let ⟨te, h1, h2⟩ := h; (h1 i).run pins s σ H Q I h2⟩
theorem anyT_ok {F : Fam} {e : Expr} (i : F.I) : PT (F.X i) e (anyT F e) := ⟨fun pins s σ H Q I h => let ⟨te, h1, h2⟩ := h; (h1 i).run pins s σ H Q I h2⟩
theorem anyW_ok {F : Fam} {e : Expr} (i : F.I) : PW (F.X i) e (anyW F e) := ⟨fun wh pins s σ H Q I h => let ⟨te, h1, h2⟩ := h; (h1 i).run wh pins s σ H Q I h2⟩
theorem anyA_ok {F : Fam} {e : List Expr} (i : F.I) : PA (F.X i) e (anyA F e) := ⟨fun pos pins s σ H Q I h => let ⟨te, h1, h2⟩ := h; (h1 i).run pos pins s σ H Q I h2⟩
theorem anyK_ok {F : Fam} {e : List Keyword} (i : F.I) : PK (F.X i) e (anyK F e) := ⟨fun pos pins s σ H Q I h => let ⟨te, h1, h2⟩ := h; (h1 i).run pos pins s σ H Q I h2⟩
theorem any1_ok {F : Fam} {e : Stmt} (i : F.I) : PS (F.X i) e (any1 F e) := ⟨fun pins s σ H Q I h => let ⟨te, h1, h2⟩ := h; (h1 i).run pins s σ H Q I h2⟩
theorem anyS_ok {F : Fam} {e : List Stmt} (i : F.I) : PSs (F.X i) e (anyS F e) := ⟨fun pins s σ H Q I h => let ⟨te, h1, h2⟩ := h; (h1 i).run pins s σ H Q I h2⟩

def DE (F : Fam) (e : Expr) (S S' : ST) (d : D) : Prop := EvM F.C (anyE F e) S S' d
def DT (F : Fam) (e : Expr) (S S' : ST) (b : Bool) : Prop := EvT F.C (anyT F e) S S' b
def DW (F : Fam) (e : Expr) (S S' : ST) (b : Bool) : Prop := EvT F.C (anyW F e) S S' b
def DA (F : Fam) (e : List Expr) (S S' : ST) (ds : List D) : Prop := EvA F.C (anyA F e) S S' ds
def DK (F : Fam) (e : List Keyword) (S S' : ST) (ds : List D) : Prop := EvA F.C (anyK F e) S S' ds
def DO (F : Fam) (e : Expr) (S S' : ST) (ds : List D) : Prop := EvO F.C (anyE F e) S S' ds
def D1 (F : Fam) (e : Stmt) (S : ST) (P : Po) : Prop := SD F.C (any1 F e) S P
def DS (F : Fam) (e : List Stmt) (S : ST) (P : Po) : Prop := SD F.C (anyS F e) S P

section
variable {F : Fam} {S S1 S2 S3 : ST} {e a b : Expr} {d x y z : D} {pos : Pos} {P : Po}
theorem de_of {te : TE} (h : ∀ i, PE (F.X i) e te) (v : EvM F.C te S S' d) : DE F e S S' d := fun σ G H c Q q => ⟨te, h, v σ G H c Q q⟩
theorem dt_of {te : TT} {b : Bool} (h : ∀ i, PT (F.X i) e te) (v : EvT F.C te S S' b) : DT F e S S' b := fun σ G H c Q q => ⟨te, h, v σ G H c Q q⟩
theorem dw_of {te : TT} {b : Bool} (h : ∀ i, PW (F.X i) e te) (v : EvT F.C te S S' b) : DW F e S S' b := fun σ G H c Q q => ⟨te, h, v σ G H c Q q⟩
theorem da_of {es : List Expr} {te : TA} {ds : List D} (h : ∀ i, PA (F.X i) es te) (v : EvA F.C te S S' ds) : DA F es S S' ds := fun σ G H c Q q => ⟨te, h, v σ G H c Q q⟩
theorem dk_of {es : List Keyword} {te : TA} {ds : List D} (h : ∀ i, PK (F.X i) es te) (v : EvA F.C te S S' ds) : DK F es S S' ds := fun σ G H c Q q => ⟨te, h, v σ G H c Q q⟩
theorem do_of {te : TE} {ds : List D} (h : ∀ i, PE (F.X i) e te) (v : EvO F.C te S S' ds) : DO F e S S' ds := fun σ G H c Q q => ⟨te, h, v σ G H c Q q⟩
theorem d1_of {st : Stmt} {te : TS} (h : ∀ i, PS (F.X i) st te) (v : SD F.C te S P) : D1 F st S P := fun σ G H c E m => ⟨te, h, v σ G H c E m⟩
theorem ds_of {st : List Stmt} {te : TS} (h : ∀ i, PSs (F.X i) st te) (v : SD F.C te S P) : DS F st S P := fun σ G H c E m => ⟨te, h, v σ G H c E m⟩

/-- the data part grows, nothing tracked changes -/
structure Pu (G H G2 H2 : Hp) : Prop where
  hh : Same H H2
  gg : Same G G2
  sub : Same G2 H2
  fr : ∀ a, H a ≠ none → G a = none → G2 a = none
theorem Pu.refl {G H : Hp} (s : Same G H) : Pu G H G H := ⟨fun _ _ h => h, fun _ _ h => h, s, fun _ _ h => h⟩
theorem Pu.trans {G H G1 H1 G2 H2 : Hp} (a : Pu G H G1 H1) (b : Pu G1 H1 G2 H2) : Pu G H G2 H2 :=
  ⟨a.hh.trans b.hh, a.gg.trans b.gg, b.sub, fun x h1 h2 => by
    cases q : H x with
    | none => exact absurd q h1
    | some o => exact b.fr x (by rw [a.hh x o q]; simp) (a.fr x h1 h2)⟩
theorem Pu.new {G H : Hp} {p : Addr} {o : HO} (s : Same G H) (hp : H p = none) : Pu G H (upd G p o) (upd H p o) := by
  have gp : G p = none := s.free hp
  refine ⟨fun a u h => ?_, fun a u h => ?_, fun a u h => ?_, fun a h1 h2 => ?_⟩
  · rw [upd_ne (ne_of_none h hp)]; exact h
  · rw [upd_ne (ne_of_none h gp)]; exact h
  · by_cases e : a = p
    · subst e; rw [upd_same] at h ⊢; exact h
    · rw [upd_ne e] at h ⊢; exact s _ _ h
  · have e : a ≠ p := fun z => h1 (by rw [z]; exact hp)
    rw [upd_ne e]; exact h2
theorem Ctx.pu {C : Kc} {G H G2 H2 : Hp} {σ : L2.St} {S : ST} (c : Ctx C G H σ S) (p : Pu G H G2 H2) : Mv C σ S G H S G2 H2 := c.mv p.hh p.gg p.sub p.fr
theorem Mv.pu {C : Kc} {G H G1 H1 G2 H2 : Hp} {σ : L2.St} {S S1 : ST} (m : Mv C σ S G H S1 G1 H1) (p : Pu G1 H1 G2 H2) : Mv C σ S G H S1 G2 H2 := m.trans (m.cx.pu p)

/-- a two-place operation by its reading, on data -/
def RD (C : Kc) (r : R2) (x y z : D) : Prop := ∀ G H u v, Same G H → Den C G u x → Den C G v y → ∀ Q : VK, (∀ w G2 H2, Pu G H G2 H2 → Den C G2 w z → Q w H2) → r u v H Q
def RD1 (C : Kc) (r : V → Hp → VK → Prop) (x z : D) : Prop := ∀ G H u, Same G H → Den C G u x → ∀ Q : VK, (∀ w G2 H2, Pu G H G2 H2 → Den C G2 w z → Q w H2) → r u H Q
def RDL (C : Kc) (r : List V → Hp → VK → Prop) (xs : List D) (z : D) : Prop := ∀ G H us, Same G H → DenL C G us xs → ∀ Q : VK, (∀ w G2 H2, Pu G H G2 H2 → Den C G2 w z → Q w H2) → r us H Q

/-! ### names and constants -/
theorem de_var {j : Nat} {x : Str} (h : S.s[j]? = some (some (.imm d))) (hN : ∀ i, (F.X i).N[j]? = some x := by intro _; rfl)
    (hv : ∀ i, Vis (F.X i).env.scope x := by intro _; first | exact Or.inl rfl | exact Or.inr (Or.inl rfl) | exact Or.inr (Or.inr rfl))
    (hd : (x == ("__debug__" : Str)) = false := by decide) (hcd : (x == ("__classdict__" : Str)) = false := by decide) : DE F (.Name x pos) S S d :=
  de_of (fun i => pe_var (hN i) (hv i) hd hcd) fun σ G H c Q q => by
    obtain ⟨v, h1, h2⟩ := c.im j d h
    exact ⟨v, h1, q v G H (.refl c) h2⟩
theorem de_int {i : Int} {k : Nat} : DE F (.Constant (.int i) k pos) S S (.int i) := de_of (fun _ => pe_int) fun _ _ _ c _ q => q _ _ _ (.refl c) (.int i)
theorem de_bl {i : Bool} {k : Nat} : DE F (.Constant (.bool i) k pos) S S (.bl i) := de_of (fun _ => pe_bl) fun _ _ _ c _ q => q _ _ _ (.refl c) (.bl i)
theorem de_non {k : Nat} : DE F (.Constant .none k pos) S S .non := de_of (fun _ => pe_non) fun _ _ _ c _ q => q _ _ _ (.refl c) .non
theorem de_str {i : Str} {k : Nat} : DE F (.Constant (.str i) k pos) S S (.str i) := de_of (fun _ => pe_str) fun _ _ _ c _ q => q _ _ _ (.refl c) (.str i)
/-- a module's constant -/
theorem de_glob {x : Str} {v : V} {u : Value} (hm : F.mg x = some u) (r : RelV v u) (hd : ∀ G, Den F.C G v d) (hg : ∀ i, Gl (F.X i) x := by intro _; rfl) (hb : (x == ("__debug__" : Str)) = false := by decide) : DE F (.Name x pos) S S d :=
  de_of (fun i => pe_glob (hg i) (by rw [F.hmg i]; exact hm) r hb) fun _ G _ c _ q => q _ _ _ (.refl c) (hd G)
theorem de_bltn {x : Str} {v : V} {u : Value} (hm : F.mg x = none) (hv : bootBuiltins x = some u) (r : RelV v u) (hg : ∀ i, Gl (F.X i) x := by intro _; rfl) (hn : x ≠ "__name__" := by decide) (hb : (x == ("__debug__" : Str)) = false := by decide) : DE F (.Name x pos) S S (.cst v) :=
  de_of (fun i => pe_bltn (hg i) (by rw [F.hmg i]; exact hm) hv r hn hb) fun _ G _ c _ q => q _ _ _ (.refl c) (.cst v)
theorem de_is {d' : D} (h : DE F e S S1 d) (q : d = d') : DE F e S S1 d' := q ▸ h
theorem dt_is {b b' : Bool} (h : DT F e S S1 b) (q : b = b') : DT F e S S1 b' := q ▸ h

/-! ### operators -/
def OpD (F : Fam) (f : Value → Value → Sem Value) (x y z : D) : Prop := ∃ r, (∀ i, OpR (F.X i) f r) ∧ RD F.C r x y z
def UnD (F : Fam) (f : Value → Sem Value) (x z : D) : Prop := ∃ r, (∀ i, UnR (F.X i) f r) ∧ RD1 F.C r x z
theorem ev_op {C : Kc} {r : R2} {ta tb : TE} (hr : RD C r x y z) (ha : EvM C ta S S1 x) (hb : EvM C tb S1 S2 y) : EvM C (tOp r ta tb) S S2 z := fun σ G H c Q q =>
  ha σ G H c _ fun u G1 H1 m1 d1 => hb σ G1 H1 m1.cx _ fun v G2 H2 m2 d2 => hr G2 H2 u v m2.cx.sub (d1.mono m2.go.gg) d2 Q fun w G3 H3 p d3 => q w G3 H3 ((m1.trans m2).pu p) d3
theorem de_op {op : Operator} (ha : DE F a S S1 x) (hb : DE F b S1 S2 y) (hr : OpD F (binaryOp op) x y z) : DE F (.BinOp a op b pos) S S2 z := by
  obtain ⟨r, h1, h2⟩ := hr
  exact de_of (fun i => pe_op (h1 i) (anyE_ok i) (anyE_ok i)) (ev_op h2 ha hb)
theorem de_un {op : UnaryOp} (ha : DE F a S S1 x) (hr : UnD F (unaryOp op) x z) : DE F (.UnaryOp op a pos) S S1 z := by
  obtain ⟨r, h1, h2⟩ := hr
  exact de_of (fun i => pe_un (h1 i) (anyE_ok i)) fun σ G H c Q q => ha σ G H c _ fun u G1 H1 m1 d1 => h2 G1 H1 u m1.cx.sub d1 Q fun w G2 H2 p d2 => q w G2 H2 (m1.pu p) d2
theorem de_cmp {op : CmpOp} (ha : DE F a S S1 x) (hb : DE F b S1 S2 y) (hr : OpD F (compareOp op) x y z) (hm : behindInMarks op b = false := by first | exact nomark _ | rfl) : DE F (.Compare a [op] [b] pos) S S2 z := by
  obtain ⟨r, h1, h2⟩ := hr
  exact de_of (fun i => pe_cmpR (h1 i) (anyE_ok i) (anyE_ok i) hm) (ev_op h2 ha hb)
theorem dt_cmp {op : CmpOp} {k : Bool} (ha : DE F a S S1 x) (hb : DE F b S1 S2 y) (hr : OpD F (compareOp op) x y (.bl k)) (hm : behindInMarks op b = false := by first | exact nomark _ | rfl) : DT F (.Compare a [op] [b] pos) S S2 k := by
  obtain ⟨r, h1, h2⟩ := hr
  refine dt_of (fun i => pt_cmpR (h1 i) (anyE_ok i) (anyE_ok i) hm) fun σ G H c Q q => ?_
  refine ev_op h2 ha hb σ G H c _ fun v G2 H2 m d => ?_
  cases d with
  | bl => exact ⟨k, rfl, q G2 H2 m⟩
/-- a < b < c -/
theorem de_chain {op op' : CmpOp} {c : Expr} {w : D} {k l : Bool} (ha : DE F a S S1 x) (hb : DE F b S1 S2 y) (hc : k = true → DE F c S2 S3 w) (hr : OpD F (compareOp op) x y (.bl k)) (hr' : k = true → OpD F (compareOp op') y w (.bl l)) (h0 : k = false → S2 = S3 := by intro _; rfl) (hm : lastMarks [op, op'] [b, c] = false := by with_unfolding_all rfl) : DE F (.Compare a [op, op'] [b, c] pos) S S3 (.bl (k && l)) := by
  obtain ⟨r, h1, h2⟩ := hr
  cases k with
  | true =>
    obtain ⟨r', h1', h2'⟩ := hr' rfl
    refine de_of (fun i => pe_chain (h1 i) (h1' i) (anyE_ok i) (anyE_ok i) (anyE_ok i) (hm := hm)) fun σ G H c' Q q => ?_
    refine ha σ G H c' _ fun u G1 H1 m1 d1 => hb σ G1 H1 m1.cx _ fun v G2 H2 m2 d2 => h2 G2 H2 u v m2.cx.sub (d1.mono m2.go.gg) d2 _ fun t G3 H3 p d3 => ?_
    cases d3 with
    | bl =>
      refine ⟨true, rfl, ?_⟩
      rw [if_pos rfl]
      have m3 := (m1.trans m2).pu p
      refine hc rfl σ G3 H3 m3.cx _ fun t' G4 H4 m4 d4 => h2' G4 H4 v t' m4.cx.sub ((d2.mono p.gg).mono m4.go.gg) d4 _ fun w5 G5 H5 p5 d5 => ?_
      exact q _ _ _ ((m3.trans m4).pu p5) d5
  | false =>
    cases h0 rfl
    refine de_of (fun i => pe_chain (h1 i) (fun _ _ _ _ _ _ _ _ _ _ _ _ z => False.elim z : OpR (F.X i) (compareOp op') fun _ _ _ _ => False) (anyE_ok i) (anyE_ok i) (anyE_ok i) (hm := hm)) fun σ G H c' Q q => ?_
    refine ha σ G H c' _ fun u G1 H1 m1 d1 => hb σ G1 H1 m1.cx _ fun v G2 H2 m2 d2 => h2 G2 H2 u v m2.cx.sub (d1.mono m2.go.gg) d2 _ fun t G3 H3 p d3 => ?_
    cases d3 with
    | bl =>
      refine ⟨false, rfl, ?_⟩
      rw [if_neg Bool.false_ne_true]
      exact q _ _ _ ((m1.trans m2).pu p) (.bl false)

theorem rd_I0 {C : Kc} {g : Int → Int → V} {i j : Int} {z : D} (h : ∀ G, Den C G (g i j) z) : RD C (rI0 g) (.int i) (.int j) z := fun G H u v s hu hv Q q => by
  cases hu; cases hv
  exact ⟨i, j, rfl, rfl, q _ _ _ (.refl s) (h G)⟩
theorem rd_I {C : Kc} {c : Int → Int → Prop} {g : Int → Int → V} {i j : Int} {z : D} (hc : c i j) (h : ∀ G, Den C G (g i j) z) : RD C (rI c g) (.int i) (.int j) z := fun G H u v s hu hv Q q => by
  cases hu; cases hv
  exact ⟨i, j, rfl, rfl, hc, q _ _ _ (.refl s) (h G)⟩
theorem od_add {i j : Int} : OpD F (binaryOp .Add) (.int i) (.int j) (.int (i + j)) := ⟨_, fun _ => op_add, rd_I0 fun _ => .int _⟩
theorem od_sub {i j : Int} : OpD F (binaryOp .Sub) (.int i) (.int j) (.int (i - j)) := ⟨_, fun _ => op_sub, rd_I0 fun _ => .int _⟩
theorem od_mul {i j : Int} (h : CMul i j) : OpD F (binaryOp .Mult) (.int i) (.int j) (.int (i * j)) := ⟨_, fun _ => op_mul, rd_I h fun _ => .int _⟩
theorem od_fdiv {i j : Int} (h : CDiv i j) : OpD F (binaryOp .FloorDiv) (.int i) (.int j) (.int (i / j)) := ⟨_, fun _ => op_fdiv, rd_I h fun _ => .int _⟩
theorem od_mod {i j : Int} (h : 0 < j) : OpD F (binaryOp .Mod) (.int i) (.int j) (.int (i % j)) := ⟨_, fun _ => op_mod, rd_I h fun _ => .int _⟩
theorem od_pow {i j : Int} (h : CPow i j) : OpD F (binaryOp .Pow) (.int i) (.int j) (.int (i ^ j.toNat)) := ⟨_, fun _ => op_pow, rd_I h fun _ => .int _⟩
theorem od_lt {i j : Int} : OpD F (compareOp .Lt) (.int i) (.int j) (.bl (decide (i < j))) := ⟨_, fun _ => op_lt, rd_I0 fun _ => .bl _⟩
theorem od_le {i j : Int} : OpD F (compareOp .LtE) (.int i) (.int j) (.bl (decide (i ≤ j))) := ⟨_, fun _ => op_le, rd_I0 fun _ => .bl _⟩
theorem od_gt {i j : Int} : OpD F (compareOp .Gt) (.int i) (.int j) (.bl (decide (j < i))) := ⟨_, fun _ => op_gt, rd_I0 fun _ => .bl _⟩
theorem od_ge {i j : Int} : OpD F (compareOp .GtE) (.int i) (.int j) (.bl (decide (j ≤ i))) := ⟨_, fun _ => op_ge, rd_I0 fun _ => .bl _⟩
theorem ud_neg {i : Int} : UnD F (unaryOp .USub) (.int i) (.int (-i)) := ⟨_, fun _ => un_neg, fun G H u s hu Q q => by
  cases hu
  exact ⟨i, rfl, q _ _ _ (.refl s) (.int _)⟩⟩
theorem od_eqI {i j : Int} : OpD F (compareOp .Eq) (.int i) (.int j) (.bl (decide (i = j))) := ⟨_, fun _ => op_eq, fun G H u v s hu hv Q q => by
  cases hu; cases hv
  refine ⟨rfl, ?_⟩
  have e : decide (V.int i = V.int j) = decide (i = j) := by rw [dec_int]; by_cases h : i = j <;> simp [h]
  rw [e]
  exact q _ _ _ (.refl s) (.bl _)⟩
theorem od_neI {i j : Int} : OpD F (compareOp .NotEq) (.int i) (.int j) (.bl (!decide (i = j))) := ⟨_, fun _ => op_ne, fun G H u v s hu hv Q q => by
  cases hu; cases hv
  refine ⟨rfl, ?_⟩
  have e : decide (V.int i = V.int j) = decide (i = j) := by rw [dec_int]; by_cases h : i = j <;> simp [h]
  rw [e]
  exact q _ _ _ (.refl s) (.bl _)⟩
theorem od_eqB {i j : Bool} : OpD F (compareOp .Eq) (.bl i) (.bl j) (.bl (decide (i = j))) := ⟨_, fun _ => op_eq, fun G H u v s hu hv Q q => by
  cases hu; cases hv
  refine ⟨rfl, ?_⟩
  have e : decide (V.bl i = V.bl j) = decide (i = j) := by cases i <;> cases j <;> rfl
  rw [e]
  exact q _ _ _ (.refl s) (.bl _)⟩
theorem od_neB {i j : Bool} : OpD F (compareOp .NotEq) (.bl i) (.bl j) (.bl (!decide (i = j))) := ⟨_, fun _ => op_ne, fun G H u v s hu hv Q q => by
  cases hu; cases hv
  refine ⟨rfl, ?_⟩
  have e : decide (V.bl i = V.bl j) = decide (i = j) := by cases i <;> cases j <;> rfl
  rw [e]
  exact q _ _ _ (.refl s) (.bl _)⟩

/-! ### and, or, not, if else -/
theorem dt_val {k : Bool} (h : DE F e S S1 (.bl k)) (he : ∀ i whole, isTrue e (F.X i).env whole = (do let v ← whole; standAt e.pos; holding [v] (truthy v)) := by intro _ _; rfl) : DT F e S S1 k :=
  dt_of (fun i => pt_val (anyE_ok i) (he i)) fun σ G H c Q q => h σ G H c _ fun v G2 H2 m d => by
    cases d with
    | bl => exact ⟨k, rfl, q G2 H2 m⟩
theorem dt_w {k : Bool} (h : DW F e S S1 k) : DT F e S S1 k := dt_of (fun i => (anyW_ok i).pt) h
theorem dw_and1 {k : Bool} (h : DT F a S S1 k) : DW F (.BoolOp .And [a] pos) S S1 k := dw_of (fun i => pw_and1 (anyT_ok i)) h
theorem dw_or1 {k : Bool} (h : DT F a S S1 k) : DW F (.BoolOp .Or [a] pos) S S1 k := dw_of (fun i => pw_or1 (anyT_ok i)) h
theorem dw_and {k l : Bool} {rest : List Expr} (h : DT F a S S1 k) (h2 : k = true → DW F (.BoolOp .And (b :: rest) pos) S1 S2 l) (h0 : k = false → S1 = S2 := by intro _; rfl) : DW F (.BoolOp .And (a :: b :: rest) pos) S S2 (k && l) :=
  dw_of (fun i => pw_and (anyT_ok i) (anyW_ok i)) fun σ G H c Q q => h σ G H c _ fun G1 H1 m => by
    cases k with
    | true => rw [if_pos rfl]; exact h2 rfl σ G1 H1 m.cx _ fun G2 H2 m2 => q G2 H2 (m.trans m2)
    | false => rw [if_neg Bool.false_ne_true]; cases h0 rfl; exact q G1 H1 m
theorem dw_or {k l : Bool} {rest : List Expr} (h : DT F a S S1 k) (h2 : k = false → DW F (.BoolOp .Or (b :: rest) pos) S1 S2 l) (h0 : k = true → S1 = S2 := by intro _; rfl) : DW F (.BoolOp .Or (a :: b :: rest) pos) S S2 (k || l) :=
  dw_of (fun i => pw_or (anyT_ok i) (anyW_ok i)) fun σ G H c Q q => h σ G H c _ fun G1 H1 m => by
    cases k with
    | false => rw [if_neg Bool.false_ne_true]; exact h2 rfl σ G1 H1 m.cx _ fun G2 H2 m2 => q G2 H2 (m.trans m2)
    | true => rw [if_pos rfl]; cases h0 rfl; exact q G1 H1 m
theorem dt_not {k : Bool} (h : DT F a S S1 k) : DT F (.UnaryOp .Not a pos) S S1 (!k) := dt_of (fun i => pt_not (anyT_ok i)) fun σ G H c Q q => h σ G H c _ fun G2 H2 m => q G2 H2 m
theorem de_one {op : BoolOp} (h : DE F a S S1 d) : DE F (.BoolOp op [a] pos) S S1 d := de_of (fun i => pe_one (anyE_ok i)) h
theorem de_and {k l : Bool} {rest : List Expr} (h : DE F a S S1 (.bl k)) (h2 : k = true → DE F (.BoolOp .And (b :: rest) pos) S1 S2 (.bl l)) (h0 : k = false → S1 = S2 := by intro _; rfl) : DE F (.BoolOp .And (a :: b :: rest) pos) S S2 (.bl (k && l)) :=
  de_of (fun i => pe_and (anyE_ok i) (anyE_ok i)) fun σ G H c Q q => h σ G H c _ fun v G1 H1 m dv => by
    cases dv with
    | bl =>
      refine ⟨k, rfl, ?_⟩
      cases k with
      | true => rw [if_pos rfl]; exact h2 rfl σ G1 H1 m.cx _ fun v2 G2 H2 m2 d2 => q v2 G2 H2 (m.trans m2) d2
      | false => rw [if_neg Bool.false_ne_true]; cases h0 rfl; exact q _ G1 H1 m (.bl false)
theorem de_or {k l : Bool} {rest : List Expr} (h : DE F a S S1 (.bl k)) (h2 : k = false → DE F (.BoolOp .Or (b :: rest) pos) S1 S2 (.bl l)) (h0 : k = true → S1 = S2 := by intro _; rfl) : DE F (.BoolOp .Or (a :: b :: rest) pos) S S2 (.bl (k || l)) :=
  de_of (fun i => pe_or (anyE_ok i) (anyE_ok i)) fun σ G H c Q q => h σ G H c _ fun v G1 H1 m dv => by
    cases dv with
    | bl =>
      refine ⟨k, rfl, ?_⟩
      cases k with
      | false => rw [if_neg Bool.false_ne_true]; exact h2 rfl σ G1 H1 m.cx _ fun v2 G2 H2 m2 d2 => q v2 G2 H2 (m.trans m2) d2
      | true => rw [if_pos rfl]; cases h0 rfl; exact q _ G1 H1 m (.bl true)
theorem de_not {k : Bool} (h : DE F a S S1 (.bl k)) : DE F (.UnaryOp .Not a pos) S S1 (.bl (!k)) := de_of (fun i => pe_not (anyE_ok i)) fun σ G H c Q q => h σ G H c _ fun v G1 H1 m dv => by
  cases dv with
  | bl => exact ⟨k, rfl, q _ G1 H1 m (.bl _)⟩
theorem de_if {c : Expr} {k : Bool} (hc : DT F c S S1 k) (h1 : k = true → DE F a S1 S2 d) (h2 : k = false → DE F b S1 S2 d) : DE F (.IfExp c a b pos) S S2 d :=
  de_of (fun i => pe_ifExp (anyT_ok i) (anyE_ok i) (anyE_ok i)) fun σ G H cx Q q => hc σ G H cx _ fun G1 H1 m => by
    cases k with
    | true => rw [if_pos rfl]; exact h1 rfl σ G1 H1 m.cx _ fun v2 G2 H2 m2 d2 => q v2 G2 H2 (m.trans m2) d2
    | false => rw [if_neg Bool.false_ne_true]; exact h2 rfl σ G1 H1 m.cx _ fun v2 G2 H2 m2 d2 => q v2 G2 H2 (m.trans m2) d2

/-! ### arguments, displays -/
theorem da_nil : DA F [] S S [] := da_of (fun _ => pa_nil) fun _ _ _ c _ q => q _ _ _ (.refl c) .nil
theorem da_cons {es : List Expr} {ds : List D} (h : DE F e S S1 d) (hr : DA F es S1 S2 ds) (hs : ∀ i, starEach (e :: es) (F.X i).env = (false, eval e (F.X i).env) :: starEach es (F.X i).env := by intro _; rfl) : DA F (e :: es) S S2 (d :: ds) :=
  da_of (fun i => pa_cons (anyE_ok i) (anyA_ok i) (hs i)) fun σ G H c Q q => h σ G H c _ fun v G1 H1 m d1 => hr σ G1 H1 m.cx _ fun vs G2 H2 m2 d2 => q _ G2 H2 (m.trans m2) (.cons (d1.mono m2.go.gg) d2)
theorem dk_nil : DK F [] S S [] := dk_of (fun _ => pk_nil) fun _ _ _ c _ q => q _ _ _ (.refl c) .nil
theorem dk_cons {nm : Option Str} {kpos : Pos} {es : List Keyword} {ds : List D} (h : DE F e S S1 d) (hr : DK F es S1 S2 ds) : DK F (⟨nm, e, kpos⟩ :: es) S S2 (d :: ds) :=
  dk_of (fun i => pk_cons (anyE_ok i) (anyK_ok i)) fun σ G H c Q q => h σ G H c _ fun v G1 H1 m d1 => hr σ G1 H1 m.cx _ fun vs G2 H2 m2 d2 => q _ G2 H2 (m.trans m2) (.cons (d1.mono m2.go.gg) d2)
theorem de_tup {es : List Expr} {x1 : Nat} {ds : List D} (h : DA F es S S1 ds) (hl : ds.length ≤ sizeLine := by decide) : DE F (.Tuple es x1 pos) S S1 (.tup ds) :=
  de_of (fun i => pe_tup (anyA_ok i)) fun σ G H c Q q => h σ G H c _ fun vs G1 H1 m dl => ⟨by rw [dl.length]; exact hl, fun p hp => by
    have n := m.cx.new (o := .tup vs) hp
    exact q _ _ _ (m.trans n) (.tup (SqT.of upd_same) (dl.mono n.go.gg))⟩
theorem de_lst {es : List Expr} {ds : List D} (h : DA F es S S1 ds) (hl : ds.length ≤ sizeLine := by decide) : DE F (.List es pos) S S1 (.lst ds) :=
  de_of (fun i => pe_lst (anyA_ok i)) fun σ G H c Q q => h σ G H c _ fun vs G1 H1 m dl => ⟨by rw [dl.length]; exact hl, fun p hp => by
    have n := m.cx.new (o := .lst vs) hp
    exact q _ _ _ (m.trans n) (.lst (SqL.of upd_same) (dl.mono n.go.gg))⟩

/-! ### an object's attribute -/
theorem de_fld {c : Nat} {f : Str} {fs : List (Str × D)} (h : DE F e S S1 (.obj c fs)) (hc : Cls F.C.K (F.C.cl c)) (hn : NoAttr F.C.K (F.C.cl c) f) (hl : fs.lookup f = some d)
    (hb : ∀ i, attributeBase e f (F.X i).env (eval e (F.X i).env) = eval e (F.X i).env := by intro _; rfl) : DE F (.Attribute e f pos) S S1 d :=
  de_of (te := tFld F.C.K (anyE F e) f) (fun i => by have := pe_fld (pos := pos) (anyE_ok (e := e) i) (hb i); rw [F.hK i] at this; exact this) fun σ G H cx Q q => h σ G H cx _ fun v G1 H1 m dv => by
    cases dv with
    | @obj a dx _ vs _ ha hf =>
      obtain ⟨w, h1, h2⟩ := hf.look hl
      exact ⟨a, _, dx, vs, w, rfl, m.cx.sub _ _ ha, hc, hn, h1, q _ _ _ m h2⟩

/-! ### items -/
def ixD (ds : List D) (i : Int) : Option D := atI ds i
theorem atI_den {C : Kc} {G : Hp} {vs : List V} {ds : List D} {i : Int} {d : D} (h : DenL C G vs ds) (e : atI ds i = some d) : ∃ v, atI vs i = some v ∧ Den C G v d := by
  unfold atI at e ⊢
  rw [h.length]
  cases q : ixN ds.length i with
  | none => rw [q] at e; cases e
  | some j =>
    rw [q] at e
    exact h.get e
theorem de_ixT {i : Int} {ds : List D} (ha : DE F a S S1 (.tup ds)) (hb : DE F b S1 S2 (.int i)) (hi : atI ds i = some d) (hs : PlainIx b := by intro _ _; rfl) : DE F (.Subscript a b pos) S S2 d :=
  de_of (te := tOp (rIxT F.C.K) (anyE F a) (anyE F b)) (fun j => by have := pe_ix (pos := pos) (ix_tup (X := F.X j)) (anyE_ok (e := a) j) (anyE_ok (e := b) j) hs; rw [F.hK j] at this; exact this)
    (ev_op (fun G H u v s hu hv Q q => by
      cases hu with
      | tup h l =>
        cases hv
        obtain ⟨w, h1, h2⟩ := atI_den l hi
        exact ⟨_, _, i, w, rfl, rfl, same_t s h, h1, q _ _ _ (.refl s) h2⟩) ha hb)
theorem de_ixL {i : Int} {ds : List D} (ha : DE F a S S1 (.lst ds)) (hb : DE F b S1 S2 (.int i)) (hi : atI ds i = some d) (hs : PlainIx b := by intro _ _; rfl) : DE F (.Subscript a b pos) S S2 d :=
  de_of (te := tOp (rIxL F.C.K) (anyE F a) (anyE F b)) (fun j => by have := pe_ix (pos := pos) (ix_list (X := F.X j)) (anyE_ok (e := a) j) (anyE_ok (e := b) j) hs; rw [F.hK j] at this; exact this)
    (ev_op (fun G H u v s hu hv Q q => by
      cases hu with
      | lst h l =>
        cases hv
        obtain ⟨w, h1, h2⟩ := atI_den l hi
        exact ⟨_, _, i, w, rfl, rfl, s.seq h, h1, q _ _ _ (.refl s) h2⟩) ha hb)
/-- an item of the handed list -/
theorem ev_bag {C : Kc} {tb : TE} {j : Nat} {i : Int} {bb : Addr} {ds : List D} (hj : S.s[j]? = some (some .bag)) (hb : EvM C tb S S1 (.int i)) (hj1 : S1.g = some (bb, .lst ds)) (hg : S.g = some (bb, .lst ds)) (hi : atI ds i = some d) : EvM C (tOp (rIxL C.K) (tVar j) tb) S S1 d := fun σ G H c Q q =>
  ⟨_, c.bg j _ _ hg hj, hb σ G H c _ fun v G1 H1 m dv => by
    cases dv
    have z := m.cx.bag
    rw [hj1] at z
    obtain ⟨_, vs, z2, z3⟩ := z
    obtain ⟨w, h1, h2⟩ := atI_den z3 hi
    exact ⟨_, vs, i, w, rfl, rfl, SqL.of z2, h1, q _ _ _ m h2⟩⟩
theorem de_bagIx {j : Nat} {x : Str} {i : Int} {p : Pos} {bb : Addr} {ds : List D} (hj : S.s[j]? = some (some .bag)) (hb : DE F b S S1 (.int i)) (hj1 : S1.g = some (bb, .lst ds)) (hg : S.g = some (bb, .lst ds)) (hi : atI ds i = some d) (hs : PlainIx b := by intro _ _; rfl)
    (hN : ∀ i, (F.X i).N[j]? = some x := by intro _; rfl) (hv : ∀ i, Vis (F.X i).env.scope x := by intro _; first | exact Or.inl rfl | exact Or.inr (Or.inl rfl) | exact Or.inr (Or.inr rfl))
    (hd : (x == ("__debug__" : Str)) = false := by decide) (hcd : (x == ("__classdict__" : Str)) = false := by decide) : DE F (.Subscript (.Name x p) b pos) S S1 d :=
  de_of (te := tOp (rIxL F.C.K) (tVar j) (anyE F b)) (fun k => by have := pe_ix (pos := pos) (ix_list (X := F.X k)) (pe_var (pos := p) (hN k) (hv k) hd hcd) (anyE_ok (e := b) k) hs; rw [F.hK k] at this; exact this) (ev_bag hj hb hj1 hg hi)

/-! ### calls of built-ins -/
def CaD (F : Fam) (f : Value) (xs : List D) (z : D) : Prop := ∃ r, (∀ i, CallR (F.X i) f r) ∧ RDL F.C r xs z
theorem ev_cb {C : Kc} {r : List V → Hp → VK → Prop} {ta : TA} {ds : List D} (hr : RDL C r ds z) (ha : EvA C ta S S1 ds) : EvM C (tCB r ta) S S1 z := fun σ G H c Q q =>
  ha σ G H c _ fun vs G1 H1 m dl => hr G1 H1 vs m.cx.sub dl Q fun w G2 H2 p d2 => q w G2 H2 (m.pu p) d2
theorem de_callB {x : Str} {id : String} {p : Pos} {es : List Expr} {ds : List D} (hm : F.mg x = none) (hv : bootBuiltins x = some (.builtin id)) (ha : DA F (e :: es) S S1 ds) (hr : CaD F (.builtin id) ds z)
    (hg : ∀ i, Gl (F.X i) x := by intro _; rfl) (hn : x ≠ "__name__" := by decide) (hdb : (x == ("__debug__" : Str)) = false := by decide)
    (he : ∀ i, starEach (e :: es) (F.X i).env = (false, eval e (F.X i).env) :: starEach es (F.X i).env := by intro _; rfl) (hpl : ∀ i, (backTo pos (starEach es (F.X i).env)).any (·.1) = false := by intro _; rfl) : DE F (.Call (.Name x p) (e :: es) [] pos) S S1 z := by
  obtain ⟨r, h1, h2⟩ := hr
  exact de_of (fun i => pe_callB (h1 i) (hg i) (by rw [F.hmg i]; exact hm) hv (anyA_ok i) hn hdb (he i) (hpl i)) (ev_cb h2 ha)
theorem de_callTy {x : Str} {T : String} {p : Pos} {es : List Expr} {ds : List D} (hm : F.mg x = none) (hv : bootBuiltins x = some (.type T)) (ha : DA F (e :: es) S S1 ds) (hr : CaD F (.type T) ds z)
    (hg : ∀ i, Gl (F.X i) x := by intro _; rfl) (hn : x ≠ "__name__" := by decide) (hdb : (x == ("__debug__" : Str)) = false := by decide)
    (he : ∀ i, starEach (e :: es) (F.X i).env = (false, eval e (F.X i).env) :: starEach es (F.X i).env := by intro _; rfl) (hpl : ∀ i, (backTo pos (starEach es (F.X i).env)).any (·.1) = false := by intro _; rfl) : DE F (.Call (.Name x p) (e :: es) [] pos) S S1 z := by
  obtain ⟨r, h1, h2⟩ := hr
  exact de_of (fun i => pe_callTy (h1 i) (hg i) (by rw [F.hmg i]; exact hm) hv (anyA_ok i) hn hdb (he i) (hpl i)) (ev_cb h2 ha)
theorem ca_abs {i : Int} : CaD F (.builtin "abs") [.int i] (.int (if i < 0 then -i else i)) := ⟨_, fun _ => call_abs, fun G H us s h Q q => by
  cases h with
  | cons h l => cases h; cases l; exact ⟨i, rfl, q _ _ _ (.refl s) (.int _)⟩⟩
theorem ca_int {i : Int} : CaD F (.type "int") [.int i] (.int i) := ⟨_, fun _ => call_int1, fun G H us s h Q q => by
  cases h with
  | cons h l => cases h; cases l; exact .inl ⟨i, rfl, q _ _ _ (.refl s) (.int _)⟩⟩
theorem ca_intB {k : Bool} : CaD F (.type "int") [.bl k] (.int (if k then 1 else 0)) := ⟨_, fun _ => call_int1, fun G H us s h Q q => by
  cases h with
  | cons h l => cases h; cases l; exact .inr ⟨k, rfl, q _ _ _ (.refl s) (.int _)⟩⟩
theorem ca_max {i j : Int} : CaD F (.builtin "max") [.int i, .int j] (.int (if j > i then j else i)) := ⟨_, fun k => call_max2 (F.calm k), fun G H us s h Q q => by
  cases h with
  | cons h l => cases l with
    | cons h2 l => cases h; cases h2; cases l; exact ⟨i, j, rfl, q _ _ _ (.refl s) (.int _)⟩⟩
theorem ca_min {i j : Int} : CaD F (.builtin "min") [.int i, .int j] (.int (if j < i then j else i)) := ⟨_, fun k => call_min2 (F.calm k), fun G H us s h Q q => by
  cases h with
  | cons h l => cases l with
    | cons h2 l => cases h; cases h2; cases l; exact ⟨i, j, rfl, q _ _ _ (.refl s) (.int _)⟩⟩
theorem ca_lenT {ds : List D} : CaD F (.builtin "len") [.tup ds] (.int ds.length) := ⟨fun xs H Q => ∃ p ys, xs = [.ref p] ∧ (SqL F.C.K H p ys ∨ SqT F.C.K H p ys) ∧ Q (.int ys.length) H, fun i => by have := call_len_seq (X := F.X i); rw [F.hK i] at this; exact this, fun G H us s h Q q => by
  cases h with
  | cons h l => cases h with
    | tup h1 h2 => cases l; exact ⟨_, _, rfl, .inr (same_t s h1), q _ _ _ (.refl s) (by rw [h2.length]; exact .int _)⟩⟩
theorem ca_lenL {ds : List D} : CaD F (.builtin "len") [.lst ds] (.int ds.length) := ⟨fun xs H Q => ∃ p ys, xs = [.ref p] ∧ (SqL F.C.K H p ys ∨ SqT F.C.K H p ys) ∧ Q (.int ys.length) H, fun i => by have := call_len_seq (X := F.X i); rw [F.hK i] at this; exact this, fun G H us s h Q q => by
  cases h with
  | cons h l => cases h with
    | lst h1 h2 => cases l; exact ⟨_, _, rfl, .inl (s.seq h1), q _ _ _ (.refl s) (by rw [h2.length]; exact .int _)⟩⟩
theorem ca_lenS {x : Str} (hx : x.length ≤ sizeLine) : CaD F (.builtin "len") [.str x] (.int x.length) := ⟨_, fun _ => call_len_str, fun G H us s h Q q => by
  cases h with
  | cons h l => cases h; cases l; exact ⟨x, rfl, hx, q _ _ _ (.refl s) (.int _)⟩⟩
end
end DL
/-! DL3: promises of defs on data, calls by them, a def's body. -/
namespace DL
open PySem L2

/-- a promise without changes: arguments ds, answer d -/
def spP (C : Kc) (R : List D → D → Prop) : Sp := fun vs H Q _ => ∃ (G : Hp) (ds : List D) (d : D), R ds d ∧ Same G H ∧ DenL C G vs ds ∧ ∀ v G2 H2, Pu G H G2 H2 → Den C G2 v d → Q v H2
/-- the first argument is a list that is changed: from gs to gs' -/
def spB (C : Kc) (R : List D → List D → D → List D → Prop) : Sp := fun vs H Q _ => ∃ (G : Hp) (b : Addr) (ws gv : List V) (ds gs : List D) (d : D) (gs' : List D), vs = .ref b :: ws ∧ R ds gs d gs' ∧ Same G H ∧ G b = none ∧ H b = some (.lst gv) ∧ DenL C G gv gs ∧ DenL C G ws ds ∧
  ∀ v G2 H2 gv', Go (fun a => a = b) G H G2 H2 → Same G2 H2 → G2 b = none → H2 b = some (.lst gv') → DenL C G2 gv' gs' → Den C G2 v d → Q v H2
/-- a new list is handed back, to be the caller's own -/
def spO (C : Kc) (R : List D → List D → Prop) : Sp := fun vs H Q _ => ∃ (G : Hp) (ds es : List D), R ds es ∧ Same G H ∧ DenL C G vs ds ∧ ∀ p ev G2 H2, Pu G H G2 H2 → H p = none → G2 p = none → H2 p = some (.lst ev) → DenL C G2 ev es → Q (.ref p) H2
/-- an __init__: the new instance of the class c gets the attributes fs -/
def spI (C : Kc) (c : Nat) (R : List D → List (Str × D) → Prop) : Sp := fun vs H Q _ => ∃ (G : Hp) (b dx : Addr) (ws : List V) (ds : List D) (fs : List (Str × D)), vs = .ref b :: ws ∧ R ds fs ∧ Same G H ∧ G b = none ∧ H b = some (.ins (C.cl c) dx []) ∧ DenL C G ws ds ∧
  ∀ G2 H2 dx2 fv, Go (fun a => a = b) G H G2 H2 → Same G2 H2 → G2 b = none → H2 b = some (.ins (C.cl c) dx2 fv) → DenF C G2 fv fs → Q .non H2

def perm {α : Type} : List Nat → List α → List α
  | [], _ => []
  | i :: r, xs => match xs[i]? with
    | some x => x :: perm r xs
    | none => perm r xs
theorem DenL.perm {C : Kc} {G : Hp} {vs : List V} {ds : List D} (h : DenL C G vs ds) : ∀ ix : List Nat, DenL C G (perm ix vs) (perm ix ds)
  | [] => .nil
  | i :: r => by
    unfold DL.perm
    cases q : ds[i]? with
    | none =>
      have : vs[i]? = none := by
        rw [List.getElem?_eq_none_iff] at q ⊢
        rw [h.length]; exact q
      rw [this]
      exact DenL.perm h r
    | some d =>
      obtain ⟨v, h1, h2⟩ := h.get q
      rw [h1]
      exact .cons h2 (DenL.perm h r)
theorem Vals.perm {vs : List V} {us : List Value} (h : Vals vs us) : ∀ ix : List Nat, Vals (perm ix vs) (perm ix us)
  | [] => .nil
  | i :: r => by
    unfold DL.perm
    cases q : vs[i]? with
    | none => rw [h.none_of q]; exact Vals.perm h r
    | some d =>
      obtain ⟨v, h1, h2⟩ := h.get q
      rw [h1]
      exact .cons h2 (Vals.perm h r)

section
variable (P : Program) (w : World) (C : Kc) (mg : Str → Option Value) (base : Heap)
/-- the def x of the module keeps the promise sp at level k, all parameters given by place -/
def Cal (k : Nat) (x : Str) (sp : Sp) : Prop := ∃ f fd ps, FnOk P w C.K mg base CX0 k f fd ps sp ∧ mg x = some (.ref f) ∧ PySem.W.keepIn C.K (.ref f) = true ∧ Binds C.K fd ps []
/-- .. by names: ks in this order, ix the place of each parameter among them -/
def CalK (k : Nat) (x : Str) (sp : Sp) (ks : List Str) (ix : List Nat) : Prop := ∃ f fd ps, FnOk P w C.K mg base CX0 k f fd ps sp ∧ mg x = some (.ref f) ∧ PySem.W.keepIn C.K (.ref f) = true ∧ KBn C.K fd ps 0 ks (fun us ws => us ++ perm ix ws) (fun vs zs => vs ++ perm ix zs)
/-- the class x, number c: made by R; dd: the defaults that fill up -/
def Mak (k : Nat) (x : Str) (c : Nat) (R : List D → List (Str × D) → Prop) (dd : List D) : Prop := ∃ f fd ps ds dvs, FnOk P w C.K mg base CX0 k f fd ps (spI C c R) ∧ mg x = some (.ref (C.cl c)) ∧ Mk C.K (C.cl c) f ∧ Binds C.K fd ps ds ∧ Vals dvs ds ∧ ∀ G, DenL C G dvs dd
def MakK (k : Nat) (x : Str) (c : Nat) (R : List D → List (Str × D) → Prop) (ks : List Str) (ix : List Nat) : Prop := ∃ f fd ps g, FnOk P w C.K mg base CX0 k f fd ps (spI C c R) ∧ mg x = some (.ref (C.cl c)) ∧ Mk C.K (C.cl c) f ∧
  KBn C.K fd ps 1 ks g (fun vs zs => vs ++ perm ix zs)
/-- the method m of the class c; ds: the instance first -/
def Met (k : Nat) (c : Nat) (m : Str) (sp : Sp) : Prop := ∃ f fd ps, FnOk P w C.K mg base CX0 k f fd ps sp ∧ Cls C.K (C.cl c) ∧ Meth C.K (C.cl c) m f ∧ Binds C.K fd ps []
def MetK (k : Nat) (c : Nat) (m : Str) (sp : Sp) (ks : List Str) (ix : List Nat) : Prop := ∃ f fd ps, FnOk P w C.K mg base CX0 k f fd ps sp ∧ Cls C.K (C.cl c) ∧ Meth C.K (C.cl c) m f ∧ KBn C.K fd ps 1 ks (fun us ws => us ++ perm ix ws) (fun vs zs => vs ++ perm ix zs)
end

section
variable {F : Fam} {S S1 S2 S3 : ST} {e a b : Expr} {d x y z : D} {pos p apos : Pos} {es : List Expr} {ds : List D} {k : Nat} {nm : Str} {kws : List Keyword}

theorem fn_at {i : F.I} {k : Nat} {f : Addr} {fd : FuncData} {ps : List Str} {sp : Sp} (G : FnOk F.P F.w F.C.K F.mg F.base CX0 k f fd ps sp) : FnOk (F.X i).prog (F.X i).w (F.X i).K (F.X i).mg (F.X i).base CX0 k f fd ps sp := by
  rw [F.hP, F.hw, F.hK, F.hmg, F.hbase]; exact G

/-! ### a call without changes -/
theorem ev_sp {C : Kc} {R : List D → D → Prop} {ta : TA} {E : XK} (hR : R ds d) (ha : EvA C ta S S1 ds) : EvM C (fun σ H Q => ta σ H fun vs H1 => spP C R vs H1 Q E) S S1 d := fun σ G H c Q q =>
  ha σ G H c _ fun vs G1 H1 m dl => ⟨G1, ds, d, hR, m.cx.sub, dl, fun v G2 H2 p dv => q v G2 H2 (m.pu p) dv⟩
theorem de_call {R : List D → D → Prop} (c : Cal F.P F.w F.C F.mg F.base k nm (spP F.C R)) (ha : DA F (e :: es) S S1 ds) (hR : R ds d) (hk : k ≤ F.k := by exact Nat.le_of_ble_eq_true rfl)
    (hg : ∀ i, Gl (F.X i) nm := by intro _; rfl) (hdb : (nm == ("__debug__" : Str)) = false := by decide)
    (he : ∀ i, starEach (e :: es) (F.X i).env = (false, eval e (F.X i).env) :: starEach es (F.X i).env := by intro _; rfl) (hpl : ∀ i, (backTo pos (starEach es (F.X i).env)).any (·.1) = false := by intro _; rfl) : DE F (.Call (.Name nm p) (e :: es) [] pos) S S1 d := by
  obtain ⟨f, fd, ps, G, hm, hkp, hb⟩ := c
  refine de_of (te := tCall (spP F.C R) [] E0 (anyA F (e :: es))) (fun i => pe_call (fn_at G) ((F.room i).mono hk) (hg i) (by rw [F.hmg i]; exact hm) (by rw [F.hK i]; exact hkp) (by rw [F.hK i]; exact hb) .nil pass0 (anyA_ok i) hdb (he i) (hpl i)) ?_
  intro σ G H cx Q q
  refine ha σ G H cx _ fun vs G1 H1 m dl => ?_
  rw [List.append_nil]
  exact ⟨G1, ds, d, hR, m.cx.sub, dl, fun v G2 H2 p dv => q v G2 H2 (m.pu p) dv⟩
theorem pe_callK0 {X : Cx} {f : Addr} {fd : FuncData} {ps ks : List Str} {sp : Sp} {E : XK} {x : Str} {g : List Value → List Value → List Value} {gV : List V → List V → List V} {CX : CXT} {tk : TA}
    (G : FnOk X.prog X.w X.K X.mg X.base CX k f fd ps sp) (hr : Room k X.A) (hg : Gl X x) (hm : X.mg x = some (.ref f)) (hk : PySem.W.keepIn X.K (.ref f) = true) (hb : KBn X.K fd ps 0 ks g gV) (hx : Passes CX X E) (hkw : PK X kws tk)
    (hall : (backToKw pos (keywordEach kws X.env)).all (·.1.isSome) = true := by rfl) (hks : (backToKw pos (keywordEach kws X.env)).filterMap (·.1) = ks := by rfl) (hdb : (x == ("__debug__" : Str)) = false := by decide)
    (hpl : ((backTo pos (starEach [] X.env)).any (·.1) || (backToKw pos (keywordEach kws X.env)).any (·.1.isNone)) = false := by rfl) :
    PE X (.Call (.Name x p) [] kws pos) (tCallN 0 ks.length sp gV E tNil tk) := by
  refine ⟨fun pins s σ H Q I h => ?_⟩
  refine wpAny_Call_Name_kw (ld_glob I hg hm ?_ hdb)
  refine PySem.W.callWith_KW0 (h₀ := X.base) I.ok.mod.kin hk hall ?_ hpl
  refine thn (hkw.run pos pins s σ H _ I h) fun ws s2 ⟨zs, H2, I2, rz, l1, l2, q2⟩ => ⟨I2.kIn, ?_⟩
  rw [hks]
  exact run_fnN (us := []) (vs := []) G hr hb hx I2 .nil rz rfl l2 q2
theorem de_callK {R : List D → D → Prop} {ks : List Str} {ix : List Nat} (c : CalK F.P F.w F.C F.mg F.base k nm (spP F.C R) ks ix) (ha : DK F kws S S1 ds) (hR : R (perm ix ds) d) (hl : ds.length = ks.length := by rfl) (hk : k ≤ F.k := by exact Nat.le_of_ble_eq_true rfl)
    (hg : ∀ i, Gl (F.X i) nm := by intro _; rfl) (hdb : (nm == ("__debug__" : Str)) = false := by decide) (hall : ∀ i, (backToKw pos (keywordEach kws (F.X i).env)).all (·.1.isSome) = true := by intro _; rfl)
    (hks : ∀ i, (backToKw pos (keywordEach kws (F.X i).env)).filterMap (·.1) = ks := by intro _; rfl) (hpl : ∀ i, ((backTo pos (starEach [] (F.X i).env)).any (·.1) || (backToKw pos (keywordEach kws (F.X i).env)).any (·.1.isNone)) = false := by intro _; rfl) : DE F (.Call (.Name nm p) [] kws pos) S S1 d := by
  obtain ⟨f, fd, ps, G, hm, hkp, hb⟩ := c
  refine de_of (te := tCallN 0 ks.length (spP F.C R) (fun vs zs => vs ++ perm ix zs) E0 tNil (anyK F kws)) (fun i => pe_callK0 (fn_at G) ((F.room i).mono hk) (hg i) (by rw [F.hmg i]; exact hm) (by rw [F.hK i]; exact hkp) (by rw [F.hK i]; exact hb) pass0 (anyK_ok i) (hall i) (hks i) hdb (hpl i)) ?_
  intro σ G H cx Q q
  refine ha σ G H cx _ fun vs G1 H1 m dl => ?_
  refine ⟨rfl, by rw [dl.length]; exact hl, ?_⟩
  show spP F.C R (perm ix vs) H1 Q E0
  exact ⟨G1, _, d, hR, m.cx.sub, dl.perm ix, fun v G2 H2 p dv => q v G2 H2 (m.pu p) dv⟩

/-! ### a new instance -/
theorem make_ev {C : Kc} {c : Nat} {R : List D → List (Str × D) → Prop} {fs : List (Str × D)} {σ : L2.St} {G H : Hp} {vs : List V} {E : XK} {Q : VK} (cx : Ctx C G H σ S) (dl : DenL C G vs ds) (hR : R ds fs)
    (q : ∀ v G2 H2, Mv C σ S G H S G2 H2 → Den C G2 v (.obj c fs) → Q v H2) :
    ∀ x dx, H x = none → H dx = none → dx ≠ x → spI C c R (.ref x :: vs) (upd (upd H dx (.own x)) x (.ins (C.cl c) dx [])) (fun v H2 => v = .non ∧ Q (.ref x) H2) E := by
  intro x dx hx hdx ne
  have gx : G x = none := cx.sub.free hx
  have gd : G dx = none := cx.sub.free hdx
  have s1 : Same H (upd (upd H dx (.own x)) x (.ins (C.cl c) dx [])) := fun a o h => by
    rw [upd_ne (ne_of_none h hx), upd_ne (ne_of_none h hdx)]; exact h
  refine ⟨G, x, dx, vs, ds, fs, rfl, hR, cx.sub.trans s1, gx, upd_same, dl, fun G2 H2 dx2 fv go sub g2 h2 df => ⟨rfl, ?_⟩⟩
  have hk : Same H H2 := fun a o h => go.keep a o (ne_of_none h hx) (s1 a o h)
  refine q (.ref x) (upd G2 x (.ins (C.cl c) dx2 fv)) H2 ?_ (.obj upd_same (df.mono fun a o h => by rw [upd_ne (ne_of_none h g2)]; exact h))
  refine cx.mv hk (fun a o h => ?_) (fun a o h => ?_) (fun a h1 hg => ?_)
  · rw [upd_ne (ne_of_none h gx)]; exact go.gg a o h
  · by_cases z : a = x
    · subst z; rw [upd_same] at h; cases h; exact h2
    · rw [upd_ne z] at h; exact sub a o h
  · have z : a ≠ x := fun z => h1 (by rw [z]; exact hx)
    rw [upd_ne z]
    exact go.fr a z (by
      rw [upd_ne z]
      by_cases z2 : a = dx
      · subst z2; rw [upd_same]; simp
      · rw [upd_ne z2]; exact h1) hg
theorem de_make {c : Nat} {R : List D → List (Str × D) → Prop} {dd : List D} {fs : List (Str × D)} (mk : Mak F.P F.w F.C F.mg F.base k nm c R dd) (ha : DA F (e :: es) S S1 ds) (hR : R (ds ++ dd) fs) (hk : k + 1 ≤ F.k := by exact Nat.le_of_ble_eq_true rfl)
    (hg : ∀ i, Gl (F.X i) nm := by intro _; rfl) (hdb : (nm == ("__debug__" : Str)) = false := by decide)
    (he : ∀ i, starEach (e :: es) (F.X i).env = (false, eval e (F.X i).env) :: starEach es (F.X i).env := by intro _; rfl) (hpl : ∀ i, (backTo pos (starEach es (F.X i).env)).any (·.1) = false := by intro _; rfl) : DE F (.Call (.Name nm p) (e :: es) [] pos) S S1 (.obj c fs) := by
  obtain ⟨f, fd, ps, dus, dvs, G, hm, M, hb, hv, hd⟩ := mk
  refine de_of (te := tMake (F.C.cl c) (spI F.C c R) dvs E0 (anyA F (e :: es))) (fun i => pe_make (by rw [F.hK i]; exact M) (fn_at G) ((F.room i).mono hk) (hg i) (by rw [F.hmg i]; exact hm) (by rw [F.hK i]; exact hb) hv pass0 (anyA_ok i) hdb (he i) (hpl i)) ?_
  intro σ G H cx Q q
  refine ha σ G H cx _ fun vs G1 H1 m dl => ?_
  exact make_ev m.cx (dl.append (hd G1)) hR fun v G2 H2 m2 dv => q v G2 H2 (m.trans m2) dv
theorem de_makeK {c : Nat} {R : List D → List (Str × D) → Prop} {ks : List Str} {ix : List Nat} {fs : List (Str × D)} (mk : MakK F.P F.w F.C F.mg F.base k nm c R ks ix) (ha : DK F kws S S1 ds) (hR : R (perm ix ds) fs) (hl : ds.length = ks.length := by rfl) (hk : k + 1 ≤ F.k := by exact Nat.le_of_ble_eq_true rfl)
    (hg : ∀ i, Gl (F.X i) nm := by intro _; rfl) (hdb : (nm == ("__debug__" : Str)) = false := by decide) (hall : ∀ i, (backToKw pos (keywordEach kws (F.X i).env)).all (·.1.isSome) = true := by intro _; rfl)
    (hks : ∀ i, (backToKw pos (keywordEach kws (F.X i).env)).filterMap (·.1) = ks := by intro _; rfl) (hpl : ∀ i, ((backTo pos (starEach [] (F.X i).env)).any (·.1) || (backToKw pos (keywordEach kws (F.X i).env)).any (·.1.isNone)) = false := by intro _; rfl) : DE F (.Call (.Name nm p) [] kws pos) S S1 (.obj c fs) := by
  obtain ⟨f, fd, ps, g, G, hm, M, hb⟩ := mk
  refine de_of (te := tMakeK (F.C.cl c) 0 ks.length (spI F.C c R) (fun vs zs => vs ++ perm ix zs) E0 tNil (anyK F kws)) (fun i => pe_makeK0 (by rw [F.hK i]; exact M) (fn_at G) ((F.room i).mono hk) (hg i) (by rw [F.hmg i]; exact hm) (by rw [F.hK i]; exact hb) pass0 (anyK_ok i) (hall i) (hks i) hdb (hpl i)) ?_
  intro σ G H cx Q q
  refine ha σ G H cx _ fun vs G1 H1 m dl => ⟨rfl, by rw [dl.length]; exact hl, ?_⟩
  exact make_ev m.cx (dl.perm ix) hR fun v G2 H2 m2 dv => q v G2 H2 (m.trans m2) dv

/-! ### a method without changes -/
theorem de_meth {c : Nat} {m : Str} {fs : List (Str × D)} {R : List D → D → Prop} (mt : Met F.P F.w F.C F.mg F.base k c m (spP F.C R)) (ho : DE F a S S1 (.obj c fs)) (ha : DA F (e :: es) S1 S2 ds) (hR : R (.obj c fs :: ds) d) (hn : fs.lookup m = none := by rfl) (hk : k ≤ F.k := by exact Nat.le_of_ble_eq_true rfl)
    (pl : F.I → Sem Bool) (he : ∀ i, starEach (e :: es) (F.X i).env = (false, eval e (F.X i).env) :: starEach es (F.X i).env := by intro _; rfl) (hpl : ∀ i, (backTo pos (starEach es (F.X i).env)).any (·.1) = false := by intro _; rfl)
    (ht : ∀ i, eval (.Call (.Attribute a m apos) (e :: es) [] pos) (F.X i).env = (do
      let ov ← eval a (F.X i).env
      standAt apos.atName
      let (f, first) ← holding [ov] (getMethod ov m (pl i))
      callWith pos f first (backTo pos (starEach (e :: es) (F.X i).env)) (backToKw pos (keywordEach [] (F.X i).env))) := by intro _; rfl) : DE F (.Call (.Attribute a m apos) (e :: es) [] pos) S S2 d := by
  obtain ⟨f, fd, ps, G, hc, hme, hb⟩ := mt
  refine de_of (te := tMeth (F.C.cl c) m (spP F.C R) [] E0 (anyE F a) (anyA F (e :: es))) (fun i => pe_meth (pl := pl i) (anyE_ok i) (by rw [F.hK i]; exact hc) (by rw [F.hK i]; exact hme) (fn_at G) ((F.room i).mono hk) (by rw [F.hK i]; exact hb) .nil pass0 (anyA_ok i) (he i) (hpl i) (ht i)) ?_
  intro σ G H cx Q q
  refine ho σ G H cx _ fun v G1 H1 m1 dv => ?_
  cases dv with
  | @obj o dx _ vs _ h1 h2 =>
    refine ⟨o, dx, vs, rfl, m1.cx.sub _ _ h1, h2.lookN hn, ?_⟩
    refine ha σ G1 H1 m1.cx _ fun vs G2 H2 m2 dl => ?_
    rw [List.append_nil]
    exact ⟨G2, _, d, hR, m2.cx.sub, .cons ((Den.obj h1 h2).mono m2.go.gg) dl, fun v G3 H3 p dv => q v G3 H3 ((m1.trans m2).pu p) dv⟩
theorem de_meth0 {c : Nat} {m : Str} {fs : List (Str × D)} {R : List D → D → Prop} (mt : Met F.P F.w F.C F.mg F.base k c m (spP F.C R)) (ho : DE F a S S1 (.obj c fs)) (hR : R [.obj c fs] d) (hn : fs.lookup m = none := by rfl) (hk : k ≤ F.k := by exact Nat.le_of_ble_eq_true rfl)
    (pl : F.I → Sem Bool)
    (ht : ∀ i, eval (.Call (.Attribute a m apos) [] [] pos) (F.X i).env = (do
      let ov ← eval a (F.X i).env
      standAt apos.atName
      let (f, first) ← holding [ov] (getMethod ov m (pl i))
      callWith pos f first (backTo pos (starEach [] (F.X i).env)) (backToKw pos (keywordEach [] (F.X i).env))) := by intro _; rfl) : DE F (.Call (.Attribute a m apos) [] [] pos) S S1 d := by
  obtain ⟨f, fd, ps, G, hc, hme, hb⟩ := mt
  refine de_of (te := tMeth (F.C.cl c) m (spP F.C R) [] E0 (anyE F a) tNil) (fun i => pe_meth0 (pl := pl i) (anyE_ok i) (by rw [F.hK i]; exact hc) (by rw [F.hK i]; exact hme) (fn_at G) ((F.room i).mono hk) (by rw [F.hK i]; exact hb) .nil pass0 (ht i)) ?_
  intro σ G H cx Q q
  refine ho σ G H cx _ fun v G1 H1 m1 dv => ?_
  cases dv with
  | @obj o dx _ vs _ h1 h2 =>
    refine ⟨o, dx, vs, rfl, m1.cx.sub _ _ h1, h2.lookN hn, ?_⟩
    exact ⟨G1, _, d, hR, m1.cx.sub, .cons (.obj h1 h2) .nil, fun v G3 H3 p dv => q v G3 H3 (m1.pu p) dv⟩
def tMethN (C : Addr) (m : Str) (n : Nat) (sp : Sp) (gV : List V → List V → List V) (E : XK) (ta : TE) (tk : TA) : TE := fun σ H Q => ta σ H fun x H1 => ∃ a dx fs, x = .ref a ∧ H1 a = some (.ins C dx fs) ∧ fs.lookup m = none ∧ tk σ H1 fun zs H2 => zs.length = n ∧ sp (gV [x] zs) H2 Q E
theorem pe_methK0 {X : Cx} {pl : Sem Bool} {o : Expr} {ta : TE} {C f : Addr} {m : Str} {fd : FuncData} {ps ks : List Str} {sp : Sp} {E : XK} {CX : CXT} {tk : TA} {g : List Value → List Value → List Value} {gV : List V → List V → List V}
    (he : PE X o ta) (c : Cls X.K C) (hm : Meth X.K C m f) (G : FnOk X.prog X.w X.K X.mg X.base CX k f fd ps sp) (hr : Room k X.A) (hb : KBn X.K fd ps 1 ks g gV) (hx : Passes CX X E) (hkw : PK X kws tk)
    (hall : (backToKw pos (keywordEach kws X.env)).all (·.1.isSome) = true := by rfl) (hks : (backToKw pos (keywordEach kws X.env)).filterMap (·.1) = ks := by rfl)
    (hpl : ((backTo pos (starEach [] X.env)).any (·.1) || (backToKw pos (keywordEach kws X.env)).any (·.1.isNone)) = false := by rfl)
    (ht : eval (.Call (.Attribute o m apos) [] kws pos) X.env = (do
      let ov ← eval o X.env
      standAt apos.atName
      let (f, first) ← holding [ov] (getMethod ov m pl)
      callWith pos f first (backTo pos (starEach [] X.env)) (backToKw pos (keywordEach kws X.env))) := by rfl) :
    PE X (.Call (.Attribute o m apos) [] kws pos) (tMethN C m ks.length sp gV E ta tk) := by
  refine ⟨fun pins s σ H Q I h => ?_⟩
  refine PySem.W.methodCall_KW (pl := pl) (thn (he.run pins s σ H _ I h) fun u s1 ⟨x, H1, I1, rx, a, dx, fs, ex, ea, l, q⟩ => ?_) ht
  subst ex
  obtain rfl : u = Value.ref a := rx
  refine getmeth_ok I1 ea c hm l ?_
  refine PySem.W.callWith_KW0 (first := [.ref a]) (h₀ := X.base) I.ok.mod.kin hm.kp hall ?_ hpl
  refine thn (hkw.run pos pins s1 σ H1 _ I1 q) fun ws s2 ⟨zs, H2, I2, rz, l2, q2⟩ => ⟨I2.kIn, ?_⟩
  rw [hks]
  exact run_fnN (us := [.ref a]) (vs := [.ref a]) G hr hb hx I2 (.cons rfl .nil) rz rfl l2 q2
theorem de_methK {c : Nat} {m : Str} {fs : List (Str × D)} {R : List D → D → Prop} {ks : List Str} {ix : List Nat} (mt : MetK F.P F.w F.C F.mg F.base k c m (spP F.C R) ks ix) (ho : DE F a S S1 (.obj c fs)) (ha : DK F kws S1 S2 ds) (hR : R (.obj c fs :: perm ix ds) d) (hn : fs.lookup m = none := by rfl) (hl : ds.length = ks.length := by rfl) (hk : k ≤ F.k := by exact Nat.le_of_ble_eq_true rfl)
    (pl : F.I → Sem Bool) (hall : ∀ i, (backToKw pos (keywordEach kws (F.X i).env)).all (·.1.isSome) = true := by intro _; rfl)
    (hks : ∀ i, (backToKw pos (keywordEach kws (F.X i).env)).filterMap (·.1) = ks := by intro _; rfl) (hpl : ∀ i, ((backTo pos (starEach [] (F.X i).env)).any (·.1) || (backToKw pos (keywordEach kws (F.X i).env)).any (·.1.isNone)) = false := by intro _; rfl)
    (ht : ∀ i, eval (.Call (.Attribute a m apos) [] kws pos) (F.X i).env = (do
      let ov ← eval a (F.X i).env
      standAt apos.atName
      let (f, first) ← holding [ov] (getMethod ov m (pl i))
      callWith pos f first (backTo pos (starEach [] (F.X i).env)) (backToKw pos (keywordEach kws (F.X i).env))) := by intro _; rfl) : DE F (.Call (.Attribute a m apos) [] kws pos) S S2 d := by
  obtain ⟨f, fd, ps, G, hc, hme, hb⟩ := mt
  refine de_of (te := tMethN (F.C.cl c) m ks.length (spP F.C R) (fun vs zs => vs ++ perm ix zs) E0 (anyE F a) (anyK F kws)) (fun i => pe_methK0 (pl := pl i) (anyE_ok i) (by rw [F.hK i]; exact hc) (by rw [F.hK i]; exact hme) (fn_at G) ((F.room i).mono hk) (by rw [F.hK i]; exact hb) pass0 (anyK_ok i) (hall i) (hks i) (hpl i) (ht i)) ?_
  intro σ G H cx Q q
  refine ho σ G H cx _ fun v G1 H1 m1 dv => ?_
  cases dv with
  | @obj o dx _ vs _ h1 h2 =>
    refine ⟨o, dx, vs, rfl, m1.cx.sub _ _ h1, h2.lookN hn, ?_⟩
    refine ha σ G1 H1 m1.cx _ fun vs G2 H2 m2 dl => ⟨by rw [dl.length]; exact hl, ?_⟩
    exact ⟨G2, _, d, hR, m2.cx.sub, .cons ((Den.obj h1 h2).mono m2.go.gg) (dl.perm ix), fun v G3 H3 p dv => q v G3 H3 ((m1.trans m2).pu p) dv⟩

/-! ### the handed list handed on: f(bag, e, ..) -/
theorem ctx_bag {C : Kc} {σ : L2.St} {G H G2 H2 : Hp} {bb : Addr} {gs gs' : List D} {gv' : List V} (cx : Ctx C G H σ S) (hg : S.g = some (bb, .lst gs)) (go : Go (fun a => a = bb) G H G2 H2) (sub : Same G2 H2) (g2 : G2 bb = none) (h2 : H2 bb = some (.lst gv')) (dl : DenL C G2 gv' gs') :
    Mv C σ S G H ⟨S.s, some (bb, .lst gs')⟩ G2 H2 := by
  refine ⟨go.mono fun a z => .inr ⟨.lst gs, by rw [z]; exact hg⟩, ⟨sub, cx.len, fun i d h => ?_, fun i ds h => ?_, cx.apart, fun i b o h h1 => ?_, ⟨g2, gv', h2, dl⟩, fun i b o ds h h1 => ?_⟩, fun a z => ?_⟩
  · obtain ⟨v, h1, h2⟩ := cx.im i d h
    exact ⟨v, h1, h2.mono go.gg⟩
  · obtain ⟨a, vs, h1, h3, h4, h5⟩ := cx.ow i ds h
    have na : a ≠ bb := fun z => cx.nob i bb _ ds hg h (by rw [← z]; exact h1)
    exact ⟨a, vs, h1, go.fr a na (by rw [h4]; simp) h3, go.keep a _ na h4, h5.mono go.gg⟩
  · cases h; exact cx.bg i bb _ hg h1
  · cases h; exact cx.nob i bb _ ds hg h1
  · rcases z with z | ⟨o, z⟩
    · exact .inl z
    · cases z; exact .inr ⟨_, hg⟩
theorem pa_bag {j : Nat} {x : Str} (i : F.I) (hN : (F.X i).N[j]? = some x) (hv : Vis (F.X i).env.scope x) (hd : (x == ("__debug__" : Str)) = false) (hcd : (x == ("__classdict__" : Str)) = false) (hs : starEach (.Name x p :: es) (F.X i).env = (false, eval (.Name x p) (F.X i).env) :: starEach es (F.X i).env) :
    PA (F.X i) (.Name x p :: es) (tCons (tVar j) (anyA F es)) := pa_cons (pe_var hN hv hd hcd) (anyA_ok i) hs
theorem de_callBag {R : List D → List D → D → List D → Prop} {j : Nat} {x : Str} {bb : Addr} {gs gs' : List D} {q' : Pos} (c : Cal F.P F.w F.C F.mg F.base k nm (spB F.C R)) (hj : S.s[j]? = some (some .bag)) (hS : S.g.map (·.1) = some bb) (ha : DA F es S S1 ds) (hg : S1.g = some (bb, .lst gs)) (hR : R ds gs d gs') (hk : k ≤ F.k := by exact Nat.le_of_ble_eq_true rfl)
    (hN : ∀ i, (F.X i).N[j]? = some x := by intro _; rfl) (hv : ∀ i, Vis (F.X i).env.scope x := by intro _; first | exact Or.inl rfl | exact Or.inr (Or.inl rfl) | exact Or.inr (Or.inr rfl))
    (hd : (x == ("__debug__" : Str)) = false := by decide) (hcd : (x == ("__classdict__" : Str)) = false := by decide)
    (hgl : ∀ i, Gl (F.X i) nm := by intro _; rfl) (hdb : (nm == ("__debug__" : Str)) = false := by decide)
    (he : ∀ i, starEach (.Name x q' :: es) (F.X i).env = (false, eval (.Name x q') (F.X i).env) :: starEach es (F.X i).env := by intro _; rfl) (hpl : ∀ i, (backTo pos (starEach es (F.X i).env)).any (·.1) = false := by intro _; rfl) :
    DE F (.Call (.Name nm p) (.Name x q' :: es) [] pos) S ⟨S1.s, some (bb, .lst gs')⟩ d := by
  obtain ⟨f, fd, ps, G, hm, hkp, hb⟩ := c
  refine de_of (te := tCall (spB F.C R) [] E0 (tCons (tVar j) (anyA F es))) (fun i => pe_call (fn_at G) ((F.room i).mono hk) (hgl i) (by rw [F.hmg i]; exact hm) (by rw [F.hK i]; exact hkp) (by rw [F.hK i]; exact hb) .nil pass0 (pa_bag i (hN i) (hv i) hd hcd (he i)) hdb (he i) (hpl i)) ?_
  intro σ G H cx Q q
  have hb0 : σ[j]? = some (some (.ref bb)) := by
    cases e : S.g with
    | none => rw [e] at hS; cases hS
    | some bo =>
      obtain ⟨b0, o⟩ := bo
      rw [e] at hS
      cases hS
      exact cx.bg j _ o e hj
  refine ⟨_, hb0, ha σ G H cx _ fun vs G1 H1 m dl => ?_⟩
  have z := m.cx.bag
  rw [hg] at z
  obtain ⟨z1, gv, z2, z3⟩ := z
  refine ⟨G1, bb, vs, gv, ds, gs, d, gs', List.append_nil _, hR, m.cx.sub, z1, z2, z3, dl, fun v G2 H2 gv' go sub g2 h2 dl' dv => ?_⟩
  exact q v G2 H2 (m.trans (ctx_bag m.cx hg go sub g2 h2 dl')) dv
end

/-! ### a def's body -/
def famD (C : Kc) (P : Program) (w : World) (mg : Str → Option Value) (base : Heap) (N : List Str) (nd : N.Nodup) (qual : Str) (sc : Scope) (f : Addr) (cdv : Value) (A : Around) (outer : List Env) (s : Shared) (H : Hp) (E : XK) (k : Nat) (hr : Room k (A.deeper (PyProof.Rows.envOfC qual sc s.heap.objs.size f cdv))) : Fam where
  I := Unit
  X := fun _ => (cxOf CX0 P w C.K mg base N qual sc f cdv A outer s H E).nox
  P := P
  w := w
  C := C
  mg := mg
  base := base
  N := N
  k := k
  hP := fun _ => rfl
  hw := fun _ => rfl
  hK := fun _ => rfl
  hmg := fun _ => rfl
  hbase := fun _ => rfl
  hN := fun _ => rfl
  nd := nd
  room := fun _ => hr
  calm := fun _ => rfl
/-- what the slots hold at the start -/
def start (N : List Str) (ds : List D) : List (Option DV) := ds.map (fun d => some (.imm d)) ++ List.replicate (N.length - ds.length) none
theorem start_get {N : List Str} {C : Kc} {G : Hp} {vs : List V} {ds : List D} (h : DenL C G vs ds) (i : Nat) (e : DV) (q : (start N ds)[i]? = some (some e)) : ∃ v d, (L2.start N vs)[i]? = some (some v) ∧ e = .imm d ∧ Den C G v d := by
  unfold start at q
  unfold L2.start
  rcases Nat.lt_or_ge i ds.length with hi | hi
  · rw [List.getElem?_append_left (by simpa using hi), List.getElem?_map] at q
    cases r : ds[i]? with
    | none => rw [r] at q; cases q
    | some d =>
      rw [r] at q
      obtain ⟨v, h1, h2⟩ := h.get r
      refine ⟨v, d, ?_, by simpa using q.symm, h2⟩
      rw [List.getElem?_append_left (by rw [List.length_map, h.length]; exact hi), List.getElem?_map, h1]
      rfl
  · rw [List.getElem?_append_right (by simpa using hi)] at q
    rw [List.getElem?_replicate] at q
    split at q <;> cases q
theorem ctx_start {N : List Str} {C : Kc} {G H : Hp} {vs : List V} {ds : List D} (s : Same G H) (h : DenL C G vs ds) : Ctx C G H (L2.start N vs) ⟨start N ds, none⟩ where
  sub := s
  len := by simp [L2.start, start, h.length]
  im := fun i d q => by
    obtain ⟨v, d', h1, h2, h3⟩ := start_get h i _ q
    cases h2
    exact ⟨v, h1, h3⟩
  ow := fun i ds q => by obtain ⟨_, _, _, z, _⟩ := start_get h i _ q; cases z
  apart := fun i j ds es a q => by obtain ⟨_, _, _, z, _⟩ := start_get h i _ q; cases z
  bg := fun i b o z => by cases z
  bag := trivial
  nob := fun i b o ds z => by cases z
theorem oa_start {N : List Str} {C : Kc} {G : Hp} {vs : List V} {ds : List D} (h : DenL C G vs ds) (a : Addr) : ¬ OA C (L2.start N vs) ⟨start N ds, none⟩ a := fun z => by
  rcases z with ⟨i, es, q, _⟩ | ⟨o, z⟩
  · obtain ⟨_, _, _, z, _⟩ := start_get h i _ q; cases z
  · cases z
section
variable {P : Program} {w : World} {C : Kc} {mg : Str → Option Value} {base : Heap}
/-- THE RULE for a def without changes -/
theorem fnP {x qual : Str} {st : Stmt} {f : Addr} {fd : FuncData} {N ps : List Str} {k : Nat} {R : List D → D → Prop} (F : Fun C.K x qual st f fd) (Sc : FnScope N ps (defScope st)) (len : ∀ ds d, R ds d → ds.length = ps.length)
    (body : ∀ ds d, R ds d → ∀ cdv A outer s H E hr, DS (famD C P w mg base N Sc.nd qual (defScope st) f cdv A outer s H E k hr) (defBody st) ⟨start N ds, none⟩ { rt := fun d' _ => d' = d, nx := fun _ => d = .non }) : FnOk P w C.K mg base CX0 (k + 1) f fd ps (spP C R) := by
  refine F.ok Sc (fun vs H Q E h => ?_) (fun cdv A outer s H vs Q E hr h => ?_)
  · obtain ⟨G, ds, d, hR, _, dl, _⟩ := h
    rw [dl.length]; exact len ds d hR
  · obtain ⟨G, ds, d, hR, sub, dl, q⟩ := h
    refine ⟨_, anyS_ok (F := famD C P w mg base N Sc.nd qual (defScope st) f cdv A outer s H E k hr) (), ?_⟩
    have key : ∀ σ2 S2 G2 H2, Mw C (L2.start N vs) ⟨start N ds, none⟩ G H σ2 S2 G2 H2 → Pu G H G2 H2 := fun σ2 S2 G2 H2 m =>
      ⟨fun a o h => m.go.keep a o (oa_start dl a) h, m.go.gg, m.cx.sub, fun a h1 h2 => m.go.fr a (oa_start dl a) h1 h2⟩
    refine body ds d hR cdv A outer s H E hr (L2.start N vs) G H (ctx_start sub dl) _ ⟨fun σ2 S2 G2 H2 m e => ?_, fun v d' σ2 S2 G2 H2 m dv e => ?_, fun _ _ _ _ _ e => e.elim, fun _ _ _ _ _ e => e.elim, fun _ _ _ _ _ _ _ _ _ _ _ _ e => e.elim⟩
    · exact q .non G2 H2 (key _ _ _ _ m) (by rw [e]; exact .non)
    · cases e
      exact q v G2 H2 (key _ _ _ _ m) dv
/-- THE RULE for a def that hands back a new list of its own -/
theorem fnO {x qual : Str} {st : Stmt} {f : Addr} {fd : FuncData} {N ps : List Str} {k : Nat} {R : List D → List D → Prop} (F : Fun C.K x qual st f fd) (Sc : FnScope N ps (defScope st)) (len : ∀ ds es, R ds es → ds.length = ps.length)
    (body : ∀ ds es, R ds es → ∀ cdv A outer s H E hr, DS (famD C P w mg base N Sc.nd qual (defScope st) f cdv A outer s H E k hr) (defBody st) ⟨start N ds, none⟩ { ro := fun es' _ => es' = es }) : FnOk P w C.K mg base CX0 (k + 1) f fd ps (spO C R) := by
  refine F.ok Sc (fun vs H Q E h => ?_) (fun cdv A outer s H vs Q E hr h => ?_)
  · obtain ⟨G, ds, es, hR, _, dl, _⟩ := h
    rw [dl.length]; exact len ds es hR
  · obtain ⟨G, ds, es, hR, sub, dl, q⟩ := h
    refine ⟨_, anyS_ok (F := famD C P w mg base N Sc.nd qual (defScope st) f cdv A outer s H E k hr) (), ?_⟩
    refine body ds es hR cdv A outer s H E hr (L2.start N vs) G H (ctx_start sub dl) _ ⟨fun _ _ _ _ _ e => e.elim, fun _ _ _ _ _ _ _ _ e => e.elim, fun _ _ _ _ _ e => e.elim, fun _ _ _ _ _ e => e.elim, fun p ev es' σ2 S2 G2 H2 m h1 h2 h3 h4 e => ?_⟩
    cases e
    exact q p ev G2 H2 ⟨fun a o h => m.go.keep a o (oa_start dl a) h, m.go.gg, m.cx.sub, fun a h1 h2 => m.go.fr a (oa_start dl a) h1 h2⟩ h1 h2 h3 h4
def startB (N : List Str) (ds : List D) : List (Option DV) := some .bag :: start N.tail ds
theorem ctx_startB {n : Str} {N : List Str} {G H : Hp} {b : Addr} {vs : List V} {ds : List D} {bo : BG} (s : Same G H) (h : DenL C G vs ds) (hb : BagOk C G H (some (b, bo))) : Ctx C G H (L2.start (n :: N) (.ref b :: vs)) ⟨startB (n :: N) ds, some (b, bo)⟩ := by
  have e : L2.start (n :: N) (.ref b :: vs) = some (.ref b) :: L2.start N vs := by simp [L2.start]
  have c := ctx_start (N := N) s h
  rw [e]
  refine ⟨s, by simp [startB, c.len, start, L2.start, h.length], fun i d q => ?_, fun i es q => ?_, fun i j es fs a q => ?_, fun i b' o z q => ?_, hb, fun i b' o es z q => ?_⟩
  · cases i with
    | zero => cases q
    | succ i => simpa using c.im i d (by simpa [startB] using q)
  · cases i with
    | zero => cases q
    | succ i => simpa using c.ow i es (by simpa [startB] using q)
  · cases i with
    | zero => cases q
    | succ i => obtain ⟨_, _, _, z, _⟩ := start_get (N := N) h i _ (by simpa [startB] using q); cases z
  · cases z
    cases i with
    | zero => rfl
    | succ i => obtain ⟨_, _, _, z, _⟩ := start_get (N := N) h i _ (by simpa [startB] using q); cases z
  · cases i with
    | zero => cases q
    | succ i => obtain ⟨_, _, _, z, _⟩ := start_get (N := N) h i _ (by simpa [startB] using q); cases z
theorem oa_startB {n : Str} {N : List Str} {G : Hp} {b : Addr} {vs : List V} {ds : List D} {bo : BG} (h : DenL C G vs ds) (a : Addr) (z : OA C (L2.start (n :: N) (.ref b :: vs)) ⟨startB (n :: N) ds, some (b, bo)⟩ a) : a = b := by
  rcases z with ⟨i, es, q, _⟩ | ⟨o, z⟩
  · cases i with
    | zero => cases q
    | succ i => obtain ⟨_, _, _, z, _⟩ := start_get (N := N) h i _ (by simpa [startB] using q); cases z
  · cases z; rfl
/-- THE RULE for a def that changes its first argument, a list -/
theorem fnB {x qual : Str} {st : Stmt} {f : Addr} {fd : FuncData} {n : Str} {N ps : List Str} {k : Nat} {R : List D → List D → D → List D → Prop} (F : Fun C.K x qual st f fd) (Sc : FnScope (n :: N) ps (defScope st)) (len : ∀ ds gs d gs', R ds gs d gs' → ds.length + 1 = ps.length)
    (body : ∀ ds gs d gs', R ds gs d gs' → ∀ b cdv A outer s H E hr, DS (famD C P w mg base (n :: N) Sc.nd qual (defScope st) f cdv A outer s H E k hr) (defBody st) ⟨startB (n :: N) ds, some (b, .lst gs)⟩
      { rt := fun d' S => d' = d ∧ S.g = some (b, .lst gs'), nx := fun S => d = .non ∧ S.g = some (b, .lst gs') }) : FnOk P w C.K mg base CX0 (k + 1) f fd ps (spB C R) := by
  refine F.ok Sc (fun vs H Q E h => ?_) (fun cdv A outer s H vs Q E hr h => ?_)
  · obtain ⟨G, b, ws, gv, ds, gs, d, gs', rfl, hR, _, _, _, _, dl, _⟩ := h
    rw [List.length_cons, dl.length]; exact len ds gs d gs' hR
  · obtain ⟨G, b, ws, gv, ds, gs, d, gs', rfl, hR, sub, gb, hb, dg, dl, q⟩ := h
    refine ⟨_, anyS_ok (F := famD C P w mg base (n :: N) Sc.nd qual (defScope st) f cdv A outer s H E k hr) (), ?_⟩
    have fin : ∀ v σ2 S2 G2 H2, Mw C (L2.start (n :: N) (.ref b :: ws)) ⟨startB (n :: N) ds, some (b, .lst gs)⟩ G H σ2 S2 G2 H2 → S2.g = some (b, .lst gs') → Den C G2 v d → Q v H2 := fun v σ2 S2 G2 H2 m e dv => by
      have z := m.cx.bag
      rw [e] at z
      obtain ⟨z1, gv', z2, z3⟩ := z
      exact q v G2 H2 gv' (m.go.mono fun a => oa_startB dl a) m.cx.sub z1 z2 z3 dv
    refine body ds gs d gs' hR b cdv A outer s H E hr _ G H (ctx_startB sub dl ⟨gb, gv, hb, dg⟩) _ ⟨fun σ2 S2 G2 H2 m e => ?_, fun v d' σ2 S2 G2 H2 m dv e => ?_, fun _ _ _ _ _ e => e.elim, fun _ _ _ _ _ e => e.elim, fun _ _ _ _ _ _ _ _ _ _ _ _ e => e.elim⟩
    · exact fin .non _ _ _ _ m e.2 (by rw [e.1]; exact .non)
    · exact fin v _ _ _ _ m e.2 (e.1 ▸ dv)
/-- THE RULE for an __init__ -/
theorem fnI {x qual : Str} {st : Stmt} {f : Addr} {fd : FuncData} {c : Nat} {n : Str} {N ps : List Str} {k : Nat} {R : List D → List (Str × D) → Prop} (F : Fun C.K x qual st f fd) (Sc : FnScope (n :: N) ps (defScope st)) (len : ∀ ds fs, R ds fs → ds.length + 1 = ps.length)
    (body : ∀ ds fs, R ds fs → ∀ b cdv A outer s H E hr, DS (famD C P w mg base (n :: N) Sc.nd qual (defScope st) f cdv A outer s H E k hr) (defBody st) ⟨startB (n :: N) ds, some (b, .ins c [])⟩
      { nx := fun S => S.g = some (b, .ins c fs) }) : FnOk P w C.K mg base CX0 (k + 1) f fd ps (spI C c R) := by
  refine F.ok Sc (fun vs H Q E h => ?_) (fun cdv A outer s H vs Q E hr h => ?_)
  · obtain ⟨G, b, dx, ws, ds, fs, rfl, hR, _, _, _, dl, _⟩ := h
    rw [List.length_cons, dl.length]; exact len ds fs hR
  · obtain ⟨G, b, dx, ws, ds, fs, rfl, hR, sub, gb, hb, dl, q⟩ := h
    refine ⟨_, anyS_ok (F := famD C P w mg base (n :: N) Sc.nd qual (defScope st) f cdv A outer s H E k hr) (), ?_⟩
    refine body ds fs hR b cdv A outer s H E hr _ G H (ctx_startB sub dl ⟨gb, dx, [], hb, .nil⟩) _ ⟨fun σ2 S2 G2 H2 m e => ?_, fun v d' σ2 S2 G2 H2 m dv e => e.elim, fun _ _ _ _ _ e => e.elim, fun _ _ _ _ _ e => e.elim, fun _ _ _ _ _ _ _ _ _ _ _ _ e => e.elim⟩
    have z := m.cx.bag
    rw [e] at z
    obtain ⟨z1, dx2, fv, z2, z3⟩ := z
    exact q G2 H2 dx2 fv (m.go.mono fun a => oa_startB dl a) m.cx.sub z1 z2 z3
/-- .. with defaults -/
theorem fnID {x qual : Str} {st : Stmt} {dvs : List V} {kws : List (Str × V)} {f : Addr} {fd : FuncData} {c : Nat} {n : Str} {N ps : List Str} {k : Nat} {R : List D → List (Str × D) → Prop} (F : FunD C.K x qual (defArgs st) (defBody st) (defScope st) dvs kws f fd) (Sc : FnScope (n :: N) ps (defScope st)) (len : ∀ ds fs, R ds fs → ds.length + 1 = ps.length)
    (body : ∀ ds fs, R ds fs → ∀ b cdv A outer s H E hr, DS (famD C P w mg base (n :: N) Sc.nd qual (defScope st) f cdv A outer s H E k hr) (defBody st) ⟨startB (n :: N) ds, some (b, .ins c [])⟩
      { nx := fun S => S.g = some (b, .ins c fs) }) : FnOk P w C.K mg base CX0 (k + 1) f fd ps (spI C c R) := by
  refine F.ok Sc (fun vs H Q E h => ?_) (fun cdv A outer s H vs Q E hr h => ?_)
  · obtain ⟨G, b, dx, ws, ds, fs, rfl, hR, _, _, _, dl, _⟩ := h
    rw [List.length_cons, dl.length]; exact len ds fs hR
  · obtain ⟨G, b, dx, ws, ds, fs, rfl, hR, sub, gb, hb, dl, q⟩ := h
    refine ⟨_, PSs.nox (anyS_ok (F := famD C P w mg base (n :: N) Sc.nd qual (defScope st) f cdv A outer s H E k hr) ()), ?_⟩
    refine body ds fs hR b cdv A outer s H E hr _ G H (ctx_startB sub dl ⟨gb, dx, [], hb, .nil⟩) _ ⟨fun σ2 S2 G2 H2 m e => ?_, fun v d' σ2 S2 G2 H2 m dv e => e.elim, fun _ _ _ _ _ e => e.elim, fun _ _ _ _ _ e => e.elim, fun _ _ _ _ _ _ _ _ _ _ _ _ e => e.elim⟩
    have z := m.cx.bag
    rw [e] at z
    obtain ⟨z1, dx2, fv, z2, z3⟩ := z
    exact q G2 H2 dx2 fv (m.go.mono fun a => oa_startB dl a) m.cx.sub z1 z2 z3
end
end DL
/-! DL4: statements, loops, comprehensions on data. -/
namespace DL
open PySem L2

section
variable {F : Fam} {S S1 S2 S3 : ST} {e a b : Expr} {d x y z : D} {pos p apos : Pos} {es : List Expr} {ds : List D} {k : Bool} {nm : Str} {P : Po} {rest t u : List Stmt} {st : Stmt} {M : ST → Prop}

/-! ### blocks -/
theorem ds_nil (h : P.nx S) : DS F [] S P := ds_of (fun _ => pss_nil) fun σ G H c E m => m.nx σ S G H (.refl c) h
theorem ds_cons (h1 : D1 F st S { P with nx := M }) (h2 : ∀ S2, M S2 → DS F rest S2 P) : DS F (st :: rest) S P :=
  ds_of (te := tSeq (any1 F st) (anyS F rest)) (fun i => pss_cons (any1_ok i) (anyS_ok i)) fun σ G H c E m =>
    h1 σ G H c _ ⟨fun σ2 S2 G2 H2 a q => h2 S2 q σ2 G2 H2 a.cx E (m.move a), m.rt, m.bk, m.ct, m.ro⟩
theorem d1_mono {P' : Po} (h : D1 F st S P) (h1 : ∀ S, P.nx S → P'.nx S) (h2 : ∀ d S, P.rt d S → P'.rt d S) (h3 : ∀ S, P.bk S → P'.bk S) (h4 : ∀ S, P.ct S → P'.ct S) (h5 : ∀ es S, P.ro es S → P'.ro es S := by intro _ _ z; exact z) : D1 F st S P' := fun σ G H c E m =>
  h σ G H c E ⟨fun σ2 S2 G2 H2 a q => m.nx _ _ _ _ a (h1 _ q), fun v d σ2 S2 G2 H2 a q r => m.rt _ _ _ _ _ _ a q (h2 _ _ r), fun σ2 S2 G2 H2 a q => m.bk _ _ _ _ a (h3 _ q), fun σ2 S2 G2 H2 a q => m.ct _ _ _ _ a (h4 _ q), fun p ev es σ2 S2 G2 H2 a r1 r2 r3 r4 q => m.ro _ _ _ _ _ _ _ a r1 r2 r3 r4 (h5 _ _ q)⟩
theorem ds_mono {P' : Po} {sts : List Stmt} (h : DS F sts S P) (h1 : ∀ S, P.nx S → P'.nx S) (h2 : ∀ d S, P.rt d S → P'.rt d S) (h3 : ∀ S, P.bk S → P'.bk S) (h4 : ∀ S, P.ct S → P'.ct S) (h5 : ∀ es S, P.ro es S → P'.ro es S := by intro _ _ z; exact z) : DS F sts S P' := fun σ G H c E m =>
  h σ G H c E ⟨fun σ2 S2 G2 H2 a q => m.nx _ _ _ _ a (h1 _ q), fun v d σ2 S2 G2 H2 a q r => m.rt _ _ _ _ _ _ a q (h2 _ _ r), fun σ2 S2 G2 H2 a q => m.bk _ _ _ _ a (h3 _ q), fun σ2 S2 G2 H2 a q => m.ct _ _ _ _ a (h4 _ q), fun p ev es σ2 S2 G2 H2 a r1 r2 r3 r4 q => m.ro _ _ _ _ _ _ _ a r1 r2 r3 r4 (h5 _ _ q)⟩
theorem d1_pass (h : P.nx S) : D1 F (.Pass pos) S P := d1_of (fun _ => ps_pass) fun σ G H c E m => m.nx σ S G H (.refl c) h
theorem d1_break (h : P.bk S) : D1 F (.Break pos) S P := d1_of (fun _ => ps_break) fun σ G H c E m => m.bk σ S G H (.refl c) h
theorem d1_cont (h : P.ct S) : D1 F (.Continue pos) S P := d1_of (fun _ => ps_continue) fun σ G H c E m => m.ct σ S G H (.refl c) h
theorem d1_ret (h : DE F e S S1 d) (q : P.rt d S1) : D1 F (.Return (some e) pos) S P := d1_of (te := tRet (anyE F e)) (fun i => ps_ret (anyE_ok i)) fun σ G H c E m =>
  h σ G H c _ fun v G1 H1 m1 dv => m.rt v d σ S1 G1 H1 m1.mw dv q
/-- return of a new list -/
theorem d1_retO (h : DO F e S S1 ds) (q : P.ro ds S1) : D1 F (.Return (some e) pos) S P := d1_of (te := tRet (anyE F e)) (fun i => ps_ret (anyE_ok i)) fun σ G H c E m =>
  h σ G H c _ fun p ev G1 H1 m1 h1 h2 h3 h4 => m.ro p ev ds σ S1 G1 H1 m1.mw h1 h2 h3 h4 q
theorem ds_retO (h : DO F e S S1 ds) (q : P.ro ds S1) : DS F (.Return (some e) pos :: rest) S P := ds_cons (M := fun _ => False) (d1_retO h q) fun _ z => z.elim
theorem d1_retN (q : P.rt .non S) : D1 F (.Return none pos) S P := d1_of (te := tRetN) (fun i => ps_retN) fun σ G H c E m => m.rt .non .non σ S G H (.refl c) .non q
theorem ds_ret (h : DE F e S S1 d) (q : P.rt d S1) : DS F (.Return (some e) pos :: rest) S P := ds_cons (M := fun _ => False) (d1_ret h q) fun _ z => z.elim
theorem d1_expr (h : DE F e S S1 d) (q : P.nx S1) (hs : ∀ i, swapsWith e none pos.line (F.X i).env = pure false := by intro _; rfl) : D1 F (.Expr e pos) S P := d1_of (te := tDrop (anyE F e)) (fun i => ps_expr (anyE_ok i) (hs i)) fun σ G H c E m =>
  h σ G H c _ fun v G1 H1 m1 dv => m.nx σ S1 G1 H1 m1.mw q
theorem ds_expr (h : DE F e S S1 d) (q : DS F rest S1 P) (hs : ∀ i, swapsWith e none pos.line (F.X i).env = pure false := by intro _; rfl) : DS F (.Expr e pos :: rest) S P :=
  ds_cons (M := fun S2 => S2 = S1) (d1_expr h rfl hs) fun _ z => z ▸ q
theorem d1_if {c : Expr} (hc : DT F c S S1 k) (h1 : k = true → DS F t S1 P) (h2 : k = false → DS F u S1 P) : D1 F (.If c t u pos) S P :=
  d1_of (te := tIfS (anyT F c) (anyS F t) (anyS F u)) (fun i => ps_if (anyT_ok i) (anyS_ok i) (anyS_ok i)) fun σ G H cx E m => hc σ G H cx _ fun G1 H1 m1 => by
    cases k with
    | true => rw [if_pos rfl]; exact h1 rfl σ G1 H1 m1.cx E (m.move m1.mw)
    | false => rw [if_neg Bool.false_ne_true]; exact h2 rfl σ G1 H1 m1.cx E (m.move m1.mw)
/-- if c: .. (left by return, break or continue), then the rest -/
theorem ds_ifr {c : Expr} (hc : DT F c S S1 k) (h1 : k = true → DS F t S1 { P with nx := fun _ => False }) (h2 : k = false → DS F rest S1 P) : DS F (.If c t [] pos :: rest) S P :=
  ds_cons (M := fun S2 => S2 = S1 ∧ k = false) (d1_if hc (fun h => ds_mono (h1 h) (fun _ z => z.elim) (fun _ _ z => z) (fun _ z => z) fun _ z => z) fun h => ds_nil ⟨rfl, h⟩) fun _ ⟨z, h⟩ => z ▸ h2 h
/-- .. joined behind -/
theorem ds_if (M : ST → Prop) {c : Expr} (hc : DT F c S S1 k) (h1 : k = true → DS F t S1 { P with nx := M }) (h2 : k = false → DS F u S1 { P with nx := M }) (h3 : ∀ S2, M S2 → DS F rest S2 P) : DS F (.If c t u pos :: rest) S P :=
  ds_cons (M := M) (d1_if hc h1 h2) h3
/-! ### stores -/
theorem d1_set {j : Nat} {x : Str} {pos' : Pos} (he : DE F e S S1 d) (q : P.nx (S1.set j d)) (hN : ∀ i, (F.X i).N[j]? = some x := by intro _; rfl) (hx : ∀ i, Loc (F.X i).env.scope x := by intro _; first | exact Or.inl rfl | exact Or.inr rfl)
    (hs : ∀ i, swapsWith e (some (.Name x pos')) pos.line (F.X i).env = pure false := by intro _; rfl) (hf : ∀ i, (F.X i).fn x = true ∨ (F.X i).env.scope.names.lookup x = some .local := by intro _; first | exact .inl rfl | exact .inr rfl) : D1 F (.Assign [.Name x pos'] e pos) S P :=
  d1_of (te := tAsg (anyE F e) (gName j)) (fun i => ps_set (by rw [F.hN i]; exact F.nd) (hN i) (hx i) (anyE_ok i) (hs i) (hf i)) fun σ G H c E m => he σ G H c _ fun v G1 H1 m1 dv =>
    m.nx _ _ G1 H1 (m1.mw.trans (m1.cx.store dv)) q
theorem ds_set {j : Nat} {x : Str} {pos' : Pos} (he : DE F e S S1 d) (q : DS F rest (S1.set j d) P) (hN : ∀ i, (F.X i).N[j]? = some x := by intro _; rfl) (hx : ∀ i, Loc (F.X i).env.scope x := by intro _; first | exact Or.inl rfl | exact Or.inr rfl)
    (hs : ∀ i, swapsWith e (some (.Name x pos')) pos.line (F.X i).env = pure false := by intro _; rfl) (hf : ∀ i, (F.X i).fn x = true ∨ (F.X i).env.scope.names.lookup x = some .local := by intro _; first | exact .inl rfl | exact .inr rfl) : DS F (.Assign [.Name x pos'] e pos :: rest) S P :=
  ds_cons (M := fun S2 => S2 = S1.set j d) (d1_set he rfl hN hx hs hf) fun _ z => z ▸ q
/-- targets -/
def anyG (F : Fam) (tg : Expr) : TG := fun v σ H Q => ∃ g, (∀ i, PG (F.X i) tg g) ∧ g v σ H Q
theorem anyG_ok {tg : Expr} (i : F.I) : PG (F.X i) tg (anyG F tg) := by
  constructor
  intro pins s σ H v u Q I r h
  obtain ⟨g, h1, h2⟩ := h
  exact (h1 i).run pins s σ H v u Q I r h2
/-- the slots js may be stored -/
def Only (js : List Nat) (σ σ2 : L2.St) : Prop := ∀ vs : List Nat, (∀ j ∈ js, j ∈ vs) → wipe σ2 vs = wipe σ vs
theorem wipe_set_none (σ : L2.St) (j : Nat) (x : Option V) : ∀ vs : List Nat, (wipe (σ.set j x) vs).set j none = (wipe σ vs).set j none
  | [] => by unfold wipe; rw [List.set_set]
  | v :: vs => by
    unfold wipe
    by_cases h : v = j
    · subst h
      rw [List.set_set, List.set_set, wipe_set_none σ v x vs]
    · rw [List.set_comm _ _ h, wipe_set_none σ j x vs, List.set_comm _ _ h]
theorem wipe_set_in (σ : L2.St) (j : Nat) (x : Option V) : ∀ vs : List Nat, j ∈ vs → wipe (σ.set j x) vs = wipe σ vs
  | [], h => nomatch h
  | v :: vs, h => by
    unfold wipe
    by_cases e : v = j
    · subst e; exact wipe_set_none σ v x vs
    · have : j ∈ vs := by
        rcases List.mem_cons.mp h with z | z
        · exact absurd z.symm e
        · exact z
      rw [wipe_set_in σ j x vs this]
def DG (F : Fam) (tg : Expr) (d : D) (S S' : ST) (js : List Nat) : Prop := ∀ σ G H v, Ctx F.C G H σ S → Den F.C G v d → ∀ Q : L2.St → Hp → Prop, (∀ σ2 G2 H2, Mw F.C σ S G H σ2 S' G2 H2 → Only js σ σ2 → Q σ2 H2) → anyG F tg v σ H Q
def anyGs (F : Fam) (tg : List Expr) : TGs := fun v σ H Q => ∃ g, (∀ i, PGs (F.X i) tg g) ∧ g v σ H Q
theorem anyGs_ok {tg : List Expr} (i : F.I) : PGs (F.X i) tg (anyGs F tg) := by
  constructor
  intro pins s σ H v u Q I r h
  obtain ⟨g, h1, h2⟩ := h
  exact (h1 i).run pins s σ H v u Q I r h2
def DGs (F : Fam) (tg : List Expr) (ds : List D) (S S' : ST) (js : List Nat) : Prop := ∀ σ G H vs, Ctx F.C G H σ S → DenL F.C G vs ds → ∀ Q : L2.St → Hp → Prop, (∀ σ2 G2 H2, Mw F.C σ S G H σ2 S' G2 H2 → Only js σ σ2 → Q σ2 H2) → anyGs F tg vs σ H Q
theorem dg_name {j : Nat} {x : Str} (hN : ∀ i, (F.X i).N[j]? = some x := by intro _; rfl) (hx : ∀ i, Loc (F.X i).env.scope x := by intro _; first | exact Or.inl rfl | exact Or.inr rfl)
    (hf : ∀ i, (F.X i).fn x = true ∨ (F.X i).env.scope.names.lookup x = some .local := by intro _; first | exact .inl rfl | exact .inr rfl) : DG F (.Name x pos) d S (S.set j d) [j] := fun σ G H v c dv Q q =>
  ⟨gName j, fun i => pg_name (by rw [F.hN i]; exact F.nd) (hN i) (hx i) (hf i), q _ G H (c.store dv) fun vs h => wipe_set_in σ j _ vs (h j List.mem_cons_self)⟩
theorem dgs_nil : DGs F [] [] S S [] := fun σ G H vs c dv Q q => ⟨gNil, fun i => pgs_nil, by cases dv; exact ⟨rfl, q _ G H (.refl c) fun _ _ => rfl⟩⟩
theorem dgs_cons {tg : Expr} {tgs : List Expr} {js ks : List Nat} (h1 : DG F tg d S S1 js) (h2 : DGs F tgs ds S1 S2 ks) (hs : ∀ i, PGs (F.X i) (tg :: tgs) (gCons (anyG F tg) (anyGs F tgs)) := by intro i; exact pgs_cons (anyG_ok i) (anyGs_ok i)) : DGs F (tg :: tgs) (d :: ds) S S2 (js ++ ks) := fun σ G H vs c dv Q q =>
  ⟨gCons (anyG F tg) (anyGs F tgs), hs, by
    cases dv with
    | cons hd hl => exact ⟨_, _, rfl, h1 σ G H _ c hd _ fun σ1 G1 H1 m1 o1 => h2 σ1 G1 H1 _ m1.cx (hl.mono m1.go.gg) Q fun σ2 G2 H2 m2 o2 => q σ2 G2 H2 (m1.trans m2) fun vs h => (o2 vs fun j hj => h j (List.mem_append_right _ hj)).trans (o1 vs fun j hj => h j (List.mem_append_left _ hj))⟩⟩
theorem dg_tup {tgs : List Expr} {kk : Nat} {js : List Nat} (h : DGs F tgs ds S S1 js) (hp : ∀ i, PG (F.X i) (.Tuple tgs kk pos) (gTup (F.X i).K ds.length (anyGs F tgs)) := by intro i; exact pg_tup (Fam.calm _ i) (anyGs_ok i)) : DG F (.Tuple tgs kk pos) (.tup ds) S S1 js := fun σ G H v c dv Q q =>
  ⟨gTup F.C.K ds.length (anyGs F tgs), fun i => by have := hp i; rw [F.hK i] at this; exact this, by
    cases dv with
    | tup h1 h2 => exact ⟨_, _, rfl, same_t c.sub h1, h2.length, h σ G H _ c h2 Q q⟩⟩
theorem d1_asg {tg : Expr} {js : List Nat} (he : DE F e S S1 d) (hg : DG F tg d S1 S2 js) (q : P.nx S2) (hs : ∀ i, swapsWithSole [tg] e pos.line (F.X i).env = pure false := by intro _; rfl) (hw : ∀ i, swappedStores [tg] e (F.X i).env = pure none := by intro _; rfl)
    (ho : ∀ i, PS (F.X i) (.Assign [tg] e pos) (tAsg (anyE F e) (anyG F tg)) := by intro i; exact ps_asg (anyE_ok i) (anyG_ok i)) : D1 F (.Assign [tg] e pos) S P :=
  d1_of (te := tAsg (anyE F e) (anyG F tg)) ho fun σ G H c E m => he σ G H c _ fun v G1 H1 m1 dv => hg σ G1 H1 v m1.cx dv _ fun σ2 G2 H2 m2 _ => m.nx _ _ _ _ (m1.mw.trans m2) q
theorem ds_asg {tg : Expr} {js : List Nat} (he : DE F e S S1 d) (hg : DG F tg d S1 S2 js) (q : DS F rest S2 P)
    (ho : ∀ i, PS (F.X i) (.Assign [tg] e pos) (tAsg (anyE F e) (anyG F tg)) := by intro i; exact ps_asg (anyE_ok i) (anyG_ok i)) : DS F (.Assign [tg] e pos :: rest) S P :=
  ds_cons (M := fun S3 => S3 = S2) (d1_of (te := tAsg (anyE F e) (anyG F tg)) ho fun σ G H c E m => he σ G H c _ fun v G1 H1 m1 dv => hg σ G1 H1 v m1.cx dv _ fun σ2 G2 H2 m2 _ => m.nx _ _ _ _ (m1.mw.trans m2) rfl) fun _ z => z ▸ q
end
end DL
/-! DL5: parallel stores, the handed object, own lists, loops, comprehensions. -/
namespace DL
open PySem L2

section
variable {F : Fam} {S S1 S2 S3 : ST} {e a b c : Expr} {d x y z : D} {pos p apos : Pos} {es : List Expr} {ds : List D} {k : Bool} {nm : Str} {P : Po} {rest t u : List Stmt} {st : Stmt} {M : ST → Prop}

/-! ### a, b = x, y -/
theorem ds_par {i j : Nat} {n1 n2 : Str} {px py pt : Pos} {kt k2 : Nat} {pt2 : Pos} (ha : DE F a S S1 x) (hb : DE F b S1 S2 y) (q : DS F rest ((S2.set i x).set j y) P) (hi : ∀ l, (F.X l).N[i]? = some n1 := by intro _; rfl) (hj : ∀ l, (F.X l).N[j]? = some n2 := by intro _; rfl) (hij : i ≠ j := by decide)
    (hx : ∀ l, (F.X l).env.scope.names.lookup n1 = some .local := by intro _; rfl) (hy : ∀ l, (F.X l).env.scope.names.lookup n2 = some .local := by intro _; rfl)
    (hw : ∀ l, swappedStores [.Tuple [.Name n1 px, .Name n2 py] kt pt] (.Tuple [a, b] k2 pt2) (F.X l).env = pure (some [n1, n2]) := by intro _; rfl)
    (hs : ∀ l, swapsWithSole [.Tuple [.Name n1 px, .Name n2 py] kt pt] (.Tuple [a, b] k2 pt2) pos.line (F.X l).env = pure false := by intro _; rfl)
    (hst : ∀ i, starEach [a, b] (F.X i).env = (false, eval a (F.X i).env) :: starEach [b] (F.X i).env := by intro _; rfl) (hst2 : ∀ i, starEach [b] (F.X i).env = (false, eval b (F.X i).env) :: starEach [] (F.X i).env := by intro _; rfl) :
    DS F (.Assign [.Tuple [.Name n1 px, .Name n2 py] kt pt] (.Tuple [a, b] k2 pt2) pos :: rest) S P := by
  refine ds_cons (M := fun S3 => S3 = (S2.set i x).set j y) (d1_of (te := tPar i j (tCons (anyE F a) (tCons (anyE F b) tNil))) (fun l => ps_par (F.calm l) (by rw [F.hN l]; exact F.nd) (hi l) (hj l) hij (hx l) (hy l) (pa_cons (anyE_ok l) (pa_cons (anyE_ok l) pa_nil (hst2 l)) (hst l)) (hw l) (hs l)) ?_) fun _ z => z ▸ q
  intro σ G H c E m
  refine ha σ G H c _ fun v G1 H1 m1 d1 => hb σ G1 H1 m1.cx _ fun w G2 H2 m2 d2 => ⟨v, w, rfl, ?_⟩
  have s1 := m2.cx.store (i := i) (d1.mono m2.go.gg)
  exact m.nx _ _ _ _ ((m1.mw.trans m2.mw).trans (s1.trans (s1.cx.store (i := j) d2))) rfl
theorem ds_par3 {i j l : Nat} {w : D} {n1 n2 n3 : Str} {px py pz pt : Pos} {kt k2 : Nat} {pt2 : Pos} (ha : DE F a S S1 x) (hb : DE F b S1 S2 y) (hc : DE F c S2 S3 w) (q : DS F rest (((S3.set i x).set j y).set l w) P) (hi : ∀ o, (F.X o).N[i]? = some n1 := by intro _; rfl) (hj : ∀ o, (F.X o).N[j]? = some n2 := by intro _; rfl) (hl : ∀ o, (F.X o).N[l]? = some n3 := by intro _; rfl)
    (hij : i ≠ j := by decide) (hil : i ≠ l := by decide) (hjl : j ≠ l := by decide)
    (hp : ∀ o, PS (F.X o) (.Assign [.Tuple [.Name n1 px, .Name n2 py, .Name n3 pz] kt pt] (.Tuple [a, b, c] k2 pt2) pos) (tPar3 i j l (tCons (anyE F a) (tCons (anyE F b) (tCons (anyE F c) tNil)))) := by
      intro o; exact ps_par3 (F.calm o) (by rw [F.hN o]; exact F.nd) rfl rfl rfl (by decide) (by decide) (by decide) rfl rfl rfl (pa_cons (anyE_ok o) (pa_cons (anyE_ok o) (pa_cons (anyE_ok o) pa_nil))) rfl) :
    DS F (.Assign [.Tuple [.Name n1 px, .Name n2 py, .Name n3 pz] kt pt] (.Tuple [a, b, c] k2 pt2) pos :: rest) S P := by
  refine ds_cons (M := fun S4 => S4 = ((S3.set i x).set j y).set l w) (d1_of (te := tPar3 i j l (tCons (anyE F a) (tCons (anyE F b) (tCons (anyE F c) tNil)))) hp ?_) fun _ z => z ▸ q
  intro σ G H cx E m
  refine ha σ G H cx _ fun v1 G1 H1 m1 d1 => hb σ G1 H1 m1.cx _ fun v2 G2 H2 m2 d2 => hc σ G2 H2 m2.cx _ fun v3 G3 H3 m3 d3 => ⟨v1, v2, v3, rfl, ?_⟩
  have s1 := m3.cx.store (i := i) ((d1.mono m2.go.gg).mono m3.go.gg)
  have s2 := s1.cx.store (i := j) (d2.mono m3.go.gg)
  exact m.nx _ _ _ _ (((m1.mw.trans m2.mw).trans m3.mw).trans (s1.trans (s2.trans (s2.cx.store (i := l) d3)))) rfl

/-! ### the handed object: bag[i] = e, self.f = e -/
theorem ctx_bagSet {C : Kc} {σ : L2.St} {G H : Hp} {bb : Addr} {o o' : BG} {ho : HO} (cx : Ctx C G H σ S) (hg : S.g = some (bb, o)) (g2 : G bb = none) (hb : BagOk C G (upd H bb ho) (some (bb, o'))) : Mv C σ S G H ⟨S.s, some (bb, o')⟩ G (upd H bb ho) := by
  have ne : ∀ a, ¬ OA C σ S a → a ≠ bb := fun a n z => n (.inr ⟨o, by rw [z]; exact hg⟩)
  refine ⟨⟨fun a u n h => by rw [upd_ne (ne a n)]; exact h, fun _ _ h => h, fun _ _ _ h => h, fun a h => by
    by_cases z : a = bb
    · rw [z, upd_same]; simp
    · rw [upd_ne z]; exact h⟩, ⟨fun a u h => ?_, cx.len, cx.im, fun i ds h => ?_, cx.apart, fun i b o2 h h1 => ?_, hb, fun i b o2 ds h h1 => ?_⟩, fun a z => ?_⟩
  · have na : a ≠ bb := fun z => by rw [z, g2] at h; cases h
    rw [upd_ne na]; exact cx.sub _ _ h
  · obtain ⟨a, vs, h1, h3, h4, h5⟩ := cx.ow i ds h
    have na : a ≠ bb := fun z => cx.nob i bb _ ds hg h (by rw [← z]; exact h1)
    exact ⟨a, vs, h1, h3, by rw [upd_ne na]; exact h4, h5⟩
  · cases h; exact cx.bg i bb _ hg h1
  · cases h; exact cx.nob i bb _ ds hg h1
  · rcases z with z | ⟨o2, z⟩
    · exact .inl z
    · cases z; exact .inr ⟨_, hg⟩
theorem ds_bagSet {j : Nat} {x : Str} {i : Int} {n : Nat} {q1 : Pos} {bb : Addr} {gs : List D} (he : DE F e S S1 d) (hj : S1.s[j]? = some (some .bag)) (hb : DE F b S1 S1 (.int i)) (hg : S1.g = some (bb, .lst gs)) (hi : ixN gs.length i = some n) (q : DS F rest ⟨S1.s, some (bb, .lst (gs.set n d))⟩ P)
    (hN : ∀ i, (F.X i).N[j]? = some x := by intro _; rfl) (hv : ∀ i, Vis (F.X i).env.scope x := by intro _; first | exact Or.inl rfl | exact Or.inr (Or.inl rfl) | exact Or.inr (Or.inr rfl))
    (hd : (x == ("__debug__" : Str)) = false := by decide) (hcd : (x == ("__classdict__" : Str)) = false := by decide)
    (hp : ∀ i, PS (F.X i) (.Assign [.Subscript (.Name x q1) b p] e pos) (tAsg (anyE F e) (gSub (tVar j) (anyE F b) rSetL)) := by
      intro i; exact ps_asg (anyE_ok i) (pg_sub (pv _) (anyE_ok i) set_list)) :
    DS F (.Assign [.Subscript (.Name x q1) b p] e pos :: rest) S P := by
  refine ds_cons (M := fun S3 => S3 = ⟨S1.s, some (bb, .lst (gs.set n d))⟩) (d1_of (te := tAsg (anyE F e) (gSub (tVar j) (anyE F b) rSetL)) hp ?_) fun _ z => z ▸ q
  intro σ G H c E m
  refine he σ G H c _ fun v G1 H1 m1 dv => ⟨_, m1.cx.bg j _ _ hg hj, ?_⟩
  refine hb σ G1 H1 m1.cx _ fun w G2 H2 m2 dw => ?_
  cases dw
  have z := m2.cx.bag
  rw [hg] at z
  obtain ⟨z1, gv, z2, z3⟩ := z
  refine ⟨bb, gv, i, n, rfl, rfl, z2, by rw [z3.length]; exact hi, ?_⟩
  exact m.nx _ _ _ _ (m1.mw.trans (m2.mw.trans (ctx_bagSet (o' := .lst (gs.set n d)) m2.cx hg z1 ⟨z1, _, upd_same, z3.set (dv.mono m2.go.gg) n⟩).mw)) rfl
theorem ds_fld {j : Nat} {x f : Str} {q1 q2 : Pos} {bb : Addr} {cn : Nat} {fs : List (Str × D)} (he : DE F e S S1 d) (hj : S1.s[j]? = some (some .bag)) (hg : S1.g = some (bb, .ins cn fs)) (hc : Cls F.C.K (F.C.cl cn)) (hn : NoAttr F.C.K (F.C.cl cn) f) (q : DS F rest ⟨S1.s, some (bb, .ins cn (putD f d fs))⟩ P) (hl : fs.length < 1000 := by decide)
    (hN : ∀ i, (F.X i).N[j]? = some x := by intro _; rfl) (hv : ∀ i, Vis (F.X i).env.scope x := by intro _; first | exact Or.inl rfl | exact Or.inr (Or.inl rfl) | exact Or.inr (Or.inr rfl))
    (hd : (x == ("__debug__" : Str)) = false := by decide) (hcd : (x == ("__classdict__" : Str)) = false := by decide)
    (hs : ∀ i, swapsWith e (some (.Attribute (.Name x q1) f q2)) pos.line (F.X i).env = pure false := by intro _; rfl) : DS F (.Assign [.Attribute (.Name x q1) f q2] e pos :: rest) S P := by
  refine ds_cons (M := fun S3 => S3 = ⟨S1.s, some (bb, .ins cn (putD f d fs))⟩) (d1_of (te := sFld F.C.K (tVar j) (anyE F e) f) (fun i => by have := ps_fld (f := f) (pos := pos) (pos' := q2) (pe_var (pos := q1) (hN i) (hv i) hd hcd) (anyE_ok (e := e) i) (hs i); rw [F.hK i] at this; exact this) ?_) fun _ z => z ▸ q
  intro σ G H c E m
  refine he σ G H c _ fun v G1 H1 m1 dv => ⟨_, m1.cx.bg j _ _ hg hj, ?_⟩
  have z := m1.cx.bag
  rw [hg] at z
  obtain ⟨z1, dx, gv, z2, z3⟩ := z
  refine ⟨bb, _, dx, gv, rfl, z2, hc, hn, by rw [z3.length]; exact hl, ?_⟩
  exact m.nx _ _ _ _ (m1.mw.trans (ctx_bagSet (o' := .ins cn (putD f d fs)) m1.cx hg z1 ⟨z1, dx, _, upd_same, z3.put dv⟩).mw) rfl
/-- an attribute of the handed instance -/
theorem de_fldB {j : Nat} {x f : Str} {q1 : Pos} {bb : Addr} {cn : Nat} {fs : List (Str × D)} (hj : S.s[j]? = some (some .bag)) (hg : S.g = some (bb, .ins cn fs)) (hc : Cls F.C.K (F.C.cl cn)) (hn : NoAttr F.C.K (F.C.cl cn) f) (hl : fs.lookup f = some d)
    (hN : ∀ i, (F.X i).N[j]? = some x := by intro _; rfl) (hv : ∀ i, Vis (F.X i).env.scope x := by intro _; first | exact Or.inl rfl | exact Or.inr (Or.inl rfl) | exact Or.inr (Or.inr rfl))
    (hd : (x == ("__debug__" : Str)) = false := by decide) (hcd : (x == ("__classdict__" : Str)) = false := by decide)
    (hb : ∀ i, attributeBase (.Name x q1) f (F.X i).env (eval (.Name x q1) (F.X i).env) = eval (.Name x q1) (F.X i).env := by intro _; rfl) : DE F (.Attribute (.Name x q1) f pos) S S d :=
  de_of (te := tFld F.C.K (tVar j) f) (fun i => by have := pe_fld (pos := pos) (pe_var (pos := q1) (hN i) (hv i) hd hcd) (hb i); rw [F.hK i] at this; exact this) fun σ G H cx Q q => by
    refine ⟨_, cx.bg j _ _ hg hj, ?_⟩
    have z := cx.bag
    rw [hg] at z
    obtain ⟨z1, dx, gv, z2, z3⟩ := z
    obtain ⟨w, h1, h2⟩ := z3.look hl
    exact ⟨bb, _, dx, gv, w, rfl, z2, hc, hn, h1, q _ _ _ (.refl cx) h2⟩

/-! ### own lists -/
theorem Ctx.storeO {C : Kc} {G H : Hp} {σ : L2.St} {S : ST} {i : Nat} {q : Addr} {vs : List V} {ds : List D} (c : Ctx C G H σ S) (gq : G q = none) (hq : H q = some (.lst vs)) (dl : DenL C G vs ds) (hi : i < S.s.length) (no : ∀ (j : Nat) es, S.s[j]? = some (some (.own es)) → σ[j]? ≠ some (some (.ref q))) (nb : ∀ o, S.g ≠ some (q, o)) :
    Ctx C G H (σ.set i (some (.ref q))) (S.setO i ds) := by
  have hi2 : i < σ.length := by rw [c.len]; exact hi
  have key : ∀ (j : Nat) (o : DV), i ≠ j → (S.setO i ds).s[j]? = some (some o) → S.s[j]? = some (some o) := fun j o ij q => by rw [ST.setO, List.getElem?_set_ne ij] at q; exact q
  have self : (S.setO i ds).s[i]? = some (some (.own ds)) := List.getElem?_set_self hi
  have selfσ : (σ.set i (some (V.ref q)))[i]? = some (some (.ref q)) := List.getElem?_set_self hi2
  refine ⟨c.sub, by simp [ST.setO, c.len], fun j e r => ?_, fun j e r => ?_, fun j k' es fs a r1 r2 r3 r4 => ?_, fun j b o hg r => ?_, c.bag, fun j b o es hg r => ?_⟩
  · by_cases ij : i = j
    · subst ij; rw [self] at r; cases r
    · rw [List.getElem?_set_ne ij]; exact c.im j e (key j _ ij r)
  · by_cases ij : i = j
    · subst ij; rw [self] at r; cases r; exact ⟨q, vs, selfσ, gq, hq, dl⟩
    · rw [List.getElem?_set_ne ij]; exact c.ow j e (key j _ ij r)
  · by_cases ij : i = j
    · by_cases ik : i = k'
      · exact ij.symm.trans ik
      · subst ij
        rw [selfσ] at r3; cases r3
        rw [List.getElem?_set_ne ik] at r4
        exact absurd r4 (no k' fs (key k' _ ik r2))
    · by_cases ik : i = k'
      · subst ik
        rw [selfσ] at r4; cases r4
        rw [List.getElem?_set_ne ij] at r3
        exact absurd r3 (no j es (key j _ ij r1))
      · rw [List.getElem?_set_ne ij] at r3
        rw [List.getElem?_set_ne ik] at r4
        exact c.apart j k' es fs a (key j _ ij r1) (key k' _ ik r2) r3 r4
  · by_cases ij : i = j
    · subst ij; rw [self] at r; cases r
    · rw [List.getElem?_set_ne ij]; exact c.bg j b o hg (key j _ ij r)
  · by_cases ij : i = j
    · subst ij; rw [selfσ]; intro z; cases z; exact nb o hg
    · rw [List.getElem?_set_ne ij]; exact c.nob j b o es hg (key j _ ij r)
/-- a new list is stored as an own one -/
theorem ds_setO {j : Nat} {x : Str} {pos' : Pos} (he : DO F e S S1 ds) (q : DS F rest (S1.setO j ds) P) (hj : j < S1.s.length := by decide) (hN : ∀ i, (F.X i).N[j]? = some x := by intro _; rfl) (hx : ∀ i, Loc (F.X i).env.scope x := by intro _; first | exact Or.inl rfl | exact Or.inr rfl)
    (hs : ∀ i, swapsWith e (some (.Name x pos')) pos.line (F.X i).env = pure false := by intro _; rfl) (hf : ∀ i, (F.X i).fn x = true ∨ (F.X i).env.scope.names.lookup x = some .local := by intro _; first | exact .inl rfl | exact .inr rfl) : DS F (.Assign [.Name x pos'] e pos :: rest) S P := by
  refine ds_cons (M := fun S2 => S2 = S1.setO j ds) (d1_of (te := tAsg (anyE F e) (gName j)) (fun i => ps_set (by rw [F.hN i]; exact F.nd) (hN i) (hx i) (anyE_ok i) (hs i) (hf i)) ?_) fun _ z => z ▸ q
  intro σ G H c E m
  refine he σ G H c _ fun q vs G1 H1 m1 hq gq hq1 dl => m.nx _ _ G1 H1 ?_ rfl
  have noS : ∀ (j : Nat) es, S1.s[j]? = some (some (.own es)) → σ[j]? ≠ some (some (.ref q)) := fun j es r z => by
    rcases m1.oa q (.inl ⟨j, es, r, z⟩) with ⟨j', es', r', z'⟩ | ⟨o, r'⟩
    · obtain ⟨a, vs, h1, _, h2, _⟩ := c.ow j' es' r'
      rw [z'] at h1; cases h1; rw [hq] at h2; cases h2
    · have z := c.bag
      rw [r'] at z
      cases o with
      | lst => obtain ⟨_, _, h2, _⟩ := z; rw [hq] at h2; cases h2
      | ins => obtain ⟨_, _, _, h2, _⟩ := z; rw [hq] at h2; cases h2
  have noB : ∀ o, S1.g ≠ some (q, o) := fun o r => by
    rcases m1.oa q (.inr ⟨o, r⟩) with ⟨j', es', r', z'⟩ | ⟨o, r'⟩
    · obtain ⟨a, vs, h1, _, h2, _⟩ := c.ow j' es' r'
      rw [z'] at h1; cases h1; rw [hq] at h2; cases h2
    · have z := c.bag
      rw [r'] at z
      cases o with
      | lst => obtain ⟨_, _, h2, _⟩ := z; rw [hq] at h2; cases h2
      | ins => obtain ⟨_, _, _, h2, _⟩ := z; rw [hq] at h2; cases h2
  have cx2 := m1.cx.storeO (i := j) gq hq1 dl hj noS noB
  refine ⟨m1.go, cx2, fun a z => ?_⟩
  rcases z with ⟨j', es, r1, r2⟩ | ⟨o, r⟩
  · by_cases ij : j = j'
    · subst ij
      rw [List.getElem?_set_self (by rw [m1.cx.len]; exact hj)] at r2
      cases r2
      exact .inr hq
    · rw [ST.setO, List.getElem?_set_ne ij] at r1
      rw [List.getElem?_set_ne ij] at r2
      exact .inl (m1.oa a (.inl ⟨j', es, r1, r2⟩))
  · exact .inl (m1.oa a (.inr ⟨o, r⟩))
theorem do_lst {es : List Expr} {ds : List D} (h : DA F es S S1 ds) (hl : ds.length ≤ sizeLine := by decide) : DO F (.List es pos) S S1 ds :=
  do_of (fun i => pe_lst (anyA_ok i)) fun σ G H c Q q => h σ G H c _ fun vs G1 H1 m dl => ⟨by rw [dl.length]; exact hl, fun p hp => by
    have sm : Same H1 (upd H1 p (.lst vs)) := fun a u h => by rw [upd_ne (ne_of_none h hp)]; exact h
    have hp0 : H p = none := by
      cases r : H p with
      | none => rfl
      | some o =>
        by_cases n : OA F.C σ S p
        · rcases n with ⟨j, es, r1, r2⟩ | ⟨o', r1⟩
          · have : OA F.C σ S p := .inl ⟨j, es, r1, r2⟩
            obtain ⟨a, ws, h1, _, h2, _⟩ := c.ow j es r1
            rw [r2] at h1; cases h1
            exact absurd hp (m.go.dom _ (by rw [h2]; simp))
          · have z := c.bag
            rw [r1] at z
            cases o' with
            | lst => obtain ⟨_, _, h2, _⟩ := z; exact absurd hp (m.go.dom _ (by rw [h2]; simp))
            | ins => obtain ⟨_, _, _, h2, _⟩ := z; exact absurd hp (m.go.dom _ (by rw [h2]; simp))
        · rw [m.go.keep p o n r] at hp; cases hp
    have g1 : G1 p = none := m.cx.sub.free hp
    exact q p vs G1 _ (m.trans (m.cx.mv sm (fun _ _ h => h) (m.cx.sub.trans sm) fun _ _ h => h)) hp0 g1 upd_same dl⟩
end
end DL
/-! DL6: own lists changed, read, frozen; while, for; comprehensions. -/
namespace DL
open PySem L2

section
variable {F : Fam} {S S1 S2 S3 : ST} {e a b c tg iter : Expr} {d x y z : D} {pos p apos : Pos} {es : List Expr} {ds : List D} {k : Bool} {nm : Str} {P : Po} {rest t u body : List Stmt} {st : Stmt} {M : ST → Prop}

theorem Ctx.putO {C : Kc} {G H : Hp} {σ : L2.St} {S : ST} {j : Nat} {a : Addr} {vs' : List V} {ds ds' : List D} (c : Ctx C G H σ S) (hj : S.s[j]? = some (some (.own ds))) (ha : σ[j]? = some (some (.ref a))) (ga : G a = none) (dl : DenL C G vs' ds') :
    Mv C σ S G H (S.setO j ds') G (upd H a (.lst vs')) := by
  have hjl : j < S.s.length := by
    rcases Nat.lt_or_ge j S.s.length with z | z
    · exact z
    · rw [List.getElem?_eq_none z] at hj; cases hj
  have self : (S.setO j ds').s[j]? = some (some (.own ds')) := List.getElem?_set_self hjl
  have key : ∀ (i : Nat) (o : DV), j ≠ i → (S.setO j ds').s[i]? = some (some o) → S.s[i]? = some (some o) := fun i o ij q => by rw [ST.setO, List.getElem?_set_ne ij] at q; exact q
  have own : ∀ (i : Nat) es, (S.setO j ds').s[i]? = some (some (.own es)) → ∃ es', S.s[i]? = some (some (.own es')) := fun i es q => by
    by_cases ij : j = i
    · subst ij; exact ⟨ds, hj⟩
    · exact ⟨es, key i _ ij q⟩
  have oa : ∀ x, OA C σ (S.setO j ds') x → OA C σ S x := fun x z => by
    rcases z with ⟨i, es, r1, r2⟩ | z
    · obtain ⟨es', r⟩ := own i es r1
      exact .inl ⟨i, es', r, r2⟩
    · exact .inr z
  have na : ∀ x, ¬ OA C σ S x → x ≠ a := fun x n z => n (.inl ⟨j, ds, hj, by rw [z]; exact ha⟩)
  refine ⟨⟨fun x o n h => by rw [upd_ne (na x n)]; exact h, fun _ _ h => h, fun _ _ _ h => h, fun x h => ?_⟩, ⟨fun x o h => ?_, by simp [ST.setO, c.len], fun i d q => ?_, fun i es q => ?_, fun i i' es es' q q1 q2 q3 q4 => ?_, fun i b o hg q => ?_, ?_, fun i b o es hg q => ?_⟩, oa⟩
  · by_cases z : x = a
    · rw [z, upd_same]; simp
    · rw [upd_ne z]; exact h
  · have z : x ≠ a := fun z => by rw [z, ga] at h; cases h
    rw [upd_ne z]; exact c.sub _ _ h
  · by_cases ij : j = i
    · subst ij; rw [self] at q; cases q
    · exact c.im i d (key i _ ij q)
  · by_cases ij : j = i
    · subst ij; rw [self] at q; cases q; exact ⟨a, vs', ha, ga, upd_same, dl⟩
    · obtain ⟨a', ws, h1, h2, h3, h4⟩ := c.ow i es (key i _ ij q)
      have z : a' ≠ a := fun z => ij (c.apart j i ds es a hj (key i _ ij q) ha (by rw [← z]; exact h1))
      exact ⟨a', ws, h1, h2, by rw [upd_ne z]; exact h3, h4⟩
  · obtain ⟨e1, r1⟩ := own i es q1
    obtain ⟨e2, r2⟩ := own i' es' q2
    exact c.apart i i' e1 e2 q r1 r2 q3 q4
  · by_cases ij : j = i
    · subst ij; rw [self] at q; cases q
    · exact c.bg i b o hg (key i _ ij q)
  · have nb : ∀ b o, S.g = some (b, o) → b ≠ a := fun b o hg z => c.nob j b o ds hg hj (by rw [z]; exact ha)
    have z := c.bag
    show BagOk C G (upd H a (.lst vs')) S.g
    cases q : S.g with
    | none => trivial
    | some bo =>
      obtain ⟨b, o⟩ := bo
      rw [q] at z
      cases o with
      | lst es => obtain ⟨h1, ws, h2, h3⟩ := z; exact ⟨h1, ws, by rw [upd_ne (nb b _ q)]; exact h2, h3⟩
      | ins cc fs => obtain ⟨h1, dx, ws, h2, h3⟩ := z; exact ⟨h1, dx, ws, by rw [upd_ne (nb b _ q)]; exact h2, h3⟩
  · obtain ⟨e1, r1⟩ := own i es q
    exact c.nob i b o e1 hg r1
/-- x.append(e), x an own list -/
theorem ds_append {j : Nat} {x : Str} {q1 cpos : Pos} {gs : List D} (he : DE F e S S1 d) (hj0 : ∃ es, S.s[j]? = some (some (.own es))) (hj : S1.s[j]? = some (some (.own gs))) (q : DS F rest (S1.setO j (gs ++ [d])) P) (hl : gs.length < sizeLine)
    (hp : ∀ i, PE (F.X i) (.Call (.Attribute (.Name x q1) "append" apos) [e] [] cpos) (tBM (F.X i).K "list" rAppend (tVar j) (tCons (anyE F e) tNil)) := by
      intro i; exact pe_bm PySem.F.plainAttrs_list PySem.F.slot_list_append PySem.F.type_list_append mt_append (pv _) (pa_cons (anyE_ok i) pa_nil))
    (hs : ∀ i, swapsWith (.Call (.Attribute (.Name x q1) "append" apos) [e] [] cpos) none pos.line (F.X i).env = pure false := by intro _; rfl) : DS F (.Expr (.Call (.Attribute (.Name x q1) "append" apos) [e] [] cpos) pos :: rest) S P := by
  refine ds_cons (M := fun S3 => S3 = S1.setO j (gs ++ [d])) (d1_of (te := tDrop (tBM F.C.K "list" rAppend (tVar j) (tCons (anyE F e) tNil))) (fun i => ps_expr (by have := hp i; rw [F.hK i] at this; exact this) (hs i)) ?_) fun _ z => z ▸ q
  intro σ G H c E m
  obtain ⟨es, hj0⟩ := hj0
  obtain ⟨a0, vs0, s1, _, s3, _⟩ := c.ow j es hj0
  refine ⟨.ref a0, s1, .inl ⟨rfl, vs0, SqL.of s3⟩, ?_⟩
  refine he σ G H c _ fun v G1 H1 m1 dv => ?_
  obtain ⟨a, vs, h1, h2, h3, h4⟩ := m1.cx.ow j gs hj
  rw [s1] at h1; cases h1
  refine ⟨a0, vs, v, rfl, rfl, h3, by rw [h4.length]; exact hl, ?_⟩
  exact m.nx _ _ _ _ (m1.mw.trans (m1.cx.putO hj s1 h2 (h4.append (.cons dv .nil))).mw) rfl
/-- x[i] = e, x an own list -/
theorem ds_ownSet {j : Nat} {x : Str} {i : Int} {n : Nat} {q1 : Pos} {gs : List D} (he : DE F e S S1 d) (hj : S1.s[j]? = some (some (.own gs))) (hb : DE F b S1 S1 (.int i)) (hi : ixN gs.length i = some n) (q : DS F rest (S1.setO j (gs.set n d)) P)
    (hp : ∀ i, PS (F.X i) (.Assign [.Subscript (.Name x q1) b p] e pos) (tAsg (anyE F e) (gSub (tVar j) (anyE F b) rSetL)) := by
      intro i; exact ps_asg (anyE_ok i) (pg_sub (pv _) (anyE_ok i) set_list)) :
    DS F (.Assign [.Subscript (.Name x q1) b p] e pos :: rest) S P := by
  refine ds_cons (M := fun S3 => S3 = S1.setO j (gs.set n d)) (d1_of (te := tAsg (anyE F e) (gSub (tVar j) (anyE F b) rSetL)) hp ?_) fun _ z => z ▸ q
  intro σ G H c E m
  refine he σ G H c _ fun v G1 H1 m1 dv => ?_
  obtain ⟨a, _, h1, _⟩ := m1.cx.ow j gs hj
  refine ⟨.ref a, h1, ?_⟩
  refine hb σ G1 H1 m1.cx _ fun w G2 H2 m2 dw => ?_
  cases dw
  obtain ⟨a', vs, h1', h2, h3, h4⟩ := m2.cx.ow j gs hj
  rw [h1] at h1'; cases h1'
  refine ⟨a, vs, i, n, rfl, rfl, h3, by rw [h4.length]; exact hi, ?_⟩
  exact m.nx _ _ _ _ (m1.mw.trans (m2.mw.trans (m2.cx.putO hj h1 h2 (h4.set (dv.mono m2.go.gg) n)).mw)) rfl
/-- an own list read by place -/
theorem de_ownIx {j : Nat} {x : Str} {i : Int} {gs : List D} (hj : S.s[j]? = some (some (.own gs))) (hb : DE F b S S (.int i)) (hi : atI gs i = some d) (hs : PlainIx b := by intro _ _; rfl)
    (hN : ∀ i, (F.X i).N[j]? = some x := by intro _; rfl) (hv : ∀ i, Vis (F.X i).env.scope x := by intro _; first | exact Or.inl rfl | exact Or.inr (Or.inl rfl) | exact Or.inr (Or.inr rfl))
    (hd : (x == ("__debug__" : Str)) = false := by decide) (hcd : (x == ("__classdict__" : Str)) = false := by decide) : DE F (.Subscript (.Name x p) b pos) S S d :=
  de_of (te := tOp (rIxL F.C.K) (tVar j) (anyE F b)) (fun k => by have := pe_ix (pos := pos) (ix_list (X := F.X k)) (pe_var (pos := p) (hN k) (hv k) hd hcd) (anyE_ok (e := b) k) hs; rw [F.hK k] at this; exact this) fun σ G H c Q q => by
    obtain ⟨a, vs, h1, _⟩ := c.ow j gs hj
    refine ⟨_, h1, hb σ G H c _ fun w G2 H2 m2 dw => ?_⟩
    cases dw
    obtain ⟨a', vs, h1', h2, h3, h4⟩ := m2.cx.ow j gs hj
    rw [h1] at h1'; cases h1'
    obtain ⟨w, r1, r2⟩ := atI_den h4 hi
    exact ⟨a, vs, i, w, rfl, rfl, SqL.of h3, r1, q _ _ _ m2 r2⟩
/-- an own list is handed over: from now on it is data -/
theorem Ctx.freeze {C : Kc} {G H : Hp} {σ : L2.St} {S : ST} {j : Nat} {a : Addr} {vs : List V} {ds : List D} (c : Ctx C G H σ S) (hj : S.s[j]? = some (some (.own ds))) (ha : σ[j]? = some (some (.ref a))) (ga : G a = none) (h3 : H a = some (.lst vs)) (dl : DenL C G vs ds) :
    Mv C σ S G H (S.set j (.lst ds)) (upd G a (.lst vs)) H := by
  have hjl : j < S.s.length := by
    rcases Nat.lt_or_ge j S.s.length with z | z
    · exact z
    · rw [List.getElem?_eq_none z] at hj; cases hj
  have gg : Same G (upd G a (.lst vs)) := fun x o h => by rw [upd_ne (ne_of_none h ga)]; exact h
  have self : (S.set j (.lst ds)).s[j]? = some (some (.imm (.lst ds))) := List.getElem?_set_self hjl
  have key : ∀ (i : Nat) (o : DV), j ≠ i → (S.set j (.lst ds)).s[i]? = some (some o) → S.s[i]? = some (some o) := fun i o ij q => by rw [ST.set, List.getElem?_set_ne ij] at q; exact q
  have keyO : ∀ (i : Nat) es, (S.set j (.lst ds)).s[i]? = some (some (.own es)) → j ≠ i ∧ S.s[i]? = some (some (.own es)) := fun i es q => by
    by_cases ij : j = i
    · subst ij; rw [self] at q; cases q
    · exact ⟨ij, key i _ ij q⟩
  refine ⟨⟨fun _ _ _ h => h, gg, fun x n h g => ?_, fun _ h => h⟩, ⟨fun x o h => ?_, by simp [ST.set, c.len], fun i d q => ?_, fun i es q => ?_, fun i i' es es' x q1 q2 q3 q4 => ?_, fun i b o hg q => ?_, ?_, fun i b o es hg q => ?_⟩, fun x z => ?_⟩
  · have : x ≠ a := fun z => n (.inl ⟨j, ds, hj, by rw [z]; exact ha⟩)
    rw [upd_ne this]; exact g
  · by_cases z : x = a
    · subst z; rw [upd_same] at h; cases h; exact h3
    · rw [upd_ne z] at h; exact c.sub _ _ h
  · by_cases ij : j = i
    · subst ij; rw [self] at q; cases q; exact ⟨.ref a, ha, .lst (SqL.of upd_same) (dl.mono gg)⟩
    · obtain ⟨v, h1, h2⟩ := c.im i d (key i _ ij q)
      exact ⟨v, h1, h2.mono gg⟩
  · obtain ⟨ij, q⟩ := keyO i es q
    obtain ⟨a', ws, h1, h2, h3, h4⟩ := c.ow i es q
    have z : a' ≠ a := fun z => ij (c.apart j i ds es a hj q ha (by rw [← z]; exact h1))
    exact ⟨a', ws, h1, by rw [upd_ne z]; exact h2, h3, h4.mono gg⟩
  · exact c.apart i i' es es' x (keyO i es q1).2 (keyO i' es' q2).2 q3 q4
  · by_cases ij : j = i
    · subst ij; rw [self] at q; cases q
    · exact c.bg i b o hg (key i _ ij q)
  · have nb : ∀ b o, S.g = some (b, o) → b ≠ a := fun b o hg z => c.nob j b o ds hg hj (by rw [z]; exact ha)
    have z := c.bag
    show BagOk C (upd G a (.lst vs)) H S.g
    cases q : S.g with
    | none => trivial
    | some bo =>
      obtain ⟨b, o⟩ := bo
      rw [q] at z
      cases o with
      | lst es => obtain ⟨h1, ws, h2, h3⟩ := z; exact ⟨by rw [upd_ne (nb b _ q)]; exact h1, ws, h2, h3.mono gg⟩
      | ins cc fs => obtain ⟨h1, dx, ws, h2, h3⟩ := z; exact ⟨by rw [upd_ne (nb b _ q)]; exact h1, dx, ws, h2, h3.mono gg⟩
  · exact c.nob i b o es hg (keyO i es q).2
  · rcases z with ⟨i, es, r1, r2⟩ | z
    · exact .inl ⟨i, es, (keyO i es r1).2, r2⟩
    · exact .inr z
theorem de_own {j : Nat} {x : Str} {gs : List D} (hj : S.s[j]? = some (some (.own gs))) (hN : ∀ i, (F.X i).N[j]? = some x := by intro _; rfl)
    (hv : ∀ i, Vis (F.X i).env.scope x := by intro _; first | exact Or.inl rfl | exact Or.inr (Or.inl rfl) | exact Or.inr (Or.inr rfl))
    (hd : (x == ("__debug__" : Str)) = false := by decide) (hcd : (x == ("__classdict__" : Str)) = false := by decide) : DE F (.Name x pos) S (S.set j (.lst gs)) (.lst gs) :=
  de_of (fun i => pe_var (hN i) (hv i) hd hcd) fun σ G H c Q q => by
    obtain ⟨a, vs, h1, h2, h3, h4⟩ := c.ow j gs hj
    have m := c.freeze hj h1 h2 h3 h4
    exact ⟨.ref a, h1, q _ _ _ m (.lst (SqL.of upd_same) (h4.mono m.go.gg))⟩

/-! ### while -/
theorem ds_while (I : ST → Prop) (mu : ST → Nat) (M : ST → Prop) (h0 : I S)
    (hs : ∀ S, I S → ∃ k S1, DT F c S S1 k ∧ (k = true → DS F body S1 { P with nx := fun S2 => I S2 ∧ mu S2 < mu S, ct := fun S2 => I S2 ∧ mu S2 < mu S, bk := M }) ∧ (k = false → M S1))
    (hr : ∀ S2, M S2 → DS F rest S2 P) (hp : ∀ i, PassesOwn (model (F.X i).prog (F.X i).w) (F.X i).A (F.X i).env (F.X i).xe := by intro _; exact PassesOwn.never) : DS F (.While c body [] pos :: rest) S P := by
  refine ds_cons (M := M) (d1_of (te := tWhile (anyT F c) (anyS F body)) (fun i => ps_while (hp i) (anyT_ok i) (anyS_ok i)) ?_) hr
  intro σ0 G0 H0 c0 E m
  refine ⟨fun m' σ H => ∃ S' G, Mw F.C σ0 S G0 H0 σ S' G H ∧ I S' ∧ m' = mu S', ⟨_, S, G0, .refl c0, h0, rfl⟩, ?_⟩
  rintro m' σ H ⟨S', G, mw, hI, rfl⟩
  obtain ⟨k, S1, hc, h1, h2⟩ := hs S' hI
  refine hc σ G H mw.cx _ fun G1 H1 m1 => ?_
  cases k with
  | false =>
    rw [if_neg Bool.false_ne_true]
    exact m.nx _ _ _ _ (mw.trans m1.mw) (h2 rfl)
  | true =>
    rw [if_pos rfl]
    refine ⟨fun σ' H' => ∃ S2 G2, Mw F.C σ0 S G0 H0 σ' S2 G2 H' ∧ I S2 ∧ mu S2 < mu S', fun σ' H' ⟨S2, G2, a, b, l⟩ => ⟨_, l, S2, G2, a, b, rfl⟩, ?_⟩
    have mm := m.move (mw.trans m1.mw)
    exact h1 rfl σ G1 H1 m1.cx _ ⟨fun σ2 S2 G2 H2 a q => ⟨S2, G2, (mw.trans m1.mw).trans a, q.1, q.2⟩, mm.rt, mm.nx, fun σ2 S2 G2 H2 a q => ⟨S2, G2, (mw.trans m1.mw).trans a, q.1, q.2⟩, mm.ro⟩

/-! ### for -/
structure ItD (C : Kc) (J : It) (G0 : Hp) (ds : List D) : Prop where
  go : ∀ i G H, i < ds.length → Same G0 G → Same G H → J.go i H
  yld : ∀ i d G H x H', ds[i]? = some d → Same G0 G → Same G H → J.yld i H x H' → ∃ G', Pu G H G' H' ∧ Den C G' x d
  stop : ∀ i G H, ds.length ≤ i → Same G0 G → Same G H → J.stop i H
theorem ItD.mono {C : Kc} {J : It} {G0 G1 : Hp} {ds : List D} (h : ItD C J G0 ds) (e : Same G0 G1) : ItD C J G1 ds :=
  ⟨fun i G H hi s => h.go i G H hi (e.trans s), fun i d G H x H' hd s => h.yld i d G H x H' hd (e.trans s), fun i G H hi s => h.stop i G H hi (e.trans s)⟩
def anyI (F : Fam) (tg iter : Expr) : TI := fun σ H R => ∃ wi, (∀ i, PI (F.X i) tg iter wi) ∧ wi σ H R
theorem anyI_ok {tg iter : Expr} (i : F.I) : PI (F.X i) tg iter (anyI F tg iter) := ⟨fun pins s σ H R I h => let ⟨wi, h1, h2⟩ := h; (h1 i).run pins s σ H R I h2⟩
def DI (F : Fam) (tg iter : Expr) (S S1 : ST) (ds : List D) : Prop := ∀ σ G H, Ctx F.C G H σ S → ∀ R : It → Hp → Prop, (∀ J G2 H2, Mv F.C σ S G H S1 G2 H2 → ItD F.C J G2 ds → R J H2) → anyI F tg iter σ H R
theorem di_of {wi : TI} (h : ∀ i, PI (F.X i) tg iter wi) (v : ∀ σ G H, Ctx F.C G H σ S → ∀ R : It → Hp → Prop, (∀ J G2 H2, Mv F.C σ S G H S1 G2 H2 → ItD F.C J G2 ds → R J H2) → wi σ H R) : DI F tg iter S S1 ds := fun σ G H c R q => ⟨wi, h, v σ G H c R q⟩
theorem itd_list {C : Kc} {G0 : Hp} {a : Addr} {vs : List V} (h : SqL C.K G0 a vs) (dl : DenL C G0 vs ds) : ItD C (Itl C.K a) G0 ds where
  go := fun i G H hi s s2 => by
    obtain ⟨v, h1, _⟩ := dl.get (List.getElem?_eq_getElem hi)
    exact ⟨vs, v, s2.seq (s.seq h), h1⟩
  yld := fun i d G H x H' hd s s2 hy => by
    obtain ⟨rfl, hy⟩ := hy
    obtain ⟨v, h1, h2⟩ := dl.get hd
    have := hy vs (s2.seq (s.seq h))
    rw [h1] at this; cases this
    exact ⟨G, .refl s2, h2.mono s⟩
  stop := fun i G H hi s s2 => ⟨vs, s2.seq (s.seq h), by rw [dl.length]; exact hi⟩
theorem itd_tup {C : Kc} {G0 : Hp} {a : Addr} {vs : List V} (h : SqT C.K G0 a vs) (dl : DenL C G0 vs ds) : ItD C (Itt C.K a) G0 ds where
  go := fun i G H hi s s2 => by
    obtain ⟨v, h1, _⟩ := dl.get (List.getElem?_eq_getElem hi)
    exact ⟨vs, v, same_t s2 (same_t s h), h1⟩
  yld := fun i d G H x H' hd s s2 hy => by
    obtain ⟨rfl, hy⟩ := hy
    obtain ⟨v, h1, h2⟩ := dl.get hd
    have := hy vs (same_t s2 (same_t s h))
    rw [h1] at this; cases this
    exact ⟨G, .refl s2, h2.mono s⟩
  stop := fun i G H hi s s2 => ⟨vs, same_t s2 (same_t s h), by rw [dl.length]; exact hi⟩
theorem di_list (h : DE F iter S S1 (.lst ds)) : DI F tg iter S S1 ds := di_of (wi := iList F.C.K (anyE F iter)) (fun i => by have := pi_list (tg := tg) (anyE_ok (e := iter) i); rw [F.hK i] at this; exact this) fun σ G H c R q => h σ G H c _ fun v G1 H1 m dv => by
  cases dv with
  | @lst a vs _ h1 h2 => exact ⟨_, rfl, ⟨vs, m.cx.sub.seq h1⟩, q _ _ _ m (itd_list h1 h2)⟩
theorem di_tup (h : DE F iter S S1 (.tup ds)) : DI F tg iter S S1 ds := di_of (wi := iTup F.C.K (anyE F iter)) (fun i => by have := pi_tup (tg := tg) (anyE_ok (e := iter) i); rw [F.hK i] at this; exact this) fun σ G H c R q => h σ G H c _ fun v G1 H1 m dv => by
  cases dv with
  | @tup a vs _ h1 h2 => exact ⟨_, rfl, ⟨vs, same_t m.cx.sub h1⟩, q _ _ _ m (itd_tup h1 h2)⟩
def rangeD (lo : Int) (n : Nat) : List D := (List.range n).map fun (i : Nat) => D.int (lo + i)
theorem rangeD_length (lo : Int) (n : Nat) : (rangeD lo n).length = n := by simp [rangeD]
theorem rangeD_get {lo : Int} {n i : Nat} {d : D} (h : (rangeD lo n)[i]? = some d) : i < n ∧ d = .int (lo + i) := by
  unfold rangeD at h
  rw [List.getElem?_map] at h
  cases q : (List.range n)[i]? with
  | none => rw [q] at h; cases h
  | some j =>
    rw [q] at h
    rw [List.getElem?_eq_some_iff] at q
    obtain ⟨h1, h2⟩ := q
    rw [List.getElem_range] at h2
    subst h2
    exact ⟨by simpa using h1, by simpa using h.symm⟩
theorem itd_range {C : Kc} {G0 : Hp} {lo : Int} {n : Nat} : ItD C (Itr lo n) G0 (rangeD lo n) where
  go := fun i G H hi s s2 => by rw [rangeD_length] at hi; exact hi
  yld := fun i d G H x H' hd s s2 hy => by
    obtain ⟨rfl, rfl⟩ := hy
    obtain ⟨_, rfl⟩ := rangeD_get hd
    exact ⟨G, .refl s2, .int _⟩
  stop := fun i G H hi s s2 => by rw [rangeD_length] at hi; exact hi
theorem di_range1 {i : Int} {q1 : Pos} (hm : F.mg "range" = none) (h : DE F e S S1 (.int i)) (h1 : -(2 ^ 62) ≤ i) (h2 : i < 2 ^ 62) (hg : ∀ l, Gl (F.X l) "range" := by intro _; rfl) (hs : ∀ l, starEach [e] (F.X l).env = [(false, eval e (F.X l).env)] := by intro _; rfl) : DI F tg (.Call (.Name "range" p) [e] [] q1) S S1 (rangeD 0 i.toNat) :=
  di_of (wi := iRng1 (tCons (anyE F e) tNil)) (fun l => pi_range1 (hg l) (by rw [F.hmg l]; exact hm) (pa_cons (anyE_ok l) pa_nil (hs l)) (hs l)) fun σ G H c R q => h σ G H c _ fun v G1 H1 m dv => by
    cases dv
    exact ⟨i, rfl, h1, h2, q _ _ _ m itd_range⟩
theorem di_range2 {i j : Int} {q1 : Pos} (hm : F.mg "range" = none) (h : DE F a S S1 (.int i)) (h' : DE F b S1 S2 (.int j)) (hb : -(2 ^ 62) ≤ i ∧ i < 2 ^ 62 ∧ -(2 ^ 62) ≤ j ∧ j < 2 ^ 62) (hg : ∀ l, Gl (F.X l) "range" := by intro _; rfl) (hs : ∀ l, starEach [a, b] (F.X l).env = [(false, eval a (F.X l).env), (false, eval b (F.X l).env)] := by intro _; rfl)
    (hs2 : ∀ l, starEach [b] (F.X l).env = [(false, eval b (F.X l).env)] := by intro _; rfl) (hs3 : ∀ l, starEach [a, b] (F.X l).env = (false, eval a (F.X l).env) :: starEach [b] (F.X l).env := by intro _; rfl) : DI F tg (.Call (.Name "range" p) [a, b] [] q1) S S2 (rangeD i (j - i).toNat) :=
  di_of (wi := iRng2 (tCons (anyE F a) (tCons (anyE F b) tNil))) (fun l => pi_range2 (hg l) (by rw [F.hmg l]; exact hm) (pa_cons (anyE_ok l) (pa_cons (anyE_ok l) pa_nil (hs2 l)) (hs3 l)) (hs l) (hs2 l)) fun σ G H c R q => h σ G H c _ fun v G1 H1 m dv => h' σ G1 H1 m.cx _ fun v2 G2 H2 m2 dv2 => by
    cases dv
    cases dv2
    exact ⟨i, j, rfl, hb, q _ _ _ (m.trans m2) itd_range⟩
theorem ds_for (I : Nat → ST → Prop) (M : ST → Prop) (hi : DI F tg iter S S1 ds) (h0 : I 0 S1) (hb : ∀ i S d, ds[i]? = some d → I i S → ∃ S' js, DG F tg d S S' js ∧ DS F body S' { P with nx := I (i + 1), ct := I (i + 1), bk := M }) (hd : ∀ S, I ds.length S → M S) (hr : ∀ S2, M S2 → DS F rest S2 P)
    (hp : ∀ i, PassesOwn (model (F.X i).prog (F.X i).w) (F.X i).A (F.X i).env (F.X i).xe := by intro _; exact PassesOwn.never)
    (hf : ∀ i, PS (F.X i) (.For tg iter body [] pos) (tFor (anyI F tg iter) (anyG F tg) (anyS F body)) := by intro i; exact ps_for PassesOwn.never (Fam.calm _ i) (anyI_ok i) (anyG_ok i) (anyS_ok i)) : DS F (.For tg iter body [] pos :: rest) S P := by
  refine ds_cons (M := M) (d1_of (te := tFor (anyI F tg iter) (anyG F tg) (anyS F body)) hf ?_) hr
  intro σ0 G0 H0 c0 E m
  refine hi σ0 G0 H0 c0 _ fun J G1 H1 m1 it => ?_
  refine ⟨fun i m' σ H => i ≤ ds.length ∧ m' = ds.length - i ∧ ∃ S' G, Mw F.C σ0 S1 G1 H1 σ S' G H ∧ I i S', ⟨_, Nat.zero_le _, rfl, S1, G1, .refl m1.cx, h0⟩, ?_⟩
  rintro i m' σ H ⟨hle, rfl, S', G, mw, hI⟩
  by_cases hlt : i < ds.length
  · refine .inr ⟨it.go i G H hlt mw.go.gg mw.cx.sub, fun σ' H' => ∃ S2 G2, Mw F.C σ0 S1 G1 H1 σ' S2 G2 H' ∧ I (i + 1) S2, fun σ' H' ⟨S2, G2, a, b⟩ => ⟨_, by omega, hlt, rfl, S2, G2, a, b⟩, fun x H' hy => ?_⟩
    obtain ⟨G', pu, dx⟩ := it.yld i _ G H x H' (List.getElem?_eq_getElem hlt) mw.go.gg mw.cx.sub hy
    obtain ⟨S3, js, hg, hbd⟩ := hb i S' _ (List.getElem?_eq_getElem hlt) hI
    have m2 := mw.cx.pu pu
    refine hg σ G' H' x m2.cx dx _ fun σ2 G2 H2 m3 _ => ?_
    have all := (mw.trans m2.mw).trans m3
    have mm := m.move (m1.mw.trans all)
    exact hbd σ2 G2 H2 m3.cx _ ⟨fun σ3 S3 G3 H3 a q => ⟨S3, G3, all.trans a, q⟩, mm.rt, mm.nx, fun σ3 S3 G3 H3 a q => ⟨S3, G3, all.trans a, q⟩, mm.ro⟩
  · have e : i = ds.length := by omega
    subst e
    exact .inl ⟨it.stop _ G H (Nat.le_refl _) mw.go.gg mw.cx.sub, m.nx _ _ _ _ (m1.mw.trans mw) (hd S' hI)⟩
end
end DL
/-! DL7: list comprehensions on data. -/
namespace DL
open PySem L2

def Fam.blk (F : Fam) (scope : Scope) : Fam where
  I := F.I × (Shared × Hp × Addr × List (Str × Addr) × List Addr)
  X := fun j => (F.X j.1).blk j.2.1 j.2.2.1 scope (compEnvC scope j.2.2.2.2.1 j.2.2.2.1 (F.X j.1).env) j.2.2.2.2.2
  P := F.P
  w := F.w
  C := F.C
  mg := F.mg
  base := F.base
  N := F.N
  k := F.k
  hP := fun i => F.hP i.1
  hw := fun i => F.hw i.1
  hK := fun i => F.hK i.1
  hmg := fun i => F.hmg i.1
  hbase := fun i => F.hbase i.1
  hN := fun i => F.hN i.1
  nd := F.nd
  room := fun i => F.room i.1
  calm := fun i => F.calm i.1

def noOwn : Option DV → Option DV
  | some (.own _) => none
  | o => o
/-- the slots of the block's own names, and the own lists, forgotten -/
def hidS (s : List (Option DV)) : List Nat → List (Option DV)
  | [] => s.map noOwn
  | v :: vs => (hidS s vs).set v none
theorem hidS_length (s : List (Option DV)) : ∀ vs, (hidS s vs).length = s.length
  | [] => by simp [hidS]
  | v :: vs => by unfold hidS; rw [List.length_set, hidS_length s vs]
theorem hidS_get {s : List (Option DV)} {i : Nat} {o : DV} : ∀ {vs : List Nat}, (hidS s vs)[i]? = some (some o) → s[i]? = some (some o) ∧ i ∉ vs ∧ ∀ es, o ≠ .own es
  | [], h => by
    unfold hidS at h
    rw [List.getElem?_map] at h
    cases q : s[i]? with
    | none => rw [q] at h; cases h
    | some u =>
      rw [q] at h
      cases u with
      | none => cases h
      | some u =>
        cases u with
        | imm d => cases h; exact ⟨rfl, by simp, fun _ z => nomatch z⟩
        | own d => cases h
        | bag => cases h; exact ⟨rfl, by simp, fun _ z => nomatch z⟩
  | v :: vs, h => by
    unfold hidS at h
    by_cases e : v = i
    · subst e
      rcases Nat.lt_or_ge v (hidS s vs).length with z | z
      · rw [List.getElem?_set_self z] at h; cases h
      · rw [List.getElem?_eq_none (by simpa using z)] at h; cases h
    · rw [List.getElem?_set_ne e] at h
      obtain ⟨h1, h2, h3⟩ := hidS_get h
      exact ⟨h1, by simp only [List.mem_cons, not_or]; exact ⟨fun z => e z.symm, h2⟩, h3⟩
theorem wipe_keep {σ : L2.St} {i : Nat} : ∀ {vs : List Nat}, i ∉ vs → (wipe σ vs)[i]? = σ[i]?
  | [], _ => rfl
  | v :: vs, h => by
    unfold wipe
    have h2 : i ≠ v ∧ i ∉ vs := by simpa using h
    rw [List.getElem?_set_ne (Ne.symm h2.1)]
    exact wipe_keep h2.2
theorem Ctx.hid {C : Kc} {G H : Hp} {σ : L2.St} {S : ST} (c : Ctx C G H σ S) (vs : List Nat) : Ctx C G H (wipe σ vs) ⟨hidS S.s vs, S.g⟩ where
  sub := c.sub
  len := by rw [wipe_length, hidS_length]; exact c.len
  im := fun i d h => by obtain ⟨h1, h2, _⟩ := hidS_get h; rw [wipe_keep h2]; exact c.im i d h1
  ow := fun i es h => by obtain ⟨_, _, h3⟩ := hidS_get h; exact absurd rfl (h3 es)
  apart := fun i j es fs a h => by obtain ⟨_, _, h3⟩ := hidS_get h; exact absurd rfl (h3 es)
  bg := fun i b o hg h => by obtain ⟨h1, h2, _⟩ := hidS_get h; rw [wipe_keep h2]; exact c.bg i b o hg h1
  bag := c.bag
  nob := fun i b o es hg h => by obtain ⟨_, _, h3⟩ := hidS_get h; exact absurd rfl (h3 es)
theorem oa_hid {C : Kc} {σ : L2.St} {S : ST} {vs : List Nat} {a : Addr} (z : OA C (wipe σ vs) ⟨hidS S.s vs, S.g⟩ a) : ∃ o, S.g = some (a, o) := by
  rcases z with ⟨i, es, r, _⟩ | z
  · obtain ⟨_, _, h3⟩ := hidS_get r; exact absurd rfl (h3 es)
  · exact z
/-- from a block's state back to the state around it -/
theorem Ctx.outer {C : Kc} {G H G2 H2 : Hp} {σ σ2 : L2.St} {S T : ST} {vs : List Nat} (c : Ctx C G H σ S) (m : Mw C (wipe σ vs) ⟨hidS S.s vs, S.g⟩ G H σ2 T G2 H2) (hg : T.g.map (·.1) = S.g.map (·.1)) : Mv C σ S G H ⟨S.s, T.g⟩ G2 H2 := by
  have ad : ∀ b o, T.g = some (b, o) → ∃ o', S.g = some (b, o') := fun b o h => by
    rw [h] at hg
    cases q : S.g with
    | none => rw [q] at hg; cases hg
    | some bo => obtain ⟨b', o'⟩ := bo; rw [q] at hg; cases hg; exact ⟨o', rfl⟩
  refine ⟨m.go.mono fun a z => .inr (oa_hid z), ⟨m.cx.sub, c.len, fun i d h => ?_, fun i es h => ?_, c.apart, fun i b o h h1 => ?_, m.cx.bag, fun i b o es h h1 => ?_⟩, fun a z => ?_⟩
  · obtain ⟨v, h1, h2⟩ := c.im i d h
    exact ⟨v, h1, h2.mono m.go.gg⟩
  · obtain ⟨a, ws, h1, h2, h3, h4⟩ := c.ow i es h
    have na : ¬ OA C (wipe σ vs) ⟨hidS S.s vs, S.g⟩ a := fun z => by
      obtain ⟨o, z⟩ := oa_hid z
      exact c.nob i a o es z h h1
    exact ⟨a, ws, h1, m.go.fr a na (by rw [h3]; simp) h2, m.go.keep a _ na h3, h4.mono m.go.gg⟩
  · obtain ⟨o', r⟩ := ad b o h
    exact c.bg i b o' r h1
  · obtain ⟨o', r⟩ := ad b o h
    exact c.nob i b o' es r h1
  · rcases z with z | ⟨o, z⟩
    · exact .inl z
    · obtain ⟨o', r⟩ := ad a o z
      exact .inr ⟨o', r⟩

theorem wipe_wipe (σ : L2.St) (vs : List Nat) : wipe (wipe σ vs) vs = wipe σ vs := by
  have key : ∀ (us : List Nat) (τ : L2.St), (∀ v ∈ us, v ∈ vs) → wipe (wipe τ us) vs = wipe τ vs := fun us => by
    induction us with
    | nil => intro τ _; rfl
    | cons u us ih =>
      intro τ h
      show wipe ((wipe τ us).set u none) vs = wipe τ vs
      rw [wipe_set_in _ u none vs (h u List.mem_cons_self)]
      exact ih τ fun v hv => h v (List.mem_cons_of_mem _ hv)
  exact key vs σ fun _ h => h
/-- an object that is nobody's data, no own list and not the handed one is changed -/
theorem ctx_priv {C : Kc} {G H : Hp} {σ : L2.St} {S : ST} {q : Addr} {o o' : HO} (c : Ctx C G H σ S) (gq : G q = none) (no : ∀ (j : Nat) es, S.s[j]? = some (some (.own es)) → σ[j]? ≠ some (some (.ref q))) (nb : ∀ o, S.g ≠ some (q, o)) (hq : H q = some o) : Ctx C G (upd H q o') σ S where
  sub := fun a u h => by
    have : a ≠ q := fun z => by rw [z, gq] at h; cases h
    rw [upd_ne this]; exact c.sub a u h
  len := c.len
  im := c.im
  ow := fun i es h => by
    obtain ⟨a, ws, h1, h2, h3, h4⟩ := c.ow i es h
    have : a ≠ q := fun z => no i es h (by rw [← z]; exact h1)
    exact ⟨a, ws, h1, h2, by rw [upd_ne this]; exact h3, h4⟩
  apart := c.apart
  bg := c.bg
  bag := by
    have z := c.bag
    cases r : S.g with
    | none => trivial
    | some bo =>
      obtain ⟨b, bo⟩ := bo
      have nq : b ≠ q := fun e => nb bo (by rw [r, e])
      rw [r] at z
      cases bo with
      | lst es => obtain ⟨h1, ws, h2, h3⟩ := z; exact ⟨h1, ws, by rw [upd_ne nq]; exact h2, h3⟩
      | ins cc fs => obtain ⟨h1, dx, ws, h2, h3⟩ := z; exact ⟨h1, dx, ws, by rw [upd_ne nq]; exact h2, h3⟩
  nob := c.nob

section
variable {F : Fam} {S S1 S2 S3 : ST} {e a b c tg iter elt : Expr} {d x y z : D} {pos p apos : Pos} {es : List Expr} {ds : List D} {k : Bool} {nm : Str} {P : Po} {rest t u body : List Stmt} {st : Stmt} {M : ST → Prop} {ifs : List Expr} {scope : Scope} {own : List (Str × Nat)}
def anyTs (F : Fam) (ifs : List Expr) : TT := fun σ H Q => ∃ te, (∀ i, PTs (F.X i) ifs te) ∧ te σ H Q
theorem anyTs_ok {ifs : List Expr} (i : F.I) : PTs (F.X i) ifs (anyTs F ifs) := ⟨fun pins s σ H Q I h => let ⟨te, h1, h2⟩ := h; (h1 i).run pins s σ H Q I h2⟩
def DTs (F : Fam) (ifs : List Expr) (S S' : ST) (b : Bool) : Prop := EvT F.C (anyTs F ifs) S S' b
theorem dts_nil : DTs F [] S S true := fun σ G H c Q q => ⟨tYes, fun _ => pts_nil, q G H (.refl c)⟩
theorem dts_one {k : Bool} (h : DT F c S S1 k) : DTs F [c] S S1 k := fun σ G H cx Q q => ⟨anyT F c, fun i => pts_one (anyT_ok i), h σ G H cx Q q⟩
/-- one turn of a comprehension: from the bag g and what is made so far to g', out' -/
def Turn1 (F : Fam) (tg : Expr) (ifs : List Expr) (elt : Expr) (vs : List Nat) (s : List (Option DV)) (d : D) (g : Option (Addr × BG)) (out : List D) (g' : Option (Addr × BG)) (out' : List D) : Prop :=
  ∃ T1 T2 b js, DG F tg d ⟨hidS s vs, g⟩ T1 js ∧ (∀ j ∈ js, j ∈ vs) ∧ DTs F ifs T1 T2 b ∧ (b = true → ∃ T3 y, DE F elt T2 T3 y ∧ T3.g = g' ∧ out' = out ++ [y] ∧ out.length < sizeLine) ∧ (b = false → T2.g = g' ∧ out' = out)
theorem ev_lc {vs0 : List Nat} (hi : DI F tg iter S S1 ds) (gO : Nat → Option (Addr × BG)) (out : Nat → List D) (hg0 : gO 0 = S1.g) (ho0 : out 0 = []) (hga : ∀ i, (gO i).map (·.1) = S1.g.map (·.1))
    (step : ∀ i d, ds[i]? = some d → Turn1 (F.blk scope) tg ifs elt vs0 S1.s d (gO i) (out i) (gO (i + 1)) (out (i + 1))) :
    ∀ σ G H, Ctx F.C G H σ S → ∀ Q : VK, (∀ q vs G2 H2, Mv F.C σ S G H ⟨S1.s, gO ds.length⟩ G2 H2 → H q = none → G2 q = none → H2 q = some (.lst vs) → DenL F.C G2 vs (out ds.length) → Q (.ref q) H2) →
      tLc (anyI F tg iter) (anyG (F.blk scope) tg) (anyTs (F.blk scope) ifs) (anyE (F.blk scope) elt) vs0 σ H Q := by
  intro σ G0 H0 c0 Q q
  refine hi σ G0 H0 c0 _ fun J G1 H1 m1 it => ?_
  intro Da hD
  have gD : G1 Da = none := m1.cx.sub.free hD
  have hD0 : H0 Da = none := by
    cases r : H0 Da with
    | none => rfl
    | some o => exact absurd hD (m1.go.dom Da (by rw [r]; simp))
  refine ⟨fun i m' H => i ≤ ds.length ∧ m' = ds.length - i ∧ ∃ G vs, Mv F.C σ S1 G1 H1 ⟨S1.s, gO i⟩ G H ∧ G Da = none ∧ H Da = some (.lst vs) ∧ DenL F.C G vs (out i), ⟨_, Nat.zero_le _, rfl, G1, [], ?_, gD, upd_same, by rw [ho0]; exact .nil⟩, ?_⟩
  · have sm : Same H1 (upd H1 Da (.lst [])) := fun a o h => by rw [upd_ne (ne_of_none h hD)]; exact h
    have := m1.cx.mv sm (fun _ _ h => h) (m1.cx.sub.trans sm) fun _ _ h => h
    rw [hg0]
    exact this
  · rintro i m' H ⟨hle, rfl, G, vs, mv, gDi, hDi, dl⟩
    by_cases hlt : i < ds.length
    · refine .inr ⟨it.go i G H hlt mv.go.gg mv.cx.sub, fun H' => ∃ G' vs', Mv F.C σ S1 G1 H1 ⟨S1.s, gO (i + 1)⟩ G' H' ∧ G' Da = none ∧ H' Da = some (.lst vs') ∧ DenL F.C G' vs' (out (i + 1)), fun H' z => ⟨_, by omega, hlt, rfl, z⟩, fun x H' hy => ?_⟩
      obtain ⟨G', pu, dx⟩ := it.yld i _ G H x H' (List.getElem?_eq_getElem hlt) mv.go.gg mv.cx.sub hy
      obtain ⟨T1, T2, b, js, hg, hjs, ht, h1, h2⟩ := step i _ (List.getElem?_eq_getElem hlt)
      have m2 := mv.cx.pu pu
      refine hg (wipe σ vs0) G' H' x (m2.cx.hid _) dx _ fun σ2 G2 H2 m3 only => ⟨(only _ hjs).trans (by
        have := only _ hjs
        exact wipe_wipe σ _), ?_⟩
      refine ht σ2 G2 H2 m3.cx _ fun G3 H3 m4 => ?_
      have nD : ∀ o, gO i ≠ some (Da, o) := fun o z => by
        have r := hga i
        rw [z] at r
        cases r2 : S1.g with
        | none => rw [r2] at r; cases r
        | some bo =>
          obtain ⟨b', o'⟩ := bo
          rw [r2] at r
          cases r
          have z2 := m1.cx.bag
          rw [r2] at z2
          cases o' with
          | lst => obtain ⟨_, _, z3, _⟩ := z2; rw [hD] at z3; cases z3
          | ins => obtain ⟨_, _, _, z3, _⟩ := z2; rw [hD] at z3; cases z3
      have nOA : ¬ OA F.C (wipe σ vs0) ⟨hidS S1.s vs0, gO i⟩ Da := fun z => by
        obtain ⟨o, z⟩ := oa_hid (S := ⟨S1.s, gO i⟩) z
        exact nD o z
      have hDp : H' Da = some (.lst vs) := pu.hh _ _ hDi
      have gDp : G' Da = none := pu.fr Da (by rw [hDi]; simp) gDi
      cases b with
      | false =>
        rw [if_neg Bool.false_ne_true]
        obtain ⟨e1, e2⟩ := h2 rfl
        have mm := m3.trans m4.mw
        have mo := m2.cx.outer mm (by rw [e1]; exact (hga (i + 1)).trans (hga i).symm)
        rw [e1] at mo
        refine ⟨G3, vs, (mv.trans m2).trans mo, mm.go.fr Da nOA (by rw [hDp]; simp) gDp, mm.go.keep Da _ nOA hDp, ?_⟩
        rw [e2]
        exact (dl.mono pu.gg).mono mm.go.gg
      | true =>
        rw [if_pos rfl]
        obtain ⟨T3, y, he, e1, e2, e3⟩ := h1 rfl
        refine he σ2 G3 H3 m4.cx _ fun v G4 H4 m5 dv => ?_
        have mm := (m3.trans m4.mw).trans m5.mw
        have mo := m2.cx.outer mm (by rw [e1]; exact (hga (i + 1)).trans (hga i).symm)
        rw [e1] at mo
        have k1 := mm.go.keep Da _ nOA hDp
        have k2 := mm.go.fr Da nOA (by rw [hDp]; simp) gDp
        refine ⟨vs, k1, by rw [dl.length]; exact e3, G4, vs ++ [v], ?_, k2, upd_same, ?_⟩
        · have mf := (mv.trans m2).trans mo
          refine ⟨⟨fun a o n h => ?_, mf.go.gg, mf.go.fr, fun a h => ?_⟩, ?_, mf.oa⟩
          · have na : a ≠ Da := fun z => by rw [z, hD] at h; cases h
            rw [upd_ne na]; exact mf.go.keep a o n h
          · by_cases na : a = Da
            · rw [na, upd_same]; simp
            · rw [upd_ne na]; exact mf.go.dom a h
          exact ctx_priv mo.cx k2 (fun j es r z => by
            obtain ⟨a', _, r1, r2, r3, _⟩ := m1.cx.ow j es r
            rw [r1] at z; cases z
            rw [hD] at r3; cases r3) (fun o z => by
              have r := hga (i + 1)
              have z' : gO (i + 1) = some (Da, o) := z
              rw [z'] at r
              cases r2 : S1.g with
              | none => rw [r2] at r; cases r
              | some bo =>
                obtain ⟨b', o'⟩ := bo
                rw [r2] at r
                cases r
                have z2 := m1.cx.bag
                rw [r2] at z2
                cases o' with
                | lst => obtain ⟨_, _, z3, _⟩ := z2; rw [hD] at z3; cases z3
                | ins => obtain ⟨_, _, _, z3, _⟩ := z2; rw [hD] at z3; cases z3) k1
        · rw [e2]
          exact ((dl.mono pu.gg).mono mm.go.gg).append (.cons dv .nil)
    · have e : i = ds.length := by omega
      subst e
      exact .inl ⟨it.stop _ G H (Nat.le_refl _) mv.go.gg mv.cx.sub, q Da vs G H (m1.trans mv) hD0 gDi hDi dl⟩
end
end DL
/-! DL8: comprehensions as expressions and stores; == and repr of plain data; isinstance; all, any, sum, tuple, list. -/
namespace DL
open PySem L2

theorem Mv.freezeNew {C : Kc} {σ : L2.St} {S S' : ST} {G H G2 H2 : Hp} {q : Addr} {vs : List V} (c : Ctx C G H σ S) (m : Mv C σ S G H S' G2 H2) (hq : H q = none) (gq : G2 q = none) (h2 : H2 q = some (.lst vs)) : Mv C σ S G H S' (upd G2 q (.lst vs)) H2 := by
  have gg : Same G2 (upd G2 q (.lst vs)) := fun a o h => by rw [upd_ne (ne_of_none h gq)]; exact h
  have nOA : ¬ OA C σ S q := fun z => by
    rcases z with ⟨j, es, r1, r2⟩ | ⟨o, r⟩
    · obtain ⟨a, ws, h1, _, h3, _⟩ := c.ow j es r1
      rw [r2] at h1; cases h1; rw [hq] at h3; cases h3
    · have z := c.bag
      rw [r] at z
      cases o with
      | lst => obtain ⟨_, _, h3, _⟩ := z; rw [hq] at h3; cases h3
      | ins => obtain ⟨_, _, _, h3, _⟩ := z; rw [hq] at h3; cases h3
  refine ⟨⟨m.go.keep, m.go.gg.trans gg, fun a n h g => ?_, m.go.dom⟩, ⟨fun a o h => ?_, m.cx.len, fun i d h => ?_, fun i es h => ?_, m.cx.apart, m.cx.bg, ?_, m.cx.nob⟩, m.oa⟩
  · have na : a ≠ q := fun z => h (by rw [z]; exact hq)
    rw [upd_ne na]; exact m.go.fr a n h g
  · by_cases na : a = q
    · subst na; rw [upd_same] at h; cases h; exact h2
    · rw [upd_ne na] at h; exact m.cx.sub a o h
  · obtain ⟨v, r1, r2⟩ := m.cx.im i d h
    exact ⟨v, r1, r2.mono gg⟩
  · obtain ⟨a, ws, r1, r2, r3, r4⟩ := m.cx.ow i es h
    have na : a ≠ q := fun z => nOA (m.oa q (.inl ⟨i, es, h, by rw [← z]; exact r1⟩))
    exact ⟨a, ws, r1, by rw [upd_ne na]; exact r2, r3, r4.mono gg⟩
  · have z := m.cx.bag
    cases r : S'.g with
    | none => trivial
    | some bo =>
      obtain ⟨b, o⟩ := bo
      have nb : b ≠ q := fun e => nOA (m.oa q (.inr ⟨o, by rw [r, e]⟩))
      rw [r] at z
      cases o with
      | lst es => obtain ⟨h1, ws, h2, h3⟩ := z; exact ⟨by rw [upd_ne nb]; exact h1, ws, h2, h3.mono gg⟩
      | ins cc fs => obtain ⟨h1, dx, ws, h2, h3⟩ := z; exact ⟨by rw [upd_ne nb]; exact h1, dx, ws, h2, h3.mono gg⟩
section
variable {F : Fam} {S S1 S2 S3 : ST} {e a b c tg iter elt : Expr} {d x y z : D} {pos p apos : Pos} {es : List Expr} {ds : List D} {k : Bool} {nm : Str} {P : Po} {rest t u body : List Stmt} {st : Stmt} {M : ST → Prop} {ifs : List Expr} {scope : Scope} {own : List (Str × Nat)}
theorem ev_freeze {C : Kc} {te : TE} (h : EvO C te S S1 ds) : EvM C te S S1 (.lst ds) := fun σ G H c Q q => h σ G H c Q fun p vs G2 H2 m hp gp h2 dl => by
  have m2 := m.freezeNew c hp gp h2
  exact q _ _ _ m2 (.lst (SqL.of upd_same) (dl.mono fun a o h => by rw [upd_ne (ne_of_none h gp)]; exact h))
theorem de_do (h : DO F e S S1 ds) : DE F e S S1 (.lst ds) := ev_freeze h
/-- [elt for tg in iter if ..]: turn by turn -/
theorem do_lc (hi : DI F tg iter S S1 ds) (own : List (Str × Nat)) (ok : ∀ i, BlkOk (F.X i).N (F.X i).env.scope scope own) (gO : Nat → Option (Addr × BG)) (out : Nat → List D) (hg0 : gO 0 = S1.g) (ho0 : out 0 = []) (hga : ∀ i, (gO i).map (·.1) = S1.g.map (·.1))
    (step : ∀ (i : Nat) d, ds[i]? = some d → Turn1 (F.blk scope) tg ifs elt (own.map (·.2)) S1.s d (gO i) (out i) (gO (i + 1)) (out (i + 1))) (hs : ∀ i x, foldedSetIterable iter (F.X i).env x = pure x := by intro _ _; rfl) :
    DO F (.ListComp elt [⟨tg, iter, ifs, 0⟩] scope pos) S ⟨S1.s, gO ds.length⟩ (out ds.length) :=
  do_of (fun i => pe_lc (F.calm i) (by rw [F.hN i]; exact F.nd) (anyI_ok i) (ok i) (fun s H C cl fp => anyG_ok (F := F.blk scope) (i, s, H, C, cl, fp)) (fun s H C cl fp => anyTs_ok (F := F.blk scope) (i, s, H, C, cl, fp)) (fun s H C cl fp => anyE_ok (F := F.blk scope) (i, s, H, C, cl, fp)) (hs i))
    (ev_lc hi gO out hg0 ho0 hga step)
/-- .. the elements by a function of the turn, nothing left out, nothing handed changed -/
theorem do_lcI (g : Nat → D) (hi : DI F tg iter S S1 ds) (own : List (Str × Nat)) (ok : ∀ i, BlkOk (F.X i).N (F.X i).env.scope scope own) (hl : ds.length ≤ sizeLine)
    (step : ∀ (i : Nat) d, ds[i]? = some d → ∃ T1 T3 js, DG (F.blk scope) tg d ⟨hidS S1.s (own.map (·.2)), S1.g⟩ T1 js ∧ (∀ j ∈ js, j ∈ own.map (·.2)) ∧ DE (F.blk scope) elt T1 T3 (g i) ∧ T3.g = S1.g) (hs : ∀ i x, foldedSetIterable iter (F.X i).env x = pure x := by intro _ _; rfl) :
    DO F (.ListComp elt [⟨tg, iter, [], 0⟩] scope pos) S S1 ((List.range ds.length).map g) := by
  have := do_lc (ifs := []) (elt := elt) (pos := pos) hi own ok (fun _ => S1.g) (fun i => (List.range i).map g) rfl rfl (fun _ => rfl) (fun i d hd => by
    obtain ⟨T1, T3, js, h1, h2, h3, h4⟩ := step i d hd
    have hlt : i < ds.length := (List.getElem?_eq_some_iff.mp hd).1
    refine ⟨T1, T1, true, js, h1, h2, dts_nil, fun _ => ⟨T3, g i, h3, h4, by rw [List.range_succ, List.map_append]; rfl, by rw [List.length_map, List.length_range]; omega⟩, fun z => nomatch z⟩) hs
  exact this
/-- .. by a function of the element -/
theorem do_lcM (f : D → D) (hi : DI F tg iter S S1 ds) (own : List (Str × Nat)) (ok : ∀ i, BlkOk (F.X i).N (F.X i).env.scope scope own) (hl : ds.length ≤ sizeLine)
    (step : ∀ (i : Nat) d, ds[i]? = some d → ∃ T1 T3 js, DG (F.blk scope) tg d ⟨hidS S1.s (own.map (·.2)), S1.g⟩ T1 js ∧ (∀ j ∈ js, j ∈ own.map (·.2)) ∧ DE (F.blk scope) elt T1 T3 (f d) ∧ T3.g = S1.g) (hs : ∀ i x, foldedSetIterable iter (F.X i).env x = pure x := by intro _ _; rfl) :
    DO F (.ListComp elt [⟨tg, iter, [], 0⟩] scope pos) S S1 (ds.map f) := by
  have := do_lc (ifs := []) (elt := elt) (pos := pos) hi own ok (fun _ => S1.g) (fun i => (ds.take i).map f) rfl rfl (fun _ => rfl) (fun i d hd => by
    obtain ⟨T1, T3, js, h1, h2, h3, h4⟩ := step i d hd
    have hlt : i < ds.length := (List.getElem?_eq_some_iff.mp hd).1
    refine ⟨T1, T1, true, js, h1, h2, dts_nil, fun _ => ⟨T3, f d, h3, h4, ?_, by rw [List.length_map, List.length_take]; omega⟩, fun z => nomatch z⟩
    have e : ds[i] = d := (List.getElem?_eq_some_iff.mp hd).2
    rw [List.take_succ, hd, List.map_append]; rfl) hs
  rw [List.take_length] at this
  exact this
/-- .. with a test -/
theorem do_lcF (kp : D → Bool) (f : D → D) (hi : DI F tg iter S S1 ds) (own : List (Str × Nat)) (ok : ∀ i, BlkOk (F.X i).N (F.X i).env.scope scope own) (hl : ds.length ≤ sizeLine)
    (step : ∀ (i : Nat) d, ds[i]? = some d → ∃ T1 T2 js, DG (F.blk scope) tg d ⟨hidS S1.s (own.map (·.2)), S1.g⟩ T1 js ∧ (∀ j ∈ js, j ∈ own.map (·.2)) ∧ DT (F.blk scope) c T1 T2 (kp d) ∧ T2.g = S1.g ∧ (kp d = true → ∃ T3, DE (F.blk scope) elt T2 T3 (f d) ∧ T3.g = S1.g)) (hs : ∀ i x, foldedSetIterable iter (F.X i).env x = pure x := by intro _ _; rfl) :
    DO F (.ListComp elt [⟨tg, iter, [c], 0⟩] scope pos) S S1 ((ds.filter kp).map f) := by
  have := do_lc (ifs := [c]) (elt := elt) (pos := pos) hi own ok (fun _ => S1.g) (fun i => ((ds.take i).filter kp).map f) rfl rfl (fun _ => rfl) (fun i d hd => by
    obtain ⟨T1, T2, js, h1, h2, h3, h4, h5⟩ := step i d hd
    have hlt : i < ds.length := (List.getElem?_eq_some_iff.mp hd).1
    have et : ds.take (i + 1) = ds.take i ++ [d] := by rw [List.take_succ, hd]; rfl
    refine ⟨T1, T2, kp d, js, h1, h2, dts_one h3, fun hk => ?_, fun hk => ⟨h4, ?_⟩⟩
    · obtain ⟨T3, h6, h7⟩ := h5 hk
      refine ⟨T3, f d, h6, h7, ?_, ?_⟩
      · rw [et, List.filter_append, List.map_append]
        simp [hk]
      · rw [List.length_map]
        have := List.length_filter_le kp (ds.take i)
        rw [List.length_take] at this
        omega
    · rw [et, List.filter_append, List.map_append]
      simp [hk]) hs
  rw [List.take_length] at this
  exact this
/-- y = [..] as an own list -/
theorem ds_setLcO {j : Nat} {y : Str} {py : Pos} (hi : DI F tg iter S S1 ds) (own : List (Str × Nat)) (ok : ∀ i, BlkOk (F.X i).N (F.X i).env.scope scope own) (gO : Nat → Option (Addr × BG)) (out : Nat → List D) (hg0 : gO 0 = S1.g) (ho0 : out 0 = []) (hga : ∀ i, (gO i).map (·.1) = S1.g.map (·.1))
    (step : ∀ (i : Nat) d, ds[i]? = some d → Turn1 (F.blk scope) tg ifs elt (own.map (·.2)) S1.s d (gO i) (out i) (gO (i + 1)) (out (i + 1)))
    (q : DS F rest ((⟨S1.s, gO ds.length⟩ : ST).set j (.lst (out ds.length))) P)
    (hp : ∀ i, PS (F.X i) (.Assign [.Name y py] (.ListComp elt [⟨tg, iter, ifs, 0⟩] scope p) pos) (tAsg (tLc (anyI F tg iter) (anyG (F.blk scope) tg) (anyTs (F.blk scope) ifs) (anyE (F.blk scope) elt) (own.map (·.2))) (gName j))) :
    DS F (.Assign [.Name y py] (.ListComp elt [⟨tg, iter, ifs, 0⟩] scope p) pos :: rest) S P := by
  refine ds_cons (M := fun S2 => S2 = (⟨S1.s, gO ds.length⟩ : ST).set j (.lst (out ds.length))) (d1_of (te := tAsg (tLc (anyI F tg iter) (anyG (F.blk scope) tg) (anyTs (F.blk scope) ifs) (anyE (F.blk scope) elt) (own.map (·.2))) (gName j)) hp ?_) fun _ z => z ▸ q
  intro σ G H c E m
  have hev : EvM F.C (tLc (anyI F tg iter) (anyG (F.blk scope) tg) (anyTs (F.blk scope) ifs) (anyE (F.blk scope) elt) (own.map (·.2))) S ⟨S1.s, gO ds.length⟩ (.lst (out ds.length)) := ev_freeze (ev_lc hi gO out hg0 ho0 hga step)
  exact hev σ G H c _ fun v G1 H1 m1 dv => m.nx _ _ G1 H1 (m1.mw.trans (m1.cx.store dv)) rfl

/-! ### plain data -/
mutual
def toP : D → PyData
  | .non => .none
  | .bl b => .bool b
  | .int i => .int i
  | .str x => .str x
  | .tup xs => .tuple (toPs xs)
  | .lst xs => .list (toPs xs)
  | .obj _ _ => .none
  | .cst _ => .none
def toPs : List D → List PyData
  | [] => []
  | x :: xs => toP x :: toPs xs
end
mutual
def okP : D → Bool
  | .non => true
  | .bl _ => true
  | .int _ => true
  | .str _ => true
  | .tup xs => okPs xs
  | .lst xs => okPs xs
  | .obj _ _ => false
  | .cst _ => false
def okPs : List D → Bool
  | [] => true
  | x :: xs => okP x && okPs xs
end
mutual
theorem Den.dp {C : Kc} {G H : Hp} (s : Same G H) : ∀ {v : V} {d : D}, Den C G v d → okP d = true → Dp C.K H v (toP d)
  | _, _, .non, _ => by unfold toP; exact .non
  | _, _, .bl b, _ => by unfold toP; exact .bl b
  | _, _, .int i, _ => by unfold toP; exact .int i
  | _, _, .str x, _ => by unfold toP; exact .str x
  | _, _, .tup h l, k => by
    unfold okP at k
    unfold toP
    exact .tup (same_t s h) (DenL.dp s l k)
  | _, _, .lst h l, k => by
    unfold okP at k
    unfold toP
    exact .lst (s.seq h) (DenL.dp s l k)
  | _, _, .obj _ _, k => by unfold okP at k; cases k
  | _, _, .cst _, k => by unfold okP at k; cases k
theorem DenL.dp {C : Kc} {G H : Hp} (s : Same G H) : ∀ {v : List V} {d : List D}, DenL C G v d → okPs d = true → DpAll C.K H v (toPs d)
  | _, _, .nil, _ => by unfold toPs; exact .nil
  | _, _, .cons h l, k => by
    unfold okPs at k
    rw [Bool.and_eq_true] at k
    unfold toPs
    exact .cons (Den.dp s h k.1) (DenL.dp s l k.2)
end
theorem od_eqP (h1 : okP x = true) (h2 : okP y = true) (h3 : SeqAt.shaped (toP x) = true) (h4 : SeqAt.shaped (toP y) = true) : OpD F (compareOp .Eq) x y (.bl (PyData.eqv (toP x) (toP y))) :=
  ⟨rEqD F.C.K, fun i => by have := op_eqD (X := F.X i) (F.room i).units; rw [F.hK i] at this; exact this, fun G H u v s hu hv Q q => ⟨_, _, hu.dp s h1, hv.dp s h2, h3, h4, q _ _ _ (.refl s) (.bl _)⟩⟩
theorem od_neP (h1 : okP x = true) (h2 : okP y = true) (h3 : SeqAt.shaped (toP x) = true) (h4 : SeqAt.shaped (toP y) = true) : OpD F (compareOp .NotEq) x y (.bl (!PyData.eqv (toP x) (toP y))) :=
  ⟨rNeD F.C.K, fun i => by have := op_neD (X := F.X i) (F.room i).units; rw [F.hK i] at this; exact this, fun G H u v s hu hv Q q => ⟨_, _, hu.dp s h1, hv.dp s h2, h3, h4, q _ _ _ (.refl s) (.bl _)⟩⟩
theorem od_eqR (h1 : okP x = true) (h3 : SeqAt.shaped (toP x) = true) : OpD F (compareOp .Eq) x x (.bl true) := by
  have := od_eqP (F := F) h1 h1 h3 h3
  rw [PySem.SeqAt.eqv_refl _ (SeqAt.canLay_of_shaped h3)] at this
  exact this
theorem od_neR (h1 : okP x = true) (h3 : SeqAt.shaped (toP x) = true) : OpD F (compareOp .NotEq) x x (.bl false) := by
  have := od_neP (F := F) h1 h1 h3 h3
  rw [PySem.SeqAt.eqv_refl _ (SeqAt.canLay_of_shaped h3)] at this
  exact this

/-! ### isinstance -/
def tyD (C : Kc) : D → Value
  | .non => .type "NoneType"
  | .bl _ => .type "bool"
  | .int _ => .type "int"
  | .str _ => .type "str"
  | .tup _ => .type "tuple"
  | .lst _ => .type "list"
  | .obj c _ => .ref (C.cl c)
  | .cst _ => .none
/-- what isinstance wants to know of an own class -/
structure InsF (K : PySem.W.Frag) (c : Addr) : Prop where
  cl : Cls K c
  ha : PySem.W.findIn K (.ref c) "__class__" = some (some (.builtin "object.__class__"))
  hn : PySem.W.specialIn K (.builtin "object.__class__") "__get__" = some (some (.builtin "getset_descriptor.__get__"))
  htk : PySem.W.takesIn K (.builtin "object.__class__") = some true
  hm : PySem.W.mroIn K c (.type "object") = some true
theorem Den.tyX {C : Kc} {G H : Hp} (s : Same G H) {v : V} {d : D} (h : Den C G v d) (ho : ∀ c fs, d = .obj c fs → InsF C.K (C.cl c)) (hc : ∀ v, d ≠ .cst v) : TyX C.K H v (tyD C d) := by
  cases h with
  | non => exact .base .non
  | bl b => exact .base (.bl b)
  | int i => exact .base (.int i)
  | str x => exact .base (.str x)
  | tup h l =>
    rcases same_t s h with (h | ⟨o, h⟩) | ⟨o, _, _, h, h', _⟩
    · exact .base (.tup h)
    · exact .fTuple h
    · exact .kTuple h h'
  | lst h l =>
    rcases s.seq h with (h | ⟨o, h⟩) | ⟨o, _, _, h, h', _⟩
    · exact .base (.lst h)
    · exact .base (.frz h)
    · exact .kList h h'
  | obj h l => have := ho _ _ rfl; exact .base (.ins (s _ _ h) this.cl this.ha this.hn this.htk this.hm)
  | cst v => exact absurd rfl (hc v)
/-- isinstance(x, T): t, x's type; u, the class -/
theorem ca_isi {cv : V} {u : Value} {k : Bool} (hc : ClsV cv u) (ho : ∀ c fs, x = .obj c fs → InsF F.C.K (F.C.cl c)) (hn : ∀ v, x ≠ .cst v) (hk : PySem.W.kitOne F.C.K (tyD F.C x) u = some k) : CaD F (.builtin "isinstance") [x, .cst cv] (.bl k) :=
  ⟨rIsi F.C.K, fun i => by have := call_isi (X := F.X i); rw [F.hK i] at this; exact this, fun G H us s h Q q => by
    cases h with
    | cons h l => cases l with
      | cons h2 l => cases l; cases h2; exact ⟨_, _, _, _, k, rfl, hc, h.tyX s ho hn, hk, q _ _ _ (.refl s) (.bl _)⟩⟩

/-! ### all, any, sum, tuple, list -/
theorem denL_bl {C : Kc} {G : Hp} : ∀ {vs : List V} {bs : List Bool}, DenL C G vs (bs.map D.bl) → vs = bs.map V.bl
  | _, [], .nil => rfl
  | _, b :: bs, .cons h l => by cases h; rw [denL_bl l]; rfl
theorem denL_int {C : Kc} {G : Hp} : ∀ {vs : List V} {bs : List Int}, DenL C G vs (bs.map D.int) → vs = bs.map V.int
  | _, [], .nil => rfl
  | _, b :: bs, .cons h l => by cases h; rw [denL_int l]; rfl
theorem denL_str {C : Kc} {G : Hp} : ∀ {vs : List V} {bs : List Str}, DenL C G vs (bs.map D.str) → vs = bs.map V.str
  | _, [], .nil => rfl
  | _, b :: bs, .cons h l => by cases h; rw [denL_str l]; rfl
theorem ca_all {bs : List Bool} : CaD F (.builtin "all") [.lst (bs.map D.bl)] (.bl (bs.all id)) := ⟨rAll F.C.K, fun i => by have := cr_all (X := F.X i) (F.calm i); rw [F.hK i] at this; exact this, fun G H us s h Q q => by
  cases h with
  | cons h l => cases h with
    | lst h1 h2 => cases l; exact ⟨_, bs, rfl, by rw [← denL_bl h2]; exact s.seq h1, q _ _ _ (.refl s) (.bl _)⟩⟩
theorem ca_any {bs : List Bool} : CaD F (.builtin "any") [.lst (bs.map D.bl)] (.bl (bs.any id)) := ⟨rAny F.C.K, fun i => by have := cr_any (X := F.X i) (F.calm i); rw [F.hK i] at this; exact this, fun G H us s h Q q => by
  cases h with
  | cons h l => cases h with
    | lst h1 h2 => cases l; exact ⟨_, bs, rfl, by rw [← denL_bl h2]; exact s.seq h1, q _ _ _ (.refl s) (.bl _)⟩⟩
theorem ca_sum {bs : List Int} : CaD F (.builtin "sum") [.lst (bs.map D.int)] (.int bs.sum) := ⟨rSum F.C.K, fun i => by have := cr_sum (X := F.X i) (F.calm i); rw [F.hK i] at this; exact this, fun G H us s h Q q => by
  cases h with
  | cons h l => cases h with
    | lst h1 h2 => cases l; exact ⟨_, bs, rfl, by rw [← denL_int h2]; exact s.seq h1, q _ _ _ (.refl s) (.int _)⟩⟩
theorem ca_tupL : CaD F (.type "tuple") [.lst ds] (.tup ds) := ⟨fun xs H Q => ∃ p ys, xs = [.ref p] ∧ ((SqL F.C.K H p ys ∧ ∀ l, H l = none → Q (.ref l) (upd H l (.tup ys))) ∨ (SqT F.C.K H p ys ∧ Q (.ref p) H)), fun i => by have := call_tuple_of (X := F.X i); rw [F.hK i] at this; exact this, fun G H us s h Q q => by
  cases h with
  | cons h l => cases h with
    | lst h1 h2 => cases l; exact ⟨_, _, rfl, .inl ⟨s.seq h1, fun p hp => by
      exact q _ _ _ (Pu.new s hp) (.tup (SqT.of upd_same) (h2.mono (Pu.new s hp).gg))⟩⟩⟩
theorem ca_tupT : CaD F (.type "tuple") [.tup ds] (.tup ds) := ⟨fun xs H Q => ∃ p ys, xs = [.ref p] ∧ ((SqL F.C.K H p ys ∧ ∀ l, H l = none → Q (.ref l) (upd H l (.tup ys))) ∨ (SqT F.C.K H p ys ∧ Q (.ref p) H)), fun i => by have := call_tuple_of (X := F.X i); rw [F.hK i] at this; exact this, fun G H us s h Q q => by
  cases h with
  | cons h l => cases h with
    | tup h1 h2 => cases l; exact ⟨_, _, rfl, .inr ⟨same_t s h1, q _ _ _ (.refl s) (.tup h1 h2)⟩⟩⟩
theorem ca_listL : CaD F (.type "list") [.lst ds] (.lst ds) := ⟨fun xs H Q => ∃ p ys, xs = [.ref p] ∧ (SqL F.C.K H p ys ∨ SqT F.C.K H p ys) ∧ ∀ l, H l = none → Q (.ref l) (upd H l (.lst ys)), fun i => by have := call_list_of (X := F.X i); rw [F.hK i] at this; exact this, fun G H us s h Q q => by
  cases h with
  | cons h l => cases h with
    | lst h1 h2 => cases l; exact ⟨_, _, rfl, .inl (s.seq h1), fun p hp => by
      exact q _ _ _ (Pu.new s hp) (.lst (SqL.of upd_same) (h2.mono (Pu.new s hp).gg))⟩⟩
theorem ca_listT : CaD F (.type "list") [.tup ds] (.lst ds) := ⟨fun xs H Q => ∃ p ys, xs = [.ref p] ∧ (SqL F.C.K H p ys ∨ SqT F.C.K H p ys) ∧ ∀ l, H l = none → Q (.ref l) (upd H l (.lst ys)), fun i => by have := call_list_of (X := F.X i); rw [F.hK i] at this; exact this, fun G H us s h Q q => by
  cases h with
  | cons h l => cases h with
    | tup h1 h2 => cases l; exact ⟨_, _, rfl, .inr (same_t s h1), fun p hp => by
      exact q _ _ _ (Pu.new s hp) (.lst (SqL.of upd_same) (h2.mono (Pu.new s hp).gg))⟩⟩
end
end DL
/-! DL9: operators and comparisons by own methods. -/
namespace DLO
open PySem PySem.W PySem.SeqAt PySem.Calls PyProof.Rows
open AutoSeq1 (wpAny_loadPart')
section
variable {M : Model} {prog : Program} {w : World} {A : Around} {E : Value → Shared → Prop} {s : Shared} {K : Frag} {x y C b f : Addr} {ox oy : Obj} {od od' : Option Obj} {dx : Addr} {i : Int} {t : Tok}
theorem int_add_ref {Q : Fin → Shared → Prop} (hb : s.heap.get? b = some (instObj C dx)) (h : Q (.done (.ret .notImplemented)) s) : wpAny M A (Builtin.«int.__add__» ⟨[.int i t, .ref b], []⟩) Q E s := by
  obtain ⟨hp, g, d, tk, os⟩ := s
  wp_walk using wpAny_loadPart' hb
  exact h
theorem int_sub_ref {Q : Fin → Shared → Prop} (hb : s.heap.get? b = some (instObj C dx)) (h : Q (.done (.ret .notImplemented)) s) : wpAny M A (Builtin.«int.__sub__» ⟨[.int i t, .ref b], []⟩) Q E s := by
  obtain ⟨hp, g, d, tk, os⟩ := s
  wp_walk using wpAny_loadPart' hb
  exact h
theorem int_mul_ref {Q : Fin → Shared → Prop} (hb : s.heap.get? b = some (instObj C dx)) (h : Q (.done (.ret .notImplemented)) s) : wpAny M A (Builtin.«int.__mul__» ⟨[.int i t, .ref b], []⟩) Q E s := by
  obtain ⟨hp, g, d, tk, os⟩ := s
  wp_walk using wpAny_loadPart' hb
  exact h
theorem int_eq_ref {Q : Fin → Shared → Prop} (hb : s.heap.get? b = some (instObj C dx)) (h : Q (.done (.ret .notImplemented)) s) : wpAny M A (Builtin.«int.__eq__» ⟨[.int i t, .ref b], []⟩) Q E s := by
  obtain ⟨hp, g, d, tk, os⟩ := s
  wp_walk using wpAny_loadPart' hb
  exact h
theorem int_ne_ref {Q : Fin → Shared → Prop} (hb : s.heap.get? b = some (instObj C dx)) (h : Q (.done (.ret .notImplemented)) s) : wpAny M A (Builtin.«int.__ne__» ⟨[.int i t, .ref b], []⟩) Q E s := by
  obtain ⟨hp, g, d, tk, os⟩ := s
  wp_walk using wpAny_loadPart' hb
  exact h

/-- x op y, both of one own class -/
theorem binS {op : Operator} {Q : Value → Shared → Prop} (X : K.In s.heap) (I : InstAt s.heap x ox C od) (J : InstAt s.heap y oy C od') (hc : selfFirst K C = true)
    (hs : findIn K (.ref C) (PySem.dunder op.info.2) = some (some (.ref f))) (hf : isFn K (.ref f) = true)
    (h : wpAny (model prog w) A (call (.ref f) [.ref x, .ref y]) (PySem.W.CmpBack Q) E s) : wpAny (model prog w) A (binaryOp op (.ref x) (.ref y)) Q E s := by
  obtain ⟨cd, rest, hcd, hm⟩ := ksp_first hc
  rcases hi : op.info with ⟨sym, nm'⟩
  rw [hi] at hs
  dsimp only at hs
  have one := ksp_try X I hs hf h
  obtain ⟨hh, g, d, tt, os⟩ := s
  have L1 : Looks (model prog w) hh (typeOf (.ref x)) (.ref C) := I.type
  have L2 : Looks (model prog w) hh (typeOf (.ref y)) (.ref C) := J.type
  have L3 : Looks (model prog w) hh (fillsNumberSlot (.ref C) nm') true := fills_K X hcd hm hs
  have he : (Value.ref C == Value.ref C) = true := by simp
  simp only [binaryOp, hi]
  refine wpAny_holding (wpAny_bind ?_)
  unfold binaryOp1
  refine wpAny_bind (L1.at (wpAny_bind (L2.at (wpAny_bind (L3.at ?_)))))
  simp only [he, if_true]
  ksp_lk
  refine wpAny_mono one (fun r s' hr' => ?_) fun _ _ e => e
  obtain ⟨v, rfl, hq⟩ := hr'
  ksp_lk
  exact hq
/-- i op y, y of an own class: the int's own method declines -/
theorem binR {op : Operator} {id : String} {B : Builtin} {Q : Value → Shared → Prop} {fo ro : Option Value} (X : K.In s.heap) (J : InstAt s.heap y oy C od) (hc : selfFirst K C = true)
    (sl : Slot "int" (PySem.dunder op.info.2) id) (en : entryFor table id = some B) (ag : argsOk id ⟨[.int i t, .ref y], []⟩)
    (hB : ∀ (A : Around) (E : Value → Shared → Prop) (Q : Fin → Shared → Prop), Q (.done (.ret .notImplemented)) s → wpAny (model prog w) A (B ⟨[.int i t, .ref y], []⟩) Q E s)
    (h1 : findIn K (.type "int") (PySem.dunder op.info.2) = some fo) (h2 : findIn K (.type "int") (dunderR op.info.2) = some ro) (h3 : ((fo.isSome && !isSeqSlot fo) || (ro.isSome && !isSeqSlot ro)) = true)
    (hs : findIn K (.ref C) (PySem.dunder op.info.2) = some (some (.ref b))) (hr : findIn K (.ref C) (dunderR op.info.2) = some (some (.ref f))) (hf : isFn K (.ref f) = true) (hsub : subIn K (.ref C) (.type "int") = some false)
    (h : wpAny (model prog w) A (call (.ref f) [.ref y, .int i t]) (PySem.W.CmpBack Q) E s) : wpAny (model prog w) A (binaryOp op (.int i t) (.ref y)) Q E s := by
  obtain ⟨cd, rest, hcd, hm⟩ := ksp_first hc
  rcases hi : op.info with ⟨sym, nm'⟩
  rw [hi] at hs sl h1 h2 hr
  dsimp only at hs sl h1 h2 hr
  have one : wpAny (model prog w) A (tryMethod (.int i t) (PySem.dunder nm') (.ref y)) (fun r s' => r = none ∧ s' = s) E s :=
    wpAny_tryMethod_declines (typeIs_int s i t) sl (wpAny_call (codeAny_call_builtin sl.plain en (sl.check _ _ _ _ _ _ _ _ (typeIs_int s i t) ag (hB _ _ _ ⟨rfl, rfl, rfl⟩))))
  have two := ksp_try X J hr hf h
  obtain ⟨hh, g, d, tt, os⟩ := s
  have L1 : Looks (model prog w) hh (typeOf (.int i t)) (.type "int") := Looks.of_pure rfl
  have L2 : Looks (model prog w) hh (typeOf (.ref y)) (.ref C) := J.type
  have L3 : Looks (model prog w) hh (fillsNumberSlot (.type "int") nm') true := by have := ksp_fillsT (M := model prog w) X h1 h2; rw [h3] at this; exact this
  have L4 : Looks (model prog w) hh (fillsNumberSlot (.ref C) nm') true := fills_K X hcd hm hs
  have L5 : Looks (model prog w) hh (isSubtype (.ref C) (.type "int")) false := looks_subIn X hsub
  have L6 : Looks (model prog w) hh (numberSlotInPython (.type "int") nm') false := Looks.of_pure rfl
  have hne : (Value.type "int" == Value.ref C) = false := Bool.eq_false_iff.mpr fun q => by cases beq_iff_eq.mp q
  simp only [binaryOp, hi]
  refine wpAny_holding (wpAny_bind ?_)
  unfold binaryOp1
  refine wpAny_bind (L1.at (wpAny_bind (L2.at (wpAny_bind (L3.at ?_)))))
  simp only [hne, Bool.false_eq_true, if_false]
  ksp_lk
  refine wpAny_mono one (fun r s' hr' => ?_) fun _ _ e => e
  obtain ⟨rfl, rfl⟩ := hr'
  ksp_lk
  refine wpAny_mono two (fun r s' hr' => ?_) fun _ _ e => e
  obtain ⟨v, rfl, hq⟩ := hr'
  ksp_lk
  exact hq
/-- i == y, y of an own class with its own == -/
theorem eqR {Q : Value → Shared → Prop} (hu : A.units < cLine) (X : K.In s.heap) (J : InstAt s.heap y (instObj C dx) C od) (hs : findIn K (.ref C) "__eq__" = some (some (.ref f))) (hf : isFn K (.ref f) = true) (hsub : subIn K (.ref C) (.type "int") = some false)
    (h : wpAny (model prog w) A (call (.ref f) [.ref y, .int i t]) (PySem.W.CmpBack Q) E s) : wpAny (model prog w) A (richCompare .Eq (.int i t) (.ref y)) Q E s := by
  have one : wpAny (model prog w) A (tryCompare (.int i t) "__eq__" (.ref y)) (fun r s' => r = none ∧ s' = s) E s :=
    wpAny_tryCompare_declines (typeIs_int s i t) F.slot_int_eq (wpAny_call (codeAny_call_builtin F.slot_int_eq.plain F.entry_int_eq (F.slot_int_eq.check _ _ _ _ _ _ _ _ (typeIs_int s i t) (F.args_int_eq_2 _ _) (int_eq_ref J.at_ ⟨rfl, rfl, rfl⟩))))
  have two : wpAny (model prog w) A (tryCompare (.ref y) "__eq__" (.int i t)) (fun r s' => ∃ v, r = some v ∧ Q v s') E s := by
    unfold tryCompare
    refine wpAny_bind (ifBound_K X J hs hf (wpAny_mono h (fun v s' hv => ?_) fun _ _ e => e))
    cases v <;> first | exact hv.elim | exact wpAny_pure ⟨_, rfl, hv⟩
  have hot : oneThing? .Eq (.int i t) (.ref y) = none := rfl
  simp only [richCompare, cmpInfo_Eq, hot]
  refine wpAny_holding (wpAny_bind (wpAny_cRoomFor hu ?_))
  refine wpAny_bind (wpAny_typeOf (typeIs_int s i t) ?_)
  refine wpAny_bind (J.type.here ?_)
  have hne : (Value.type "int" != Value.ref C) = true := by
    rw [bne_iff_ne]; intro q; cases q
  rw [hne]
  refine wpAny_bind ((looks_subIn X hsub).here ?_)
  simp only [Bool.false_eq_true, if_false, Bool.not_false, if_true]
  refine wpAny_bind (m := tryCompare (.int i t) _ (.ref y)) (wpAny_mono one (fun r s1 z => ?_) fun _ _ e => e)
  obtain ⟨rfl, rfl⟩ := z
  refine wpAny_bind (m := tryCompare (.ref y) _ (.int i t)) (wpAny_mono two (fun r s2 z => ?_) fun _ _ e => e)
  obtain ⟨v, rfl, hq⟩ := z
  exact wpAny_pure hq
/-- != by the own == -/
theorem objNe_own {v : Value} {Q : Fin → Shared → Prop} (hu : A.units < cLine) (X : K.In s.heap) (I : InstAt s.heap x ox C od) (hs : findIn K (.ref C) "__eq__" = some (some (.ref f))) (hf : isFn K (.ref f) = true)
    (h : wpAny (model prog w) A (call (.ref f) [.ref x, v]) (fun r s' => ∃ b, r = .bool b ∧ Q (.done (.ret (.bool (!b)))) s') E s) : wpAny (model prog w) A (Builtin.«object.__ne__» ⟨[.ref x, v], []⟩) Q E s := by
  have one := ifBound_K (M := model prog w) (args := [v]) (Q := fun r s' => ∃ b, r = some (.bool b) ∧ Q (.done (.ret (.bool (!b)))) s') X I hs hf (wpAny_mono h (fun r s' hr => by obtain ⟨b, rfl, hq⟩ := hr; exact ⟨b, rfl, hq⟩) fun _ _ e => e)
  obtain ⟨hp, g, d, tk, os⟩ := s
  unfold Builtin.«object.__ne__»
  repeat (first
    | with_reducible refine wpAny_cRoomFor hu ?_
    | (refine wpAny_bind (m := callSpecialIfBound? (.ref x) (Str.ofString "__eq__") [v])
        (wpAny_mono one (fun r s' hr => by
          obtain ⟨b, rfl, hq⟩ := hr
          repeat (first | exact hq | exact wpAny_pure hq | exact wpAny_truthy_bool hq | (refine wpAny_bind (m := truthy (.bool _)) (wpAny_truthy_bool ?_)) | wp_step)) fun _ _ e => e))
    | wp_step)
theorem ifBound_objNe {args : List Value} {Q : Option Value → Shared → Prop} (X : K.In s.heap) (I : InstAt s.heap x ox C od) (hs : findIn K (.ref C) "__ne__" = some (some (.builtin "object.__ne__")))
    (h : wpAny M A (call (.builtin "object.__ne__") (.ref x :: args)) (fun v => Q (some v)) E s) : wpAny M A (callSpecialIfBound? (.ref x) "__ne__" args) Q E s := by
  simp only [callSpecialIfBound?, bindSpecialIfBound?]
  refine wpAny_holding (wpAny_bind (wpAny_bind (wpAny_bind (I.type.here ((PySem.W.looks_findIn X hs).here ?_)))))
  refine wpAny_bind (wpAny_askSetting (wpAny_ite ?_))
  have fin : wpAny M A (call (.builtin "object.__ne__") ([.ref x] ++ args) >>= fun v => pure (some v)) Q E s := wpAny_bind (wpAny_mono h (fun v s' h' => wpAny_pure h') fun _ _ h' => h')
  split
  · exact wpAny_bind (wpAny_of_eq (F.cmp_object.ne.bind _) (wpAny_pure (by exact fin)))
  · exact wpAny_tryCatch (wpAny_bind (wpAny_of_eq (F.cmp_object.ne.bind _) (wpAny_pure (by exact fin))))
theorem neO {v tb : Value} {Q : Value → Shared → Prop} (hu : A.units + 1 < cLine) (X : K.In s.heap) (I : InstAt s.heap x ox C od) (hb : Looks (model prog w) s.heap (typeOf v) tb) (hn : notFirst K C tb = true) (hm : mroIn K C (.type "object") = some true)
    (hne : findIn K (.ref C) "__ne__" = some (some (.builtin "object.__ne__"))) (hs : findIn K (.ref C) "__eq__" = some (some (.ref f))) (hf : isFn K (.ref f) = true)
    (h : wpAny (model prog w) A.in1 (call (.ref f) [.ref x, v]) (fun r s' => ∃ b, r = .bool b ∧ Q (.bool (!b)) s') E s) : wpAny (model prog w) A (richCompare .NotEq (.ref x) v) Q E s := by
  have one : wpAny (model prog w) A (tryCompare (.ref x) "__ne__" v) (fun r s' => ∃ b, r = some (.bool b) ∧ Q (.bool b) s') E s := by
    unfold tryCompare
    refine wpAny_bind (ifBound_objNe X I hne (wpAny_call (codeAny_call_builtin F.cmp_object.ne.plain F.cmpEntry_ne (PySem.W.check_slot F.cmpKind_ne F.cmpSplit_ne (I.type.andThen (PySem.W.looks_mroIn X hm)) (F.cmpArgs_ne _ _) (objNe_own (A := A.in1) hu X I hs hf (wpAny_mono h (fun r s' hr => ?_) fun _ _ e => e))))))
    obtain ⟨b, rfl, hq⟩ := hr
    first | exact ⟨b, rfl, wpAny_pure ⟨_, rfl, hq⟩⟩ | exact ⟨b, rfl, ⟨_, rfl, hq⟩⟩
  unfold richCompare
  simp only [oneThing_ref]
  refine wpAny_holding (wpAny_bind (wpAny_cRoomFor (Nat.lt_of_succ_lt hu) ?_))
  rw [cmpInfo_NotEq]
  dsimp only
  refine wpAny_bind (I.type.here (wpAny_bind (hb.here ?_)))
  split
  · rename_i q
    have e : subIn K tb (.ref C) = some false := by
      rcases Bool.or_eq_true_iff.mp hn with e | e
      · rw [beq_iff_eq.mp e] at q; simp at q
      · exact beq_iff_eq.mp e
    refine wpAny_bind ((looks_subIn X e).here ?_)
    simp only [Bool.false_eq_true, if_false]
    refine wpAny_bind (wpAny_mono one (fun r s' z => ?_) fun _ _ e => e)
    obtain ⟨b, rfl, hq⟩ := z
    exact wpAny_pure hq
  · refine wpAny_bind (wpAny_pure ?_)
    simp only [Bool.false_eq_true, if_false]
    refine wpAny_bind (wpAny_mono one (fun r s' z => ?_) fun _ _ e => e)
    obtain ⟨b, rfl, hq⟩ := z
    exact wpAny_pure hq
end
end DLO
/-! DLA: own operators on data; defs that hand back new lists; a def that changes a new list. -/
namespace DL
open PySem L2
theorem back_of {X : Cx} {pins : List (Addr × Obj)} {σ : L2.St} {Q : VK} {A : Around} {c : Sem Value} {s : Shared} {M : Model} {E : Value → Shared → Prop} (h : wpAny M A c (EP X pins σ Q) E s) : wpAny M A c (PySem.W.CmpBack (EP X pins σ Q)) E s := by
  refine wpAny_mono h (fun v s' q => ?_) fun _ _ e => e
  cases v with
  | notImplemented =>
    obtain ⟨z, _, _, r, _⟩ := q
    cases z with
    | int => obtain ⟨_, r⟩ := r; cases r
    | str => obtain ⟨_, r⟩ := r; cases r
    | byt => obtain ⟨_, r⟩ := r; cases r
    | flt => obtain ⟨_, r⟩ := r; cases r
    | non => cases r
    | bl => cases r
    | ref => cases r
    | ty => cases r
  | _ => exact q
/-- what the operators by own methods ask of the class -/
structure OpF (K : PySem.W.Frag) (C : Addr) : Prop where
  sf : PySem.W.selfFirst K C = true
  ic : PySem.W.subIn K (.type "int") (.ref C) = some false
  ci : PySem.W.subIn K (.ref C) (.type "int") = some false
structure IntF (K : PySem.W.Frag) (op : Operator) : Prop where
  ex : ∃ fo ro, PySem.W.findIn K (.type "int") (PySem.dunder op.info.2) = some fo ∧ PySem.W.findIn K (.type "int") (dunderR op.info.2) = some ro ∧ ((fo.isSome && !isSeqSlot fo) || (ro.isSome && !isSeqSlot ro)) = true
section
variable {F : Fam} {S S1 S2 S3 : ST} {e a b c tg iter elt : Expr} {d x y z : D} {pos p apos : Pos} {es : List Expr} {ds : List D} {k : Nat} {nm : Str} {P : Po} {rest : List Stmt} {cn : Nat} {fs gs : List (Str × D)} {R R' : List D → D → Prop} {op : Operator} {m m' : Str}

theorem inst_of {X : Cx} {pins : List (Addr × Obj)} {σ : L2.St} {H : Hp} {s : Shared} {a C dx : Addr} {vs : List (Str × V)} (I : Inv X pins σ H s) (h : H a = some (.ins C dx vs)) : ∃ od, PySem.W.InstAt s.heap a (PySem.W.instObj C dx) C (some od) := by
  obtain ⟨mA, J, _⟩ := ins_get I.hok h
  obtain ⟨od, J, _⟩ := J.look
  exact ⟨od, J⟩
/-- x op y, x and y of the class cn -/
theorem od_binS (hF : OpF F.C.K (F.C.cl cn)) (mt : Met F.P F.w F.C F.mg F.base k cn m (spP F.C R)) (hm : PySem.dunder op.info.2 = m) (hk : k ≤ F.k) (hR : R [.obj cn fs, .obj cn gs] z) : OpD F (binaryOp op) (.obj cn fs) (.obj cn gs) z := by
  obtain ⟨f, fd, ps, G, hc, hme, hb⟩ := mt
  refine ⟨fun x y H Q => ∃ a b dx dy vs ws, x = .ref a ∧ y = .ref b ∧ H a = some (.ins (F.C.cl cn) dx vs) ∧ H b = some (.ins (F.C.cl cn) dy ws) ∧ spP F.C R [x, y] H Q E0, fun i => ?_, fun G H u v s hu hv Q q => ?_⟩
  · intro pins s σ H x y v u Q I rx ry h
    obtain ⟨a, b, dx, dy, vs, ws, rfl, rfl, ha, hb', hsp⟩ := h
    cases rx
    cases ry
    obtain ⟨od, J⟩ := inst_of I ha
    obtain ⟨od', J'⟩ := inst_of I hb'
    refine DLO.binS I.kIn J J' (by rw [F.hK i]; exact hF.sf) (by rw [F.hK i, hm]; exact hme.at_) (by rw [F.hK i]; exact hme.fn) (back_of ?_)
    exact run_fn (vs := [.ref a, .ref b]) (dvs := []) (fn_at G) ((F.room i).mono hk) (by rw [F.hK i]; exact hb) .nil pass0 I (.cons rfl (.cons rfl .nil)) hsp
  · have hu' := hu
    have hv' := hv
    cases hu with
    | obj h1 h2 => cases hv with
      | obj h3 h4 => exact ⟨_, _, _, _, _, _, rfl, rfl, s _ _ h1, s _ _ h3, G, _, z, hR, s, .cons hu' (.cons hv' .nil), q⟩
/-- x op i -/
theorem od_binT {i : Int} (hF : OpF F.C.K (F.C.cl cn)) (hI : IntF F.C.K op) (mt : Met F.P F.w F.C F.mg F.base k cn m (spP F.C R)) (hm : PySem.dunder op.info.2 = m) {k' : Nat} (mt' : Met F.P F.w F.C F.mg F.base k' cn m' (spP F.C R')) (hm' : dunderR op.info.2 = m') (hk : k ≤ F.k) (hR : R [.obj cn fs, .int i] z) : OpD F (binaryOp op) (.obj cn fs) (.int i) z := by
  obtain ⟨f, fd, ps, G, hc, hme, hb⟩ := mt
  obtain ⟨f', _, _, _, _, hme', _⟩ := mt'
  obtain ⟨fo, ro, i1, i2, _⟩ := hI.ex
  refine ⟨fun x y H Q => ∃ a j dx vs, x = .ref a ∧ y = .int j ∧ H a = some (.ins (F.C.cl cn) dx vs) ∧ spP F.C R [x, y] H Q E0, fun l => ?_, fun G H u v s hu hv Q q => ?_⟩
  · intro pins s σ H x y v u Q I rx ry h
    obtain ⟨a, j, dx, vs, rfl, rfl, ha, hsp⟩ := h
    cases rx
    obtain ⟨t, rfl⟩ := ry
    obtain ⟨od, J⟩ := inst_of I ha
    obtain ⟨mm, hFr⟩ := I.fr
    refine PySem.W.ksp_binT (T := "int") (rc := some (.ref f')) hFr I.ok.mod.kin J rfl (by rw [F.hK l]; exact hF.sf) (by rw [F.hK l, hm]; exact hme.at_) (by rw [F.hK l]; exact hme.fn) (by rw [F.hK l, hm']; exact hme'.at_) (.inr ⟨f', rfl⟩) (by rw [F.hK l]; exact i1) (by rw [F.hK l]; exact i2) (by rw [F.hK l]; exact hF.ic) (back_of ?_)
    exact run_fn (vs := [.ref a, .int j]) (dvs := []) (fn_at G) ((F.room l).mono hk) (by rw [F.hK l]; exact hb) .nil pass0 I (.cons rfl (.cons ⟨t, rfl⟩ .nil)) hsp
  · have hu' := hu
    have hv' := hv
    cases hu with
    | obj h1 h2 => cases hv with
      | int => exact ⟨_, _, _, _, rfl, rfl, s _ _ h1, G, _, z, hR, s, .cons hu' (.cons hv' .nil), q⟩
/-- i op x, by the reflected method -/
theorem od_binR {i : Int} {id : String} {B : Builtin} (hF : OpF F.C.K (F.C.cl cn)) (hI : IntF F.C.K op) (mt : Met F.P F.w F.C F.mg F.base k cn m (spP F.C R)) (hm : dunderR op.info.2 = m) {k' : Nat} (mt' : Met F.P F.w F.C F.mg F.base k' cn m' (spP F.C R')) (hm' : PySem.dunder op.info.2 = m') (hk : k ≤ F.k) (hR : R [.obj cn fs, .int i] z)
    (sl : Slot "int" (PySem.dunder op.info.2) id) (en : entryFor table id = some B) (ag : ∀ a b, argsOk id ⟨[a, b], []⟩)
    (hB : ∀ (M : Model) (i : Int) (t : Tok) (b C dx : Addr) (s : Shared) (A : Around) (E : Value → Shared → Prop) (Q : Fin → Shared → Prop), s.heap.get? b = some (PySem.W.instObj C dx) → Q (.done (.ret .notImplemented)) s → wpAny M A (B ⟨[.int i t, .ref b], []⟩) Q E s) : OpD F (binaryOp op) (.int i) (.obj cn fs) z := by
  obtain ⟨f, fd, ps, G, hc, hme, hb⟩ := mt
  obtain ⟨f', _, _, _, _, hme', _⟩ := mt'
  obtain ⟨fo, ro, i1, i2, i3⟩ := hI.ex
  refine ⟨fun x y H Q => ∃ a j dx vs, y = .ref a ∧ x = .int j ∧ H a = some (.ins (F.C.cl cn) dx vs) ∧ spP F.C R [y, x] H Q E0, fun l => ?_, fun G H u v s hu hv Q q => ?_⟩
  · intro pins s σ H x y v u Q I rx ry h
    obtain ⟨a, j, dx, vs, rfl, rfl, ha, hsp⟩ := h
    cases ry
    obtain ⟨t, rfl⟩ := rx
    obtain ⟨od, J⟩ := inst_of I ha
    refine DLO.binR (b := f') I.kIn J (by rw [F.hK l]; exact hF.sf) sl en (ag _ _) (fun A E Q hq => hB _ _ _ _ _ _ _ _ _ _ J.at_ hq) (by rw [F.hK l]; exact i1) (by rw [F.hK l]; exact i2) i3 (by rw [F.hK l, hm']; exact hme'.at_) (by rw [F.hK l, hm]; exact hme.at_) (by rw [F.hK l]; exact hme.fn) (by rw [F.hK l]; exact hF.ci) (back_of ?_)
    exact run_fn (vs := [.ref a, .int j]) (dvs := []) (fn_at G) ((F.room l).mono hk) (by rw [F.hK l]; exact hb) .nil pass0 I (.cons rfl (.cons ⟨t, rfl⟩ .nil)) hsp
  · have hu' := hu
    have hv' := hv
    cases hv with
    | obj h1 h2 => cases hu with
      | int => exact ⟨_, _, _, _, rfl, rfl, s _ _ h1, G, _, z, hR, s, .cons hv' (.cons hu' .nil), q⟩
/-- -x -/
theorem ud_own (mt : Met F.P F.w F.C F.mg F.base k cn "__neg__" (spP F.C R)) (hk : k ≤ F.k) (hR : R [.obj cn fs] z) : UnD F (unaryOp .USub) (.obj cn fs) z := by
  obtain ⟨f, fd, ps, G, hc, hme, hb⟩ := mt
  refine ⟨fun x H Q => ∃ a dx vs, x = .ref a ∧ H a = some (.ins (F.C.cl cn) dx vs) ∧ spP F.C R [x] H Q E0, fun l => ?_, fun G H u s hu Q q => ?_⟩
  · intro pins s σ H x v Q I rx h
    obtain ⟨a, dx, vs, rfl, ha, hsp⟩ := h
    cases rx
    obtain ⟨od, J⟩ := inst_of I ha
    obtain ⟨mm, hFr⟩ := I.fr
    refine PySem.W.ksp_neg hFr I.ok.mod.kin J (by rw [F.hK l]; exact hme.at_) (by rw [F.hK l]; exact hme.fn) ?_
    exact run_fn (vs := [.ref a]) (dvs := []) (fn_at G) ((F.room l).mono hk) (by rw [F.hK l]; exact hb) .nil pass0 I (.cons rfl .nil) hsp
  · have hu' := hu
    cases hu with
    | obj h1 h2 => exact ⟨_, _, _, rfl, s _ _ h1, G, _, z, hR, s, .cons hu' .nil, q⟩
theorem looks_ty {X : Cx} {pins : List (Addr × Obj)} {σ : L2.St} {H : Hp} {s : Shared} {x : V} {u t : Value} (I : Inv X pins σ H s) (r : RelV x u) (ty : TyX X.K H x t) (M : Model) : PySem.W.Looks M s.heap (typeOf u) t := by
  obtain ⟨P, Z, hp, _⟩ := kit_of I r ty
  exact Z.ty M s.heap I.kIn hp
/-- x == y by the own == of x's class, y anything -/
theorem od_eqO {kb : Bool} (mt : Met F.P F.w F.C F.mg F.base k cn "__eq__" (spP F.C R)) (hk : k ≤ F.k) (ho : ∀ c fs, y = .obj c fs → InsF F.C.K (F.C.cl c)) (hn : ∀ v, y ≠ .cst v) (hf : PySem.W.notFirst F.C.K (F.C.cl cn) (tyD F.C y) = true) (hR : R [.obj cn fs, y] (.bl kb)) : OpD F (compareOp .Eq) (.obj cn fs) y (.bl kb) := by
  obtain ⟨f, fd, ps, G, hc, hme, hb⟩ := mt
  refine ⟨fun x y' H Q => ∃ a dx vs, x = .ref a ∧ H a = some (.ins (F.C.cl cn) dx vs) ∧ TyX F.C.K H y' (tyD F.C y) ∧ spP F.C R [x, y'] H Q E0, fun l => ?_, fun G H u v s hu hv Q q => ?_⟩
  · intro pins s σ H x y' v u Q I rx ry h
    obtain ⟨a, dx, vs, rfl, ha, ty, hsp⟩ := h
    cases rx
    obtain ⟨od, J⟩ := inst_of I ha
    obtain ⟨mm, hFr⟩ := I.fr
    show wpAny _ _ (richCompare .Eq _ _) _ _ _
    refine PySem.W.cmp_K (op := .Eq) (F.room l).units0 hFr I.ok.mod.kin J (looks_ty I ry (by rw [F.hK l]; exact ty) _) (by rw [F.hK l]; exact hf) (by rw [F.hK l]; exact hme.at_) (by rw [F.hK l]; exact hme.fn) (back_of ?_)
    exact run_fn (vs := [.ref a, y']) (dvs := []) (fn_at G) ((F.room l).mono hk) (by rw [F.hK l]; exact hb) .nil pass0 I (.cons rfl (.cons ry .nil)) hsp
  · have hu' := hu
    cases hu with
    | obj h1 h2 => exact ⟨_, _, _, rfl, s _ _ h1, hv.tyX s ho hn, G, _, _, hR, s, .cons hu' (.cons hv .nil), q⟩
theorem run_in1 {X : Cx} {pins : List (Addr × Obj)} {σ : L2.St} {H : Hp} {s : Shared} {Q : VK} {us : List Value} {vs : List V} {f : Addr} {fd : FuncData} {ps : List Str} {sp : Sp} (G : FnOk X.prog X.w X.K X.mg X.base CX0 k f fd ps sp) (hr : Room (k + 1) X.A) (hb : Binds X.K fd ps []) (I : Inv X pins σ H s) (r : Vals vs us) (h : sp vs H Q E0) :
    wpAny (model X.prog X.w) X.A.in1 (call (.ref f) us) (EP X pins σ Q) X.xe s := by
  have hl : (us ++ []).length = ps.length := by rw [List.append_nil, ← r.length]; exact G.len _ _ _ _ h
  refine wpAny_call (codeAny_mono (G.run X.A.in1 X.stack s H ⟨us, []⟩ us vs Q E0 hr.in1 I.env0.in1 (by have := hb s us I.kIn hl; rw [List.append_nil] at this; exact this) r h) fun r s' hq => ?_)
  cases r with
  | error e => exact hq.elim
  | ok fl =>
    cases fl with
    | ret u => exact I.after hq
    | next => exact False.elim hq
    | brk => exact False.elim hq
    | cont => exact False.elim hq
theorem od_neO {kb : Bool} (mt : Met F.P F.w F.C F.mg F.base k cn "__eq__" (spP F.C R)) (hk : k + 1 ≤ F.k) (ho : ∀ c fs, y = .obj c fs → InsF F.C.K (F.C.cl c)) (hn : ∀ v, y ≠ .cst v) (hf : PySem.W.notFirst F.C.K (F.C.cl cn) (tyD F.C y) = true) (hi : InsF F.C.K (F.C.cl cn)) (hne : PySem.W.findIn F.C.K (.ref (F.C.cl cn)) "__ne__" = some (some (.builtin "object.__ne__")))
    (hR : R [.obj cn fs, y] (.bl kb)) : OpD F (compareOp .NotEq) (.obj cn fs) y (.bl (!kb)) := by
  obtain ⟨f, fd, ps, G, hc, hme, hb⟩ := mt
  refine ⟨fun x y' H Q => ∃ a dx vs, x = .ref a ∧ H a = some (.ins (F.C.cl cn) dx vs) ∧ TyX F.C.K H y' (tyD F.C y) ∧ spP F.C R [x, y'] H (fun v H' => ∃ b, v = .bl b ∧ Q (.bl (!b)) H') E0, fun l => ?_, fun G H u v s hu hv Q q => ?_⟩
  · intro pins s σ H x y' v u Q I rx ry h
    obtain ⟨a, dx, vs, rfl, ha, ty, hsp⟩ := h
    cases rx
    obtain ⟨od, J⟩ := inst_of I ha
    show wpAny _ _ (richCompare .NotEq _ _) _ _ _
    refine DLO.neO (by have := (F.room l).un; omega) I.kIn J (looks_ty I ry (by rw [F.hK l]; exact ty) _) (by rw [F.hK l]; exact hf) (by rw [F.hK l]; exact hi.hm) (by rw [F.hK l]; exact hne) (by rw [F.hK l]; exact hme.at_) (by rw [F.hK l]; exact hme.fn) ?_
    refine wpAny_mono (run_in1 (vs := [.ref a, y']) (fn_at G) ((F.room l).mono hk) (by rw [F.hK l]; exact hb) I (.cons rfl (.cons ry .nil)) hsp) (fun w s' hw => ?_) fun _ _ e => e
    obtain ⟨w', H', I', rw', b, rfl, q⟩ := hw
    cases rw'
    exact ⟨b, rfl, .bl (!b), H', I', rfl, q⟩
  · have hu' := hu
    cases hu with
    | obj h1 h2 => exact ⟨_, _, _, rfl, s _ _ h1, hv.tyX s ho hn, G, _, _, hR, s, .cons hu' (.cons hv .nil), fun v G2 H2 p dv => by cases dv; exact ⟨kb, rfl, q _ _ _ p (.bl _)⟩⟩
/-- i == x -/
theorem od_eqR2 {i : Int} {kb : Bool} (mt : Met F.P F.w F.C F.mg F.base k cn "__eq__" (spP F.C R)) (hk : k ≤ F.k) (hF : OpF F.C.K (F.C.cl cn)) (hR : R [.obj cn fs, .int i] (.bl kb)) : OpD F (compareOp .Eq) (.int i) (.obj cn fs) (.bl kb) := by
  obtain ⟨f, fd, ps, G, hc, hme, hb⟩ := mt
  refine ⟨fun x y H Q => ∃ a j dx vs, y = .ref a ∧ x = .int j ∧ H a = some (.ins (F.C.cl cn) dx vs) ∧ spP F.C R [y, x] H Q E0, fun l => ?_, fun G H u v s hu hv Q q => ?_⟩
  · intro pins s σ H x y v u Q I rx ry h
    obtain ⟨a, j, dx, vs, rfl, rfl, ha, hsp⟩ := h
    cases ry
    obtain ⟨t, rfl⟩ := rx
    obtain ⟨od, J⟩ := inst_of I ha
    show wpAny _ _ (richCompare .Eq _ _) _ _ _
    refine DLO.eqR (F.room l).units0 I.kIn J (by rw [F.hK l]; exact hme.at_) (by rw [F.hK l]; exact hme.fn) (by rw [F.hK l]; exact hF.ci) (back_of ?_)
    exact run_fn (vs := [.ref a, .int j]) (dvs := []) (fn_at G) ((F.room l).mono hk) (by rw [F.hK l]; exact hb) .nil pass0 I (.cons rfl (.cons ⟨t, rfl⟩ .nil)) hsp
  · have hu' := hu
    have hv' := hv
    cases hv with
    | obj h1 h2 => cases hu with
      | int => exact ⟨_, _, _, _, rfl, rfl, s _ _ h1, G, _, _, hR, s, .cons hv' (.cons hu' .nil), q⟩
/-- not x, x of a class without __bool__ and __len__ -/
theorem de_notO (ha : DE F a S S1 (.obj cn fs)) (h1 : PySem.W.findIn F.C.K (.ref (F.C.cl cn)) "__bool__" = some none) (h2 : PySem.W.findIn F.C.K (.ref (F.C.cl cn)) "__len__" = some none) : DE F (.UnaryOp .Not a pos) S S1 (.bl false) :=
  de_of (te := fun σ H Q => anyE F a σ H fun x H1 => ∃ o dx vs, x = .ref o ∧ H1 o = some (.ins (F.C.cl cn) dx vs) ∧ Q (.bl false) H1) (fun i => ⟨fun pins s σ H Q I h => by
    refine PyProof.Rows.UnaryOp_ (thn ((anyE_ok (e := a) i).run pins s σ H _ I h) fun v s1 ⟨x, H1, I1, r1, q1⟩ => ?_)
    obtain ⟨o, dx, vs, rfl, ho, q1⟩ := q1
    cases r1
    obtain ⟨od, J⟩ := inst_of I1 ho
    obtain ⟨mm, hFr⟩ := I1.fr
    exact PyProof.Rows.not_of (PySem.W.truthy_K0 hFr I1.ok.mod.kin J (by rw [F.hK i]; exact h1) (by rw [F.hK i]; exact h2) ⟨.bl false, H1, I1, rfl, q1⟩)⟩)
    fun σ G H c Q q => ha σ G H c _ fun v G1 H1 m dv => by
      cases dv with
      | obj h1 h2 => exact ⟨_, _, _, rfl, m.cx.sub _ _ h1, q _ _ _ m (.bl false)⟩

/-! ### new lists handed back -/
/-- f(..) that hands back a new list, to be owned -/
theorem do_call {R : List D → List D → Prop} {gs : List D} (c : Cal F.P F.w F.C F.mg F.base k nm (spO F.C R)) (ha : DA F (e :: es) S S1 ds) (hR : R ds gs) (hk : k ≤ F.k := by exact Nat.le_of_ble_eq_true rfl)
    (hg : ∀ i, Gl (F.X i) nm := by intro _; rfl) (hdb : (nm == ("__debug__" : Str)) = false := by decide)
    (he : ∀ i, starEach (e :: es) (F.X i).env = (false, eval e (F.X i).env) :: starEach es (F.X i).env := by intro _; rfl) (hpl : ∀ i, (backTo pos (starEach es (F.X i).env)).any (·.1) = false := by intro _; rfl) : DO F (.Call (.Name nm p) (e :: es) [] pos) S S1 gs := by
  obtain ⟨f, fd, ps, G, hm, hkp, hb⟩ := c
  refine do_of (te := tCall (spO F.C R) [] E0 (anyA F (e :: es))) (fun i => pe_call (fn_at G) ((F.room i).mono hk) (hg i) (by rw [F.hmg i]; exact hm) (by rw [F.hK i]; exact hkp) (by rw [F.hK i]; exact hb) .nil pass0 (anyA_ok i) hdb (he i) (hpl i)) ?_
  intro σ G H cx Q q
  refine ha σ G H cx _ fun vs G1 H1 m dl => ?_
  refine ⟨G1, ds, gs, hR, m.cx.sub, by rw [List.append_nil]; exact dl, fun p ev G2 H2 pu hp g2 h2 de => ?_⟩
  have hp0 : H p = none := by
    cases r : H p with
    | none => rfl
    | some o => exact absurd hp (m.go.dom p (by rw [r]; simp))
  exact q p ev G2 H2 (m.pu pu) hp0 g2 h2 de
/-- f(e): the first argument a new list that f changes; nobody sees it behind -/
theorem de_callNew {R : List D → List D → D → List D → Prop} {gs gs' : List D} (c : Cal F.P F.w F.C F.mg F.base k nm (spB F.C R)) (ha : DO F e S S1 gs) (hR : R [] gs d gs') (hk : k ≤ F.k := by exact Nat.le_of_ble_eq_true rfl)
    (hg : ∀ i, Gl (F.X i) nm := by intro _; rfl) (hdb : (nm == ("__debug__" : Str)) = false := by decide)
    (he : ∀ i, starEach [e] (F.X i).env = (false, eval e (F.X i).env) :: starEach [] (F.X i).env := by intro _; rfl) (hpl : ∀ i, (backTo pos (starEach [] (F.X i).env)).any (·.1) = false := by intro _; rfl) : DE F (.Call (.Name nm p) [e] [] pos) S S1 d := by
  obtain ⟨f, fd, ps, G, hm, hkp, hb⟩ := c
  refine de_of (te := tCall (spB F.C R) [] E0 (tCons (anyE F e) tNil)) (fun i => pe_call (fn_at G) ((F.room i).mono hk) (hg i) (by rw [F.hmg i]; exact hm) (by rw [F.hK i]; exact hkp) (by rw [F.hK i]; exact hb) .nil pass0 (pa_cons (anyE_ok i) pa_nil (he i)) hdb (he i) (hpl i)) ?_
  intro σ G H cx Q q
  refine ha σ G H cx _ fun p vs G1 H1 m hp g1 h1 dl => ?_
  have nOA : ¬ OA F.C σ S1 p := fun z => by
    rcases m.oa p z with ⟨j, es, r1, r2⟩ | ⟨o, r⟩
    · obtain ⟨a, ws, q1, _, q3, _⟩ := cx.ow j es r1
      rw [r2] at q1; cases q1; rw [hp] at q3; cases q3
    · have z := cx.bag
      rw [r] at z
      cases o with
      | lst => obtain ⟨_, _, h3, _⟩ := z; rw [hp] at h3; cases h3
      | ins => obtain ⟨_, _, _, h3, _⟩ := z; rw [hp] at h3; cases h3
  refine ⟨G1, p, [], vs, [], gs, d, gs', rfl, hR, m.cx.sub, g1, h1, dl, .nil, fun v G2 H2 gv' go sub g2 h2 dl' dv => ?_⟩
  refine q v G2 H2 ⟨⟨fun a o n h => ?_, m.go.gg.trans go.gg, fun a n h g => ?_, fun a h => go.dom a (m.go.dom a h)⟩, ?_, m.oa⟩ dv
  · have na : a ≠ p := fun z => by rw [z, hp] at h; cases h
    exact go.keep a o na (m.go.keep a o n h)
  · have na : a ≠ p := fun z => h (by rw [z]; exact hp)
    exact go.fr a na (m.go.dom a h) (m.go.fr a n h g)
  · have c1 := m.cx
    have nb : ∀ o, S1.g ≠ some (p, o) := fun o r => nOA (.inr ⟨o, r⟩)
    refine ⟨sub, c1.len, fun i d h => ?_, fun i es h => ?_, c1.apart, c1.bg, ?_, c1.nob⟩
    · obtain ⟨v, h1, h2⟩ := c1.im i d h
      exact ⟨v, h1, h2.mono go.gg⟩
    · obtain ⟨a, ws, r1, r2, r3, r4⟩ := c1.ow i es h
      have na : a ≠ p := fun z => nOA (.inl ⟨i, es, h, by rw [← z]; exact r1⟩)
      exact ⟨a, ws, r1, go.fr a na (by rw [r3]; simp) r2, go.keep a _ na r3, r4.mono go.gg⟩
    · have z := c1.bag
      cases r : S1.g with
      | none => trivial
      | some bo =>
        obtain ⟨b, o⟩ := bo
        have nq : b ≠ p := fun e => nb o (by rw [r, e])
        rw [r] at z
        cases o with
        | lst es => obtain ⟨h1, ws, h2, h3⟩ := z; exact ⟨go.fr b nq (by rw [h2]; simp) h1, ws, go.keep b _ nq h2, h3.mono go.gg⟩
        | ins cc fs => obtain ⟨h1, dx, ws, h2, h3⟩ := z; exact ⟨go.fr b nq (by rw [h2]; simp) h1, dx, ws, go.keep b _ nq h2, h3.mono go.gg⟩
end

end DL
/-! DLB: items, slices, joining, if else, written powers. -/
namespace L2
open PySem PySem.Spec PyProof.Rows
def rCatK (K : PySem.W.Frag) : R2 := fun x y H Q => ∃ a b xs ys, x = V.ref a ∧ y = V.ref b ∧ SqL K H a xs ∧ SqL K H b ys ∧ xs.length + ys.length ≤ sizeLine ∧ ∀ p, H p = none → Q (.ref p) (upd H p (.lst (xs ++ ys)))
theorem op_catK {X : Cx} : OpR X (binaryOp .Add) (rCatK X.K) := by
  intro pins s σ H x y v u Q I rx ry h
  obtain ⟨l, b, xs, zs, rfl, rfl, hH, hB, hz, q⟩ := h
  cases rx
  cases ry
  obtain ⟨its, r, ⟨⟨cls, dd, data, sl⟩, n, ho, hc, hdd, hd⟩, _⟩ := I.list hH
  obtain ⟨its2, r2, ⟨⟨cls2, dd2, data2, sl2⟩, n2, ho2, hc2, hdd2, hd2⟩, _⟩ := I.list hB
  simp only at hc hd hc2 hd2
  subst hc hd hc2 hd2
  refine concat_meets ⟨_, ho, rfl⟩ ⟨_, ho2, rfl⟩ noFill_list_add seq_list_add PySem.F.slot_list_add PySem.F.entry_list_add (PySem.F.args_list_add_2 _ _) (list_addW l b its.toArray its2.toArray n n2 dd dd2 sl sl2 (by rw [List.size_toArray, List.size_toArray, ← r.length, ← r2.length]; exact hz)) ⟨ho, ho2, ?_⟩
  have ea : its.toArray ++ its2.toArray = (its ++ its2).toArray := by simp
  rw [ea]
  exact ⟨.ref _, _, I.lnew (t' := s.toks) (r.append r2) (by rw [List.length_append]; omega), rfl, q _ I.fresh⟩
end L2
namespace DL
open PySem L2
section
variable {F : Fam} {S S1 S2 S3 : ST} {e a b c : Expr} {d x y z : D} {pos p apos : Pos} {es : List Expr} {ds : List D} {k : Bool} {nm : Str} {P : Po} {rest : List Stmt}

/-! ### if else -/
theorem de_ite (hc : DT F c S S1 k) (h1 : k = true → DE F a S1 S2 x) (h2 : k = false → DE F b S1 S2 y) : DE F (.IfExp c a b pos) S S2 (bif k then x else y) := by
  cases k with
  | true => exact de_if hc (fun _ => h1 rfl) (fun h => nomatch h)
  | false => exact de_if hc (fun h => nomatch h) (fun _ => h2 rfl)
theorem de_iteI {i j : Int} (hc : DT F c S S1 k) (h1 : k = true → DE F a S1 S2 (.int i)) (h2 : k = false → DE F b S1 S2 (.int j)) : DE F (.IfExp c a b pos) S S2 (.int (bif k then i else j)) := by
  cases k with
  | true => exact de_if hc (fun _ => h1 rfl) (fun h => nomatch h)
  | false => exact de_if hc (fun h => nomatch h) (fun _ => h2 rfl)
theorem de_iteS {i j : Str} (hc : DT F c S S1 k) (h1 : k = true → DE F a S1 S2 (.str i)) (h2 : k = false → DE F b S1 S2 (.str j)) : DE F (.IfExp c a b pos) S S2 (.str (bif k then i else j)) := by
  cases k with
  | true => exact de_if hc (fun _ => h1 rfl) (fun h => nomatch h)
  | false => exact de_if hc (fun h => nomatch h) (fun _ => h2 rfl)
theorem de_ifT (hc : DT F c S S1 true) (h1 : DE F a S1 S2 d) : DE F (.IfExp c a b pos) S S2 d := de_if hc (fun _ => h1) (fun h => nomatch h)
theorem de_ifF (hc : DT F c S S1 false) (h1 : DE F b S1 S2 d) : DE F (.IfExp c a b pos) S S2 d := de_if hc (fun h => nomatch h) (fun _ => h1)
theorem dt_chain {op op' : CmpOp} {w : D} {k l : Bool} (ha : DE F a S S1 x) (hb : DE F b S1 S2 y) (hc : k = true → DE F c S2 S3 w) (hr : OpD F (compareOp op) x y (.bl k)) (hr' : k = true → OpD F (compareOp op') y w (.bl l)) (h0 : k = false → S2 = S3 := by intro _; rfl) (hm : lastMarks [op, op'] [b, c] = false := by with_unfolding_all rfl) : DT F (.Compare a [op, op'] [b, c] pos) S S3 (k && l) := by
  obtain ⟨r, h1, h2⟩ := hr
  cases k with
  | true =>
    obtain ⟨r', h1', h2'⟩ := hr' rfl
    refine dt_of (fun i => pt_chain (h1 i) (h1' i) (anyE_ok i) (anyE_ok i) (anyE_ok i) (hm := hm)) fun σ G H c' Q q => ?_
    refine ha σ G H c' _ fun u G1 H1 m1 d1 => hb σ G1 H1 m1.cx _ fun v G2 H2 m2 d2 => h2 G2 H2 u v m2.cx.sub (d1.mono m2.go.gg) d2 _ fun t G3 H3 p d3 => ?_
    cases d3 with
    | bl =>
      refine ⟨true, rfl, ?_⟩
      rw [if_pos rfl]
      have m3 := (m1.trans m2).pu p
      refine hc rfl σ G3 H3 m3.cx _ fun t' G4 H4 m4 d4 => h2' G4 H4 v t' m4.cx.sub ((d2.mono p.gg).mono m4.go.gg) d4 _ fun w5 G5 H5 p5 d5 => ?_
      cases d5
      exact ⟨l, rfl, q _ _ ((m3.trans m4).pu p5)⟩
  | false =>
    cases h0 rfl
    refine dt_of (fun i => pt_chain (h1 i) (fun _ _ _ _ _ _ _ _ _ _ _ _ z => False.elim z : OpR (F.X i) (compareOp op') fun _ _ _ _ => False) (anyE_ok i) (anyE_ok i) (anyE_ok i) (hm := hm)) fun σ G H c' Q q => ?_
    refine ha σ G H c' _ fun u G1 H1 m1 d1 => hb σ G1 H1 m1.cx _ fun v G2 H2 m2 d2 => h2 G2 H2 u v m2.cx.sub (d1.mono m2.go.gg) d2 _ fun t G3 H3 p d3 => ?_
    cases d3 with
    | bl =>
      refine ⟨false, rfl, ?_⟩
      rw [if_neg Bool.false_ne_true]
      exact ⟨false, rfl, q _ _ ((m1.trans m2).pu p)⟩

/-! ### items -/
def itemD : D → Int → Option D
  | .tup ds, i => atI ds i
  | .lst ds, i => atI ds i
  | _, _ => none
theorem de_ix {i : Int} (ha : DE F a S S1 x) (hb : DE F b S1 S2 (.int i)) (hi : itemD x i = some d) (hs : PlainIx b := by intro _ _; rfl) : DE F (.Subscript a b pos) S S2 d := by
  cases x with
  | tup ds => exact de_ixT ha hb hi hs
  | lst ds => exact de_ixL ha hb hi hs
  | _ => cases hi
theorem de_ixS {i : Int} {t : Str} {cc : Nat} (ha : DE F a S S1 (.str t)) (hb : DE F b S1 S2 (.int i)) (hl : t.length ≤ sizeLine) (hi : atI t.cps.toList i = some cc) (hs : PlainIx b := by intro _ _; rfl) : DE F (.Subscript a b pos) S S2 (.str ⟨#[cc]⟩) :=
  de_of (te := tOp rIxS (anyE F a) (anyE F b)) (fun j => pe_ix (pos := pos) (ix_str (X := F.X j)) (anyE_ok (e := a) j) (anyE_ok (e := b) j) hs)
    (ev_op (fun G H u v s hu hv Q q => by
      cases hu; cases hv
      exact ⟨t, i, cc, rfl, rfl, hl, hi, q _ _ _ (.refl s) (.str _)⟩) ha hb)

/-! ### slices -/
def anyO (F : Fam) (o : Option Expr) : TO := fun σ H Q => ∃ te, (∀ i, PO (F.X i) o te) ∧ te σ H Q
theorem anyO_ok {o : Option Expr} (i : F.I) : PO (F.X i) o (anyO F o) := ⟨fun pins s σ H Q I h => let ⟨te, h1, h2⟩ := h; (h1 i).run pins s σ H Q I h2⟩
def DOp (F : Fam) (o : Option Expr) (S S' : ST) (i : Option Int) : Prop := ∀ σ G H, Ctx F.C G H σ S → ∀ Q : Option Int → Hp → Prop, (∀ G2 H2, Mv F.C σ S G H S' G2 H2 → Q i H2) → anyO F o σ H Q
theorem do_none : DOp F none S S none := fun σ G H c Q q => ⟨tNoPart, fun _ => po_none, q G H (.refl c)⟩
theorem do_some {i : Int} (h : DE F e S S1 (.int i)) : DOp F (some e) S S1 (some i) := fun σ G H c Q q => ⟨tPart (anyE F e), fun l => po_some (anyE_ok l), h σ G H c _ fun v G1 H1 m dv => by cases dv; exact ⟨i, rfl, q G1 H1 m⟩⟩
def cutD (xs : List D) (lo hi : Option Int) : List D := (xs.drop (HT.sIx xs.length 0 lo)).take (HT.sIx xs.length xs.length hi - HT.sIx xs.length 0 lo)
theorem DenL.cut {C : Kc} {G : Hp} {vs : List V} {ds : List D} (h : DenL C G vs ds) (lo hi : Option Int) : DenL C G (cutV vs lo hi) (cutD ds lo hi) := by
  unfold cutV cutD
  rw [h.length]
  exact (h.drop _).take _
variable {lo hi : Option Expr} {l h : Option Int} {p2 : Pos}
theorem do_sliceL (ha : DE F e S S1 (.lst ds)) (hl : DOp F lo S1 S2 l) (hh : DOp F hi S2 S3 h) : DO F (.Subscript e (.Slice lo hi none p2) pos) S S3 (cutD ds l h) :=
  do_of (te := tSl (rSlL F.C.K) (anyE F e) (anyO F lo) (anyO F hi)) (fun i => by have := pe_slice (p2 := p2) (pos := pos) (sl_list (X := F.X i)) (anyE_ok (e := e) i) (anyO_ok (o := lo) i) (anyO_ok (o := hi) i); rw [F.hK i] at this; exact this) fun σ G H c Q q =>
    ha σ G H c _ fun v G1 H1 m1 dv => hl σ G1 H1 m1.cx _ fun G2 H2 m2 => hh σ G2 H2 m2.cx _ fun G3 H3 m3 => by
      cases dv with
      | @lst o vs _ h1 h2 =>
        have m := (m1.trans m2).trans m3
        refine ⟨o, vs, rfl, m3.cx.sub.seq (m3.go.gg.seq (m2.go.gg.seq h1)), fun p hp => ?_⟩
        have sm : Same H3 (upd H3 p (.lst (cutV vs l h))) := fun a u hh => by rw [upd_ne (ne_of_none hh hp)]; exact hh
        exact q p _ G3 _ (m.trans (m3.cx.mv sm (fun _ _ h => h) (m3.cx.sub.trans sm) fun _ _ h => h)) (back_none m.go hp) (m3.cx.sub.free hp) upd_same (((h2.mono m2.go.gg).mono m3.go.gg).cut l h)
theorem de_sliceL (ha : DE F e S S1 (.lst ds)) (hl : DOp F lo S1 S2 l) (hh : DOp F hi S2 S3 h) : DE F (.Subscript e (.Slice lo hi none p2) pos) S S3 (.lst (cutD ds l h)) := de_do (do_sliceL ha hl hh)
theorem de_sliceT (ha : DE F e S S1 (.tup ds)) (hl : DOp F lo S1 S2 l) (hh : DOp F hi S2 S3 h) : DE F (.Subscript e (.Slice lo hi none p2) pos) S S3 (.tup (cutD ds l h)) :=
  de_of (te := tSl (rSlA F.C.K) (anyE F e) (anyO F lo) (anyO F hi)) (fun i => by have := pe_slice (p2 := p2) (pos := pos) (sl_tupA (X := F.X i)) (anyE_ok (e := e) i) (anyO_ok (o := lo) i) (anyO_ok (o := hi) i); rw [F.hK i] at this; exact this) fun σ G H c Q q =>
    ha σ G H c _ fun v G1 H1 m1 dv => hl σ G1 H1 m1.cx _ fun G2 H2 m2 => hh σ G2 H2 m2.cx _ fun G3 H3 m3 => by
      cases dv with
      | @tup o vs _ h1 h2 =>
        have m := (m1.trans m2).trans m3
        have h1' := same_t m3.go.gg (same_t m2.go.gg h1)
        have h2' := (h2.mono m2.go.gg).mono m3.go.gg
        refine ⟨o, vs, rfl, same_t m3.cx.sub h1', fun w => ?_, fun _ p hp => ?_⟩
        · have e : cutV vs l h = vs := by unfold cutV; rw [w.1, w.2]; simp
          have := h2'.cut l h
          rw [e] at this
          exact q _ _ _ m (.tup h1' this)
        · have pn := m3.cx.pu (Pu.new (o := .tup (cutV vs l h)) m3.cx.sub hp)
          exact q _ _ _ (m.trans pn) (.tup (SqT.of upd_same) ((h2'.cut l h).mono pn.go.gg))
theorem de_sliceS {t : Str} (ha : DE F e S S1 (.str t)) (hl : DOp F lo S1 S2 l) (hh : DOp F hi S2 S3 h) (hz : t.length ≤ sizeLine) : DE F (.Subscript e (.Slice lo hi none p2) pos) S S3 (.str (cutS t l h)) :=
  de_of (te := tSl rSlS (anyE F e) (anyO F lo) (anyO F hi)) (fun i => pe_slice (p2 := p2) (pos := pos) (sl_str (X := F.X i)) (anyE_ok (e := e) i) (anyO_ok (o := lo) i) (anyO_ok (o := hi) i)) fun σ G H c Q q =>
    ha σ G H c _ fun v G1 H1 m1 dv => hl σ G1 H1 m1.cx _ fun G2 H2 m2 => hh σ G2 H2 m2.cx _ fun G3 H3 m3 => by
      cases dv
      exact ⟨t, rfl, hz, q _ _ _ ((m1.trans m2).trans m3) (.str _)⟩

/-! ### y = [..] -/
theorem ps_lc {j : Nat} {yn : Str} {py : Pos} {elt tg iter : Expr} {ifs : List Expr} {scope : Scope} {own : List (Str × Nat)} (ok : ∀ i, BlkOk (F.X i).N (F.X i).env.scope scope own) (hN : ∀ i, (F.X i).N[j]? = some yn) (hl : ∀ i, (F.X i).env.scope.names.lookup yn = some .local)
    (hsw : ∀ i, swapsWith (.ListComp elt [⟨tg, iter, ifs, 0⟩] scope p) (some (.Name yn py)) pos.line (F.X i).env = pure true) (hs : ∀ i x, foldedSetIterable iter (F.X i).env x = pure x) (i : F.I) :
    PS (F.X i) (.Assign [.Name yn py] (.ListComp elt [⟨tg, iter, ifs, 0⟩] scope p) pos) (tAsg (tLc (anyI F tg iter) (anyG (F.blk scope) tg) (anyTs (F.blk scope) ifs) (anyE (F.blk scope) elt) (own.map (·.2))) (gName j)) :=
  ps_setLc (F.calm i) (by rw [F.hN i]; exact F.nd) (hN i) (hl i) (hsw i) (anyI_ok i) (ok i) (fun s H C cl fp => anyG_ok (F := F.blk scope) (i, s, H, C, cl, fp)) (fun s H C cl fp => anyTs_ok (F := F.blk scope) (i, s, H, C, cl, fp)) (fun s H C cl fp => anyE_ok (F := F.blk scope) (i, s, H, C, cl, fp)) (hs i)
theorem ds_setDO {j : Nat} {yn : Str} {py : Pos} {elt tg iter : Expr} {ifs : List Expr} {scope : Scope} {own : List (Str × Nat)} (hev : EvO F.C (tLc (anyI F tg iter) (anyG (F.blk scope) tg) (anyTs (F.blk scope) ifs) (anyE (F.blk scope) elt) (own.map (·.2))) S S1 ds) (ok : ∀ i, BlkOk (F.X i).N (F.X i).env.scope scope own) (q : DS F rest (S1.set j (.lst ds)) P)
    (hN : ∀ i, (F.X i).N[j]? = some yn := by intro _; rfl) (hl : ∀ i, (F.X i).env.scope.names.lookup yn = some .local := by intro _; rfl)
    (hsw : ∀ i, swapsWith (.ListComp elt [⟨tg, iter, ifs, 0⟩] scope p) (some (.Name yn py)) pos.line (F.X i).env = pure true := by intro _; exact sw_true rfl rfl rfl (by decide +kernel)) (hs : ∀ i x, foldedSetIterable iter (F.X i).env x = pure x := by intro _ _; rfl) :
    DS F (.Assign [.Name yn py] (.ListComp elt [⟨tg, iter, ifs, 0⟩] scope p) pos :: rest) S P := by
  refine ds_cons (M := fun S2 => S2 = S1.set j (.lst ds)) (d1_of (te := tAsg (tLc (anyI F tg iter) (anyG (F.blk scope) tg) (anyTs (F.blk scope) ifs) (anyE (F.blk scope) elt) (own.map (·.2))) (gName j)) (ps_lc ok hN hl hsw hs) ?_) fun _ z => z ▸ q
  intro σ G H c E m
  exact ev_freeze hev σ G H c _ fun v G1 H1 m1 dv => m.nx _ _ G1 H1 (m1.mw.trans (m1.cx.store dv)) rfl
theorem ev_lcM {elt tg iter : Expr} {scope : Scope} (f : D → D) (own : List (Str × Nat)) (hi : DI F tg iter S S1 ds) (hl : ds.length ≤ sizeLine)
    (step : ∀ (i : Nat) d, ds[i]? = some d → ∃ T1 T3 js, DG (F.blk scope) tg d ⟨hidS S1.s (own.map (·.2)), S1.g⟩ T1 js ∧ (∀ j ∈ js, j ∈ own.map (·.2)) ∧ DE (F.blk scope) elt T1 T3 (f d) ∧ T3.g = S1.g) :
    EvO F.C (tLc (anyI F tg iter) (anyG (F.blk scope) tg) (anyTs (F.blk scope) []) (anyE (F.blk scope) elt) (own.map (·.2))) S S1 (ds.map f) := by
  have := ev_lc (ifs := []) (elt := elt) (vs0 := own.map (·.2)) hi (fun _ => S1.g) (fun i => (ds.take i).map f) rfl rfl (fun _ => rfl) (fun i d hd => by
    obtain ⟨T1, T3, js, h1, h2, h3, h4⟩ := step i d hd
    have hlt : i < ds.length := (List.getElem?_eq_some_iff.mp hd).1
    refine ⟨T1, T1, true, js, h1, h2, dts_nil, fun _ => ⟨T3, f d, h3, h4, ?_, by rw [List.length_map, List.length_take]; omega⟩, fun z => nomatch z⟩
    rw [List.take_succ, hd, List.map_append]; rfl)
  rw [List.take_length] at this
  exact this

/-! ### joining -/
theorem od_addS {i j : Str} (h : i.length + j.length ≤ sizeLine) : OpD F (binaryOp .Add) (.str i) (.str j) (.str (i ++ j)) := ⟨_, fun _ => op_add_str, fun G H u v s hu hv Q q => by
  cases hu; cases hv
  exact ⟨i, j, rfl, rfl, h, q _ _ _ (.refl s) (.str _)⟩⟩
theorem od_catT {xs ys : List D} (h : xs.length + ys.length ≤ sizeLine) : OpD F (binaryOp .Add) (.tup xs) (.tup ys) (.tup (xs ++ ys)) :=
  ⟨rCatA F.C.K, fun i => by have := op_catA (X := F.X i); rw [F.hK i] at this; exact this, fun G H u v s hu hv Q q => by
    cases hu with
    | @tup a vs _ h1 h2 => cases hv with
      | @tup b ws _ h3 h4 =>
        refine ⟨a, b, vs, ws, rfl, rfl, same_t s h1, same_t s h3, by rw [h2.length, h4.length]; exact h, fun e => ?_, fun _ e => ?_, fun _ _ p hp => ?_⟩
        · subst e
          cases h2
          exact q _ _ _ (.refl s) (.tup h3 h4)
        · subst e
          cases h4
          exact q _ _ _ (.refl s) (by rw [List.append_nil]; exact .tup h1 h2)
        · exact q _ _ _ (Pu.new s hp) (.tup (SqT.of upd_same) ((h2.append h4).mono (Pu.new s hp).gg))⟩
theorem od_catL {xs ys : List D} (h : xs.length + ys.length ≤ sizeLine) : OpD F (binaryOp .Add) (.lst xs) (.lst ys) (.lst (xs ++ ys)) :=
  ⟨rCatK F.C.K, fun i => by have := op_catK (X := F.X i); rw [F.hK i] at this; exact this, fun G H u v s hu hv Q q => by
    cases hu with
    | @lst a vs _ h1 h2 => cases hv with
      | @lst b ws _ h3 h4 =>
        exact ⟨a, b, vs, ws, rfl, rfl, s.seq h1, s.seq h3, by rw [h2.length, h4.length]; exact h, fun p hp => q _ _ _ (Pu.new s hp) (.lst (SqL.of upd_same) ((h2.append h4).mono (Pu.new s hp).gg))⟩⟩
theorem od_pow9 : OpD F (binaryOp .Pow) (.int 10) (.int 9) (.int 1000000000) := od_pow (F := F) (i := 10) (j := 9) (by unfold CPow; decide)
theorem od_pow6 : OpD F (binaryOp .Pow) (.int 10) (.int 6) (.int 1000000) := od_pow (F := F) (i := 10) (j := 6) (by unfold CPow; decide)
theorem od_pow15 : OpD F (binaryOp .Pow) (.int 10) (.int 15) (.int 1000000000000000) := od_pow (F := F) (i := 10) (j := 15) (by unfold CPow; decide)
theorem od_pow18 : OpD F (binaryOp .Pow) (.int 10) (.int 18) (.int 1000000000000000000) := od_pow (F := F) (i := 10) (j := 18) (by unfold CPow; decide)
theorem od_pow20 : OpD F (binaryOp .Pow) (.int 10) (.int 20) (.int 100000000000000000000) := od_pow (F := F) (i := 10) (j := 20) (by unfold CPow; decide)
end
end DL
/-! DLC: the end of a law: from a promise on data to the row. -/
namespace DL
open PySem L2
def spLaw (K : PySem.W.Frag) : Sp := fun vs H Q _ => ∃ (a : Addr) (ns : List Int), vs = [.ref a] ∧ ns.length ≤ 63 ∧ SqL K H a (ns.map V.int) ∧ ∀ H', Q (.bl true) H'
theorem denL_ints {C : Kc} {G : Hp} : ∀ ns : List Int, DenL C G (ns.map V.int) (ns.map D.int)
  | [] => .nil
  | n :: ns => .cons (.int n) (denL_ints ns)
section
variable {P : Program} {w : World} {C : Kc} {mg : Str → Option Value} {base : Heap} {f : Addr} {fd : FuncData} {k : Nat} {ps : List Str}
theorem law_of {R : List D → D → Prop} (h : FnOk P w C.K mg base CX0 k f fd ps (spP C R)) (hR : ∀ is : List Int, is.length ≤ 63 → R [.lst (is.map D.int)] (.bl true)) : FnOk P w C.K mg base CX0 k f fd ps (spLaw C.K) :=
  h.imp fun vs H Q E ⟨a, ns, e, hl, hS, q⟩ => ⟨H, _, _, hR ns hl, fun _ _ h => h, by subst e; exact .cons (.lst hS (denL_ints ns)) .nil, fun v G2 H2 _ d => by cases d; exact q _⟩
variable {x qual : Str} {st : Stmt} {sp : Sp}
theorem cal_mk (ok : FnOk P w C.K mg base CX0 k f fd ps sp) (F : Fun C.K x qual st f fd) (b : Binds C.K fd ps []) (hm : mg x = some (.ref f)) : Cal P w C mg base k x sp := ⟨f, fd, ps, ok, hm, F.kp, b⟩
theorem met_mk {c : Nat} (ok : FnOk P w C.K mg base CX0 k f fd ps sp) (cl : Cls C.K (C.cl c)) (m : Meth C.K (C.cl c) x f) (b : Binds C.K fd ps []) : Met P w C mg base k c x sp := ⟨f, fd, ps, ok, cl, m, b⟩
theorem Fun.kbn (F : Fun C.K x qual st f fd) (n : Nat) (ks : List Str) (ix : List Nat)
    (h : ∀ (kV doc pm : Value) (an : Option Addr) (cdv ct : Value) (us ws : List Value), us.length = n → ws.length = ks.length → bindArgs (PySem.W.fnOf x qual (defArgs st) (defBody st) (defScope st) .none kV doc pm an cdv ct) ⟨us, ks.zip ws⟩ = pure (ps.zip (us ++ perm ix ws))) :
    KBn C.K fd ps n ks (fun us ws => us ++ perm ix ws) (fun vs zs => vs ++ perm ix zs) := by
  obtain ⟨oc, od, kV, doc, pm, an, cdv, ct, osl, rfl, lk, hcd⟩ := F.ex
  exact ⟨fun s us ws X l1 l2 => .of_eq (h kV doc pm an cdv ct us ws l1 l2), fun r1 r2 => r1.append (DL.Vals.perm r2 ix)⟩
end
theorem walk {l : PySem.W.OpenLaw} {q : Program} {loose : List Str} {XP : (Str → Option Value) → Heap → Prop} {YP : World → Heap → Prop} {d : DefRec} {K : Params → PySem.W.Frag} {k : Nat} (x : Str) (hk : k ≤ 100) (hn : l.most = some 63) (hdf : d.params.defaults = [])
    (hY : ∀ (w : World) (h : Heap), YP w h → (K w.params).In h)
    (F : ∀ (w : World) (mg : Str → Option Value) (fa : Addr) (h : Heap), (K w.params).In h → h.Ns mainGlobals mg → mg d.name = some (.ref fa) →
      ∃ fd : FuncData, (∀ (s : Shared) (u : Value), BindsTo s fd ⟨[u], []⟩ [(x, u)]) ∧ ∀ base : Heap, (K w.params).In base → base.Ns mainGlobals mg → FnOk l.prog w (K w.params) mg base CX0 k fa fd [x] (spLaw (K w.params))) :
    PySem.W.WalkO q loose XP YP l.row.toRowW d [] (fun f vs => PySem.call f vs) :=
  L2.walk_of (n := 63) (k := k) (x := x) (CX := fun _ => CX0) (sp := fun w => spLaw (K w.params)) hn (by decide) hdf (Room.mono (k := 100) ⟨rfl, by decide, by decide⟩ hk) hY F (fun _ _ a ns hl _ hS => ⟨a, ns, rfl, hl, hS, fun _ => rfl⟩) fun _ _ _ _ _ z => z
end DL
/-! DLD: texts: ==, f-strings, str; in; a list taken apart. -/
namespace DL
open PySem L2
section
variable {F : Fam} {S S1 S2 S3 : ST} {e a b c : Expr} {d x y z : D} {pos p apos : Pos} {es : List Expr} {ds : List D} {k : Nat} {nm : Str} {P : Po} {rest : List Stmt} {cn : Nat} {fs : List (Str × D)} {R : List D → D → Prop}
theorem od_eqS {i j : Str} : OpD F (compareOp .Eq) (.str i) (.str j) (.bl (decide (i = j))) := ⟨_, fun _ => op_eq, fun G H u v s hu hv Q q => by
  cases hu; cases hv
  refine ⟨rfl, ?_⟩
  have e : decide (V.str i = V.str j) = decide (i = j) := by
    by_cases h : i = j
    · rw [decide_eq_true h, decide_eq_true (by rw [h])]
    · rw [decide_eq_false h, decide_eq_false (by intro z; exact h (V.str.inj z))]
  rw [e]
  exact q _ _ _ (.refl s) (.bl _)⟩
theorem od_neS {i j : Str} : OpD F (compareOp .NotEq) (.str i) (.str j) (.bl (!decide (i = j))) := ⟨_, fun _ => op_ne, fun G H u v s hu hv Q q => by
  cases hu; cases hv
  refine ⟨rfl, ?_⟩
  have e : decide (V.str i = V.str j) = decide (i = j) := by
    by_cases h : i = j
    · rw [decide_eq_true h, decide_eq_true (by rw [h])]
    · rw [decide_eq_false h, decide_eq_false (by intro z; exact h (V.str.inj z))]
  rw [e]
  exact q _ _ _ (.refl s) (.bl _)⟩
/-! ### str -/
theorem ca_strI {i : Int} (h : i.natAbs.log2 < 1920) : CaD F (.type "str") [.int i] (.str (toString i)) := ⟨_, fun _ => call_str_int, fun G H us s hl Q q => by
  cases hl with
  | cons h1 l => cases h1; cases l; exact ⟨i, rfl, h, q _ _ _ (.refl s) (.str _)⟩⟩
theorem run_in2 {X : Cx} {pins : List (Addr × Obj)} {σ : L2.St} {H : Hp} {s : Shared} {Q : VK} {us : List Value} {vs : List V} {f : Addr} {fd : FuncData} {ps : List Str} {sp : Sp} (G : FnOk X.prog X.w X.K X.mg X.base CX0 k f fd ps sp) (hr : Room (k + 2) X.A) (hb : Binds X.K fd ps []) (I : Inv X pins σ H s) (r : Vals vs us) (h : sp vs H Q E0) :
    wpAny (model X.prog X.w) X.A.in1.in1 (call (.ref f) us) (EP X pins σ Q) X.xe s := by
  have hl : (us ++ []).length = ps.length := by rw [List.append_nil, ← r.length]; exact G.len _ _ _ _ h
  refine wpAny_call (codeAny_mono (G.run X.A.in1.in1 X.stack s H ⟨us, []⟩ us vs Q E0 hr.in1.in1 I.env0.in1.in1 (by have := hb s us I.kIn hl; rw [List.append_nil] at this; exact this) r h) fun r s' hq => ?_)
  cases r with
  | error e => exact hq.elim
  | ok fl =>
    cases fl with
    | ret u => exact I.after hq
    | next => exact False.elim hq
    | brk => exact False.elim hq
    | cont => exact False.elim hq
/-- str(x) by the own __str__ of x's class -/
theorem ca_strO {t : Str} (mt : Met F.P F.w F.C F.mg F.base k cn "__str__" (spP F.C R)) (hk : k + 2 ≤ F.k) (hR : R [.obj cn fs] (.str t)) : CaD F (.type "str") [.obj cn fs] (.str t) := by
  obtain ⟨f, fd, ps, G, hc, hme, hb⟩ := mt
  refine ⟨fun xs H Q => ∃ a dx vs, xs = [.ref a] ∧ H a = some (.ins (F.C.cl cn) dx vs) ∧ spP F.C R [.ref a] H (fun v H' => ∃ b, v = .str b ∧ Q (.str b) H') E0, fun l => ?_, fun G H us s hu Q q => ?_⟩
  · intro pins s σ H xs us Q I rx h
    obtain ⟨a, dx, vs, rfl, ha, hsp⟩ := h
    cases rx with
    | cons r0 r1 =>
      cases r1
      cases r0
      obtain ⟨od, J⟩ := inst_of I ha
      refine PySem.W.kso_call ((F.room l).mono hk).in1.in1.units0 I.kIn J (by rw [F.hK l]; exact hme.at_) (by rw [F.hK l]; exact hme.fn) ?_
      refine wpAny_mono (run_in2 (vs := [.ref a]) (fn_at G) ((F.room l).mono hk) (by rw [F.hK l]; exact hb) I (.cons rfl .nil) hsp) (fun w s' hw => ?_) fun _ _ e => e
      obtain ⟨w', H', I', rw', b, rfl, q⟩ := hw
      obtain ⟨tk, rfl⟩ := rw'
      exact ⟨.str b, H', I', ⟨tk, rfl⟩, q⟩
  · cases hu with
    | cons h0 l0 =>
      have h0' := h0
      cases l0
      cases h0 with
      | obj h1 h2 => exact ⟨_, _, _, rfl, s _ _ h1, G, _, _, hR, s, .cons h0' .nil, fun v G2 H2 p dv => by cases dv; exact ⟨t, rfl, q _ _ _ p (.str _)⟩⟩
/-! ### f-strings -/
theorem de_fmtI {i : Int} (h : DE F e S S1 (.int i)) (hz : i.natAbs.log2 < 1920) : DE F (.FormattedValue e (-1) none pos) S S1 (.str (toString i)) :=
  de_of (te := tFmt (anyE F e)) (fun l => pe_fmt (anyE_ok l)) fun σ G H c Q q => h σ G H c _ fun v G1 H1 m dv => by cases dv; exact .inr ⟨i, rfl, hz, q _ _ _ m (.str _)⟩
theorem de_fmtS {t : Str} (h : DE F e S S1 (.str t)) (hz : t.length ≤ sizeLine) : DE F (.FormattedValue e (-1) none pos) S S1 (.str t) :=
  de_of (te := tFmt (anyE F e)) (fun l => pe_fmt (anyE_ok l)) fun σ G H c Q q => h σ G H c _ fun v G1 H1 m dv => by cases dv; exact .inl ⟨t, rfl, hz, q _ _ _ m (.str _)⟩
theorem de_join1 (h : DE F e S S1 d) : DE F (.JoinedStr [e] pos) S S1 d :=
  de_of (te := anyE F e) (fun l => pe_joined1 (anyE_ok l)) fun σ G H c Q q => h σ G H c Q q
def DJ (F : Fam) (es : List Expr) (acc : Str) (S S' : ST) (out : Str) : Prop := ∀ σ G H, Ctx F.C G H σ S → ∀ Q : Str → Hp → Prop, (∀ G2 H2, Mv F.C σ S G H S' G2 H2 → Q out H2) → tJs (es.map (anyE F)) acc σ H Q
theorem dj_nil {acc : Str} : DJ F [] acc S S acc := fun σ G H c Q q => q G H (.refl c)
theorem dj_cons {acc t out : Str} (h : DE F e S S1 (.str t)) (hz : (acc ++ t).length ≤ sizeLine) (hr : DJ F es (acc ++ t) S1 S2 out) : DJ F (e :: es) acc S S2 out := fun σ G H c Q q =>
  h σ G H c _ fun v G1 H1 m dv => by
    cases dv
    exact ⟨t, rfl, hz, hr σ G1 H1 m.cx Q fun G2 H2 m2 => q G2 H2 (m.trans m2)⟩
theorem pj_any (i : F.I) : ∀ es : List Expr, PJ (F.X i) es (es.map (anyE F))
  | [] => .nil
  | _ :: es => .cons (anyE_ok i) (pj_any i es)
theorem de_join {v1 v2 : Expr} {out : Str} (h : DJ F (v1 :: v2 :: es) Str.empty S S1 out) : DE F (.JoinedStr (v1 :: v2 :: es) pos) S S1 (.str out) :=
  de_of (fun i => pe_joined (pj_any i (v1 :: v2 :: es))) fun σ G H c Q q => h σ G H c _ fun G2 H2 m => q _ _ _ m (.str _)
/-! ### in -/
theorem od_inS {t : Str} {ss : List Str} : OpD F (compareOp .In) (.str t) (.tup (ss.map D.str)) (.bl (inV (.str t) (ss.map V.str))) := ⟨rIn F.C.K false, fun i => by have := op_in_seq (X := F.X i); rw [F.hK i] at this; exact this, fun G H u v s hu hv Q q => by
  cases hu
  cases hv with
  | @tup a vs _ h1 h2 =>
    have e := denL_str h2
    subst e
    exact ⟨a, _, rfl, .inr (same_t s h1), rfl, by simp [flatV], q _ _ _ (.refl s) (.bl _)⟩⟩
theorem od_ninS {t : Str} {ss : List Str} : OpD F (compareOp .NotIn) (.str t) (.tup (ss.map D.str)) (.bl (!inV (.str t) (ss.map V.str))) := ⟨rIn F.C.K true, fun i => by have := op_notIn_seq (X := F.X i); rw [F.hK i] at this; exact this, fun G H u v s hu hv Q q => by
  cases hu
  cases hv with
  | @tup a vs _ h1 h2 =>
    have e := denL_str h2
    subst e
    exact ⟨a, _, rfl, .inr (same_t s h1), rfl, by simp [flatV], q _ _ _ (.refl s) (.bl _)⟩⟩
/-! ### a, b = [..] -/
theorem dg_lst {tgs : List Expr} {kk : Nat} {js : List Nat} (h : DGs F tgs ds S S1 js) (hp : ∀ i, PG (F.X i) (.Tuple tgs kk pos) (gLst (F.X i).K ds.length (anyGs F tgs)) := by intro i; exact pg_lst (Fam.calm _ i) (anyGs_ok i)) : DG F (.Tuple tgs kk pos) (.lst ds) S S1 js := fun σ G H v c dv Q q =>
  ⟨gLst F.C.K ds.length (anyGs F tgs), fun i => by have := hp i; rw [F.hK i] at this; exact this, by
    cases dv with
    | lst h1 h2 => exact ⟨_, _, rfl, c.sub.seq h1, h2.length, h σ G H _ c h2 Q q⟩⟩
end
/-- a tuple of the top, in the written part -/
theorem den_kt {C : Kc} {G : Hp} {a : Addr} {oc : Value} {od : Option Addr} {n : Nat} {sl : Array (Option Value)} {its : List Value} {vs : List V} {ds : List D} (h : C.K.lookup a = some ⟨oc, od, .seq its.toArray n, sl⟩) (hc : oc = .type "tuple") (hz : its.length ≤ sizeLine) (r : Vals vs its) (d : DenL C G vs ds) : Den C G (.ref a) (.tup ds) :=
  .tup (.inr ⟨_, its.toArray, n, h, hc, rfl, by simpa using hz, by simpa using r⟩) d
end DL
namespace M1
theorem pos_of {g q : Int} (hg : 0 < g) (h : 0 < g * q) : 0 < q := by
  rcases Int.lt_or_le 0 q with z | z
  · exact z
  · have := Int.mul_le_mul_of_nonneg_left z (Int.le_of_lt hg)
    rw [Int.mul_zero] at this
    omega
theorem dvd_of {k m n : Int} (h1 : Int.gcd k m = 1) (h2 : k ∣ m * n) : k ∣ n := by
  have h3 : k.natAbs ∣ m.natAbs * n.natAbs := by
    rw [← Int.natAbs_mul]
    exact Int.natAbs_dvd_natAbs.mpr h2
  have h4 : Nat.Coprime k.natAbs m.natAbs := h1
  exact Int.natAbs_dvd_natAbs.mp (h4.dvd_of_dvd_mul_left h3)
/-- lowest terms are one for equal fractions -/
theorem low_eq {a b c d : Int} (hb : 0 < b) (hd : 0 < d) (h : a * d = c * b) : a / (Int.gcd a b : Int) = c / (Int.gcd c d : Int) ∧ b / (Int.gcd a b : Int) = d / (Int.gcd c d : Int) := by
  have g0 : 0 < Int.gcd a b := Nat.pos_of_ne_zero fun e => by have := (Int.gcd_eq_zero_iff.mp e).2; omega
  have k0 : 0 < Int.gcd c d := Nat.pos_of_ne_zero fun e => by have := (Int.gcd_eq_zero_iff.mp e).2; omega
  obtain ⟨p, hp⟩ : (Int.gcd a b : Int) ∣ a := Int.gcd_dvd_left ..
  obtain ⟨q, hq⟩ : (Int.gcd a b : Int) ∣ b := Int.gcd_dvd_right ..
  obtain ⟨r, hr⟩ : (Int.gcd c d : Int) ∣ c := Int.gcd_dvd_left ..
  obtain ⟨t, ht⟩ : (Int.gcd c d : Int) ∣ d := Int.gcd_dvd_right ..
  have c1 : Int.gcd p q = 1 := by
    have e := Int.gcd_mul_left (Int.gcd a b : Int) p q
    rw [← hp, ← hq] at e
    have e2 : Int.gcd a b * Int.gcd p q = Int.gcd a b * 1 := by rw [Nat.mul_one]; simpa using e.symm
    exact Nat.eq_of_mul_eq_mul_left g0 e2
  have c2 : Int.gcd r t = 1 := by
    have e := Int.gcd_mul_left (Int.gcd c d : Int) r t
    rw [← hr, ← ht] at e
    have e2 : Int.gcd c d * Int.gcd r t = Int.gcd c d * 1 := by rw [Nat.mul_one]; simpa using e.symm
    exact Nat.eq_of_mul_eq_mul_left k0 e2
  have gp : (0 : Int) < (Int.gcd a b : Int) := by omega
  have kp : (0 : Int) < (Int.gcd c d : Int) := by omega
  have e1 : a / (Int.gcd a b : Int) = p := by
    have : a = (Int.gcd a b : Int) * p := hp
    exact Int.ediv_eq_of_eq_mul_right (by omega) this
  have e2 : b / (Int.gcd a b : Int) = q := Int.ediv_eq_of_eq_mul_right (by omega) hq
  have e3 : c / (Int.gcd c d : Int) = r := Int.ediv_eq_of_eq_mul_right (by omega) hr
  have e4 : d / (Int.gcd c d : Int) = t := Int.ediv_eq_of_eq_mul_right (by omega) ht
  rw [e1, e2, e3, e4]
  have q0 : 0 < q := by
    have : 0 < (Int.gcd a b : Int) * q := by rw [← hq]; exact hb
    exact pos_of (by omega) this
  have t0 : 0 < t := by
    have : 0 < (Int.gcd c d : Int) * t := by rw [← ht]; exact hd
    exact pos_of (by omega) this
  have hx : p * t = r * q := by
    have : ((Int.gcd a b : Int) * (Int.gcd c d : Int)) * (p * t) = ((Int.gcd a b : Int) * (Int.gcd c d : Int)) * (r * q) := by
      have h' : ((Int.gcd a b : Int) * p) * ((Int.gcd c d : Int) * t) = ((Int.gcd c d : Int) * r) * ((Int.gcd a b : Int) * q) := by
        rw [← hp, ← ht, ← hr, ← hq]; exact h
      grind
    have nz : (Int.gcd a b : Int) * (Int.gcd c d : Int) ≠ 0 := Int.mul_ne_zero (by omega) (by omega)
    exact Int.eq_of_mul_eq_mul_left nz this
  have d1 : q ∣ t := by
    have : q ∣ p * t := ⟨r, by rw [hx, Int.mul_comm]⟩
    exact dvd_of (by rw [Int.gcd_comm]; exact c1) this
  have d2 : t ∣ q := by
    have : t ∣ r * q := ⟨p, by rw [← hx, Int.mul_comm]⟩
    exact dvd_of (by rw [Int.gcd_comm]; exact c2) this
  have qt : q = t := by
    have h1 := Int.le_of_dvd t0 d1
    have h2 := Int.le_of_dvd q0 d2
    omega
  subst qt
  exact ⟨Int.eq_of_mul_eq_mul_right (by omega) hx, rfl⟩
/-- a fraction and its lowest terms -/
theorem low_val {a b : Int} (hb : 0 < b) : ∃ g : Int, 0 < g ∧ a = (a / (Int.gcd a b : Int)) * g ∧ b = (b / (Int.gcd a b : Int)) * g ∧ 0 < b / (Int.gcd a b : Int) ∧ b / (Int.gcd a b : Int) ≤ b := by
  have g0 : 0 < Int.gcd a b := Nat.pos_of_ne_zero fun e => by have := (Int.gcd_eq_zero_iff.mp e).2; omega
  have gp : (0 : Int) < (Int.gcd a b : Int) := by omega
  have e1 := Int.ediv_mul_cancel (Int.gcd_dvd_left a b)
  have e2 := Int.ediv_mul_cancel (Int.gcd_dvd_right a b)
  refine ⟨Int.gcd a b, gp, e1.symm, e2.symm, ?_, ?_⟩
  · have : 0 < b / (Int.gcd a b : Int) * (Int.gcd a b : Int) := by rw [e2]; exact hb
    exact pos_of gp (by rw [Int.mul_comm]; exact this)
  · exact Int.ediv_le_self _ (by omega)
end M1
namespace K1
open PySem L2 DL

theorem bb_isinstance : bootBuiltins "isinstance" = some (.builtin "isinstance") := by decide +kernel
theorem bb_abs : bootBuiltins "abs" = some (.builtin "abs") := by decide +kernel
theorem bb_len : bootBuiltins "len" = some (.builtin "len") := by decide +kernel
theorem bb_max : bootBuiltins "max" = some (.builtin "max") := by decide +kernel
theorem bb_min : bootBuiltins "min" = some (.builtin "min") := by decide +kernel
theorem bb_all : bootBuiltins "all" = some (.builtin "all") := by decide +kernel
theorem bb_int : bootBuiltins "int" = some (.type "int") := by decide +kernel
theorem bb_bool : bootBuiltins "bool" = some (.type "bool") := by decide +kernel

def topS (i : Nat) : Stmt := PySem.Challenge.pw_doughfolds_k07_raisins_made_and_in_order.main.body.getD i (.Pass ⟨0, 0, 0, 0⟩)

def ratF (t b : Int) : List (Str × D) := [("top", .int t), ("bottom", .int b)]
def rat (t b : Int) : D := .obj 0 (ratF t b)
def isI : D → Bool
  | .int _ => true
  | _ => false
def isB : D → Bool
  | .bl _ => true
  | _ => false
def isR : D → Bool
  | .obj _ _ => true
  | _ => false
def nice : D → Bool
  | .cst _ => false
  | .obj c _ => c == 0
  | _ => true

structure Txt (C : Kc) (mg : Str → Option Value) : Prop where
  b_isinstance : mg "isinstance" = none
  b_abs : mg "abs" = none
  b_len : mg "len" = none
  b_max : mg "max" = none
  b_min : mg "min" = none
  b_all : mg "all" = none
  b_int : mg "int" = none
  b_bool : mg "bool" = none
  b_range : mg "range" = none
  gR : mg "Ratio" = some (.ref (C.cl 0))
  ins : InsF C.K (C.cl 0)
  n_top : NoAttr C.K (C.cl 0) "top"
  n_bottom : NoAttr C.K (C.cl 0) "bottom"
  kRI : PySem.W.kitOne C.K (.ref (C.cl 0)) (.type "int") = some false
  kRB : PySem.W.kitOne C.K (.ref (C.cl 0)) (.type "bool") = some false
  kTR : ∀ T, T ∈ ["NoneType", "bool", "int", "str", "tuple", "list"] → PySem.W.kitOne C.K (.type T) (.ref (C.cl 0)) = some false
  opf : OpF C.K (C.cl 0)
  iA : IntF C.K .Add
  iS : IntF C.K .Sub
  iM : IntF C.K .Mult
  ne : PySem.W.findIn C.K (.ref (C.cl 0)) "__ne__" = some (some (.builtin "object.__ne__"))
  nb : PySem.W.findIn C.K (.ref (C.cl 0)) "__bool__" = some none
  nl : PySem.W.findIn C.K (.ref (C.cl 0)) "__len__" = some none

section
variable {P : Program} {w : World} {C : Kc} {mg : Str → Option Value} {base : Heap}

theorem kI (T : Txt C mg) {x : D} (h : nice x = true) : PySem.W.kitOne C.K (tyD C x) (.type "int") = some (isI x || isB x) := by
  cases x with
  | obj c fs =>
    have : c = 0 := by simpa [nice] using h
    subst this
    exact T.kRI
  | cst v => cases h
  | non => exact kit_ty (show kitB "NoneType" "int" = some false by decide +kernel)
  | bl b => exact kit_ty (show kitB "bool" "int" = some true by decide +kernel)
  | int i => exact kit_ty (show kitB "int" "int" = some true by decide +kernel)
  | str s => exact kit_ty (show kitB "str" "int" = some false by decide +kernel)
  | tup xs => exact kit_ty (show kitB "tuple" "int" = some false by decide +kernel)
  | lst xs => exact kit_ty (show kitB "list" "int" = some false by decide +kernel)
theorem kB (T : Txt C mg) {x : D} (h : nice x = true) : PySem.W.kitOne C.K (tyD C x) (.type "bool") = some (isB x) := by
  cases x with
  | obj c fs =>
    have : c = 0 := by simpa [nice] using h
    subst this
    exact T.kRB
  | cst v => cases h
  | non => exact kit_ty (show kitB "NoneType" "bool" = some false by decide +kernel)
  | bl b => exact kit_ty (show kitB "bool" "bool" = some true by decide +kernel)
  | int i => exact kit_ty (show kitB "int" "bool" = some false by decide +kernel)
  | str s => exact kit_ty (show kitB "str" "bool" = some false by decide +kernel)
  | tup xs => exact kit_ty (show kitB "tuple" "bool" = some false by decide +kernel)
  | lst xs => exact kit_ty (show kitB "list" "bool" = some false by decide +kernel)
theorem kR (T : Txt C mg) {x : D} (h : nice x = true) : PySem.W.kitOne C.K (tyD C x) (.ref (C.cl 0)) = some (isR x) := by
  cases x with
  | obj c fs =>
    have : c = 0 := by simpa [nice] using h
    subst this
    show (if (Value.ref (C.cl 0) == Value.ref (C.cl 0)) = true then some true else _) = _
    rw [if_pos (by simp)]
    rfl
  | cst v => cases h
  | non => exact T.kTR _ (by decide)
  | bl b => exact T.kTR _ (by decide)
  | int i => exact T.kTR _ (by decide)
  | str s => exact T.kTR _ (by decide)
  | tup xs => exact T.kTR _ (by decide)
  | lst xs => exact T.kTR _ (by decide)
theorem nO (T : Txt C mg) {x : D} (h : nice x = true) : ∀ c fs, x = .obj c fs → InsF C.K (C.cl c) := by
  rintro c fs rfl
  have : c = 0 := by simpa [nice] using h
  subst this
  exact T.ins
theorem nC {x : D} (h : nice x = true) : ∀ v, x ≠ .cst v := by
  rintro v rfl
  cases h

/-! ### is_integer -/
abbrev s_is_integer : Stmt := topS 8
theorem sc_is_integer : FnScope ["value"] ["value"] (defScope s_is_integer) := ⟨rfl, rfl, rfl, by decide +kernel, rfl, by decide +kernel, by decide +kernel⟩
def RIsInt : List D → D → Prop := fun ds d => ∃ x, ds = [x] ∧ nice x = true ∧ d = .bl (isI x)
theorem ok_is_integer {f : Addr} {fd : FuncData} (Fn : Fun C.K "is_integer" "is_integer" s_is_integer f fd) (T : Txt C mg) : FnOk P w C.K mg base CX0 1 f fd ["value"] (spP C RIsInt) := by
  refine fnP Fn sc_is_integer (fun ds d h => by obtain ⟨x, rfl, _⟩ := h; rfl) ?_
  rintro ds d ⟨x, rfl, hn, rfl⟩ cdv A outer s H E hr
  refine ds_ret (de_and (de_callB T.b_isinstance bb_isinstance (da_cons (de_var (j := 0) rfl) (da_cons (de_bltn T.b_int bb_int (v := .ty "int") rfl) da_nil)) (ca_isi (.ty "int") (nO T hn) (nC hn) (kI T hn))) (fun _ => (de_one (de_not (de_callB T.b_isinstance bb_isinstance (da_cons (de_var (j := 0) rfl) (da_cons (de_bltn T.b_bool bb_bool (v := .ty "bool") rfl) da_nil)) (ca_isi (.ty "bool") (nO T hn) (nC hn) (kB T hn))))))) ?_
  show D.bl _ = D.bl _
  cases x <;> rfl

/-! ### shared_factor -/
abbrev s_shared_factor : Stmt := topS 12
theorem sc_shared_factor : FnScope ["one", "two", "high", "low"] ["one", "two"] (defScope s_shared_factor) := ⟨rfl, rfl, rfl, by decide +kernel, rfl, by decide +kernel, by decide +kernel⟩
def gI (S : ST) (j : Nat) : Int := match S.s[j]? with
  | some (some (.imm (.int i))) => i
  | _ => 0
theorem gcd_step {h l : Int} (h0 : 0 ≤ h) (l0 : 0 < l) : Int.gcd l (h % l) = Int.gcd h l := by
  obtain ⟨n, rfl⟩ := Int.eq_ofNat_of_zero_le h0
  obtain ⟨m, rfl⟩ := Int.eq_ofNat_of_zero_le (Int.le_of_lt l0)
  rw [← Int.natCast_emod]
  show Nat.gcd m (n % m) = Nat.gcd n m
  rw [Nat.gcd_comm n m, Nat.gcd_rec m n, Nat.gcd_comm]
def RGcd : List D → D → Prop := fun ds d => ∃ a b : Int, ds = [.int a, .int b] ∧ d = .int (Int.gcd a b)
theorem ok_shared_factor {f : Addr} {fd : FuncData} (Fn : Fun C.K "shared_factor" "shared_factor" s_shared_factor f fd) (T : Txt C mg) : FnOk P w C.K mg base CX0 1 f fd ["one", "two"] (spP C RGcd) := by
  refine fnP Fn sc_shared_factor (fun ds d h => by obtain ⟨x, y, rfl, _⟩ := h; rfl) ?_
  rintro ds d ⟨a, b, rfl, rfl⟩ cdv A outer s H E hr
  refine ds_par (i := 2) (j := 3) (de_callB T.b_abs bb_abs (da_cons (de_var (j := 0) rfl) da_nil) ca_abs) (de_callB T.b_abs bb_abs (da_cons (de_var (j := 1) rfl) da_nil) ca_abs) ?_
  refine ds_while (fun S => ∃ h l : Int, S = ⟨[some (.imm (.int a)), some (.imm (.int b)), some (.imm (.int h)), some (.imm (.int l))], none⟩ ∧ 0 ≤ h ∧ 0 ≤ l ∧ Int.gcd h l = Int.gcd a b) (fun S => (gI S 3).toNat)
    (fun S => S = ⟨[some (.imm (.int a)), some (.imm (.int b)), some (.imm (.int (Int.gcd a b))), some (.imm (.int 0))], none⟩) ⟨_, _, rfl, ?_, ?_, ?_⟩ ?_ ?_
  · split <;> omega
  · split <;> omega
  · have e1 : ∀ x : Int, Int.natAbs (if x < 0 then -x else x) = Int.natAbs x := fun x => by split <;> omega
    unfold Int.gcd
    rw [e1, e1]
  · rintro _ ⟨h, l, rfl, h0, l0, hg⟩
    refine ⟨_, _, dt_cmp (de_var (j := 3) rfl) de_int od_gt, fun hk => ?_, fun hk => ?_⟩
    · have lp : 0 < l := by simpa using hk
      refine ds_par (i := 2) (j := 3) (de_var (j := 3) rfl) (de_op (de_var (j := 2) rfl) (de_var (j := 3) rfl) (od_mod lp)) ?_
      refine ds_nil ⟨⟨l, h % l, rfl, l0, Int.emod_nonneg _ (by omega), by rw [gcd_step h0 lp]; exact hg⟩, ?_⟩
      show (h % l).toNat < l.toNat
      have := Int.emod_lt_of_pos h lp
      have := Int.emod_nonneg h (show l ≠ 0 by omega)
      omega
    · have lz : l = 0 := by
        have : ¬ 0 < l := by simpa using hk
        omega
      subst lz
      have e : h = (Int.gcd a b : Int) := by
        rw [← hg, Int.gcd_zero_right]
        omega
      rw [← e]
  · rintro _ rfl
    exact ds_ret (de_var (j := 2) rfl) rfl

/-! ### is_fraction -/
abbrev s_is_fraction : Stmt := topS 13
theorem sc_is_fraction : FnScope ["value"] ["value"] (defScope s_is_fraction) := ⟨rfl, rfl, rfl, by decide +kernel, rfl, by decide +kernel, by decide +kernel⟩
def RIsFr : List D → D → Prop := fun ds d => ∃ x, ds = [x] ∧ nice x = true ∧ d = .bl (isI x || isR x)
theorem gR {S : ST} {F : Fam} {pos : Pos} (T : Txt F.C F.mg) (hg : ∀ i, Gl (F.X i) "Ratio" := by intro _; rfl) : DE F (.Name "Ratio" pos) S S (.cst (.ref (F.C.cl 0))) := de_glob T.gR (v := .ref (F.C.cl 0)) rfl (fun _ => .cst _) hg
theorem ok_is_fraction {f : Addr} {fd : FuncData} (Fn : Fun C.K "is_fraction" "is_fraction" s_is_fraction f fd) (T : Txt C mg) (c_is_integer : Cal P w C mg base 1 "is_integer" (spP C RIsInt)) : FnOk P w C.K mg base CX0 2 f fd ["value"] (spP C RIsFr) := by
  refine fnP Fn sc_is_fraction (fun ds d h => by obtain ⟨x, rfl, _⟩ := h; rfl) ?_
  rintro ds d ⟨x, rfl, hn, rfl⟩ cdv A outer s H E hr
  refine ds_ret (de_or (de_call c_is_integer (da_cons (de_var (j := 0) rfl) da_nil) ⟨x, rfl, hn, rfl⟩) (fun _ => (de_one (de_callB T.b_isinstance bb_isinstance (da_cons (de_var (j := 0) rfl) (da_cons (gR T) da_nil)) (ca_isi (.own _) (nO T hn) (nC hn) (kR T hn)))))) ?_
  rfl

/-! ### Ratio.__init__ -/
abbrev s_Ratio_init : Stmt := inClass (topS 17) 0
theorem sc_Ratio_init : FnScope ["self", "top", "bottom", "factor"] ["self", "top", "bottom"] (defScope s_Ratio_init) := ⟨rfl, rfl, rfl, by decide +kernel, rfl, by decide +kernel, by decide +kernel⟩
theorem ratF_top {t b : Int} : (ratF t b).lookup ("top" : Str) = some (D.int t) := by
  unfold ratF
  rw [List.lookup_cons, show (("top" : Str) == "top") = true by decide +kernel]
theorem ratF_bottom {t b : Int} : (ratF t b).lookup ("bottom" : Str) = some (D.int b) := by
  unfold ratF
  rw [List.lookup_cons, show (("bottom" : Str) == "top") = false by decide +kernel, List.lookup_cons, show (("bottom" : Str) == "bottom") = true by decide +kernel]
theorem ratF_put {t b : Int} : putD "bottom" (.int b) (putD "top" (.int t) []) = ratF t b := by
  show (if ("top" : Str) = "bottom" then _ else (("top" : Str), D.int t) :: putD "bottom" (.int b) []) = _
  rw [if_neg (by decide +kernel)]
  rfl
/-- lowest terms -/
def lo (t b : Int) : Int := t / (Int.gcd t b : Int)
def RInit : List D → List (Str × D) → Prop := fun ds fs => ∃ t b : Int, ds = [.int t, .int b] ∧ 0 < b ∧ b < 1073741824 ∧ fs = ratF (t / (Int.gcd t b : Int)) (b / (Int.gcd t b : Int))
theorem gcd_pos {t b : Int} (hb : 0 < b) : 0 < (Int.gcd t b : Int) := by
  have : Int.gcd t b ≠ 0 := fun h => by
    have := (Int.gcd_eq_zero_iff.mp h).2
    omega
  omega
theorem gcd_le {t b : Int} (hb : 0 < b) : (Int.gcd t b : Int) ≤ b := Int.le_of_dvd hb (Int.gcd_dvd_right ..)
theorem ok_Ratio_init {f : Addr} {fd : FuncData} {dvs : List V} (Fn : FunD C.K "__init__" "Ratio.__init__" (defArgs s_Ratio_init) (defBody s_Ratio_init) (defScope s_Ratio_init) dvs [] f fd) (T : Txt C mg) (c_is_integer : Cal P w C mg base 1 "is_integer" (spP C RIsInt)) (c_shared_factor : Cal P w C mg base 1 "shared_factor" (spP C RGcd)) :
    FnOk P w C.K mg base CX0 2 f fd ["self", "top", "bottom"] (spI C 0 RInit) := by
  refine fnID Fn sc_Ratio_init (fun ds fs h => by obtain ⟨t, b, rfl, _⟩ := h; rfl) ?_
  rintro ds fs ⟨t, b, rfl, hb, hb2, rfl⟩ bb cdv A outer s H E hr
  have gp := gcd_pos (t := t) hb
  have gl := gcd_le (t := t) hb
  refine ds_ifr (dt_not (dt_val (de_call c_is_integer (da_cons (de_var (j := 1) rfl) da_nil) ⟨_, rfl, rfl, rfl⟩))) (fun h => nomatch h) (fun h => ?_)
  refine ds_ifr (dt_w (dw_or (dt_not (dt_val (de_call c_is_integer (da_cons (de_var (j := 2) rfl) da_nil) ⟨_, rfl, rfl, rfl⟩))) (fun _ => (dw_or1 (dt_cmp (de_var (j := 2) rfl) de_int od_lt))))) (fun h => ?_) (fun h => ?_)
  · exfalso
    have : b < 1 := by simpa [isI] using h
    omega
  refine ds_set (j := 3) (de_call c_shared_factor (da_cons (de_var (j := 1) rfl) (da_cons (de_var (j := 2) rfl) da_nil)) ⟨t, b, rfl, rfl⟩) ?_
  refine ds_fld (j := 0) (de_op (de_var (j := 1) rfl) (de_var (j := 3) rfl) (od_fdiv ⟨gp, by omega⟩)) rfl rfl T.ins.cl T.n_top ?_
  refine ds_fld (j := 0) (de_op (de_var (j := 2) rfl) (de_var (j := 3) rfl) (od_fdiv ⟨gp, by omega⟩)) rfl rfl T.ins.cl T.n_bottom ?_ (by show 1 < 1000; decide)
  refine ds_nil ?_
  show some (bb, BG.ins 0 _) = some (bb, BG.ins 0 _)
  rw [ratF_put]

/-! ### as_ratio, order_of -/
def fr (x : D) (t b : Int) : Prop := (x = .int t ∧ b = 1) ∨ (x = rat t b ∧ 0 < b ∧ b < 1073741824)
theorem fr.pos {x : D} {t b : Int} (h : fr x t b) : 0 < b := by
  rcases h with ⟨_, rfl⟩ | ⟨_, h, _⟩
  · decide
  · exact h
theorem fr.small {x : D} {t b : Int} (h : fr x t b) : b < 1073741824 := by
  rcases h with ⟨_, rfl⟩ | ⟨_, _, h⟩
  · decide
  · exact h
theorem fr.nice {x : D} {t b : Int} (h : fr x t b) : nice x = true := by
  rcases h with ⟨rfl, _⟩ | ⟨rfl, _, _⟩ <;> rfl
theorem fr.is {x : D} {t b : Int} (h : fr x t b) : (isI x || isR x) = true := by
  rcases h with ⟨rfl, _⟩ | ⟨rfl, _, _⟩ <;> rfl
theorem gcd_one (t : Int) : Int.gcd t 1 = 1 := by
  unfold Int.gcd
  exact Nat.gcd_one_right _
abbrev s_as_ratio : Stmt := topS 14
theorem sc_as_ratio : FnScope ["value"] ["value"] (defScope s_as_ratio) := ⟨rfl, rfl, rfl, by decide +kernel, rfl, by decide +kernel, by decide +kernel⟩
def RAs : List D → D → Prop := fun ds d => ∃ x t b, ds = [x] ∧ fr x t b ∧ d = rat t b
theorem ok_as_ratio {f : Addr} {fd : FuncData} (Fn : Fun C.K "as_ratio" "as_ratio" s_as_ratio f fd) (T : Txt C mg) (m_Ratio1 : Mak P w C mg base 2 "Ratio" 0 RInit [.int 1]) : FnOk P w C.K mg base CX0 4 f fd ["value"] (spP C RAs) := by
  refine fnP Fn sc_as_ratio (fun ds d h => by obtain ⟨x, t, b, rfl, _⟩ := h; rfl) ?_
  rintro ds d ⟨x, t, b, rfl, hx, rfl⟩ cdv A outer s H E hr
  rcases hx with ⟨rfl, rfl⟩ | ⟨rfl, hb⟩
  · refine ds_ret (de_ifF (dt_val (de_callB T.b_isinstance bb_isinstance (da_cons (de_var (j := 0) rfl) (da_cons (gR T) da_nil)) (ca_isi (k := false) (.own _) (nO T rfl) (nC rfl) (kR T (x := .int t) rfl))))
      (de_make m_Ratio1 (da_cons (de_var (j := 0) rfl) da_nil) ⟨t, 1, rfl, by decide, by decide, rfl⟩)) ?_
    show D.obj 0 _ = D.obj 0 _
    rw [gcd_one]
    simp
  · exact ds_ret (de_ifT (dt_val (de_callB T.b_isinstance bb_isinstance (da_cons (de_var (j := 0) rfl) (da_cons (gR T) da_nil)) (ca_isi (k := true) (.own _) (nO T rfl) (nC rfl) (kR T (x := rat t b) rfl))))
      (de_var (j := 0) rfl)) rfl
abbrev s_order_of : Stmt := topS 15
theorem sc_order_of : FnScope ["one", "two", "here", "there", "left", "right"] ["one", "two"] (defScope s_order_of) := ⟨rfl, rfl, rfl, by decide +kernel, rfl, by decide +kernel, by decide +kernel⟩
def ordI (l r : Int) : Int := if l = r then 0 else if l < r then -1 else 1
def ROrd : List D → D → Prop := fun ds d => ∃ x y t b u c, ds = [x, y] ∧ fr x t b ∧ fr y u c ∧ d = .int (ordI (t * c) (u * b))
theorem ok_order_of {f : Addr} {fd : FuncData} (Fn : Fun C.K "order_of" "order_of" s_order_of f fd) (T : Txt C mg) (c_as_ratio : Cal P w C mg base 4 "as_ratio" (spP C RAs)) : FnOk P w C.K mg base CX0 5 f fd ["one", "two"] (spP C ROrd) := by
  refine fnP Fn sc_order_of (fun ds d h => by obtain ⟨x, y, t, b, u, c, rfl, _⟩ := h; rfl) ?_
  rintro ds d ⟨x, y, t, b, u, c, rfl, hx, hy, rfl⟩ cdv A outer s H E hr
  have b0 := hx.pos
  have b1 := hx.small
  have c0 := hy.pos
  have c1 := hy.small
  refine ds_par (i := 2) (j := 3) (de_call c_as_ratio (da_cons (de_var (j := 0) rfl) da_nil) ⟨x, t, b, rfl, hx, rfl⟩) (de_call c_as_ratio (da_cons (de_var (j := 1) rfl) da_nil) ⟨y, u, c, rfl, hy, rfl⟩) ?_
  refine ds_par (i := 4) (j := 5) (de_op (de_fld (de_var (j := 2) rfl) T.ins.cl T.n_top ratF_top) (de_fld (de_var (j := 3) rfl) T.ins.cl T.n_bottom ratF_bottom) (od_mul (.inr ⟨by omega, by omega⟩))) (de_op (de_fld (de_var (j := 3) rfl) T.ins.cl T.n_top ratF_top) (de_fld (de_var (j := 2) rfl) T.ins.cl T.n_bottom ratF_bottom) (od_mul (.inr ⟨by omega, by omega⟩))) ?_
  refine ds_ifr (dt_cmp (de_var (j := 4) rfl) (de_var (j := 5) rfl) od_eqI) (fun h => ?_) (fun h => ?_)
  · refine ds_ret de_int ?_
    have h' := of_decide_eq_true h
    show D.int 0 = D.int (ordI _ _)
    unfold ordI
    rw [if_pos h']
  · refine ds_ret (de_iteI (dt_cmp (de_var (j := 4) rfl) (de_var (j := 5) rfl) od_lt) (fun _ => (de_un de_int ud_neg)) (fun _ => de_int)) ?_
    have h' := of_decide_eq_false h
    show D.int _ = D.int (ordI _ _)
    unfold ordI
    rw [if_neg h']
    by_cases z : t * c < u * b
    · rw [if_pos z, decide_eq_true z]; rfl
    · rw [if_neg z, decide_eq_false z]; rfl

/-! ### the methods -/
def ratOf (n m : Int) : D := rat (n / (Int.gcd n m : Int)) (m / (Int.gcd n m : Int))
abbrev s_Ratio_compared : Stmt := inClass (topS 17) 2
theorem sc_Ratio_compared : FnScope ["self", "value"] ["self", "value"] (defScope s_Ratio_compared) := ⟨rfl, rfl, rfl, by decide +kernel, rfl, by decide +kernel, by decide +kernel⟩
def RCmp : List D → D → Prop := fun ds d => ∃ y t b u c, ds = [rat t b, y] ∧ 0 < b ∧ b < 1073741824 ∧ fr y u c ∧ d = .int (ordI (t * c) (u * b))
theorem ok_Ratio_compared {f : Addr} {fd : FuncData} (Fn : Fun C.K "compared" "Ratio.compared" s_Ratio_compared f fd) (T : Txt C mg) (c_is_fraction : Cal P w C mg base 2 "is_fraction" (spP C RIsFr)) (c_order_of : Cal P w C mg base 5 "order_of" (spP C ROrd)) :
    FnOk P w C.K mg base CX0 6 f fd ["self", "value"] (spP C RCmp) := by
  refine fnP Fn sc_Ratio_compared (fun ds d h => by obtain ⟨y, t, b, u, c, rfl, _⟩ := h; rfl) ?_
  rintro ds d ⟨y, t, b, u, c, rfl, hb, hb2, hy, rfl⟩ cdv A outer s H E hr
  refine ds_ifr (dt_not (dt_val (de_call c_is_fraction (da_cons (de_var (j := 1) rfl) da_nil) ⟨y, rfl, hy.nice, rfl⟩))) (fun h => ?_) (fun h => ?_)
  · rw [hy.is] at h; cases h
  · exact ds_ret (de_call c_order_of (da_cons (de_var (j := 0) rfl) (da_cons (de_var (j := 1) rfl) da_nil)) ⟨_, y, t, b, u, c, rfl, .inr ⟨rfl, hb, hb2⟩, hy, rfl⟩) rfl
abbrev s_Ratio_add : Stmt := inClass (topS 17) 3
theorem sc_Ratio_add : FnScope ["self", "other", "by"] ["self", "other"] (defScope s_Ratio_add) := ⟨rfl, rfl, rfl, by decide +kernel, rfl, by decide +kernel, by decide +kernel⟩

structure Fine (b c : Int) : Prop where
  b0 : 0 < b
  b1 : b < 1073741824
  c0 : 0 < c
  c1 : c < 1073741824
  p0 : 0 < b * c
  p1 : b * c < 1073741824
def RAdd : List D → D → Prop := fun ds d => ∃ y t b u c, ds = [rat t b, y] ∧ Fine b c ∧ fr y u c ∧ d = ratOf (t * c + u * b) (b * c)
theorem ok_Ratio_add {f : Addr} {fd : FuncData} (Fn : Fun C.K "__add__" "Ratio.__add__" s_Ratio_add f fd) (T : Txt C mg) (c_is_fraction : Cal P w C mg base 2 "is_fraction" (spP C RIsFr)) (c_as_ratio : Cal P w C mg base 4 "as_ratio" (spP C RAs)) (m_Ratio : Mak P w C mg base 2 "Ratio" 0 RInit []) :
    FnOk P w C.K mg base CX0 5 f fd ["self", "other"] (spP C RAdd) := by
  refine fnP Fn sc_Ratio_add (fun ds d h => by obtain ⟨y, t, b, u, c, rfl, _⟩ := h; rfl) ?_
  rintro ds d ⟨y, t, b, u, c, rfl, ⟨b0, b1, c0, c1, p0, p1⟩, hy, rfl⟩ cdv A outer s H E hr
  refine ds_ifr (dt_not (dt_val (de_call c_is_fraction (da_cons (de_var (j := 1) rfl) da_nil) ⟨y, rfl, hy.nice, rfl⟩))) (fun h => ?_) (fun h => ?_)
  · rw [hy.is] at h; cases h
  refine ds_set (j := 2) (de_call c_as_ratio (da_cons (de_var (j := 1) rfl) da_nil) ⟨y, u, c, rfl, hy, rfl⟩) ?_
  exact ds_ret (de_make m_Ratio (da_cons (de_op (de_op (de_fld (de_var (j := 0) rfl) T.ins.cl T.n_top ratF_top) (de_fld (de_var (j := 2) rfl) T.ins.cl T.n_bottom ratF_bottom) (od_mul (.inr ⟨by omega, by omega⟩))) (de_op (de_fld (de_var (j := 2) rfl) T.ins.cl T.n_top ratF_top) (de_fld (de_var (j := 0) rfl) T.ins.cl T.n_bottom ratF_bottom) (od_mul (.inr ⟨by omega, by omega⟩))) od_add) (da_cons (de_op (de_fld (de_var (j := 0) rfl) T.ins.cl T.n_bottom ratF_bottom) (de_fld (de_var (j := 2) rfl) T.ins.cl T.n_bottom ratF_bottom) (od_mul (.inr ⟨by omega, by omega⟩))) da_nil)) ⟨_, _, rfl, p0, p1, rfl⟩) rfl
abbrev s_Ratio_sub : Stmt := inClass (topS 17) 5
theorem sc_Ratio_sub : FnScope ["self", "other", "by"] ["self", "other"] (defScope s_Ratio_sub) := ⟨rfl, rfl, rfl, by decide +kernel, rfl, by decide +kernel, by decide +kernel⟩

def RSub : List D → D → Prop := fun ds d => ∃ y t b u c, ds = [rat t b, y] ∧ Fine b c ∧ fr y u c ∧ d = ratOf (t * c - u * b) (b * c)
theorem ok_Ratio_sub {f : Addr} {fd : FuncData} (Fn : Fun C.K "__sub__" "Ratio.__sub__" s_Ratio_sub f fd) (T : Txt C mg) (c_is_fraction : Cal P w C mg base 2 "is_fraction" (spP C RIsFr)) (c_as_ratio : Cal P w C mg base 4 "as_ratio" (spP C RAs)) (m_Ratio : Mak P w C mg base 2 "Ratio" 0 RInit []) :
    FnOk P w C.K mg base CX0 5 f fd ["self", "other"] (spP C RSub) := by
  refine fnP Fn sc_Ratio_sub (fun ds d h => by obtain ⟨y, t, b, u, c, rfl, _⟩ := h; rfl) ?_
  rintro ds d ⟨y, t, b, u, c, rfl, ⟨b0, b1, c0, c1, p0, p1⟩, hy, rfl⟩ cdv A outer s H E hr
  refine ds_ifr (dt_not (dt_val (de_call c_is_fraction (da_cons (de_var (j := 1) rfl) da_nil) ⟨y, rfl, hy.nice, rfl⟩))) (fun h => ?_) (fun h => ?_)
  · rw [hy.is] at h; cases h
  refine ds_set (j := 2) (de_call c_as_ratio (da_cons (de_var (j := 1) rfl) da_nil) ⟨y, u, c, rfl, hy, rfl⟩) ?_
  exact ds_ret (de_make m_Ratio (da_cons (de_op (de_op (de_fld (de_var (j := 0) rfl) T.ins.cl T.n_top ratF_top) (de_fld (de_var (j := 2) rfl) T.ins.cl T.n_bottom ratF_bottom) (od_mul (.inr ⟨by omega, by omega⟩))) (de_op (de_fld (de_var (j := 2) rfl) T.ins.cl T.n_top ratF_top) (de_fld (de_var (j := 0) rfl) T.ins.cl T.n_bottom ratF_bottom) (od_mul (.inr ⟨by omega, by omega⟩))) od_sub) (da_cons (de_op (de_fld (de_var (j := 0) rfl) T.ins.cl T.n_bottom ratF_bottom) (de_fld (de_var (j := 2) rfl) T.ins.cl T.n_bottom ratF_bottom) (od_mul (.inr ⟨by omega, by omega⟩))) da_nil)) ⟨_, _, rfl, p0, p1, rfl⟩) rfl
abbrev s_Ratio_mul : Stmt := inClass (topS 17) 7
theorem sc_Ratio_mul : FnScope ["self", "other", "by"] ["self", "other"] (defScope s_Ratio_mul) := ⟨rfl, rfl, rfl, by decide +kernel, rfl, by decide +kernel, by decide +kernel⟩

def RMul : List D → D → Prop := fun ds d => ∃ y t b u c, ds = [rat t b, y] ∧ Fine b c ∧ fr y u c ∧ -18446744073709551616 < t ∧ t < 18446744073709551616 ∧ d = ratOf (t * u) (b * c)
theorem ok_Ratio_mul {f : Addr} {fd : FuncData} (Fn : Fun C.K "__mul__" "Ratio.__mul__" s_Ratio_mul f fd) (T : Txt C mg) (c_is_fraction : Cal P w C mg base 2 "is_fraction" (spP C RIsFr)) (c_as_ratio : Cal P w C mg base 4 "as_ratio" (spP C RAs)) (m_Ratio : Mak P w C mg base 2 "Ratio" 0 RInit []) :
    FnOk P w C.K mg base CX0 5 f fd ["self", "other"] (spP C RMul) := by
  refine fnP Fn sc_Ratio_mul (fun ds d h => by obtain ⟨y, t, b, u, c, rfl, _⟩ := h; rfl) ?_
  rintro ds d ⟨y, t, b, u, c, rfl, ⟨b0, b1, c0, c1, p0, p1⟩, hy, t0, t1, rfl⟩ cdv A outer s H E hr
  refine ds_ifr (dt_not (dt_val (de_call c_is_fraction (da_cons (de_var (j := 1) rfl) da_nil) ⟨y, rfl, hy.nice, rfl⟩))) (fun h => ?_) (fun h => ?_)
  · rw [hy.is] at h; cases h
  refine ds_set (j := 2) (de_call c_as_ratio (da_cons (de_var (j := 1) rfl) da_nil) ⟨y, u, c, rfl, hy, rfl⟩) ?_
  exact ds_ret (de_make m_Ratio (da_cons (de_op (de_fld (de_var (j := 0) rfl) T.ins.cl T.n_top ratF_top) (de_fld (de_var (j := 2) rfl) T.ins.cl T.n_top ratF_top) (od_mul (.inl ⟨by omega, by omega⟩))) (da_cons (de_op (de_fld (de_var (j := 0) rfl) T.ins.cl T.n_bottom ratF_bottom) (de_fld (de_var (j := 2) rfl) T.ins.cl T.n_bottom ratF_bottom) (od_mul (.inr ⟨by omega, by omega⟩))) da_nil)) ⟨_, _, rfl, p0, p1, rfl⟩) rfl
abbrev s_Ratio_neg : Stmt := inClass (topS 17) 9
theorem sc_Ratio_neg : FnScope ["self"] ["self"] (defScope s_Ratio_neg) := ⟨rfl, rfl, rfl, by decide +kernel, rfl, by decide +kernel, by decide +kernel⟩
def RNeg : List D → D → Prop := fun ds d => ∃ t b, ds = [rat t b] ∧ 0 < b ∧ b < 1073741824 ∧ d = ratOf (-t) b
theorem ok_Ratio_neg {f : Addr} {fd : FuncData} (Fn : Fun C.K "__neg__" "Ratio.__neg__" s_Ratio_neg f fd) (T : Txt C mg) (m_Ratio : Mak P w C mg base 2 "Ratio" 0 RInit []) : FnOk P w C.K mg base CX0 4 f fd ["self"] (spP C RNeg) := by
  refine fnP Fn sc_Ratio_neg (fun ds d h => by obtain ⟨t, b, rfl, _⟩ := h; rfl) ?_
  rintro ds d ⟨t, b, rfl, b0, b1, rfl⟩ cdv A outer s H E hr
  exact ds_ret (de_make m_Ratio (da_cons (de_un (de_fld (de_var (j := 0) rfl) T.ins.cl T.n_top ratF_top) ud_neg) (da_cons (de_fld (de_var (j := 0) rfl) T.ins.cl T.n_bottom ratF_bottom) da_nil)) ⟨_, _, rfl, b0, b1, rfl⟩) rfl
abbrev s_Ratio_eq : Stmt := inClass (topS 17) 10
theorem sc_Ratio_eq : FnScope ["self", "other", "by"] ["self", "other"] (defScope s_Ratio_eq) := ⟨rfl, rfl, rfl, by decide +kernel, rfl, by decide +kernel, by decide +kernel⟩

def REq : List D → D → Prop := fun ds d => ∃ y t b, ds = [rat t b, y] ∧ ((∃ u c, fr y u c ∧ d = .bl (decide (t = u) && decide (b = c))) ∨ (nice y = true ∧ (isI y || isR y) = false ∧ d = .bl false))
theorem ok_Ratio_eq {f : Addr} {fd : FuncData} (Fn : Fun C.K "__eq__" "Ratio.__eq__" s_Ratio_eq f fd) (T : Txt C mg) (c_is_fraction : Cal P w C mg base 2 "is_fraction" (spP C RIsFr)) (c_as_ratio : Cal P w C mg base 4 "as_ratio" (spP C RAs)) :
    FnOk P w C.K mg base CX0 5 f fd ["self", "other"] (spP C REq) := by
  refine fnP Fn sc_Ratio_eq (fun ds d h => by obtain ⟨y, t, b, rfl, _⟩ := h; rfl) ?_
  rintro ds d ⟨y, t, b, rfl, hy⟩ cdv A outer s H E hr
  rcases hy with ⟨u, c, hy, rfl⟩ | ⟨hn, hf, rfl⟩
  · refine ds_ifr (dt_not (dt_val (de_call c_is_fraction (da_cons (de_var (j := 1) rfl) da_nil) ⟨y, rfl, hy.nice, rfl⟩))) (fun h => ?_) (fun h => ?_)
    · rw [hy.is] at h; cases h
    refine ds_set (j := 2) (de_call c_as_ratio (da_cons (de_var (j := 1) rfl) da_nil) ⟨y, u, c, rfl, hy, rfl⟩) ?_
    exact ds_ret (de_and (de_cmp (de_fld (de_var (j := 0) rfl) T.ins.cl T.n_top ratF_top) (de_fld (de_var (j := 2) rfl) T.ins.cl T.n_top ratF_top) od_eqI) (fun _ => (de_one (de_cmp (de_fld (de_var (j := 0) rfl) T.ins.cl T.n_bottom ratF_bottom) (de_fld (de_var (j := 2) rfl) T.ins.cl T.n_bottom ratF_bottom) od_eqI)))) rfl
  · refine ds_ifr (dt_not (dt_val (de_call c_is_fraction (da_cons (de_var (j := 1) rfl) da_nil) ⟨y, rfl, hn, rfl⟩))) (fun h => ?_) (fun h => ?_)
    · exact ds_ret de_bl rfl
    · rw [hf] at h; cases h
abbrev s_Ratio_radd : Stmt := inClass (topS 17) 4
theorem sc_Ratio_radd : FnScope ["self", "other"] ["self", "other"] (defScope s_Ratio_radd) := ⟨rfl, rfl, rfl, by decide +kernel, rfl, by decide +kernel, by decide +kernel⟩

def RRadd : List D → D → Prop := fun ds d => ∃ i t b, ds = [rat t b, .int i] ∧ 0 < b ∧ b < 1073741824 ∧ d = ratOf (i * b + t * 1) (1 * b)
theorem fine1 {b : Int} (b0 : 0 < b) (b1 : b < 1073741824) : Fine 1 b := ⟨by decide, by decide, b0, b1, by omega, by omega⟩
theorem ok_Ratio_radd {f : Addr} {fd : FuncData} (Fn : Fun C.K "__radd__" "Ratio.__radd__" s_Ratio_radd f fd) (T : Txt C mg) (c_is_fraction : Cal P w C mg base 2 "is_fraction" (spP C RIsFr)) (c_as_ratio : Cal P w C mg base 4 "as_ratio" (spP C RAs)) (t_add : Met P w C mg base 5 0 "__add__" (spP C RAdd)) :
    FnOk P w C.K mg base CX0 6 f fd ["self", "other"] (spP C RRadd) := by
  refine fnP Fn sc_Ratio_radd (fun ds d h => by obtain ⟨i, t, b, rfl, _⟩ := h; rfl) ?_
  rintro ds d ⟨i, t, b, rfl, b0, b1, rfl⟩ cdv A outer s H E hr
  refine ds_ifr (dt_not (dt_val (de_call c_is_fraction (da_cons (de_var (j := 1) rfl) da_nil) ⟨_, rfl, rfl, rfl⟩))) (fun h => nomatch h) (fun h => ?_)
  exact ds_ret (de_op (de_call c_as_ratio (da_cons (de_var (j := 1) rfl) da_nil) ⟨_, i, 1, rfl, .inl ⟨rfl, rfl⟩, rfl⟩) (de_var (j := 0) rfl) (od_binS T.opf t_add (by decide +kernel) (Nat.le_of_ble_eq_true rfl) ⟨_, i, 1, t, b, rfl, fine1 b0 b1, .inr ⟨rfl, b0, b1⟩, rfl⟩)) rfl
abbrev s_Ratio_rsub : Stmt := inClass (topS 17) 6
theorem sc_Ratio_rsub : FnScope ["self", "other"] ["self", "other"] (defScope s_Ratio_rsub) := ⟨rfl, rfl, rfl, by decide +kernel, rfl, by decide +kernel, by decide +kernel⟩

def RRsub : List D → D → Prop := fun ds d => ∃ i t b, ds = [rat t b, .int i] ∧ 0 < b ∧ b < 1073741824 ∧ d = ratOf (i * b - t * 1) (1 * b)
theorem ok_Ratio_rsub {f : Addr} {fd : FuncData} (Fn : Fun C.K "__rsub__" "Ratio.__rsub__" s_Ratio_rsub f fd) (T : Txt C mg) (c_is_fraction : Cal P w C mg base 2 "is_fraction" (spP C RIsFr)) (c_as_ratio : Cal P w C mg base 4 "as_ratio" (spP C RAs)) (t_sub : Met P w C mg base 5 0 "__sub__" (spP C RSub)) :
    FnOk P w C.K mg base CX0 6 f fd ["self", "other"] (spP C RRsub) := by
  refine fnP Fn sc_Ratio_rsub (fun ds d h => by obtain ⟨i, t, b, rfl, _⟩ := h; rfl) ?_
  rintro ds d ⟨i, t, b, rfl, b0, b1, rfl⟩ cdv A outer s H E hr
  refine ds_ifr (dt_not (dt_val (de_call c_is_fraction (da_cons (de_var (j := 1) rfl) da_nil) ⟨_, rfl, rfl, rfl⟩))) (fun h => nomatch h) (fun h => ?_)
  exact ds_ret (de_op (de_call c_as_ratio (da_cons (de_var (j := 1) rfl) da_nil) ⟨_, i, 1, rfl, .inl ⟨rfl, rfl⟩, rfl⟩) (de_var (j := 0) rfl) (od_binS T.opf t_sub (by decide +kernel) (Nat.le_of_ble_eq_true rfl) ⟨_, i, 1, t, b, rfl, fine1 b0 b1, .inr ⟨rfl, b0, b1⟩, rfl⟩)) rfl
abbrev s_Ratio_rmul : Stmt := inClass (topS 17) 8
theorem sc_Ratio_rmul : FnScope ["self", "other"] ["self", "other"] (defScope s_Ratio_rmul) := ⟨rfl, rfl, rfl, by decide +kernel, rfl, by decide +kernel, by decide +kernel⟩

def RRmul : List D → D → Prop := fun ds d => ∃ i t b, ds = [rat t b, .int i] ∧ 0 < b ∧ b < 1073741824 ∧ -18446744073709551616 < i ∧ i < 18446744073709551616 ∧ d = ratOf (i * t) (1 * b)
theorem ok_Ratio_rmul {f : Addr} {fd : FuncData} (Fn : Fun C.K "__rmul__" "Ratio.__rmul__" s_Ratio_rmul f fd) (T : Txt C mg) (c_is_fraction : Cal P w C mg base 2 "is_fraction" (spP C RIsFr)) (c_as_ratio : Cal P w C mg base 4 "as_ratio" (spP C RAs)) (t_mul : Met P w C mg base 5 0 "__mul__" (spP C RMul)) :
    FnOk P w C.K mg base CX0 6 f fd ["self", "other"] (spP C RRmul) := by
  refine fnP Fn sc_Ratio_rmul (fun ds d h => by obtain ⟨i, t, b, rfl, _⟩ := h; rfl) ?_
  rintro ds d ⟨i, t, b, rfl, b0, b1, i0, i1, rfl⟩ cdv A outer s H E hr
  refine ds_ifr (dt_not (dt_val (de_call c_is_fraction (da_cons (de_var (j := 1) rfl) da_nil) ⟨_, rfl, rfl, rfl⟩))) (fun h => nomatch h) (fun h => ?_)
  exact ds_ret (de_op (de_call c_as_ratio (da_cons (de_var (j := 1) rfl) da_nil) ⟨_, i, 1, rfl, .inl ⟨rfl, rfl⟩, rfl⟩) (de_var (j := 0) rfl) (od_binS T.opf t_mul (by decide +kernel) (Nat.le_of_ble_eq_true rfl) ⟨_, i, 1, t, b, rfl, fine1 b0 b1, .inr ⟨rfl, b0, b1⟩, i0, i1, rfl⟩)) rfl
end
end K1
namespace K1
open PySem L2 DL

/-! ### drawing -/
abbrev Bg := Int × Int × Int
def bagL (g : Bg) : List D := [.int g.1, .int g.2.1, .int g.2.2]
def draw (g : Bg) (w : Int) : Int × Bg :=
  if 0 < g.1 then (g.1 % w, (g.1 / w, g.2.1, g.2.2 + 1))
  else
    let c := g.2.2 + 1
    let held := g.2.1 + 104651 * c
    let s := (held * (held % 59981 + 40039) + 11 * c + 19) % 2147483549
    (s / 509 % w, (g.1, s, c))
theorem draw_pos {g : Bg} {w : Int} (h : 0 < g.1) : draw g w = (g.1 % w, (g.1 / w, g.2.1, g.2.2 + 1)) := by unfold draw; rw [if_pos h]
theorem draw_neg {g : Bg} {w : Int} (h : ¬ 0 < g.1) : draw g w = ((((g.2.1 + 104651 * (g.2.2 + 1)) * ((g.2.1 + 104651 * (g.2.2 + 1)) % 59981 + 40039) + 11 * (g.2.2 + 1) + 19) % 2147483549) / 509 % w, (g.1, ((g.2.1 + 104651 * (g.2.2 + 1)) * ((g.2.1 + 104651 * (g.2.2 + 1)) % 59981 + 40039) + 11 * (g.2.2 + 1) + 19) % 2147483549, g.2.2 + 1)) := by unfold draw; rw [if_neg h]
theorem draw_lo {g : Bg} {w : Int} (h : 0 < w) : 0 ≤ (draw g w).1 := by
  by_cases z : 0 < g.1
  · rw [draw_pos z]; exact Int.emod_nonneg _ (by omega)
  · rw [draw_neg z]; exact Int.emod_nonneg _ (by omega)
theorem draw_hi {g : Bg} {w : Int} (h : 0 < w) : (draw g w).1 < w := by
  by_cases z : 0 < g.1
  · rw [draw_pos z]; exact Int.emod_lt_of_pos _ h
  · rw [draw_neg z]; exact Int.emod_lt_of_pos _ h

section
variable {P : Program} {w : World} {C : Kc} {mg : Str → Option Value} {base : Heap}
abbrev s_law_draw : Stmt := topS 25
theorem sc_law_draw : FnScope ["_law_bag_here", "_law_wide", "_law_figure", "_law_held", "_law_times"] ["_law_bag_here", "_law_wide"] (defScope s_law_draw) := ⟨rfl, rfl, rfl, by decide +kernel, rfl, by decide +kernel, by decide +kernel⟩
def RDraw : List D → List D → D → List D → Prop := fun ds gs d gs' => ∃ (g : Bg) (w : Int), ds = [.int w] ∧ gs = bagL g ∧ 0 < w ∧ w < 1073741824 ∧ d = .int (draw g w).1 ∧ gs' = bagL (draw g w).2
theorem ok_law_draw {f : Addr} {fd : FuncData} (Fn : Fun C.K "_law_draw" "_law_draw" s_law_draw f fd) (T : Txt C mg) : FnOk P w C.K mg base CX0 1 f fd ["_law_bag_here", "_law_wide"] (spB C RDraw) := by
  refine fnB Fn sc_law_draw (fun ds gs d gs' h => by obtain ⟨g, w, rfl, _⟩ := h; rfl) ?_
  rintro ds gs d gs' ⟨g, wd, rfl, rfl, w0, w1, rfl, rfl⟩ bb cdv A outer s H E hr
  refine ds_bagSet (j := 0) (de_op (de_bagIx (j := 0) rfl de_int rfl rfl rfl) de_int od_add) rfl de_int rfl rfl ?_
  refine ds_ifr (dt_cmp (de_bagIx (j := 0) rfl de_int rfl rfl rfl) de_int od_gt) (fun h => ?_) (fun h => ?_)
  · have h' : 0 < g.1 := of_decide_eq_true h
    refine ds_set (j := 2) (de_op (de_callTy T.b_int bb_int (da_cons (de_bagIx (j := 0) rfl de_int rfl rfl rfl) da_nil) ca_int) (de_var (j := 1) rfl) (od_mod w0)) ?_
    refine ds_bagSet (j := 0) (de_op (de_bagIx (j := 0) rfl de_int rfl rfl rfl) (de_var (j := 1) rfl) (od_fdiv ⟨w0, w1⟩)) rfl de_int rfl rfl ?_
    refine ds_ret (de_var (j := 2) rfl) ?_
    rw [draw_pos h']
    exact ⟨rfl, rfl⟩
  · have h' : ¬ 0 < g.1 := of_decide_eq_false h
    refine ds_set (j := 3) (de_op (de_callTy T.b_int bb_int (da_cons (de_bagIx (j := 0) rfl de_int rfl rfl rfl) da_nil) ca_int) (de_op de_int (de_bagIx (j := 0) rfl de_int rfl rfl rfl) (od_mul (.inl ⟨by decide, by decide⟩))) od_add) ?_
    refine ds_set (j := 4) (de_op (de_op (de_callTy T.b_int bb_int (da_cons (de_var (j := 3) rfl) da_nil) ca_int) de_int (od_mod (by decide))) de_int od_add) ?_
    have t0 := Int.emod_nonneg (g.2.1 + 104651 * (g.2.2 + 1)) (show (59981 : Int) ≠ 0 by decide)
    have t1 := Int.emod_lt_of_pos (g.2.1 + 104651 * (g.2.2 + 1)) (show (0 : Int) < 59981 by decide)
    refine ds_bagSet (j := 0) (de_op (de_callTy T.b_int bb_int (da_cons (de_op (de_op (de_op (de_var (j := 3) rfl) (de_var (j := 4) rfl) (od_mul (.inr ⟨by omega, by omega⟩))) (de_op de_int (de_bagIx (j := 0) rfl de_int rfl rfl rfl) (od_mul (.inl ⟨by decide, by decide⟩))) od_add) de_int od_add) da_nil) ca_int) de_int (od_mod (by decide))) rfl de_int rfl rfl ?_
    refine ds_ret (de_op (de_op (de_callTy T.b_int bb_int (da_cons (de_bagIx (j := 0) rfl de_int rfl rfl rfl) da_nil) ca_int) de_int (od_fdiv ⟨by decide, by decide⟩)) (de_var (j := 1) rfl) (od_mod w0)) ?_
    rw [draw_neg h']
    exact ⟨rfl, rfl⟩

abbrev s_law_one : Stmt := topS 26
theorem sc_law_one : FnScope ["_law_bag_here", "_law_some"] ["_law_bag_here", "_law_some"] (defScope s_law_one) := ⟨rfl, rfl, rfl, by decide +kernel, rfl, by decide +kernel, by decide +kernel⟩
def pick (g : Bg) (n : Nat) : Nat := (draw g n).1.toNat
theorem pick_lt {g : Bg} {n : Nat} (h : 0 < n) : pick g n < n := by
  have h1 := draw_lo (g := g) (w := (n : Int)) (by omega)
  have h2 := draw_hi (g := g) (w := (n : Int)) (by omega)
  unfold pick
  omega
def ROne : List D → List D → D → List D → Prop := fun ds gs d gs' => ∃ (g : Bg) (xs : List D), ds = [.lst xs] ∧ gs = bagL g ∧ 0 < xs.length ∧ xs.length < 1000 ∧ d = xs.getD (pick g xs.length) .non ∧ gs' = bagL (draw g xs.length).2
theorem ok_law_one {f : Addr} {fd : FuncData} (Fn : Fun C.K "_law_one" "_law_one" s_law_one f fd) (T : Txt C mg) (c_draw : Cal P w C mg base 1 "_law_draw" (spB C RDraw)) : FnOk P w C.K mg base CX0 2 f fd ["_law_bag_here", "_law_some"] (spB C ROne) := by
  refine fnB Fn sc_law_one (fun ds gs d gs' h => by obtain ⟨g, w, rfl, _⟩ := h; rfl) ?_
  rintro ds gs d gs' ⟨g, xs, rfl, rfl, l0, l1, rfl, rfl⟩ bb cdv A outer s H E hr
  have hp := pick_lt (g := g) l0
  refine ds_ret (d := xs.getD (pick g xs.length) .non) (de_ix (de_var (j := 1) rfl) (de_callBag (j := 0) c_draw rfl rfl (da_cons (de_callB T.b_len bb_len (da_cons (de_var (j := 1) rfl) da_nil) ca_lenL) da_nil) rfl ⟨g, xs.length, rfl, rfl, by omega, by omega, rfl, rfl⟩) ?_) ⟨rfl, rfl⟩
  show atI xs (draw g xs.length).1 = some _
  have e : (draw g xs.length).1 = ((pick g xs.length : Nat) : Int) := by
    have := draw_lo (g := g) (w := (xs.length : Int)) (by omega)
    unfold pick
    omega
  rw [e]
  exact atI_nat (by rw [List.getElem?_eq_getElem hp, List.getD_eq_getElem?_getD, List.getElem?_eq_getElem hp]; rfl)

abbrev s_law_low : Stmt := topS 27
theorem sc_law_low : FnScope ["_law_upper", "_law_lower", "_law_left", "_law_right_here", "_law_by"] ["_law_upper", "_law_lower"] (defScope s_law_low) := ⟨rfl, rfl, rfl, by decide +kernel, rfl, by decide +kernel, by decide +kernel⟩
def lowT (n m : Int) : D := .tup [.int (n / (Int.gcd n m : Int)), .int (m / (Int.gcd n m : Int))]
def RLow : List D → D → Prop := fun ds d => ∃ a b : Int, ds = [.int a, .int b] ∧ 0 < b ∧ b < 1073741824 ∧ d = lowT a b
theorem ok_law_low {f : Addr} {fd : FuncData} (Fn : Fun C.K "_law_low" "_law_low" s_law_low f fd) (T : Txt C mg) : FnOk P w C.K mg base CX0 1 f fd ["_law_upper", "_law_lower"] (spP C RLow) := by
  refine fnP Fn sc_law_low (fun ds d h => by obtain ⟨x, y, rfl, _⟩ := h; rfl) ?_
  rintro ds d ⟨a, b, rfl, b0, b1, rfl⟩ cdv A outer s H E hr
  have gp := gcd_pos (t := a) b0
  have gl := gcd_le (t := a) b0
  refine ds_par (i := 2) (j := 3) (de_callB T.b_abs bb_abs (da_cons (de_var (j := 0) rfl) da_nil) ca_abs) (de_callB T.b_abs bb_abs (da_cons (de_var (j := 1) rfl) da_nil) ca_abs) ?_
  refine ds_while (fun S => ∃ h l : Int, S = ⟨[some (.imm (.int a)), some (.imm (.int b)), some (.imm (.int h)), some (.imm (.int l)), none], none⟩ ∧ 0 ≤ h ∧ 0 ≤ l ∧ Int.gcd h l = Int.gcd a b) (fun S => (gI S 3).toNat)
    (fun S => S = ⟨[some (.imm (.int a)), some (.imm (.int b)), some (.imm (.int (Int.gcd a b))), some (.imm (.int 0)), none], none⟩) ⟨_, _, rfl, ?_, ?_, ?_⟩ ?_ ?_
  · split <;> omega
  · split <;> omega
  · have e1 : ∀ x : Int, Int.natAbs (if x < 0 then -x else x) = Int.natAbs x := fun x => by split <;> omega
    unfold Int.gcd
    rw [e1, e1]
  · rintro _ ⟨h, l, rfl, h0, l0, hg⟩
    refine ⟨_, _, dt_cmp (de_var (j := 3) rfl) de_int od_gt, fun hk => ?_, fun hk => ?_⟩
    · have lp : 0 < l := by simpa using hk
      refine ds_par (i := 2) (j := 3) (de_var (j := 3) rfl) (de_op (de_callTy T.b_int bb_int (da_cons (de_var (j := 2) rfl) da_nil) ca_int) (de_var (j := 3) rfl) (od_mod lp)) ?_
      refine ds_nil ⟨⟨l, h % l, rfl, l0, Int.emod_nonneg _ (by omega), by rw [gcd_step h0 lp]; exact hg⟩, ?_⟩
      show (h % l).toNat < l.toNat
      have := Int.emod_lt_of_pos h lp
      have := Int.emod_nonneg h (show l ≠ 0 by omega)
      omega
    · have lz : l = 0 := by
        have : ¬ 0 < l := by simpa using hk
        omega
      subst lz
      have e : h = (Int.gcd a b : Int) := by
        rw [← hg, Int.gcd_zero_right]
        omega
      rw [← e]
  · rintro _ rfl
    refine ds_set (j := 4) (de_ifT (dt_is (dt_cmp (de_var (j := 1) rfl) de_int od_gt) (decide_eq_true b0)) (de_var (j := 2) rfl)) ?_
    exact ds_ret (de_tup (da_cons (de_op (de_var (j := 0) rfl) (de_var (j := 4) rfl) (od_fdiv ⟨gp, by omega⟩)) (da_cons (de_op (de_var (j := 1) rfl) (de_var (j := 4) rfl) (od_fdiv ⟨gp, by omega⟩)) da_nil)) (by show 2 ≤ sizeLine; decide)) rfl


/-! ### _law_bag -/
abbrev s_law_bag : Stmt := topS 24
theorem sc_law_bag : FnScope ["_law_script", "_law_k", "_law_held_cell", "_law_seed", "_law_this", "_law_figures"] ["_law_script", "_law_k"] (defScope s_law_bag) := ⟨rfl, rfl, rfl, by decide +kernel, rfl, by decide +kernel, by decide +kernel⟩
def RBag : List D → List D → Prop := fun ds gs => ∃ (is : List Int) (k : Int) (g : Bg), ds = [.lst (is.map D.int), .int k] ∧ 0 ≤ k ∧ k < 1000 ∧ gs = bagL g ∧ g = bagOf is k
where bagOf (is : List Int) (k : Int) : Bg :=
  let held := if k < is.length then is.getD k.toNat 0 else 0
  let seed := (is.take 7).foldl (fun s t => (s * 30491 + t % 1000121 + 17 * k) % 2147483549) (60029 * (k + 5))
  (bif (decide (held < 0) || decide (held ≥ 1000000000000000)) then (if held < 0 then -held else held) else 0, (seed + 40093 * (held % 999931)) % 2147483549, 0)
theorem take_one {α : Type} {l : List α} {i : Nat} {x : α} (h : l[i]? = some x) : l.take (i + 1) = l.take i ++ [x] := by
  rw [List.take_succ, h]; rfl
theorem cut7 {is : List Int} : cutD (is.map D.int) none (some 7) = (is.take 7).map D.int := by
  unfold cutD
  have e0 : HT.sIx (is.map D.int).length 0 none = 0 := rfl
  have e1 : HT.sIx (is.map D.int).length (is.map D.int).length (some 7) = min 7 (is.map D.int).length := HT.sIx_nat _ _ 7
  rw [e0, e1, List.drop_zero, Nat.sub_zero, List.map_take]
  rw [← List.take_take, List.take_length]
theorem ok_law_bag {f : Addr} {fd : FuncData} (Fn : Fun C.K "_law_bag" "_law_bag" s_law_bag f fd) (T : Txt C mg) : FnOk P w C.K mg base CX0 1 f fd ["_law_script", "_law_k"] (spO C RBag) := by
  refine fnO Fn sc_law_bag (fun ds es h => by obtain ⟨is, k, g, rfl, _⟩ := h; rfl) ?_
  rintro ds es ⟨is, k, g, rfl, k0, k1, rfl, rfl⟩ cdv A outer s H E hr
  have el : ((is.map D.int).length : Int) = is.length := by rw [List.length_map]
  have e0 : k < is.length → atI (is.map D.int) k = some (D.int (if k < is.length then is.getD k.toNat 0 else 0)) := fun h' => by
    rw [if_pos h']
    have e : k = ((k.toNat : Nat) : Int) := by omega
    conv => lhs; rw [e]
    refine atI_nat ?_
    have hl : k.toNat < is.length := by omega
    rw [List.getElem?_map, List.getElem?_eq_getElem hl, List.getD_eq_getElem?_getD, List.getElem?_eq_getElem hl]
    rfl
  refine ds_par (i := 2) (j := 3) (de_if (d := .int (if k < is.length then is.getD k.toNat 0 else 0)) (dt_cmp (de_var (j := 1) rfl) (de_callB T.b_len bb_len (da_cons (de_var (j := 0) rfl) da_nil) ca_lenL) od_lt) (fun h => de_callTy T.b_int bb_int (da_cons (de_ix (de_var (j := 0) rfl) (de_var (j := 1) rfl) (e0 (by rw [← el]; exact of_decide_eq_true h))) da_nil) ca_int) (fun h => (by rw [if_neg (show ¬ k < is.length by rw [← el]; exact of_decide_eq_false h)]; exact de_int))) (de_op de_int (de_op (de_var (j := 1) rfl) de_int od_add) (od_mul (.inl ⟨by decide, by decide⟩))) ?_
  refine ds_for (fun i S => ∃ t, S = ⟨[some (.imm (.lst (is.map D.int))), some (.imm (.int k)), some (.imm (.int (if k < is.length then is.getD k.toNat 0 else 0))), some (.imm (.int (((is.take 7).take i).foldl (fun s t => (s * 30491 + t % 1000121 + 17 * k) % 2147483549) (60029 * (k + 5))))), t, none], none⟩)
    (fun S => ∃ t, S = ⟨[some (.imm (.lst (is.map D.int))), some (.imm (.int k)), some (.imm (.int (if k < is.length then is.getD k.toNat 0 else 0))), some (.imm (.int ((is.take 7).foldl (fun s t => (s * 30491 + t % 1000121 + 17 * k) % 2147483549) (60029 * (k + 5))))), t, none], none⟩)
    (di_list (de_sliceL (de_var (j := 0) rfl) do_none (do_some de_int))) ⟨none, rfl⟩ ?_ ?_ ?_
  · rintro i _ d hd ⟨t, rfl⟩
    rw [cut7, List.getElem?_map] at hd
    cases q : (is.take 7)[i]? with
    | none => rw [q] at hd; cases hd
    | some x =>
      rw [q] at hd
      cases hd
      refine ⟨_, _, dg_name (j := 4), ds_set (j := 3) (de_op (de_callTy T.b_int bb_int (da_cons (de_op (de_op (de_op (de_var (j := 3) rfl) de_int (od_mul (.inr ⟨by decide, by decide⟩))) (de_op (de_callTy T.b_int bb_int (da_cons (de_var (j := 4) rfl) da_nil) ca_int) de_int (od_mod (by decide))) od_add) (de_op de_int (de_var (j := 1) rfl) (od_mul (.inl ⟨by decide, by decide⟩))) od_add) da_nil) ca_int) de_int (od_mod (by decide))) (ds_nil ⟨some (.imm (.int x)), ?_⟩)⟩
      rw [take_one q]
      show _ = ST.mk [_, _, _, some (.imm (.int (List.foldl _ _ (_ ++ [x])))), _, _] none
      rw [List.foldl_append]
      rfl
  · rintro _ ⟨t, rfl⟩
    refine ⟨t, ?_⟩
    rw [cut7, List.length_map, List.take_length]
  · rintro _ ⟨t, rfl⟩
    refine ds_set (j := 5) (de_iteI (dt_w (dw_or (dt_cmp (de_var (j := 2) rfl) de_int od_lt) (fun _ => (dw_or1 (dt_cmp (de_var (j := 2) rfl) (de_op de_int de_int od_pow15) od_ge))))) (fun _ => (de_callB T.b_abs bb_abs (da_cons (de_var (j := 2) rfl) da_nil) ca_abs)) (fun _ => de_int)) ?_
    exact ds_retO (do_lst (da_cons (de_var (j := 5) rfl) (da_cons (de_op (de_callTy T.b_int bb_int (da_cons (de_op (de_var (j := 3) rfl) (de_op de_int (de_op (de_callTy T.b_int bb_int (da_cons (de_var (j := 2) rfl) da_nil) ca_int) de_int (od_mod (by decide))) (od_mul (.inl ⟨by decide, by decide⟩))) od_add) da_nil) ca_int) de_int (od_mod (by decide))) (da_cons de_int da_nil))) (by show 3 ≤ sizeLine; decide)) rfl


theorem ca_allT {F : Fam} {ds : List D} : CaD F (.builtin "all") [.lst (ds.map fun _ => D.bl true)] (.bl true) := by
  have h := ca_all (F := F) (bs := ds.map fun _ => true)
  have e1 : (ds.map fun _ => true).map D.bl = ds.map fun _ => D.bl true := by rw [List.map_map]; rfl
  have e2 : (ds.map fun _ => true).all id = true := by rw [List.all_map]; simp
  rw [e1, e2] at h
  exact h
theorem init_is {t b x y : Int} (h0 : 0 < b) (h1 : b < 1073741824) (e1 : t / (Int.gcd t b : Int) = x) (e2 : b / (Int.gcd t b : Int) = y) : RInit [.int t, .int b] (ratF x y) := ⟨t, b, rfl, h0, h1, by rw [e1, e2]⟩
theorem getD_int {is : List Int} {n : Nat} (h : n < is.length) : (is.map D.int).getD n .non = .int (is.getD n 0) := by
  rw [List.getD_eq_getElem?_getD, List.getD_eq_getElem?_getD, List.getElem?_map, List.getElem?_eq_getElem h]; rfl
theorem one_int {g : Bg} {is : List Int} (l0 : 0 < is.length) (l1 : is.length < 1000) : ROne [.lst (is.map D.int)] (bagL g) (.int (is.getD (pick g is.length) 0)) (bagL (draw g is.length).2) := by
  have e : (is.map D.int).length = is.length := List.length_map ..
  refine ⟨g, is.map D.int, rfl, rfl, by rw [e]; exact l0, by rw [e]; exact l1, ?_, by rw [e]⟩
  rw [e, getD_int (pick_lt l0)]
end
/-! ### plain laws -/
theorem lowT_eq {n m n' m' : Int} (h1 : 0 < m) (h2 : 0 < m') (h : n * m' = n' * m) : lowT n m = lowT n' m' := by
  obtain ⟨e1, e2⟩ := M1.low_eq h1 h2 h
  unfold lowT
  rw [e1, e2]
theorem abs_le {q g a M : Int} (g0 : 0 < g) (e : a = q * g) (h1 : -M ≤ a) (h2 : a ≤ M) : -M ≤ q ∧ q ≤ M := by
  constructor
  · rcases Int.lt_or_le q (-M) with z | z
    · exfalso
      have : q * g ≤ q * 1 := Int.mul_le_mul_of_nonpos_left (by omega) (by omega)
      omega
    · exact z
  · rcases Int.lt_or_le M q with z | z
    · exfalso
      have : q * 1 ≤ q * g := Int.mul_le_mul_of_nonneg_left (by omega) (by omega)
      omega
    · exact z
def bI (b : Bool) : Int := bif b then 1 else 0
def orI (x y : Int) : Int := (if decide (x > y) = true then 1 else 0) - (if decide (x < y) = true then 1 else 0)
theorem orI_eq (x y : Int) : orI x y = ordI x y := by
  unfold orI ordI
  simp only [decide_eq_true_eq]
  split <;> split <;> split <;> omega
theorem ordI_scale {x y k : Int} (hk : 0 < k) : ordI (x * k) (y * k) = ordI x y := by
  unfold ordI
  by_cases e : x = y
  · rw [if_pos e, if_pos (by rw [e])]
  · have e' : ¬ x * k = y * k := fun z => e (Int.eq_of_mul_eq_mul_right (by omega) z)
    rw [if_neg e, if_neg e']
    by_cases l : x < y
    · rw [if_pos l, if_pos (Int.mul_lt_mul_of_pos_right l hk)]
    · rw [if_neg l, if_neg]
      intro z
      exact l (Int.lt_of_mul_lt_mul_right z (by omega))
theorem ordI_zero {x y : Int} : ordI x y = 0 ↔ x = y := by
  unfold ordI
  split
  · simp [*]
  · split <;> simp [*]
/-- the two fractions, with what their lowest terms are -/
structure Two (a b c d m n u v g h : Int) : Prop where
  ea : a = m * g
  eb : b = n * g
  ec : c = u * h
  ed : d = v * h
  g0 : 0 < g
  h0 : 0 < h
  n0 : 0 < n
  v0 : 0 < v
  n1 : n ≤ 60
  v1 : v ≤ 60
  m1 : -1000000000 ≤ m
  m2 : m ≤ 1000000000
  u1 : -1000000000 ≤ u
  u2 : u ≤ 1000000000
  m_ : a / (Int.gcd a b : Int) = m
  n_ : b / (Int.gcd a b : Int) = n
  u_ : c / (Int.gcd c d : Int) = u
  v_ : d / (Int.gcd c d : Int) = v
structure Bd (a b : Int) : Prop where
  a1 : -1000000000 ≤ a
  a2 : a ≤ 1000000000
  b1 : 1 ≤ b
  b2 : b ≤ 60
theorem two_of {a b c d : Int} (h1 : Bd a b) (h2 : Bd c d) : ∃ m n u v g h, Two a b c d m n u v g h := by
  have := h1.b1
  have := h1.b2
  have := h2.b1
  have := h2.b2
  obtain ⟨g, g0, ea, eb, n0, n1⟩ := M1.low_val (a := a) (b := b) (by omega)
  obtain ⟨h, h0, ec, ed, v0, v1⟩ := M1.low_val (a := c) (b := d) (by omega)
  obtain ⟨x1, x2⟩ := abs_le g0 ea h1.a1 h1.a2
  obtain ⟨x3, x4⟩ := abs_le h0 ec h2.a1 h2.a2
  exact ⟨_, _, _, _, g, h, ea, eb, ec, ed, g0, h0, n0, v0, by omega, by omega, x1, x2, x3, x4, rfl, rfl, rfl, rfl⟩
theorem Two.nv0 {a b c d m n u v g h : Int} (z : Two a b c d m n u v g h) : 0 < n * v := Int.mul_pos z.n0 z.v0
theorem Two.nv1 {a b c d m n u v g h : Int} (z : Two a b c d m n u v g h) : n * v ≤ 3600 := by
  have := Int.mul_le_mul z.n1 z.v1 (by have := z.v0; omega) (by decide)
  omega
theorem mul60 {b d : Int} (h1 : 1 ≤ b) (h2 : b ≤ 60) (h3 : 1 ≤ d) (h4 : d ≤ 60) : 0 < b * d ∧ b * d ≤ 3600 := by
  constructor
  · exact Int.mul_pos (by omega) (by omega)
  · have := Int.mul_le_mul h2 h4 (by omega) (by decide)
    omega
theorem Two.fine {a b c d m n u v g h : Int} (z : Two a b c d m n u v g h) : Fine n v := by
  have := z.n0; have := z.v0; have := z.n1; have := z.v1; have := z.nv0; have := z.nv1
  exact ⟨by omega, by omega, by omega, by omega, by omega, by omega⟩
theorem Two.ord {a b c d m n u v g h : Int} (z : Two a b c d m n u v g h) : orI (a * d) (c * b) = ordI (m * v) (u * n) := by
  rw [orI_eq, ← ordI_scale (x := m * v) (y := u * n) (k := g * h) (Int.mul_pos z.g0 z.h0)]
  have e1 : m * v * (g * h) = a * d := by rw [z.ea, z.ed]; grind
  have e2 : u * n * (g * h) = c * b := by rw [z.ec, z.eb]; grind
  rw [e1, e2]
theorem Two.same {a b c d m n u v g h : Int} (z : Two a b c d m n u v g h) (hb : 0 < b) (hd : 0 < d) : (m = u ∧ n = v) ↔ orI (a * d) (c * b) = 0 := by
  rw [z.ord, ordI_zero]
  constructor
  · rintro ⟨rfl, rfl⟩; rfl
  · intro e
    have e1 : a * d = c * b := by
      rw [z.ea, z.ed, z.ec, z.eb]
      have : m * v * (g * h) = u * n * (g * h) := by rw [e]
      grind
    obtain ⟨r1, r2⟩ := M1.low_eq hb hd e1
    rw [z.m_, z.u_] at r1
    rw [z.n_, z.v_] at r2
    exact ⟨r1, r2⟩
section
variable {F : Fam} {x y : D}
theorem od_neE (e : x = y) (h1 : okP x = true) (h3 : SeqAt.shaped (toP x) = true) : OpD F (compareOp .NotEq) x y (.bl false) := e ▸ od_neR h1 h3
theorem od_eqE (e : x = y) (h1 : okP x = true) (h3 : SeqAt.shaped (toP x) = true) : OpD F (compareOp .Eq) x y (.bl true) := e ▸ od_eqR h1 h3
end
/-- what the parts of a Ratio are -/
def parts : D → D
  | .obj _ [(_, t), (_, b)] => .tup [t, b]
  | x => x
def pr (a b : Int) : D := .tup [.int a, .int b]

end K1
namespace K1
open PySem L2 DL
theorem bb_str : bootBuiltins "str" = some (.type "str") := by decide +kernel
def pl : Str := "+"
def mi : Str := "-"
def raiF (p q : Int) (s : Str) : List (Str × D) := [("place", rat p q), ("side", .str s)]
def rai (p q : Int) (s : Str) : D := .obj 1 (raiF p q s)
structure Tx7 (C : Kc) (mg : Str → Option Value) : Prop where
  t : Txt C mg
  b_str : mg "str" = none
  gRa : mg "Raisin" = some (.ref (C.cl 1))
  ins : InsF C.K (C.cl 1)
  n_place : NoAttr C.K (C.cl 1) "place"
  n_side : NoAttr C.K (C.cl 1) "side"
  gS : ∃ a, mg "SIDES" = some (.ref a) ∧ ∀ G, Den C G (.ref a) (.tup [.str "-", .str "+"])
  kS : PySem.W.kitOne C.K (.type "str") (.ref (C.cl 1)) = some false
  ne : PySem.W.findIn C.K (.ref (C.cl 1)) "__ne__" = some (some (.builtin "object.__ne__"))
  nfR : PySem.W.notFirst C.K (C.cl 0) (.ref (C.cl 0)) = true
  nfA : PySem.W.notFirst C.K (C.cl 1) (.ref (C.cl 1)) = true
  nfS : PySem.W.notFirst C.K (C.cl 1) (.type "str") = true
theorem raiF_place {p q : Int} {s : Str} : (raiF p q s).lookup ("place" : Str) = some (rat p q) := by
  unfold raiF
  rw [List.lookup_cons, show (("place" : Str) == "place") = true by decide +kernel]
theorem raiF_side {p q : Int} {s : Str} : (raiF p q s).lookup ("side" : Str) = some (.str s) := by
  unfold raiF
  rw [List.lookup_cons, show (("side" : Str) == "place") = false by decide +kernel, List.lookup_cons, show (("side" : Str) == "side") = true by decide +kernel]
theorem raiF_put {p q : Int} {s : Str} : putD "side" (.str s) (putD "place" (rat p q) []) = raiF p q s := by
  show (if ("place" : Str) = "side" then _ else (("place" : Str), rat p q) :: putD "side" (.str s) []) = _
  rw [if_neg (by decide +kernel)]
  rfl
theorem put1 {p q : Int} : (putD "place" (rat p q) []).lookup ("place" : Str) = some (rat p q) := by
  show List.lookup _ [(("place" : Str), rat p q)] = _
  rw [List.lookup_cons, show (("place" : Str) == "place") = true by decide +kernel]
section
variable {P : Program} {w : World} {C : Kc} {mg : Str → Option Value} {base : Heap}
theorem gRa {S : ST} {F : Fam} {pos : Pos} (T : Tx7 F.C F.mg) (hg : ∀ i, Gl (F.X i) "Raisin" := by intro _; rfl) : DE F (.Name "Raisin" pos) S S (.cst (.ref (F.C.cl 1))) := de_glob T.gRa (v := .ref (F.C.cl 1)) rfl (fun _ => .cst _) hg
theorem gSides {S : ST} {F : Fam} {pos : Pos} (T : Tx7 F.C F.mg) (hg : ∀ i, Gl (F.X i) "SIDES" := by intro _; rfl) : DE F (.Name "SIDES" pos) S S (.tup [.str "-", .str "+"]) := by
  obtain ⟨a, h1, h2⟩ := T.gS
  exact de_glob h1 (v := .ref a) rfl h2 hg
theorem nO1 (T : Tx7 C mg) {p q : Int} {s : Str} : ∀ c fs, rai p q s = .obj c fs → InsF C.K (C.cl c) := by
  intro c fs h
  cases h
  exact T.ins
theorem nC1 {p q : Int} {s : Str} : ∀ v, rai p q s ≠ .cst v := by intro v h; cases h
theorem kAA {p q : Int} {s : Str} : PySem.W.kitOne C.K (tyD C (rai p q s)) (.ref (C.cl 1)) = some true := by
  show (if (Value.ref (C.cl 1) == Value.ref (C.cl 1)) = true then some true else _) = _
  rw [if_pos (by simp)]

/-! ### Raisin.__init__ -/
abbrev s_Raisin_init : Stmt := inClass (topS 20) 0
theorem sc_Raisin_init : FnScope ["self", "place", "side"] ["self", "place", "side"] (defScope s_Raisin_init) := ⟨rfl, rfl, rfl, by decide +kernel, rfl, by decide +kernel, by decide +kernel⟩
def RRai : List D → List (Str × D) → Prop := fun ds fs => ∃ x p q s, ds = [x, .str s] ∧ fr x p q ∧ 0 ≤ p ∧ (s = "+" ∨ (s = "-" ∧ 0 < p)) ∧ fs = raiF p q s
theorem ok_Raisin_init {f : Addr} {fd : FuncData} (Fn : Fun C.K "__init__" "Raisin.__init__" s_Raisin_init f fd) (T : Tx7 C mg) (c_is_fraction : Cal P w C mg base 2 "is_fraction" (spP C RIsFr)) (c_as_ratio : Cal P w C mg base 4 "as_ratio" (spP C RAs)) :
    FnOk P w C.K mg base CX0 5 f fd ["self", "place", "side"] (spI C 1 RRai) := by
  refine fnI Fn sc_Raisin_init (fun ds fs h => by obtain ⟨x, p, q, s, rfl, _⟩ := h; rfl) ?_
  rintro ds fs ⟨x, p, q, s, rfl, hx, hp, hs, rfl⟩ bb cdv A outer s' H E hr
  refine ds_ifr (dt_w (dw_or (dt_not (dt_val (de_call c_is_fraction (da_cons (de_var (j := 1) rfl) da_nil) ⟨x, rfl, hx.nice, rfl⟩))) (fun _ => (dw_or1 (dt_cmp (de_fld (de_call c_as_ratio (da_cons (de_var (j := 1) rfl) da_nil) ⟨x, p, q, rfl, hx, rfl⟩) T.t.ins.cl T.t.n_top ratF_top) de_int od_lt))))) (fun h => ?_) (fun _ => ?_)
  · exfalso
    rw [hx.is] at h
    have : p < 0 := by simpa using h
    omega
  refine ds_fld (j := 0) (de_call c_as_ratio (da_cons (de_var (j := 1) rfl) da_nil) ⟨x, p, q, rfl, hx, rfl⟩) rfl rfl T.ins.cl T.n_place ?_
  refine ds_ifr (k := false) (dt_is (dt_w (dw_or (dt_not (dt_val (de_callB T.t.b_isinstance bb_isinstance (da_cons (de_var (j := 2) rfl) (da_cons (de_bltn T.b_str bb_str (v := .ty "str") rfl) da_nil)) (ca_isi (.ty "str") (fun _ _ h => nomatch h) (fun _ h => nomatch h) (kit_ty (show kitB "str" "str" = some true by decide +kernel)))))) (fun _ => (dw_or (dt_cmp (de_var (j := 2) rfl) (gSides T) (od_ninS (ss := ["-", "+"]))) (fun _ => (dw_or1 (dt_w (dw_and (dt_cmp (de_var (j := 2) rfl) de_str od_eqS) (fun _ => (dw_and1 (dt_cmp (de_fld (de_fldB (j := 0) rfl rfl T.ins.cl T.n_place put1) T.t.ins.cl T.t.n_top ratF_top) de_int od_eqI))))))))))) ?_) (fun h => nomatch h) (fun _ => ?_)
  · rcases hs with rfl | ⟨rfl, h0⟩
    · have e : (!inV (.str "+") ((["-", "+"] : List Str).map V.str)) = false := by decide +kernel
      have e2 : decide (("+" : Str) = "-") = false := by decide +kernel
      rw [e, e2]
      rfl
    · have e : (!inV (.str "-") ((["-", "+"] : List Str).map V.str)) = false := by decide +kernel
      have e2 : decide (p = 0) = false := decide_eq_false (by omega)
      rw [e, e2, Bool.and_false]
      rfl
  refine ds_fld (j := 0) (de_var (j := 2) rfl) rfl rfl T.ins.cl T.n_side ?_ (by show 1 < 1000; decide)
  refine ds_nil ?_
  show some (bb, BG.ins 1 _) = some (bb, BG.ins 1 _)
  rw [raiF_put]

/-! ### raisin_order, compared, == -/
abbrev s_raisin_order : Stmt := topS 21
theorem sc_raisin_order : FnScope ["one", "two", "places"] ["one", "two"] (defScope s_raisin_order) := ⟨rfl, rfl, rfl, by decide +kernel, rfl, by decide +kernel, by decide +kernel⟩
def rOrd (p q : Int) (s : Str) (p' q' : Int) (s' : Str) : Int := if ordI (p * q') (p' * q) ≠ 0 ∨ s = s' then ordI (p * q') (p' * q) else if s = "-" then -1 else 1
def ROrdR : List D → D → Prop := fun ds d => ∃ p q s p' q' s', ds = [rai p q s, rai p' q' s'] ∧ 0 < q ∧ q < 1073741824 ∧ 0 < q' ∧ q' < 1073741824 ∧ d = .int (rOrd p q s p' q' s')
theorem ok_raisin_order {f : Addr} {fd : FuncData} (Fn : Fun C.K "raisin_order" "raisin_order" s_raisin_order f fd) (T : Tx7 C mg) (c_order_of : Cal P w C mg base 5 "order_of" (spP C ROrd)) : FnOk P w C.K mg base CX0 6 f fd ["one", "two"] (spP C ROrdR) := by
  refine fnP Fn sc_raisin_order (fun ds d h => by obtain ⟨_, _, _, _, _, _, rfl, _⟩ := h; rfl) ?_
  rintro ds d ⟨p, q, s, p', q', s', rfl, q0, q1, q0', q1', rfl⟩ cdv A outer s1 H E hr
  refine ds_set (j := 2) (de_call c_order_of (da_cons (de_fld (de_var (j := 0) rfl) T.ins.cl T.n_place raiF_place) (da_cons (de_fld (de_var (j := 1) rfl) T.ins.cl T.n_place raiF_place) da_nil)) ⟨_, _, p, q, p', q', rfl, .inr ⟨rfl, q0, q1⟩, .inr ⟨rfl, q0', q1'⟩, rfl⟩) ?_
  refine ds_ifr (dt_w (dw_or (dt_cmp (de_var (j := 2) rfl) de_int od_neI) (fun _ => (dw_or1 (dt_cmp (de_fld (de_var (j := 0) rfl) T.ins.cl T.n_side raiF_side) (de_fld (de_var (j := 1) rfl) T.ins.cl T.n_side raiF_side) od_eqS))))) (fun h => ?_) (fun h => ?_)
  · refine ds_ret (de_var (j := 2) rfl) ?_
    show D.int _ = D.int (rOrd p q s p' q' s')
    unfold rOrd
    rw [if_pos (by simpa using h)]
  · refine ds_ret (de_iteI (dt_cmp (de_fld (de_var (j := 0) rfl) T.ins.cl T.n_side raiF_side) de_str od_eqS) (fun _ => (de_un de_int ud_neg)) (fun _ => de_int)) ?_
    show D.int _ = D.int (rOrd p q s p' q' s')
    unfold rOrd
    have h' : ¬ (ordI (p * q') (p' * q) ≠ 0 ∨ s = s') := by simpa using h
    rw [if_neg h']
    by_cases z : s = "-"
    · rw [if_pos z, decide_eq_true z]; rfl
    · rw [if_neg z, decide_eq_false z]; rfl
abbrev s_Raisin_compared : Stmt := inClass (topS 20) 2
theorem sc_Raisin_compared : FnScope ["self", "value"] ["self", "value"] (defScope s_Raisin_compared) := ⟨rfl, rfl, rfl, by decide +kernel, rfl, by decide +kernel, by decide +kernel⟩
theorem ok_Raisin_compared {f : Addr} {fd : FuncData} (Fn : Fun C.K "compared" "Raisin.compared" s_Raisin_compared f fd) (T : Tx7 C mg) (c_order : Cal P w C mg base 6 "raisin_order" (spP C ROrdR)) : FnOk P w C.K mg base CX0 7 f fd ["self", "value"] (spP C ROrdR) := by
  refine fnP Fn sc_Raisin_compared (fun ds d h => by obtain ⟨_, _, _, _, _, _, rfl, _⟩ := h; rfl) ?_
  rintro ds d ⟨p, q, s, p', q', s', rfl, q0, q1, q0', q1', rfl⟩ cdv A outer s1 H E hr
  refine ds_ifr (dt_not (dt_val (de_callB T.t.b_isinstance bb_isinstance (da_cons (de_var (j := 1) rfl) (da_cons (gRa T) da_nil)) (ca_isi (.own _) (nO1 T) nC1 kAA)))) (fun h => nomatch h) (fun _ => ?_)
  exact ds_ret (de_call c_order (da_cons (de_var (j := 0) rfl) (da_cons (de_var (j := 1) rfl) da_nil)) ⟨p, q, s, p', q', s', rfl, q0, q1, q0', q1', rfl⟩) rfl
abbrev s_Raisin_eq : Stmt := inClass (topS 20) 3
theorem sc_Raisin_eq : FnScope ["self", "other"] ["self", "other"] (defScope s_Raisin_eq) := ⟨rfl, rfl, rfl, by decide +kernel, rfl, by decide +kernel, by decide +kernel⟩
def REqR : List D → D → Prop := fun ds d => ∃ p q s, 0 < q ∧ q < 1073741824 ∧ ((∃ p' q' s', ds = [rai p q s, rai p' q' s'] ∧ 0 < q' ∧ q' < 1073741824 ∧ d = .bl ((decide (p = p') && decide (q = q')) && decide (s = s'))) ∨ ∃ t, ds = [rai p q s, .str t] ∧ d = .bl false)
theorem ok_Raisin_eq {f : Addr} {fd : FuncData} (Fn : Fun C.K "__eq__" "Raisin.__eq__" s_Raisin_eq f fd) (T : Tx7 C mg) (t_eq : Met P w C mg base 5 0 "__eq__" (spP C REq)) : FnOk P w C.K mg base CX0 6 f fd ["self", "other"] (spP C REqR) := by
  refine fnP Fn sc_Raisin_eq (fun ds d h => by obtain ⟨_, _, _, _, _, ⟨_, _, _, rfl, _⟩ | ⟨_, rfl, _⟩⟩ := h <;> rfl) ?_
  rintro ds d ⟨p, q, s, q0, q1, ⟨p', q', s', rfl, q0', q1', rfl⟩ | ⟨t, rfl, rfl⟩⟩ cdv A outer s1 H E hr
  · exact ds_ret (de_and (de_callB T.t.b_isinstance bb_isinstance (da_cons (de_var (j := 1) rfl) (da_cons (gRa T) da_nil)) (ca_isi (.own _) (nO1 T) nC1 kAA)) (fun _ => (de_and (de_cmp (de_fld (de_var (j := 0) rfl) T.ins.cl T.n_place raiF_place) (de_fld (de_var (j := 1) rfl) T.ins.cl T.n_place raiF_place) (od_eqO t_eq (Nat.le_of_ble_eq_true rfl) (nO T.t rfl) (nC rfl) T.nfR ⟨_, p, q, rfl, .inl ⟨p', q', .inr ⟨rfl, q0', q1'⟩, rfl⟩⟩)) (fun _ => (de_one (de_cmp (de_fld (de_var (j := 0) rfl) T.ins.cl T.n_side raiF_side) (de_fld (de_var (j := 1) rfl) T.ins.cl T.n_side raiF_side) od_eqS)))))) rfl
  · exact ds_ret (de_and (k := false) (l := false) (de_callB T.t.b_isinstance bb_isinstance (da_cons (de_var (j := 1) rfl) (da_cons (gRa T) da_nil)) (ca_isi (.own _) (fun _ _ h => nomatch h) (fun _ h => nomatch h) T.kS)) (fun h => nomatch h)) rfl

/-! ### texts -/
abbrev s_Ratio_str : Stmt := inClass (topS 17) 11
theorem sc_Ratio_str : FnScope ["self"] ["self"] (defScope s_Ratio_str) := ⟨rfl, rfl, rfl, by decide +kernel, rfl, by decide +kernel, by decide +kernel⟩
def tx (i : Int) : Str := toString i
def ratT (p q : Int) : Str := if q = 1 then tx p else Str.empty ++ tx p ++ "/" ++ tx q
theorem tx_len {i : Int} (h0 : 0 ≤ i) (h1 : i < 60) : (tx i).length ≤ 2 := by
  obtain ⟨n, rfl⟩ := Int.eq_ofNat_of_zero_le h0
  have : ∀ n : Fin 60, (tx (n.val : Int)).length ≤ 2 := by decide +kernel
  exact this ⟨n, by omega⟩
theorem lg {i : Int} (h0 : 0 ≤ i) (h1 : i < 60) : i.natAbs.log2 < 1920 := Nat.lt_of_le_of_lt (Nat.log2_le_self _) (by omega)
theorem Str.len_app (a b : Str) : (a ++ b).length = a.length + b.length := by
  show (a.cps ++ b.cps).size = _
  rw [Array.size_append]; rfl
theorem ratT_len {p q : Int} (h0 : 0 ≤ p) (h1 : p < 60) (h2 : 0 ≤ q) (h3 : q < 60) : (ratT p q).length ≤ 5 := by
  have a := tx_len h0 h1
  have b := tx_len h2 h3
  unfold ratT
  split
  · omega
  · rw [Str.len_app, Str.len_app, Str.len_app]
    have e1 : Str.empty.length = 0 := rfl
    have e2 : ("/" : Str).length = 1 := by decide +kernel
    omega
def RStr : List D → D → Prop := fun ds d => ∃ p q, ds = [rat p q] ∧ 0 ≤ p ∧ p < 60 ∧ 0 < q ∧ q < 60 ∧ d = .str (ratT p q)
theorem sl_le {n : Nat} (h : n ≤ 100) : n ≤ sizeLine := Nat.le_trans h (by decide)
theorem ok_Ratio_str {f : Addr} {fd : FuncData} (Fn : Fun C.K "__str__" "Ratio.__str__" s_Ratio_str f fd) (T : Tx7 C mg) : FnOk P w C.K mg base CX0 1 f fd ["self"] (spP C RStr) := by
  refine fnP Fn sc_Ratio_str (fun ds d h => by obtain ⟨_, _, rfl, _⟩ := h; rfl) ?_
  rintro ds d ⟨p, q, rfl, p0, p1, q0, q1, rfl⟩ cdv A outer s1 H E hr
  have a := tx_len p0 p1
  have b := tx_len (by omega) q1
  have e1 : Str.empty.length = 0 := rfl
  have e2 : ("/" : Str).length = 1 := by decide +kernel
  refine ds_ifr (dt_cmp (de_fld (de_var (j := 0) rfl) T.t.ins.cl T.t.n_bottom ratF_bottom) de_int od_eqI) (fun h => ?_) (fun h => ?_)
  · refine ds_ret (de_join1 (de_fmtI (de_fld (de_var (j := 0) rfl) T.t.ins.cl T.t.n_top ratF_top) (lg p0 p1))) ?_
    show D.str (tx p) = D.str (ratT p q)
    unfold ratT
    rw [if_pos (of_decide_eq_true h)]
  · refine ds_ret (de_join (dj_cons (de_fmtI (de_fld (de_var (j := 0) rfl) T.t.ins.cl T.t.n_top ratF_top) (lg p0 p1)) ?_ (dj_cons de_str ?_ (dj_cons (de_fmtI (de_fld (de_var (j := 0) rfl) T.t.ins.cl T.t.n_bottom ratF_bottom) (lg (by omega) q1)) ?_ dj_nil)))) ?_
    · show (Str.empty ++ tx p).length ≤ _
      rw [Str.len_app]; exact sl_le (by omega)
    · show (Str.empty ++ tx p ++ ("/" : Str)).length ≤ _
      rw [Str.len_app, Str.len_app]; exact sl_le (by omega)
    · show (Str.empty ++ tx p ++ ("/" : Str) ++ tx q).length ≤ _
      rw [Str.len_app, Str.len_app, Str.len_app]; exact sl_le (by omega)
    · show D.str (Str.empty ++ tx p ++ "/" ++ tx q) = D.str (ratT p q)
      unfold ratT
      rw [if_neg (of_decide_eq_false h)]
abbrev s_Raisin_str : Stmt := inClass (topS 20) 4
theorem sc_Raisin_str : FnScope ["self"] ["self"] (defScope s_Raisin_str) := ⟨rfl, rfl, rfl, by decide +kernel, rfl, by decide +kernel, by decide +kernel⟩
def raiT (p q : Int) (s : Str) : Str := Str.empty ++ ratT p q ++ s
def RStrR : List D → D → Prop := fun ds d => ∃ p q s, ds = [rai p q s] ∧ 0 ≤ p ∧ p < 60 ∧ 0 < q ∧ q < 60 ∧ s.length = 1 ∧ d = .str (raiT p q s)
theorem ok_Raisin_str {f : Addr} {fd : FuncData} (Fn : Fun C.K "__str__" "Raisin.__str__" s_Raisin_str f fd) (T : Tx7 C mg) (t_str : Met P w C mg base 1 0 "__str__" (spP C RStr)) : FnOk P w C.K mg base CX0 4 f fd ["self"] (spP C RStrR) := by
  refine fnP Fn sc_Raisin_str (fun ds d h => by obtain ⟨_, _, _, rfl, _⟩ := h; rfl) ?_
  rintro ds d ⟨p, q, s, rfl, p0, p1, q0, q1, hs, rfl⟩ cdv A outer s1 H E hr
  have a := ratT_len p0 p1 (Int.le_of_lt q0) q1
  have e1 : Str.empty.length = 0 := rfl
  refine ds_ret (de_join (dj_cons (de_fmtS (de_callTy T.b_str bb_str (da_cons (de_fld (de_var (j := 0) rfl) T.ins.cl T.n_place raiF_place) da_nil) (ca_strO t_str (Nat.le_of_ble_eq_true rfl) ⟨p, q, rfl, p0, p1, q0, q1, rfl⟩)) (sl_le (by omega))) ?_ (dj_cons (de_fmtS (de_fld (de_var (j := 0) rfl) T.ins.cl T.n_side raiF_side) (sl_le (by omega))) ?_ dj_nil))) rfl
  · rw [Str.len_app]; exact sl_le (by omega)
  · rw [Str.len_app, Str.len_app]; exact sl_le (by omega)
end
end K1
namespace K1
open PySem L2 DL

/-! ### plain laws -/
abbrev It := Int × Int × Str
structure ItOk (t : It) : Prop where
  p0 : 0 ≤ t.1
  p1 : t.1 < 60
  q0 : 0 < t.2.1
  q1 : t.2.1 < 60
  g : Int.gcd t.1 t.2.1 = 1
  s : t.2.2 = "+" ∨ (t.2.2 = "-" ∧ 0 < t.1)
def itD (t : It) : D := .lst [.tup [.int t.1, .int t.2.1], .str t.2.2]
def raD (t : It) : D := rai t.1 t.2.1 t.2.2
def mkR : D → D
  | .lst [.tup [.int p, .int q], .str s] => rai p q s
  | x => x
def sgn : List Str := ["+", "-"]
def sgnS (g : Bg) : Str := sgn.getD (pick g 2) "+"
theorem sgnS_is (g : Bg) : sgnS g = "+" ∨ sgnS g = "-" := by
  have h := pick_lt (g := g) (n := 2) (by decide)
  unfold sgnS
  generalize pick g 2 = n at h ⊢
  match n, h with
  | 0, _ => exact .inl rfl
  | 1, _ => exact .inr rfl
def loI (g : Bg) : Int := [1, 1, 2, 3, 7, 30].getD (pick g 6) 0
theorem loI_is (g : Bg) : 1 ≤ loI g ∧ loI g ≤ 30 := by
  have h := pick_lt (g := g) (n := 6) (by decide)
  unfold loI
  generalize pick g 6 = n at h ⊢
  match n, h with
  | 0, _ => decide
  | 1, _ => decide
  | 2, _ => decide
  | 3, _ => decide
  | 4, _ => decide
  | 5, _ => decide
/-- the hand and the bag behind it -/
def hg (up : Int) (g : Bg) : Str × Bg := if up = 0 then ("+", g) else (sgnS g, (draw g 2).2)
def old (i : Nat) (l : List It) : It := l.getD (i - 4) (0, 1, "+")
def far (i : Nat) (l : List It) : Bool := decide ((i : Int) > 4) && decide ((old i l).1 > 0)
def upD (g : Bg) : Int := (draw g 60).1
def g1 (g : Bg) : Bg := (draw g 60).2
def g2' (g : Bg) : Bg := (draw (g1 g) 6).2
def lowP (n m : Int) : Int × Int := (n / (Int.gcd n m : Int), m / (Int.gcd n m : Int))
def stepI (i : Nat) (l : List It) (g : Bg) : It × Bg :=
  let a := hg (upD g) (g2' g)
  if far i l = true then (((old i l).1, (old i l).2.1, sgnS a.2), (draw a.2 2).2)
  else (((lowP (upD g) (loI (g1 g))).1, (lowP (upD g) (loI (g1 g))).2, a.1), a.2)
theorem gcd_low {a b : Int} (hb : 0 < b) : Int.gcd (a / (Int.gcd a b : Int)) (b / (Int.gcd a b : Int)) = 1 := by
  have h : 0 < Int.gcd a b := Nat.pos_of_ne_zero fun e => by have := (Int.gcd_eq_zero_iff.mp e).2; omega
  exact Int.gcd_ediv_gcd_ediv_gcd h
theorem lowP_ok {n m : Int} {s : Str} (n0 : 0 ≤ n) (n1 : n < 60) (m0 : 1 ≤ m) (m1 : m ≤ 30) (hs : s = "+" ∨ (s = "-" ∧ 0 < n)) : ItOk ((lowP n m).1, (lowP n m).2, s) := by
  obtain ⟨g, g0, en, em, b0, b1⟩ := M1.low_val (a := n) (b := m) (by omega)
  have p0 : 0 ≤ n / (Int.gcd n m : Int) := Int.ediv_nonneg n0 (by omega)
  have p1 := (abs_le (M := n) g0 en (by omega) (by omega)).2
  refine ⟨p0, by show n / (Int.gcd n m : Int) < 60; omega, b0, by show m / (Int.gcd n m : Int) < 60; omega, gcd_low (by omega), ?_⟩
  rcases hs with h | ⟨h, h1⟩
  · exact .inl h
  · refine .inr ⟨h, ?_⟩
    show 0 < n / (Int.gcd n m : Int)
    rcases Int.lt_or_eq_of_le p0 with z | z
    · exact z
    · exfalso
      rw [← z, Int.zero_mul] at en
      omega
theorem step_ok {i : Nat} {l : List It} (g : Bg) (hl : l.length = i) (h : ∀ t ∈ l, ItOk t) : ItOk (stepI i l g).1 := by
  unfold stepI
  by_cases hf : far i l = true
  · simp only [hf, if_true]
    unfold far at hf
    rw [Bool.and_eq_true, decide_eq_true_eq, decide_eq_true_eq] at hf
    have hi : i - 4 < l.length := by omega
    have e : old i l = l[i - 4] := by unfold old; rw [List.getD_eq_getElem?_getD, List.getElem?_eq_getElem hi]; rfl
    have o := h (old i l) (by rw [e]; exact List.getElem_mem hi)
    refine ⟨o.p0, o.p1, o.q0, o.q1, o.g, ?_⟩
    rcases sgnS_is (hg (upD g) (g2' g)).2 with z | z
    · exact .inl z
    · exact .inr ⟨z, hf.2⟩
  · rw [if_neg hf]
    have a0 := draw_lo (g := g) (w := 60) (by decide)
    have a1 := draw_hi (g := g) (w := 60) (by decide)
    obtain ⟨b0, b1⟩ := loI_is (g1 g)
    refine lowP_ok a0 a1 b0 b1 ?_
    unfold hg
    by_cases hu : upD g = 0
    · rw [if_pos hu]; exact .inl rfl
    · rw [if_neg hu]
      rcases sgnS_is (g2' g) with z | z
      · exact .inl z
      · exact .inr ⟨z, by have : upD g = (draw g 60).1 := rfl; omega⟩
def fin : Nat → Bg → List It × Bg
  | 0, g => ([], g)
  | n + 1, g => ((fin n g).1 ++ [(stepI n (fin n g).1 (fin n g).2).1], (stepI n (fin n g).1 (fin n g).2).2)
theorem fin_ok (g : Bg) : ∀ n, (fin n g).1.length = n ∧ ∀ t ∈ (fin n g).1, ItOk t
  | 0 => ⟨rfl, fun t h => nomatch h⟩
  | n + 1 => by
    obtain ⟨h1, h2⟩ := fin_ok g n
    refine ⟨by show ((fin n g).1 ++ [_]).length = _; rw [List.length_append, h1]; rfl, fun t ht => ?_⟩
    have ht' : t ∈ (fin n g).1 ++ [(stepI n (fin n g).1 (fin n g).2).1] := ht
    rcases List.mem_append.mp ht' with z | z
    · exact h2 t z
    · rw [List.mem_singleton.mp z]
      exact step_ok _ h1 h2
def lineT (p q : Int) (s : Str) : Str := tx p ++ (bif decide (q > 1) then "/" ++ tx q else "") ++ s
theorem Str.app_assoc (a b c : Str) : a ++ b ++ c = a ++ (b ++ c) := by
  show Str.mk (a.cps ++ b.cps ++ c.cps) = Str.mk (a.cps ++ (b.cps ++ c.cps))
  rw [Array.append_assoc]
theorem Str.app_empty (a : Str) : a ++ ("" : Str) = a := by
  show Str.mk (a.cps ++ (("" : Str)).cps) = a
  have e : (("" : Str)).cps = #[] := by decide +kernel
  rw [e, Array.append_empty]
theorem Str.empty_app (a : Str) : Str.empty ++ a = a := by
  show Str.mk (Str.empty.cps ++ a.cps) = a
  have e : Str.empty.cps = #[] := rfl
  rw [e, Array.empty_append]
theorem line_eq {p q : Int} {s : Str} (hq : 0 < q) : raiT p q s = lineT p q s := by
  unfold raiT lineT ratT
  rw [Str.empty_app]
  by_cases h : q = 1
  · rw [if_pos h, decide_eq_false (by omega)]
    show tx p ++ s = tx p ++ ("" : Str) ++ s
    rw [Str.app_empty]
  · rw [if_neg h, decide_eq_true (by omega), Str.empty_app]
    show tx p ++ "/" ++ tx q ++ s = tx p ++ ("/" ++ tx q) ++ s
    rw [Str.app_assoc (tx p)]
def sidI (p q : Int) (s : Str) (p' q' : Int) (s' : Str) : Int := bif decide (p * q' - p' * q = 0) then (if decide (s = "+") = true then 1 else 0) - (if decide (s' = "+") = true then 1 else 0) else p * q' - p' * q
def dueI (p q : Int) (s : Str) (p' q' : Int) (s' : Str) : Int := (if decide (sidI p q s p' q' s' > 0) = true then 1 else 0) - (if decide (sidI p q s p' q' s' < 0) = true then 1 else 0)
theorem pm : ("-" : Str) ≠ "+" := by decide +kernel
theorem due_ord {t t' : It} (h : ItOk t) (h' : ItOk t') : rOrd t.1 t.2.1 t.2.2 t'.1 t'.2.1 t'.2.2 = dueI t.1 t.2.1 t.2.2 t'.1 t'.2.1 t'.2.2 := by
  obtain ⟨p, q, s⟩ := t
  obtain ⟨p', q', s'⟩ := t'
  show rOrd p q s p' q' s' = dueI p q s p' q' s'
  have hs : s = "+" ∨ s = "-" := h.s.imp id And.left
  have hs' : s' = "+" ∨ s' = "-" := h'.s.imp id And.left
  unfold rOrd dueI sidI ordI
  by_cases e : p * q' = p' * q
  · have e2 : p * q' - p' * q = 0 := by omega
    rw [e2]
    simp only [e, if_true, decide_true, cond_true, ne_eq, not_true, false_or, decide_eq_true_eq]
    rcases hs with rfl | rfl <;> rcases hs' with rfl | rfl <;> simp [pm, pm.symm]
  · have e2 : ¬ p * q' - p' * q = 0 := by omega
    rw [decide_eq_false e2]
    simp only [if_neg e, cond_false, decide_eq_true_eq]
    by_cases l : p * q' < p' * q
    · simp only [if_pos l]
      rw [if_pos (Or.inl (by decide)), if_neg (by omega), if_pos (by omega)]
      rfl
    · simp only [if_neg l]
      rw [if_pos (Or.inl (by decide)), if_pos (by omega), if_neg (by omega)]
      rfl
theorem due_eq {t t' : It} (h : ItOk t) (h' : ItOk t') : ((decide (t.1 = t'.1) && decide (t.2.1 = t'.2.1)) && decide (t.2.2 = t'.2.2)) = decide (dueI t.1 t.2.1 t.2.2 t'.1 t'.2.1 t'.2.2 = 0) := by
  rw [← due_ord h h']
  have hx : (t.1 = t'.1 ∧ t.2.1 = t'.2.1) ↔ t.1 * t'.2.1 = t'.1 * t.2.1 := by
    constructor
    · rintro ⟨e1, e2⟩; rw [e1, e2]
    · intro e
      obtain ⟨r1, r2⟩ := M1.low_eq h.q0 h'.q0 e
      rw [h.g, h'.g] at r1 r2
      exact ⟨by simpa using r1, by simpa using r2⟩
  rw [← Bool.decide_and, ← Bool.decide_and]
  refine decide_eq_decide.mpr ?_
  rw [hx]
  unfold rOrd
  by_cases e : t.1 * t'.2.1 = t'.1 * t.2.1
  · have o : ordI (t.1 * t'.2.1) (t'.1 * t.2.1) = 0 := ordI_zero.mpr e
    rw [o]
    by_cases es : t.2.2 = t'.2.2
    · simp [e, es]
    · simp only [ne_eq, not_true, false_or, es, if_false]
      constructor
      · rintro ⟨_, z⟩; exact z.elim
      · intro z; split at z <;> cases z
  · have o : ordI (t.1 * t'.2.1) (t'.1 * t.2.1) ≠ 0 := fun z => e (ordI_zero.mp z)
    rw [if_pos (Or.inl o)]
    exact ⟨fun z => absurd z.1 e, fun z => absurd z o⟩
end K1
namespace K1
open PySem L2 DL
section
variable {P : Program} {w : World} {C : Kc} {mg : Str → Option Value} {base : Heap}
abbrev s_law_right : Stmt := topS 28
def N7 : List Str := ["_law_bag_here", "_law_some", "_law_turn", "_law_upper", "_law_lower", "_law_spot", "_law_hand", "_law_made", "_law_k", "_law_line", "_law_j", "_law_cross", "_law_sides_here", "_law_due", "_law_each"]
theorem sc_law_right : FnScope ["_law_bag_here", "_law_some", "_law_turn", "_law_upper", "_law_lower", "_law_spot", "_law_hand", "_law_made", "_law_k", "_law_line", "_law_j", "_law_cross", "_law_sides_here", "_law_due", "_law_each"] ["_law_bag_here"] (defScope s_law_right) := ⟨rfl, rfl, rfl, by decide +kernel, rfl, by decide +kernel, by decide +kernel⟩
structure Met7 (P : Program) (w : World) (C : Kc) (mg : Str → Option Value) (base : Heap) : Prop where
  mR : Mak P w C mg base 2 "Ratio" 0 RInit []
  mA : Mak P w C mg base 5 "Raisin" 1 RRai []
  mK : MakK P w C mg base 5 "Raisin" 1 RRai ["side", "place"] [1, 0]
  cmp : Met P w C mg base 7 1 "compared" (spP C ROrdR)
  cmpK : MetK P w C mg base 7 1 "compared" (spP C ROrdR) ["value"] [0]
  eq : Met P w C mg base 6 1 "__eq__" (spP C REqR)
  str : Met P w C mg base 4 1 "__str__" (spP C RStrR)
theorem getD_str {is : List Str} {n : Nat} (h : n < is.length) : (is.map D.str).getD n .non = .str (is.getD n "+") := by
  rw [List.getD_eq_getElem?_getD, List.getD_eq_getElem?_getD, List.getElem?_map, List.getElem?_eq_getElem h]; rfl
theorem one_str {g : Bg} : ROne [.lst [.str "+", .str "-"]] (bagL g) (.str (sgnS g)) (bagL (draw g 2).2) := by
  refine ⟨g, [.str "+", .str "-"], rfl, rfl, by show 0 < 2; decide, by show 2 < 1000; decide, ?_, rfl⟩
  exact (getD_str (is := sgn) (pick_lt (g := g) (n := 2) (by decide))).symm
theorem it_get {its : List It} {i : Nat} (h : i < its.length) : ∃ p q s, (p, q, s) ∈ its ∧ itemD (.lst (its.map itD)) (0 + (i : Int)) = some (.lst [.tup [.int p, .int q], .str s]) ∧ itemD (.lst (its.map raD)) (0 + (i : Int)) = some (rai p q s) := by
  refine ⟨its[i].1, its[i].2.1, its[i].2.2, List.getElem_mem h, ?_, ?_⟩
  · show atI _ _ = _
    rw [Int.zero_add]
    exact atI_nat (by rw [List.getElem?_map, List.getElem?_eq_getElem h]; rfl)
  · show atI _ _ = _
    rw [Int.zero_add]
    exact atI_nat (by rw [List.getElem?_map, List.getElem?_eq_getElem h]; rfl)
theorem s_len {s : Str} {p : Int} (h : s = "+" ∨ (s = "-" ∧ 0 < p)) : s.length = 1 := by
  rcases h with rfl | ⟨rfl, _⟩ <;> decide +kernel
def cok (x : Str) : Bool := x.cps.all (· < 0x110000)
theorem cok_app {a b : Str} (h1 : cok a = true) (h2 : cok b = true) : cok (a ++ b) = true := by
  show (a.cps ++ b.cps).all (· < 0x110000) = true
  rw [Array.all_append]
  unfold cok at h1 h2
  rw [h1, h2]; rfl
theorem cok_tx {i : Int} (h0 : 0 ≤ i) (h1 : i < 60) : cok (tx i) = true := by
  obtain ⟨n, rfl⟩ := Int.eq_ofNat_of_zero_le h0
  have : ∀ n : Fin 60, cok (tx (n.val : Int)) = true := by decide +kernel
  exact this ⟨n, by omega⟩
theorem cok_s {s : Str} {p : Int} (h : s = "+" ∨ (s = "-" ∧ 0 < p)) : cok s = true := by
  rcases h with rfl | ⟨rfl, _⟩ <;> decide +kernel
theorem cok_rai {p q : Int} {s : Str} (h0 : 0 ≤ p) (h1 : p < 60) (h2 : 0 < q) (h3 : q < 60) (hs : cok s = true) : cok (raiT p q s) = true := by
  have a := cok_tx h0 h1
  have b := cok_tx (by omega) h3
  have e : cok Str.empty = true := by decide +kernel
  unfold raiT ratT
  refine cok_app (cok_app e ?_) hs
  split
  · exact a
  · exact cok_app (cok_app (cok_app e a) (by decide +kernel)) b
theorem sh4 {p q : Int} {s t : Str} (h1 : cok s = true) (h2 : cok t = true) : SeqAt.shaped (toP (D.lst [.int p, .int q, .str s, .str t])) = true := by
  show ((true && (true && (cok s && (cok t && true)))) && decide _) = true
  rw [h1, h2]
  rfl
def RRight7 : List D → List D → D → List D → Prop := fun ds gs d gs' => ∃ g : Bg, ds = [] ∧ gs = bagL g ∧ d = .bl true ∧ gs' = bagL (fin 8 g).2
theorem ok_law_right {f : Addr} {fd : FuncData} (Fn : Fun C.K "_law_right" "_law_right" s_law_right f fd) (T : Tx7 C mg) (M : Met7 P w C mg base) (c_draw : Cal P w C mg base 1 "_law_draw" (spB C RDraw)) (c_one : Cal P w C mg base 2 "_law_one" (spB C ROne)) (c_low : Cal P w C mg base 1 "_law_low" (spP C RLow)) :
    FnOk P w C.K mg base CX0 9 f fd ["_law_bag_here"] (spB C RRight7) := by
  refine fnB Fn sc_law_right (fun ds gs d gs' h => by obtain ⟨g, rfl, _⟩ := h; rfl) ?_
  rintro ds gs d gs' ⟨g, rfl, rfl, rfl, rfl⟩ bb cdv A outer s H E hr
  refine ds_setO (j := 1) (do_lst da_nil (by decide)) ?_ (by show 1 < 15; decide)
  refine ds_for (fun i S => ∃ a2 a3 a4 a5 a6, S = ⟨[some .bag, some (.own ((fin i g).1.map itD)), a2, a3, a4, a5, a6, none, none, none, none, none, none, none, none], some (bb, .lst (bagL (fin i g).2))⟩)
    (fun S => ∃ a2 a3 a4 a5 a6, S = ⟨[some .bag, some (.own ((fin 8 g).1.map itD)), a2, a3, a4, a5, a6, none, none, none, none, none, none, none, none], some (bb, .lst (bagL (fin 8 g).2))⟩)
    (di_range1 T.t.b_range de_int (by decide) (by decide)) ⟨none, none, none, none, none, rfl⟩ ?_ ?_ ?_
  · rintro i _ d hd ⟨a2, a3, a4, a5, a6, rfl⟩
    obtain ⟨hi, rfl⟩ := rangeD_get hd
    obtain ⟨hl, hok⟩ := fin_ok g i
    rw [show (fin (i + 1) g) = ((fin i g).1 ++ [(stepI i (fin i g).1 (fin i g).2).1], (stepI i (fin i g).1 (fin i g).2).2) from rfl]
    generalize (fin i g).1 = l at hl hok ⊢
    generalize (fin i g).2 = G at ⊢
    refine ⟨_, _, dg_name (j := 2), ?_⟩
    have a0 := draw_lo (g := G) (w := 60) (by decide)
    have a1 := draw_hi (g := G) (w := 60) (by decide)
    obtain ⟨b0, b1⟩ := loI_is (g1 G)
    refine ds_par (i := 3) (j := 4) (de_callBag (j := 0) c_draw rfl rfl (da_cons de_int da_nil) rfl ⟨G, 60, rfl, rfl, by decide, by decide, rfl, rfl⟩) (de_callBag (j := 0) c_one rfl rfl (da_cons (de_lst (da_cons de_int (da_cons de_int (da_cons de_int (da_cons de_int (da_cons de_int (da_cons de_int da_nil)))))) (by show 6 ≤ sizeLine; decide)) da_nil) rfl
      (one_int (g := g1 G) (is := [1, 1, 2, 3, 7, 30]) (by show 0 < 6; decide) (by show 6 < 1000; decide))) ?_
    refine ds_set (j := 5) (d := .tup [.int (lowP (upD G) (loI (g1 G))).1, .int (lowP (upD G) (loI (g1 G))).2]) (de_call c_low (da_cons (de_var (j := 3) rfl) (da_cons (de_var (j := 4) rfl) da_nil)) ⟨upD G, loI (g1 G), rfl, by omega, by omega, rfl⟩) ?_
    refine ds_set (j := 6) (d := .str (hg (upD G) (g2' G)).1) (S1 := ⟨[some .bag, some (.own (l.map itD)), some (.imm (.int (0 + (i : Int)))), some (.imm (.int (upD G))), some (.imm (.int (loI (g1 G)))), some (.imm (.tup [.int (lowP (upD G) (loI (g1 G))).1, .int (lowP (upD G) (loI (g1 G))).2])), a6, none, none, none, none, none, none, none, none], some (bb, .lst (bagL (hg (upD G) (g2' G)).2))⟩) ?_ ?_
    · by_cases hu : upD G = 0
      · have e : hg (upD G) (g2' G) = (("+" : Str), g2' G) := by unfold hg; rw [if_pos hu]
        rw [e]
        exact de_ifT (dt_is (dt_cmp (de_var (j := 3) rfl) de_int od_eqI) (decide_eq_true hu)) de_str
      · have e : hg (upD G) (g2' G) = (sgnS (g2' G), (draw (g2' G) 2).2) := by unfold hg; rw [if_neg hu]
        rw [e]
        exact de_ifF (dt_is (dt_cmp (de_var (j := 3) rfl) de_int od_eqI) (decide_eq_false hu)) (de_callBag (j := 0) c_one rfl rfl (da_cons (de_lst (da_cons de_str (da_cons de_str da_nil)) (by show 2 ≤ sizeLine; decide)) da_nil) rfl one_str)
    have ho : (i : Int) > 4 → atI (l.map itD) (0 + (i : Int) - 4) = some (itD (old i l)) := fun h4 => by
      have e : 0 + (i : Int) - 4 = ((i - 4 : Nat) : Int) := by omega
      have hlt : i - 4 < l.length := by omega
      rw [e]
      refine atI_nat ?_
      rw [List.getElem?_map, List.getElem?_eq_getElem hlt]
      unfold old
      rw [List.getD_eq_getElem?_getD, List.getElem?_eq_getElem hlt]
      rfl
    have hz : (0 + (i : Int)) = (i : Int) := by omega
    refine ds_if (fun S => S = ⟨[some .bag, some (.own (l.map itD)), some (.imm (.int (0 + (i : Int)))), some (.imm (.int (upD G))), some (.imm (.int (loI (g1 G)))), some (.imm (.tup [.int (stepI i l G).1.1, .int (stepI i l G).1.2.1])), some (.imm (.str (stepI i l G).1.2.2)), none, none, none, none, none, none, none, none], some (bb, .lst (bagL (stepI i l G).2))⟩)
      (dt_w (dw_and (k := decide ((0 + (i : Int)) > 4)) (l := decide ((old i l).1 > 0)) (dt_cmp (de_var (j := 2) rfl) de_int od_gt) (fun h => (dw_and1 (dt_cmp (de_ix (de_ix (de_ownIx (j := 1) rfl (de_op (de_var (j := 2) rfl) de_int od_sub) (ho (by have := of_decide_eq_true h; omega))) de_int rfl) de_int rfl) de_int od_gt))))) (fun h => ?_) (fun h => ?_) ?_
    · have hf : far i l = true := by unfold far; rw [← hz]; exact h
      have h4 : (i : Int) > 4 := by
        unfold far at hf
        rw [Bool.and_eq_true, decide_eq_true_eq] at hf
        exact hf.1
      have es : stepI i l G = (((old i l).1, (old i l).2.1, sgnS (hg (upD G) (g2' G)).2), (draw (hg (upD G) (g2' G)).2 2).2) := by
        unfold stepI
        simp only [hf, if_true]
      rw [es]
      exact ds_par (i := 5) (j := 6) (de_ix (de_ownIx (j := 1) rfl (de_op (de_var (j := 2) rfl) de_int od_sub) (ho h4)) de_int rfl) (de_callBag (j := 0) c_one rfl rfl (da_cons (de_lst (da_cons de_str (da_cons de_str da_nil)) (by show 2 ≤ sizeLine; decide)) da_nil) rfl one_str) (ds_nil rfl)
    · have hf : far i l = false := by unfold far; rw [← hz]; exact h
      have es : stepI i l G = (((lowP (upD G) (loI (g1 G))).1, (lowP (upD G) (loI (g1 G))).2, (hg (upD G) (g2' G)).1), (hg (upD G) (g2' G)).2) := by
        unfold stepI
        simp only [hf, if_false, Bool.false_eq_true]
      rw [es]
      exact ds_nil rfl
    · rintro _ rfl
      refine ds_append (j := 1) (de_lst (da_cons (de_var (j := 5) rfl) (da_cons (de_var (j := 6) rfl) da_nil)) (by show 2 ≤ sizeLine; decide)) ⟨_, rfl⟩ rfl ?_ (by rw [List.length_map, hl]; exact Nat.lt_of_lt_of_le hi (by decide))
      have em : (l ++ [(stepI i l G).1]).map itD = l.map itD ++ [itD (stepI i l G).1] := by rw [List.map_append]; rfl
      refine ds_nil ⟨some (.imm (.int (0 + (i : Int)))), some (.imm (.int (upD G))), some (.imm (.int (loI (g1 G)))), some (.imm (.tup [.int (stepI i l G).1.1, .int (stepI i l G).1.2.1])), some (.imm (.str (stepI i l G).1.2.2)), ?_⟩
      dsimp only
      rw [em]
      rfl
  · rintro _ h; exact h
  · rintro _ ⟨a2, a3, a4, a5, a6, rfl⟩
    obtain ⟨hl, hok⟩ := fin_ok g 8
    generalize (fin 8 g).1 = its at hl hok ⊢
    generalize hG : (fin 8 g).2 = G
    refine ds_setDO (j := 7) (ds := (its.map itD).map mkR) (ev_lcM mkR [("_law_each", 14)] (ds := its.map itD)
      (di_list (de_own (j := 1) rfl)) (by rw [List.length_map, hl]; decide) (fun i d hd => ?_)) (fun _ => blkOk_by (N := N7) (sc := defScope s_law_right) (own := [("_law_each", 14)]) (by decide +kernel)) ?_
    · rw [List.getElem?_map] at hd
      cases hq : its[i]? with
      | none => rw [hq] at hd; cases hd
      | some t =>
        rw [hq] at hd
        have o := hok t (List.mem_of_getElem? hq)
        obtain ⟨p, q, s⟩ := t
        have hd' : d = .lst [.tup [.int p, .int q], .str s] := (Option.some.inj hd).symm
        subst hd'
        have q0 : 0 < q := o.q0
        have q1 : q < 60 := o.q1
        by_cases h1 : q = 1
        · exact ⟨_, _, _, dg_name (j := 14), by decide, de_make (ds := [.int p, .str s]) (fs := raiF p q s) M.mA (da_cons (de_ifT (dt_is (dt_cmp (de_ix (de_ix (de_var (j := 14) rfl) de_int rfl) de_int rfl) de_int od_eqI) (decide_eq_true h1)) (de_ix (de_ix (de_var (j := 14) rfl) de_int rfl) de_int rfl)) (da_cons (de_ix (de_var (j := 14) rfl) de_int rfl) da_nil)) ⟨.int p, p, q, s, rfl, .inl ⟨rfl, h1⟩, o.p0, o.s, rfl⟩, rfl⟩
        · have eg : ratF p q = ratF (p / (Int.gcd p q : Int)) (q / (Int.gcd p q : Int)) := by
            rw [show Int.gcd p q = 1 from o.g]
            simp
          exact ⟨_, _, _, dg_name (j := 14), by decide, de_make (ds := [rat p q, .str s]) (fs := raiF p q s) M.mA (da_cons (de_ifF (dt_is (dt_cmp (de_ix (de_ix (de_var (j := 14) rfl) de_int rfl) de_int rfl) de_int od_eqI) (decide_eq_false h1)) (de_make M.mR (da_cons (de_ix (de_ix (de_var (j := 14) rfl) de_int rfl) de_int rfl) (da_cons (de_ix (de_ix (de_var (j := 14) rfl) de_int rfl) de_int rfl) da_nil)) ⟨p, q, rfl, q0, by omega, eg⟩)) (da_cons (de_ix (de_var (j := 14) rfl) de_int rfl) da_nil)) ⟨rat p q, p, q, s, rfl, .inr ⟨rfl, q0, by omega⟩, o.p0, o.s, rfl⟩, rfl⟩
    have em : (its.map itD).map mkR = its.map raD := by rw [List.map_map]; rfl
    rw [em]
    refine ds_for (fun i S => ∃ a2 a3 a4 a5 a6 a8 a9 b0 b1 b2 b3 b4, S = ⟨[some .bag, some (.imm (.lst (its.map itD))), a2, a3, a4, a5, a6, some (.imm (.lst (its.map raD))), a8, a9, b0, b1, b2, b3, b4], some (bb, .lst (bagL G))⟩)
      (fun S => ∃ a2 a3 a4 a5 a6 a8 a9 b0 b1 b2 b3 b4, S = ⟨[some .bag, some (.imm (.lst (its.map itD))), a2, a3, a4, a5, a6, some (.imm (.lst (its.map raD))), a8, a9, b0, b1, b2, b3, b4], some (bb, .lst (bagL G))⟩)
      (di_range1 T.t.b_range de_int (by decide) (by decide)) ⟨_, _, _, _, _, _, _, _, _, _, _, _, rfl⟩ ?_ ?_ ?_
    · rintro i _ d hd ⟨a2, a3, a4, a5, a6, a8, a9, b0, b1, b2, b3, b4, rfl⟩
      obtain ⟨hi, rfl⟩ := rangeD_get hd
      obtain ⟨p, q, s, ht, i1, i2⟩ := it_get (its := its) (i := i) (by omega)
      have o := hok _ ht
      have p0 : 0 ≤ p := o.p0
      have p1 : p < 60 := o.p1
      have q0 : 0 < q := o.q0
      have q1 : q < 60 := o.q1
      have sl : s.length = 1 := s_len o.s
      have lp := tx_len p0 p1
      have lq := tx_len (by omega) q1
      have e2 : ("/" : Str).length = 1 := by decide +kernel
      have e3 : ("" : Str).length = 0 := by decide +kernel
      refine ⟨_, _, dg_name (j := 8), ?_⟩
      refine ds_asg (de_ix (de_var (j := 1) rfl) (de_var (j := 8) rfl) i1) (dg_lst (dgs_cons (dg_name (j := 5)) (dgs_cons (dg_name (j := 6)) dgs_nil))) ?_
      have lr : ((bif decide (q > 1) then "/" ++ tx q else "") : Str).length ≤ 3 := by
        cases decide (q > 1)
        · show ("" : Str).length ≤ 3; omega
        · show (("/" : Str) ++ tx q).length ≤ 3; rw [Str.len_app]; omega
      refine ds_set (j := 9) (d := .str (lineT p q s)) (de_op (de_op (de_callTy T.b_str bb_str (da_cons (de_ix (de_var (j := 5) rfl) de_int rfl) da_nil) (ca_strI (lg p0 p1))) (de_iteS (dt_cmp (de_ix (de_var (j := 5) rfl) de_int rfl) de_int od_gt) (fun _ => (de_op de_str (de_callTy T.b_str bb_str (da_cons (de_ix (de_var (j := 5) rfl) de_int rfl) da_nil) (ca_strI (lg (by omega) q1))) (od_addS (by show ("/" : Str).length + (tx q).length ≤ _; exact sl_le (by omega))))) (fun _ => de_str)) (od_addS (by show (tx p).length + ((bif decide (q > 1) then "/" ++ tx q else "") : Str).length ≤ _; exact sl_le (by omega)))) (de_var (j := 6) rfl) (od_addS (by show (tx p ++ ((bif decide (q > 1) then "/" ++ tx q else "") : Str)).length + s.length ≤ _; rw [Str.len_app]; exact sl_le (by omega)))) ?_
      refine ds_ifr (dt_cmp (de_lst (da_cons (de_fld (de_fld (de_ix (de_var (j := 7) rfl) (de_var (j := 8) rfl) i2) T.ins.cl T.n_place raiF_place) T.t.ins.cl T.t.n_top ratF_top) (da_cons (de_fld (de_fld (de_ix (de_var (j := 7) rfl) (de_var (j := 8) rfl) i2) T.ins.cl T.n_place raiF_place) T.t.ins.cl T.t.n_bottom ratF_bottom) (da_cons (de_fld (de_ix (de_var (j := 7) rfl) (de_var (j := 8) rfl) i2) T.ins.cl T.n_side raiF_side) (da_cons (de_callTy T.b_str bb_str (da_cons (de_ix (de_var (j := 7) rfl) (de_var (j := 8) rfl) i2) da_nil) (ca_strO M.str (Nat.le_of_ble_eq_true rfl) ⟨p, q, s, rfl, p0, p1, q0, q1, sl, rfl⟩)) da_nil)))) (by show 4 ≤ sizeLine; decide)) (de_lst (da_cons (de_ix (de_var (j := 5) rfl) de_int rfl) (da_cons (de_ix (de_var (j := 5) rfl) de_int rfl) (da_cons (de_var (j := 6) rfl) (da_cons (de_var (j := 9) rfl) da_nil)))) (by show 4 ≤ sizeLine; decide)) (od_neE (by rw [line_eq q0]) rfl (sh4 (cok_s o.s) (cok_rai p0 p1 q0 q1 (cok_s o.s))))) (fun h => nomatch h) (fun _ => ?_)
      refine ds_for (fun j S => ∃ a2 a3 a4 a9 b0 b1 b2 b3 b4, S = ⟨[some .bag, some (.imm (.lst (its.map itD))), a2, a3, a4, some (.imm (.tup [.int p, .int q])), some (.imm (.str s)), some (.imm (.lst (its.map raD))), some (.imm (.int (0 + (i : Int)))), a9, b0, b1, b2, b3, b4], some (bb, .lst (bagL G))⟩)
        (fun S => ∃ a2 a3 a4 a9 b0 b1 b2 b3 b4, S = ⟨[some .bag, some (.imm (.lst (its.map itD))), a2, a3, a4, some (.imm (.tup [.int p, .int q])), some (.imm (.str s)), some (.imm (.lst (its.map raD))), some (.imm (.int (0 + (i : Int)))), a9, b0, b1, b2, b3, b4], some (bb, .lst (bagL G))⟩)
        (di_range1 T.t.b_range de_int (by decide) (by decide)) ⟨_, _, _, _, _, _, _, _, _, rfl⟩ ?_ ?_ ?_
      · rintro j _ d hd ⟨a2, a3, a4, a9, b0, b1, b2, b3, b4, rfl⟩
        obtain ⟨hj, rfl⟩ := rangeD_get hd
        obtain ⟨p', q', s', ht', j1, j2⟩ := it_get (its := its) (i := j) (by omega)
        have o' := hok _ ht'
        have due1 := due_ord o o'
        have due2 := due_eq o o'
        have q0' : 0 < q' := o'.q0
        have q1' : q' < 60 := o'.q1
        refine ⟨_, _, dg_name (j := 10), ?_⟩
        refine ds_set (j := 11) (de_op (de_op (de_ix (de_var (j := 5) rfl) de_int rfl) (de_ix (de_ix (de_ix (de_var (j := 1) rfl) (de_var (j := 10) rfl) j1) de_int rfl) de_int rfl) (od_mul (.inr ⟨by omega, by omega⟩))) (de_op (de_ix (de_ix (de_ix (de_var (j := 1) rfl) (de_var (j := 10) rfl) j1) de_int rfl) de_int rfl) (de_ix (de_var (j := 5) rfl) de_int rfl) (od_mul (.inr ⟨by omega, by omega⟩))) od_sub) ?_
        refine ds_set (j := 12) (d := .int (sidI p q s p' q' s')) (de_iteI (dt_cmp (de_var (j := 11) rfl) de_int od_eqI) (fun _ => (de_op (de_callTy T.t.b_int bb_int (da_cons (de_cmp (de_var (j := 6) rfl) de_str od_eqS) da_nil) ca_intB) (de_callTy T.t.b_int bb_int (da_cons (de_cmp (de_ix (de_ix (de_var (j := 1) rfl) (de_var (j := 10) rfl) j1) de_int rfl) de_str od_eqS) da_nil) ca_intB) od_sub)) (fun _ => (de_var (j := 11) rfl))) ?_
        refine ds_set (j := 13) (d := .int (dueI p q s p' q' s')) (de_op (de_callTy T.t.b_int bb_int (da_cons (de_cmp (de_var (j := 12) rfl) de_int od_gt) da_nil) ca_intB) (de_callTy T.t.b_int bb_int (da_cons (de_cmp (de_var (j := 12) rfl) de_int od_lt) da_nil) ca_intB) od_sub) ?_
        refine ds_ifr (dt_cmp (de_lst (da_cons (de_meth (pl := fun _ => _) M.cmp (de_ix (de_var (j := 7) rfl) (de_var (j := 8) rfl) i2) (da_cons (de_ix (de_var (j := 7) rfl) (de_var (j := 10) rfl) j2) da_nil) ⟨p, q, s, p', q', s', rfl, q0, by omega, q0', by omega, rfl⟩) (da_cons (de_methK (pl := fun _ => _) M.cmpK (de_ix (de_var (j := 7) rfl) (de_var (j := 8) rfl) i2) (dk_cons (de_ix (de_var (j := 7) rfl) (de_var (j := 10) rfl) j2) dk_nil) ⟨p, q, s, p', q', s', rfl, q0, by omega, q0', by omega, rfl⟩) da_nil)) (by show 2 ≤ sizeLine; decide)) (de_lst (da_cons (de_var (j := 13) rfl) (da_cons (de_var (j := 13) rfl) da_nil)) (by show 2 ≤ sizeLine; decide)) (od_neE (by rw [show rOrd p q s p' q' s' = dueI p q s p' q' s' from due1]) rfl rfl)) (fun h => nomatch h) (fun _ => ?_)
        refine ds_ifr (dt_cmp (de_lst (da_cons (de_cmp (de_ix (de_var (j := 7) rfl) (de_var (j := 8) rfl) i2) (de_ix (de_var (j := 7) rfl) (de_var (j := 10) rfl) j2) (od_eqO M.eq (Nat.le_of_ble_eq_true rfl) (nO1 T) nC1 T.nfA ⟨p, q, s, q0, by omega, .inl ⟨p', q', s', rfl, q0', by omega, rfl⟩⟩)) (da_cons (de_cmp (de_ix (de_var (j := 7) rfl) (de_var (j := 8) rfl) i2) (de_ix (de_var (j := 7) rfl) (de_var (j := 10) rfl) j2) (od_neO M.eq (Nat.le_of_ble_eq_true rfl) (nO1 T) nC1 T.nfA T.ins T.ne ⟨p, q, s, q0, by omega, .inl ⟨p', q', s', rfl, q0', by omega, rfl⟩⟩)) da_nil)) (by show 2 ≤ sizeLine; decide)) (de_lst (da_cons (de_cmp (de_var (j := 13) rfl) de_int od_eqI) (da_cons (de_cmp (de_var (j := 13) rfl) de_int od_neI) da_nil)) (by show 2 ≤ sizeLine; decide)) (od_neE (by rw [show ((decide (p = p') && decide (q = q')) && decide (s = s')) = decide (dueI p q s p' q' s' = 0) from due2]) rfl rfl)) (fun h => nomatch h) (fun _ => ds_nil ⟨_, _, _, _, _, _, _, _, _, rfl⟩)
      · rintro _ h; exact h
      · rintro _ ⟨a2, a3, a4, a9, b0, b1, b2, b3, b4, rfl⟩
        exact ds_nil ⟨_, _, _, _, _, _, _, _, _, _, _, _, rfl⟩
    · rintro _ h; exact h
    · rintro _ ⟨a2, a3, a4, a5, a6, a8, a9, b0, b1, b2, b3, b4, rfl⟩
      obtain ⟨p, q, s, ht, _, i2⟩ := it_get (its := its) (i := 0) (by omega)
      have o := hok _ ht
      have q0 : 0 < q := o.q0
      have q1 : q < 60 := o.q1
      refine ds_ret (de_and (k := true) (l := true) (de_cmp (de_ix (de_var (j := 7) rfl) de_int i2) (de_callTy T.b_str bb_str (da_cons (de_ix (de_var (j := 7) rfl) de_int i2) da_nil) (ca_strO M.str (Nat.le_of_ble_eq_true rfl) ⟨p, q, s, rfl, o.p0, o.p1, q0, q1, s_len o.s, rfl⟩)) (od_neO (kb := false) M.eq (Nat.le_of_ble_eq_true rfl) (fun _ _ h => nomatch h) (fun _ h => nomatch h) T.nfS T.ins T.ne ⟨p, q, s, q0, by omega, .inr ⟨_, rfl, rfl⟩⟩)) (fun _ => (de_one (de_cmp (de_makeK M.mK (dk_cons de_str (dk_cons (de_make M.mR (da_cons de_int (da_cons de_int da_nil)) (init_is (t := 7) (b := 2) (x := 7) (y := 2) (by decide) (by decide) (by decide +kernel) (by decide +kernel))) dk_nil)) ⟨rat 7 2, 7, 2, "+", rfl, .inr ⟨rfl, by decide, by decide⟩, by decide, .inl rfl, rfl⟩) (de_make M.mA (da_cons (de_make M.mR (da_cons de_int (da_cons de_int da_nil)) (init_is (t := 14) (b := 4) (x := 7) (y := 2) (by decide) (by decide) (by decide +kernel) (by decide +kernel))) (da_cons de_str da_nil)) ⟨rat 7 2, 7, 2, "+", rfl, .inr ⟨rfl, by decide, by decide⟩, by decide, .inl rfl, rfl⟩) (od_eqO (kb := true) M.eq (Nat.le_of_ble_eq_true rfl) (nO1 T) nC1 T.nfA ⟨7, 2, "+", by decide, by decide, .inl ⟨7, 2, "+", rfl, by decide, by decide, by simp⟩⟩))))) ?_
      exact ⟨rfl, rfl⟩

/-! ### law -/
abbrev s_law : Stmt := topS 29
theorem sc_law : FnScope ["_law_script", "_law_k"] ["_law_script"] (defScope s_law) := ⟨rfl, rfl, rfl, by decide +kernel, rfl, by decide +kernel, by decide +kernel⟩
def RLaw : List D → D → Prop := fun ds d => ∃ is : List Int, ds = [.lst (is.map D.int)] ∧ d = .bl true
theorem ok_law {f : Addr} {fd : FuncData} (Fn : Fun C.K "law" "law" s_law f fd) (T : Tx7 C mg) (c_bag : Cal P w C mg base 1 "_law_bag" (spO C RBag)) (c_right : Cal P w C mg base 9 "_law_right" (spB C RRight7)) : FnOk P w C.K mg base CX0 10 f fd ["_law_script"] (spP C RLaw) := by
  refine fnP Fn sc_law (fun ds d h => by obtain ⟨is, rfl, _⟩ := h; rfl) ?_
  rintro ds d ⟨is, rfl, rfl⟩ cdv A outer s H E hr
  have hn : ∀ n : Int, n = (if (if (6 : Int) < (is.map D.int).length then (6 : Int) else (is.map D.int).length) > 2 then (if (6 : Int) < (is.map D.int).length then (6 : Int) else (is.map D.int).length) else 2) → 2 ≤ n ∧ n ≤ 6 := by
    intro n e
    subst e
    split <;> split <;> omega
  obtain ⟨n0, n1⟩ := hn _ rfl
  generalize hN : (if (if (6 : Int) < (is.map D.int).length then (6 : Int) else (is.map D.int).length) > 2 then (if (6 : Int) < (is.map D.int).length then (6 : Int) else (is.map D.int).length) else 2) = n at n0 n1
  refine ds_ret (de_callB T.t.b_all bb_all (da_cons (de_do (do_lcM (fun _ => .bl true) (di_range1 (i := n) T.t.b_range (hN ▸ de_callB T.t.b_max bb_max (da_cons de_int (da_cons (de_callB T.t.b_min bb_min (da_cons (de_callB T.t.b_len bb_len (da_cons (de_var (j := 0) rfl) da_nil) ca_lenL) (da_cons de_int da_nil)) ca_min) da_nil)) ca_max) (by omega) (by omega)) [("_law_k", 1)] (fun _ => blkOk_by (N := ["_law_script", "_law_k"]) (sc := defScope s_law) (own := [("_law_k", 1)]) (by decide +kernel)) (by rw [rangeD_length]; exact Nat.le_trans (show n.toNat ≤ 6 by omega) (by decide)) (fun i d hd => ?_))) da_nil) ca_allT) rfl
  obtain ⟨hi, rfl⟩ := rangeD_get hd
  exact ⟨_, _, _, dg_name (j := 1), by decide, de_callNew c_right (do_call c_bag (da_cons (de_var (j := 0) rfl) (da_cons (de_var (j := 1) rfl) da_nil)) ⟨is, _, _, rfl, by omega, by omega, rfl, rfl⟩) ⟨_, rfl, rfl, rfl, rfl⟩, rfl⟩
end
end K1
namespace K1
open PySem L2 DL
def cl2 (a b : Addr) : Nat → Addr
  | 0 => a
  | _ => b
theorem all_mk {l : PySem.W.OpenLaw} {w : World} {K : PySem.W.Frag} {h : Heap} {mg : Str → Option Value} {fa : Addr} {c_R c_A f_init t_init f_eq f_str f_ainit f_acompared f_aeq f_astr f_is_integer f_shared_factor f_is_fraction f_as_ratio f_order_of f_bag f_draw f_one f_low f_law f_raisin_order f_right : Addr} (X : K.In h) (G : h.Ns mainGlobals mg) (hfa : mg "law" = some (.ref fa))
    {od_init an_init tod_init od_eq an_eq od_str an_str od_ainit an_ainit od_acompared an_acompared od_aeq an_aeq od_astr an_astr od_is_integer an_is_integer od_shared_factor an_shared_factor od_is_fraction an_is_fraction od_as_ratio an_as_ratio od_order_of an_order_of od_bag an_bag od_draw an_draw od_one an_one od_low an_low od_law an_law od_raisin_order an_raisin_order od_right an_right : Option Addr} {sl_init tsl_init sl_eq sl_str sl_ainit sl_acompared sl_aeq sl_astr sl_is_integer sl_shared_factor sl_is_fraction sl_as_ratio sl_order_of sl_bag sl_draw sl_one sl_low sl_law sl_raisin_order sl_right : Array (Option Value)} {oc_init kV_init dc_init pm_init cd_init ct_init toc_init oc_eq kV_eq dc_eq pm_eq cd_eq ct_eq oc_str kV_str dc_str pm_str cd_str ct_str oc_ainit kV_ainit dc_ainit pm_ainit cd_ainit ct_ainit oc_acompared kV_acompared dc_acompared pm_acompared cd_acompared ct_acompared oc_aeq kV_aeq dc_aeq pm_aeq cd_aeq ct_aeq oc_astr kV_astr dc_astr pm_astr cd_astr ct_astr oc_is_integer kV_is_integer dc_is_integer pm_is_integer cd_is_integer ct_is_integer oc_shared_factor kV_shared_factor dc_shared_factor pm_shared_factor cd_shared_factor ct_shared_factor oc_is_fraction kV_is_fraction dc_is_fraction pm_is_fraction cd_is_fraction ct_is_fraction oc_as_ratio kV_as_ratio dc_as_ratio pm_as_ratio cd_as_ratio ct_as_ratio oc_order_of kV_order_of dc_order_of pm_order_of cd_order_of ct_order_of oc_bag kV_bag dc_bag pm_bag cd_bag ct_bag oc_draw kV_draw dc_draw pm_draw cd_draw ct_draw oc_one kV_one dc_one pm_one cd_one ct_one oc_low kV_low dc_low pm_low cd_low ct_low oc_law kV_law dc_law pm_law cd_law ct_law oc_raisin_order kV_raisin_order dc_raisin_order pm_raisin_order cd_raisin_order ct_raisin_order oc_right kV_right dc_right pm_right cd_right ct_right : Value} {tk1 : Tok} {tn_init : Nat} {foA roA foS roS foM roM : Option Value} {aS : Addr} {ocS : Value} {odS : Option Addr} {nS : Nat} {slS : Array (Option Value)} {tS1 tS2 : Tok}
    (gs_n : PySem.W.specialIn K (.builtin "object.__class__") "__get__" = some (some (.builtin "getset_descriptor.__get__")))
    (gs_t : PySem.W.takesIn K (.builtin "object.__class__") = some true)
    (a_R : PySem.W.nsIn K mainGlobals "Ratio" = some (some (.ref c_R)))
    (pg_R : PySem.W.plainGet K c_R Str.empty = true)
    (hd_R : PySem.W.hasDictIn K c_R = true)
    (po_R : PySem.W.plainOver K c_R = true)
    (sa_R : PySem.W.findIn K (.ref c_R) "__setattr__" = some (some (.builtin "object.__setattr__")))
    (ha_R : PySem.W.findIn K (.ref c_R) "__class__" = some (some (.builtin "object.__class__")))
    (hm_R : PySem.W.mroIn K c_R (.type "object") = some true)
    (mk_R : PySem.W.makesIn K c_R = true)
    (kc_R : PySem.W.keepIn K (.ref c_R) = true)
    (a_A : PySem.W.nsIn K mainGlobals "Raisin" = some (some (.ref c_A)))
    (pg_A : PySem.W.plainGet K c_A Str.empty = true)
    (hd_A : PySem.W.hasDictIn K c_A = true)
    (po_A : PySem.W.plainOver K c_A = true)
    (sa_A : PySem.W.findIn K (.ref c_A) "__setattr__" = some (some (.builtin "object.__setattr__")))
    (ha_A : PySem.W.findIn K (.ref c_A) "__class__" = some (some (.builtin "object.__class__")))
    (hm_A : PySem.W.mroIn K c_A (.type "object") = some true)
    (mk_A : PySem.W.makesIn K c_A = true)
    (kc_A : PySem.W.keepIn K (.ref c_A) = true)
    (a_init : PySem.W.findIn K (.ref c_R) "__init__" = some (some (.ref f_init)))
    (i_init : PySem.W.isFn K (.ref f_init) = true)
    (l_init : K.lookup f_init = some ⟨oc_init, od_init, .func (PySem.W.fnOf "__init__" "Ratio.__init__" (defArgs s_Ratio_init) (defBody s_Ratio_init) (defScope s_Ratio_init) (.ref t_init) kV_init dc_init pm_init an_init cd_init ct_init), sl_init⟩)
    (d_init : K.lookup t_init = some ⟨toc_init, tod_init, .seq (List.toArray [Value.int 1 tk1]) tn_init, tsl_init⟩)
    (cd_init_ : PySem.W.codeIn K cd_init "Ratio.__init__" = true)
    (k_init : PySem.W.keepIn K (.ref f_init) = true)
    (a_eq : PySem.W.findIn K (.ref c_R) "__eq__" = some (some (.ref f_eq)))
    (i_eq : PySem.W.isFn K (.ref f_eq) = true)
    (l_eq : K.lookup f_eq = some ⟨oc_eq, od_eq, .func (PySem.W.fnOf "__eq__" "Ratio.__eq__" (defArgs s_Ratio_eq) (defBody s_Ratio_eq) (defScope s_Ratio_eq) .none kV_eq dc_eq pm_eq an_eq cd_eq ct_eq), sl_eq⟩)
    (cd_eq_ : PySem.W.codeIn K cd_eq "Ratio.__eq__" = true)
    (k_eq : PySem.W.keepIn K (.ref f_eq) = true)
    (a_str : PySem.W.findIn K (.ref c_R) "__str__" = some (some (.ref f_str)))
    (i_str : PySem.W.isFn K (.ref f_str) = true)
    (l_str : K.lookup f_str = some ⟨oc_str, od_str, .func (PySem.W.fnOf "__str__" "Ratio.__str__" (defArgs s_Ratio_str) (defBody s_Ratio_str) (defScope s_Ratio_str) .none kV_str dc_str pm_str an_str cd_str ct_str), sl_str⟩)
    (cd_str_ : PySem.W.codeIn K cd_str "Ratio.__str__" = true)
    (k_str : PySem.W.keepIn K (.ref f_str) = true)
    (a_ainit : PySem.W.findIn K (.ref c_A) "__init__" = some (some (.ref f_ainit)))
    (i_ainit : PySem.W.isFn K (.ref f_ainit) = true)
    (l_ainit : K.lookup f_ainit = some ⟨oc_ainit, od_ainit, .func (PySem.W.fnOf "__init__" "Raisin.__init__" (defArgs s_Raisin_init) (defBody s_Raisin_init) (defScope s_Raisin_init) .none kV_ainit dc_ainit pm_ainit an_ainit cd_ainit ct_ainit), sl_ainit⟩)
    (cd_ainit_ : PySem.W.codeIn K cd_ainit "Raisin.__init__" = true)
    (k_ainit : PySem.W.keepIn K (.ref f_ainit) = true)
    (a_acompared : PySem.W.findIn K (.ref c_A) "compared" = some (some (.ref f_acompared)))
    (i_acompared : PySem.W.isFn K (.ref f_acompared) = true)
    (l_acompared : K.lookup f_acompared = some ⟨oc_acompared, od_acompared, .func (PySem.W.fnOf "compared" "Raisin.compared" (defArgs s_Raisin_compared) (defBody s_Raisin_compared) (defScope s_Raisin_compared) .none kV_acompared dc_acompared pm_acompared an_acompared cd_acompared ct_acompared), sl_acompared⟩)
    (cd_acompared_ : PySem.W.codeIn K cd_acompared "Raisin.compared" = true)
    (k_acompared : PySem.W.keepIn K (.ref f_acompared) = true)
    (a_aeq : PySem.W.findIn K (.ref c_A) "__eq__" = some (some (.ref f_aeq)))
    (i_aeq : PySem.W.isFn K (.ref f_aeq) = true)
    (l_aeq : K.lookup f_aeq = some ⟨oc_aeq, od_aeq, .func (PySem.W.fnOf "__eq__" "Raisin.__eq__" (defArgs s_Raisin_eq) (defBody s_Raisin_eq) (defScope s_Raisin_eq) .none kV_aeq dc_aeq pm_aeq an_aeq cd_aeq ct_aeq), sl_aeq⟩)
    (cd_aeq_ : PySem.W.codeIn K cd_aeq "Raisin.__eq__" = true)
    (k_aeq : PySem.W.keepIn K (.ref f_aeq) = true)
    (a_astr : PySem.W.findIn K (.ref c_A) "__str__" = some (some (.ref f_astr)))
    (i_astr : PySem.W.isFn K (.ref f_astr) = true)
    (l_astr : K.lookup f_astr = some ⟨oc_astr, od_astr, .func (PySem.W.fnOf "__str__" "Raisin.__str__" (defArgs s_Raisin_str) (defBody s_Raisin_str) (defScope s_Raisin_str) .none kV_astr dc_astr pm_astr an_astr cd_astr ct_astr), sl_astr⟩)
    (cd_astr_ : PySem.W.codeIn K cd_astr "Raisin.__str__" = true)
    (k_astr : PySem.W.keepIn K (.ref f_astr) = true)
    (a_is_integer : PySem.W.nsIn K mainGlobals "is_integer" = some (some (.ref f_is_integer)))
    (l_is_integer : K.lookup f_is_integer = some ⟨oc_is_integer, od_is_integer, .func (PySem.W.fnOf "is_integer" "is_integer" (defArgs s_is_integer) (defBody s_is_integer) (defScope s_is_integer) .none kV_is_integer dc_is_integer pm_is_integer an_is_integer cd_is_integer ct_is_integer), sl_is_integer⟩)
    (cd_is_integer_ : PySem.W.codeIn K cd_is_integer "is_integer" = true)
    (k_is_integer : PySem.W.keepIn K (.ref f_is_integer) = true)
    (a_shared_factor : PySem.W.nsIn K mainGlobals "shared_factor" = some (some (.ref f_shared_factor)))
    (l_shared_factor : K.lookup f_shared_factor = some ⟨oc_shared_factor, od_shared_factor, .func (PySem.W.fnOf "shared_factor" "shared_factor" (defArgs s_shared_factor) (defBody s_shared_factor) (defScope s_shared_factor) .none kV_shared_factor dc_shared_factor pm_shared_factor an_shared_factor cd_shared_factor ct_shared_factor), sl_shared_factor⟩)
    (cd_shared_factor_ : PySem.W.codeIn K cd_shared_factor "shared_factor" = true)
    (k_shared_factor : PySem.W.keepIn K (.ref f_shared_factor) = true)
    (a_is_fraction : PySem.W.nsIn K mainGlobals "is_fraction" = some (some (.ref f_is_fraction)))
    (l_is_fraction : K.lookup f_is_fraction = some ⟨oc_is_fraction, od_is_fraction, .func (PySem.W.fnOf "is_fraction" "is_fraction" (defArgs s_is_fraction) (defBody s_is_fraction) (defScope s_is_fraction) .none kV_is_fraction dc_is_fraction pm_is_fraction an_is_fraction cd_is_fraction ct_is_fraction), sl_is_fraction⟩)
    (cd_is_fraction_ : PySem.W.codeIn K cd_is_fraction "is_fraction" = true)
    (k_is_fraction : PySem.W.keepIn K (.ref f_is_fraction) = true)
    (a_as_ratio : PySem.W.nsIn K mainGlobals "as_ratio" = some (some (.ref f_as_ratio)))
    (l_as_ratio : K.lookup f_as_ratio = some ⟨oc_as_ratio, od_as_ratio, .func (PySem.W.fnOf "as_ratio" "as_ratio" (defArgs s_as_ratio) (defBody s_as_ratio) (defScope s_as_ratio) .none kV_as_ratio dc_as_ratio pm_as_ratio an_as_ratio cd_as_ratio ct_as_ratio), sl_as_ratio⟩)
    (cd_as_ratio_ : PySem.W.codeIn K cd_as_ratio "as_ratio" = true)
    (k_as_ratio : PySem.W.keepIn K (.ref f_as_ratio) = true)
    (a_order_of : PySem.W.nsIn K mainGlobals "order_of" = some (some (.ref f_order_of)))
    (l_order_of : K.lookup f_order_of = some ⟨oc_order_of, od_order_of, .func (PySem.W.fnOf "order_of" "order_of" (defArgs s_order_of) (defBody s_order_of) (defScope s_order_of) .none kV_order_of dc_order_of pm_order_of an_order_of cd_order_of ct_order_of), sl_order_of⟩)
    (cd_order_of_ : PySem.W.codeIn K cd_order_of "order_of" = true)
    (k_order_of : PySem.W.keepIn K (.ref f_order_of) = true)
    (a_bag : PySem.W.nsIn K mainGlobals "_law_bag" = some (some (.ref f_bag)))
    (l_bag : K.lookup f_bag = some ⟨oc_bag, od_bag, .func (PySem.W.fnOf "_law_bag" "_law_bag" (defArgs s_law_bag) (defBody s_law_bag) (defScope s_law_bag) .none kV_bag dc_bag pm_bag an_bag cd_bag ct_bag), sl_bag⟩)
    (cd_bag_ : PySem.W.codeIn K cd_bag "_law_bag" = true)
    (k_bag : PySem.W.keepIn K (.ref f_bag) = true)
    (a_draw : PySem.W.nsIn K mainGlobals "_law_draw" = some (some (.ref f_draw)))
    (l_draw : K.lookup f_draw = some ⟨oc_draw, od_draw, .func (PySem.W.fnOf "_law_draw" "_law_draw" (defArgs s_law_draw) (defBody s_law_draw) (defScope s_law_draw) .none kV_draw dc_draw pm_draw an_draw cd_draw ct_draw), sl_draw⟩)
    (cd_draw_ : PySem.W.codeIn K cd_draw "_law_draw" = true)
    (k_draw : PySem.W.keepIn K (.ref f_draw) = true)
    (a_one : PySem.W.nsIn K mainGlobals "_law_one" = some (some (.ref f_one)))
    (l_one : K.lookup f_one = some ⟨oc_one, od_one, .func (PySem.W.fnOf "_law_one" "_law_one" (defArgs s_law_one) (defBody s_law_one) (defScope s_law_one) .none kV_one dc_one pm_one an_one cd_one ct_one), sl_one⟩)
    (cd_one_ : PySem.W.codeIn K cd_one "_law_one" = true)
    (k_one : PySem.W.keepIn K (.ref f_one) = true)
    (a_low : PySem.W.nsIn K mainGlobals "_law_low" = some (some (.ref f_low)))
    (l_low : K.lookup f_low = some ⟨oc_low, od_low, .func (PySem.W.fnOf "_law_low" "_law_low" (defArgs s_law_low) (defBody s_law_low) (defScope s_law_low) .none kV_low dc_low pm_low an_low cd_low ct_low), sl_low⟩)
    (cd_low_ : PySem.W.codeIn K cd_low "_law_low" = true)
    (k_low : PySem.W.keepIn K (.ref f_low) = true)
    (a_law : PySem.W.nsIn K mainGlobals "law" = some (some (.ref f_law)))
    (l_law : K.lookup f_law = some ⟨oc_law, od_law, .func (PySem.W.fnOf "law" "law" (defArgs s_law) (defBody s_law) (defScope s_law) .none kV_law dc_law pm_law an_law cd_law ct_law), sl_law⟩)
    (cd_law_ : PySem.W.codeIn K cd_law "law" = true)
    (k_law : PySem.W.keepIn K (.ref f_law) = true)
    (a_raisin_order : PySem.W.nsIn K mainGlobals "raisin_order" = some (some (.ref f_raisin_order)))
    (l_raisin_order : K.lookup f_raisin_order = some ⟨oc_raisin_order, od_raisin_order, .func (PySem.W.fnOf "raisin_order" "raisin_order" (defArgs s_raisin_order) (defBody s_raisin_order) (defScope s_raisin_order) .none kV_raisin_order dc_raisin_order pm_raisin_order an_raisin_order cd_raisin_order ct_raisin_order), sl_raisin_order⟩)
    (cd_raisin_order_ : PySem.W.codeIn K cd_raisin_order "raisin_order" = true)
    (k_raisin_order : PySem.W.keepIn K (.ref f_raisin_order) = true)
    (a_right : PySem.W.nsIn K mainGlobals "_law_right" = some (some (.ref f_right)))
    (l_right : K.lookup f_right = some ⟨oc_right, od_right, .func (PySem.W.fnOf "_law_right" "_law_right" (defArgs s_law_right) (defBody s_law_right) (defScope s_law_right) .none kV_right dc_right pm_right an_right cd_right ct_right), sl_right⟩)
    (cd_right_ : PySem.W.codeIn K cd_right "_law_right" = true)
    (k_right : PySem.W.keepIn K (.ref f_right) = true)
    (z_isinstance : PySem.W.nsIn K mainGlobals "isinstance" = some none)
    (z_abs : PySem.W.nsIn K mainGlobals "abs" = some none)
    (z_len : PySem.W.nsIn K mainGlobals "len" = some none)
    (z_max : PySem.W.nsIn K mainGlobals "max" = some none)
    (z_min : PySem.W.nsIn K mainGlobals "min" = some none)
    (z_all : PySem.W.nsIn K mainGlobals "all" = some none)
    (z_int : PySem.W.nsIn K mainGlobals "int" = some none)
    (z_bool : PySem.W.nsIn K mainGlobals "bool" = some none)
    (z_range : PySem.W.nsIn K mainGlobals "range" = some none)
    (z_str : PySem.W.nsIn K mainGlobals "str" = some none)
    (n_R_top : PySem.W.findIn K (.ref c_R) "top" = some none)
    (n_R_bottom : PySem.W.findIn K (.ref c_R) "bottom" = some none)
    (n_A_place : PySem.W.findIn K (.ref c_A) "place" = some none)
    (n_A_side : PySem.W.findIn K (.ref c_A) "side" = some none)
    (sf : PySem.W.selfFirst K c_R = true)
    (ic : PySem.W.subIn K (.type "int") (.ref c_R) = some false)
    (ci : PySem.W.subIn K (.ref c_R) (.type "int") = some false)
    (fA : PySem.W.findIn K (.type "int") (PySem.dunder Operator.Add.info.2) = some foA)
    (rA : PySem.W.findIn K (.type "int") (dunderR Operator.Add.info.2) = some roA)
    (fS : PySem.W.findIn K (.type "int") (PySem.dunder Operator.Sub.info.2) = some foS)
    (rS : PySem.W.findIn K (.type "int") (dunderR Operator.Sub.info.2) = some roS)
    (fM : PySem.W.findIn K (.type "int") (PySem.dunder Operator.Mult.info.2) = some foM)
    (rM : PySem.W.findIn K (.type "int") (dunderR Operator.Mult.info.2) = some roM)
    (sA : ((foA.isSome && !isSeqSlot foA) || (roA.isSome && !isSeqSlot roA)) = true)
    (sS : ((foS.isSome && !isSeqSlot foS) || (roS.isSome && !isSeqSlot roS)) = true)
    (sM : ((foM.isSome && !isSeqSlot foM) || (roM.isSome && !isSeqSlot roM)) = true)
    (ne : PySem.W.findIn K (.ref c_R) "__ne__" = some (some (.builtin "object.__ne__")))
    (nb : PySem.W.findIn K (.ref c_R) "__bool__" = some none)
    (nl : PySem.W.findIn K (.ref c_R) "__len__" = some none)
    (nfR : PySem.W.notFirst K c_R (.ref c_R) = true)
    (kRI : PySem.W.kitOne K (.ref c_R) (.type "int") = some false)
    (kRB : PySem.W.kitOne K (.ref c_R) (.type "bool") = some false)
    (kT0 : PySem.W.kitOne K (.type "NoneType") (.ref c_R) = some false)
    (kT1 : PySem.W.kitOne K (.type "bool") (.ref c_R) = some false)
    (kT2 : PySem.W.kitOne K (.type "int") (.ref c_R) = some false)
    (kT3 : PySem.W.kitOne K (.type "str") (.ref c_R) = some false)
    (kT4 : PySem.W.kitOne K (.type "tuple") (.ref c_R) = some false)
    (kT5 : PySem.W.kitOne K (.type "list") (.ref c_R) = some false)
    (aS_ : PySem.W.nsIn K mainGlobals "SIDES" = some (some (.ref aS)))
    (lS_ : K.lookup aS = some ⟨ocS, odS, .seq (List.toArray [Value.str "-" tS1, Value.str "+" tS2]) nS, slS⟩)
    (oS_ : ocS = .type "tuple")
    (kS : PySem.W.kitOne K (.type "str") (.ref c_A) = some false)
    (neA : PySem.W.findIn K (.ref c_A) "__ne__" = some (some (.builtin "object.__ne__")))
    (nfA : PySem.W.notFirst K c_A (.ref c_A) = true)
    (nfS : PySem.W.notFirst K c_A (.type "str") = true)
    : ∃ fd : FuncData, (∀ (s : Shared) (v : Value), BindsTo s fd ⟨[v], []⟩ [("_law_script", v)]) ∧ ∀ base : Heap, K.In base → base.Ns mainGlobals mg → FnOk l.prog w K mg base CX0 10 fa fd ["_law_script"] (spLaw K) := by
  have e := hfa.symm.trans (PySem.W.mg_of X G a_law)
  cases e
  have cl_R : Cls K c_R := ⟨pg_R, hd_R, po_R, sa_R⟩
  have ins_R : InsF K c_R := ⟨cl_R, ha_R, gs_n, gs_t, hm_R⟩
  have cl_A : Cls K c_A := ⟨pg_A, hd_A, po_A, sa_A⟩
  have ins_A : InsF K c_A := ⟨cl_A, ha_A, gs_n, gs_t, hm_A⟩
  have F_init : FunD K "__init__" "Ratio.__init__" (defArgs s_Ratio_init) (defBody s_Ratio_init) (defScope s_Ratio_init) [V.int 1] [] f_init _ := ⟨⟨oc_init, od_init, .ref t_init, kV_init, dc_init, pm_init, an_init, cd_init, ct_init, sl_init, rfl, l_init, cd_init_, .inr ⟨by simp, t_init, _, _, tn_init, rfl, d_init, rfl, by repeat constructor⟩, .inl rfl⟩, k_init⟩
  have me_init : Meth K c_R "__init__" f_init := ⟨a_init, i_init, k_init⟩
  have M_R : Mk K c_R f_init := ⟨mk_R, a_init, i_init, kc_R⟩
  have F_eq := fun_mk (st := s_Ratio_eq) l_eq cd_eq_ k_eq
  have b_eq := F_eq.binds (ps := ["self", "other"]) fun _ _ _ _ _ _ us hl => match us, hl with | [_, _], _ => rfl
  have me_eq : Meth K c_R "__eq__" f_eq := ⟨a_eq, i_eq, k_eq⟩
  have F_str := fun_mk (st := s_Ratio_str) l_str cd_str_ k_str
  have b_str := F_str.binds (ps := ["self"]) fun _ _ _ _ _ _ us hl => match us, hl with | [_], _ => rfl
  have me_str : Meth K c_R "__str__" f_str := ⟨a_str, i_str, k_str⟩
  have F_ainit := fun_mk (st := s_Raisin_init) l_ainit cd_ainit_ k_ainit
  have b_ainit := F_ainit.binds (ps := ["self", "place", "side"]) fun _ _ _ _ _ _ us hl => match us, hl with | [_, _, _], _ => rfl
  have me_ainit : Meth K c_A "__init__" f_ainit := ⟨a_ainit, i_ainit, k_ainit⟩
  have M_A : Mk K c_A f_ainit := ⟨mk_A, a_ainit, i_ainit, kc_A⟩
  have F_acompared := fun_mk (st := s_Raisin_compared) l_acompared cd_acompared_ k_acompared
  have b_acompared := F_acompared.binds (ps := ["self", "value"]) fun _ _ _ _ _ _ us hl => match us, hl with | [_, _], _ => rfl
  have me_acompared : Meth K c_A "compared" f_acompared := ⟨a_acompared, i_acompared, k_acompared⟩
  have F_aeq := fun_mk (st := s_Raisin_eq) l_aeq cd_aeq_ k_aeq
  have b_aeq := F_aeq.binds (ps := ["self", "other"]) fun _ _ _ _ _ _ us hl => match us, hl with | [_, _], _ => rfl
  have me_aeq : Meth K c_A "__eq__" f_aeq := ⟨a_aeq, i_aeq, k_aeq⟩
  have F_astr := fun_mk (st := s_Raisin_str) l_astr cd_astr_ k_astr
  have b_astr := F_astr.binds (ps := ["self"]) fun _ _ _ _ _ _ us hl => match us, hl with | [_], _ => rfl
  have me_astr : Meth K c_A "__str__" f_astr := ⟨a_astr, i_astr, k_astr⟩
  have F_is_integer := fun_mk (st := s_is_integer) l_is_integer cd_is_integer_ k_is_integer
  have b_is_integer := F_is_integer.binds (ps := ["value"]) fun _ _ _ _ _ _ us hl => match us, hl with | [_], _ => rfl
  have g_is_integer := PySem.W.mg_of X G a_is_integer
  have F_shared_factor := fun_mk (st := s_shared_factor) l_shared_factor cd_shared_factor_ k_shared_factor
  have b_shared_factor := F_shared_factor.binds (ps := ["one", "two"]) fun _ _ _ _ _ _ us hl => match us, hl with | [_, _], _ => rfl
  have g_shared_factor := PySem.W.mg_of X G a_shared_factor
  have F_is_fraction := fun_mk (st := s_is_fraction) l_is_fraction cd_is_fraction_ k_is_fraction
  have b_is_fraction := F_is_fraction.binds (ps := ["value"]) fun _ _ _ _ _ _ us hl => match us, hl with | [_], _ => rfl
  have g_is_fraction := PySem.W.mg_of X G a_is_fraction
  have F_as_ratio := fun_mk (st := s_as_ratio) l_as_ratio cd_as_ratio_ k_as_ratio
  have b_as_ratio := F_as_ratio.binds (ps := ["value"]) fun _ _ _ _ _ _ us hl => match us, hl with | [_], _ => rfl
  have g_as_ratio := PySem.W.mg_of X G a_as_ratio
  have F_order_of := fun_mk (st := s_order_of) l_order_of cd_order_of_ k_order_of
  have b_order_of := F_order_of.binds (ps := ["one", "two"]) fun _ _ _ _ _ _ us hl => match us, hl with | [_, _], _ => rfl
  have g_order_of := PySem.W.mg_of X G a_order_of
  have F_bag := fun_mk (st := s_law_bag) l_bag cd_bag_ k_bag
  have b_bag := F_bag.binds (ps := ["_law_script", "_law_k"]) fun _ _ _ _ _ _ us hl => match us, hl with | [_, _], _ => rfl
  have g_bag := PySem.W.mg_of X G a_bag
  have F_draw := fun_mk (st := s_law_draw) l_draw cd_draw_ k_draw
  have b_draw := F_draw.binds (ps := ["_law_bag_here", "_law_wide"]) fun _ _ _ _ _ _ us hl => match us, hl with | [_, _], _ => rfl
  have g_draw := PySem.W.mg_of X G a_draw
  have F_one := fun_mk (st := s_law_one) l_one cd_one_ k_one
  have b_one := F_one.binds (ps := ["_law_bag_here", "_law_some"]) fun _ _ _ _ _ _ us hl => match us, hl with | [_, _], _ => rfl
  have g_one := PySem.W.mg_of X G a_one
  have F_low := fun_mk (st := s_law_low) l_low cd_low_ k_low
  have b_low := F_low.binds (ps := ["_law_upper", "_law_lower"]) fun _ _ _ _ _ _ us hl => match us, hl with | [_, _], _ => rfl
  have g_low := PySem.W.mg_of X G a_low
  have F_law := fun_mk (st := s_law) l_law cd_law_ k_law
  have b_law := F_law.binds (ps := ["_law_script"]) fun _ _ _ _ _ _ us hl => match us, hl with | [_], _ => rfl
  have g_law := PySem.W.mg_of X G a_law
  have F_raisin_order := fun_mk (st := s_raisin_order) l_raisin_order cd_raisin_order_ k_raisin_order
  have b_raisin_order := F_raisin_order.binds (ps := ["one", "two"]) fun _ _ _ _ _ _ us hl => match us, hl with | [_, _], _ => rfl
  have g_raisin_order := PySem.W.mg_of X G a_raisin_order
  have F_right := fun_mk (st := s_law_right) l_right cd_right_ k_right
  have b_right := F_right.binds (ps := ["_law_bag_here"]) fun _ _ _ _ _ _ us hl => match us, hl with | [_], _ => rfl
  have g_right := PySem.W.mg_of X G a_right
  refine ⟨PySem.W.fnOf "law" "law" (defArgs s_law) (defBody s_law) (defScope s_law) .none kV_law dc_law pm_law an_law cd_law ct_law, fun s v => .of_eq rfl, fun base _ _ => ?_⟩
  have zf : ∀ {n : Str}, PySem.W.nsIn K mainGlobals n = some none → mg n = none := fun hz => PySem.W.mg_none_of X G hz
  have T : Txt ⟨K, cl2 c_R c_A⟩ mg := ⟨zf z_isinstance, zf z_abs, zf z_len, zf z_max, zf z_min, zf z_all, zf z_int, zf z_bool, zf z_range, PySem.W.mg_of X G a_R, ins_R, n_R_top, n_R_bottom, kRI, kRB, fun T hT => by
    simp only [List.mem_cons, List.not_mem_nil, or_false] at hT
    rcases hT with rfl | rfl | rfl | rfl | rfl | rfl
    · exact kT0
    · exact kT1
    · exact kT2
    · exact kT3
    · exact kT4
    · exact kT5, ⟨sf, ic, ci⟩, ⟨foA, roA, fA, rA, sA⟩, ⟨foS, roS, fS, rS, sS⟩, ⟨foM, roM, fM, rM, sM⟩, ne, nb, nl⟩
  have gR := PySem.W.mg_of X G a_R
  have c_is_integer := cal_mk (P := l.prog) (w := w) (base := base) (ok_is_integer F_is_integer T) F_is_integer b_is_integer g_is_integer
  have c_shared_factor := cal_mk (P := l.prog) (w := w) (base := base) (ok_shared_factor F_shared_factor T) F_shared_factor b_shared_factor g_shared_factor
  have c_is_fraction := cal_mk (ok_is_fraction F_is_fraction T c_is_integer) F_is_fraction b_is_fraction g_is_fraction
  have oI := ok_Ratio_init F_init T c_is_integer c_shared_factor
  have m_Ratio : Mak l.prog w ⟨K, cl2 c_R c_A⟩ mg base 2 "Ratio" 0 RInit [] := by
    obtain ⟨ds, h1, h2⟩ := F_init.binds1 (ps := ["self", "top", "bottom"]) 3 1 (by simp) rfl fun _ _ _ _ _ _ _ us its hl hi => match us, hl, its, hi with | [_, _, _], _, [_], _ => ⟨_, rfl, rfl⟩
    exact ⟨_, _, _, ds, [], oI, gR, M_R, h2, h1, fun _ => .nil⟩
  have m_Ratio1 : Mak l.prog w ⟨K, cl2 c_R c_A⟩ mg base 2 "Ratio" 0 RInit [.int 1] := by
    obtain ⟨ds, h1, h2⟩ := F_init.binds1 (ps := ["self", "top", "bottom"]) 2 0 (by simp) rfl fun _ _ _ _ _ _ _ us its hl hi => match us, hl, its, hi with | [_, _], _, [_], _ => ⟨_, rfl, rfl⟩
    exact ⟨_, _, _, ds, [V.int 1], oI, gR, M_R, h2, h1, fun _ => .cons (.int 1) .nil⟩
  have m_RatioK : MakK l.prog w ⟨K, cl2 c_R c_A⟩ mg base 2 "Ratio" 0 RInit ["bottom", "top"] [1, 0] := by
    obtain ⟨its, h⟩ := F_init.kbindsD (ps := ["self", "top", "bottom"]) 1 ["bottom", "top"] (fun us _ ws => us ++ perm [1, 0] ws) (by simp) (fun r1 _ r3 => r1.append (DL.Vals.perm r3 _)) fun _ _ _ _ _ _ _ us its ws hl hi hw => match us, hl, its, hi, ws, hw with | [_], _, [_], _, [_, _], _ => ⟨_, rfl, rfl⟩
    exact ⟨_, _, _, _, oI, gR, M_R, h⟩
  have c_as_ratio := cal_mk (ok_as_ratio F_as_ratio T m_Ratio1) F_as_ratio b_as_ratio g_as_ratio
  have c_order_of := cal_mk (ok_order_of F_order_of T c_as_ratio) F_order_of b_order_of g_order_of
  have T7 : Tx7 ⟨K, cl2 c_R c_A⟩ mg := ⟨T, zf z_str, PySem.W.mg_of X G a_A, ins_A, n_A_place, n_A_side, ⟨aS, PySem.W.mg_of X G aS_, fun G' => den_kt (C := ⟨K, cl2 c_R c_A⟩) (vs := [V.str "-", V.str "+"]) lS_ oS_ (by show 2 ≤ sizeLine; decide) (.cons ⟨_, rfl⟩ (.cons ⟨_, rfl⟩ .nil)) (.cons (.str _) (.cons (.str _) .nil))⟩, kS, neA, nfR, nfA, nfS⟩
  have t_eq : Met l.prog w ⟨K, cl2 c_R c_A⟩ mg base 5 0 "__eq__" (spP ⟨K, cl2 c_R c_A⟩ REq) := ⟨_, _, _, ok_Ratio_eq F_eq T c_is_fraction c_as_ratio, cl_R, me_eq, b_eq⟩
  have t_str : Met l.prog w ⟨K, cl2 c_R c_A⟩ mg base 1 0 "__str__" (spP ⟨K, cl2 c_R c_A⟩ RStr) := ⟨_, _, _, ok_Ratio_str F_str T7, cl_R, me_str, b_str⟩
  have c_raisin_order := cal_mk (ok_raisin_order F_raisin_order T7 c_order_of) F_raisin_order b_raisin_order g_raisin_order
  have o_init := ok_Raisin_init F_ainit T7 c_is_fraction c_as_ratio
  have o_cmp := ok_Raisin_compared F_acompared T7 c_raisin_order
  have M : Met7 l.prog w ⟨K, cl2 c_R c_A⟩ mg base := ⟨m_Ratio, ⟨_, _, _, [], [], o_init, PySem.W.mg_of X G a_A, M_A, b_ainit, .nil, fun _ => .nil⟩,
    ⟨_, _, _, _, o_init, PySem.W.mg_of X G a_A, M_A, Fun.kbn (C := ⟨K, cl2 c_R c_A⟩) F_ainit 1 ["side", "place"] [1, 0] fun _ _ _ _ _ _ us ws hl hw => match us, hl, ws, hw with | [_], _, [_, _], _ => rfl⟩,
    ⟨_, _, _, o_cmp, cl_A, me_acompared, b_acompared⟩,
    ⟨_, _, _, o_cmp, cl_A, me_acompared, Fun.kbn (C := ⟨K, cl2 c_R c_A⟩) F_acompared 1 ["value"] [0] fun _ _ _ _ _ _ us ws hl hw => match us, hl, ws, hw with | [_], _, [_], _ => rfl⟩,
    ⟨_, _, _, ok_Raisin_eq F_aeq T7 t_eq, cl_A, me_aeq, b_aeq⟩, ⟨_, _, _, ok_Raisin_str F_astr T7 t_str, cl_A, me_astr, b_astr⟩⟩
  have c_draw := cal_mk (P := l.prog) (w := w) (base := base) (ok_law_draw F_draw T) F_draw b_draw g_draw
  have c_one := cal_mk (ok_law_one F_one T c_draw) F_one b_one g_one
  have c_low := cal_mk (P := l.prog) (w := w) (base := base) (ok_law_low F_low T) F_low b_low g_low
  have c_right := cal_mk (ok_law_right F_right T7 M c_draw c_one c_low) F_right b_right g_right
  have c_bag := cal_mk (P := l.prog) (w := w) (base := base) (ok_law_bag F_bag T) F_bag b_bag g_bag
  exact law_of (C := ⟨K, cl2 c_R c_A⟩) (ok_law F_law T7 c_bag c_right) fun is _ => ⟨is, rfl, rfl⟩
end K1

open PySem PySem.W PyProof.Rows in
set_option maxRecDepth 100000 in
set_option maxHeartbeats 0 in
theorem PySem.Challenge.cw_doughfolds_k07_raisins_made_and_in_order_holds : PySem.Challenge.rw_doughfolds_k07_raisins_made_and_in_order.Holds := by
  w_on; o_law; k_head; (case hw => w_witness2)
  k_fill
  refine DL.walk (l := PySem.Challenge.rw_doughfolds_k07_raisins_made_and_in_order) (k := 10) "_law_script" (by decide) rfl rfl (fun w h Y => PySem.W.kIn_of Y) ?F
  case F =>
    intro w mg fa h KX G hmg
    refine' K1.all_mk KX G hmg ?gs_n ?gs_t ?a_R ?pg_R ?hd_R ?po_R ?sa_R ?ha_R ?hm_R ?mk_R ?kc_R ?a_A ?pg_A ?hd_A ?po_A ?sa_A ?ha_A ?hm_A ?mk_A ?kc_A ?a_init ?i_init ?l_init ?d_init ?cd_init_ ?k_init ?a_eq ?i_eq ?l_eq ?cd_eq_ ?k_eq ?a_str ?i_str ?l_str ?cd_str_ ?k_str ?a_ainit ?i_ainit ?l_ainit ?cd_ainit_ ?k_ainit ?a_acompared ?i_acompared ?l_acompared ?cd_acompared_ ?k_acompared ?a_aeq ?i_aeq ?l_aeq ?cd_aeq_ ?k_aeq ?a_astr ?i_astr ?l_astr ?cd_astr_ ?k_astr ?a_is_integer ?l_is_integer ?cd_is_integer_ ?k_is_integer ?a_shared_factor ?l_shared_factor ?cd_shared_factor_ ?k_shared_factor ?a_is_fraction ?l_is_fraction ?cd_is_fraction_ ?k_is_fraction ?a_as_ratio ?l_as_ratio ?cd_as_ratio_ ?k_as_ratio ?a_order_of ?l_order_of ?cd_order_of_ ?k_order_of ?a_bag ?l_bag ?cd_bag_ ?k_bag ?a_draw ?l_draw ?cd_draw_ ?k_draw ?a_one ?l_one ?cd_one_ ?k_one ?a_low ?l_low ?cd_low_ ?k_low ?a_law ?l_law ?cd_law_ ?k_law ?a_raisin_order ?l_raisin_order ?cd_raisin_order_ ?k_raisin_order ?a_right ?l_right ?cd_right_ ?k_right ?z_isinstance ?z_abs ?z_len ?z_max ?z_min ?z_all ?z_int ?z_bool ?z_range ?z_str ?n_R_top ?n_R_bottom ?n_A_place ?n_A_side ?sf ?ic ?ci ?fA ?rA ?fS ?rS ?fM ?rM ?sA ?sS ?sM ?ne ?nb ?nl ?nfR ?kRI ?kRB ?kT0 ?kT1 ?kT2 ?kT3 ?kT4 ?kT5 ?aS_ ?lS_ ?oS_ ?kS ?neA ?nfA ?nfS
    (case gs_n => k_is)
    (case gs_t => k_is)
    (case a_R => k_is)
    (case pg_R => k_is)
    (case hd_R => k_is)
    (case po_R => k_is)
    (case sa_R => k_is)
    (case ha_R => k_is)
    (case hm_R => k_is)
    (case mk_R => k_is)
    (case kc_R => k_is)
    (case a_A => k_is)
    (case pg_A => k_is)
    (case hd_A => k_is)
    (case po_A => k_is)
    (case sa_A => k_is)
    (case ha_A => k_is)
    (case hm_A => k_is)
    (case mk_A => k_is)
    (case kc_A => k_is)
    (case a_init => k_is)
    (case i_init => k_is)
    (case l_init => k_is)
    (case d_init => k_is)
    (case cd_init_ => k_is)
    (case k_init => k_is)
    (case a_eq => k_is)
    (case i_eq => k_is)
    (case l_eq => k_is)
    (case cd_eq_ => k_is)
    (case k_eq => k_is)
    (case a_str => k_is)
    (case i_str => k_is)
    (case l_str => k_is)
    (case cd_str_ => k_is)
    (case k_str => k_is)
    (case a_ainit => k_is)
    (case i_ainit => k_is)
    (case l_ainit => k_is)
    (case cd_ainit_ => k_is)
    (case k_ainit => k_is)
    (case a_acompared => k_is)
    (case i_acompared => k_is)
    (case l_acompared => k_is)
    (case cd_acompared_ => k_is)
    (case k_acompared => k_is)
    (case a_aeq => k_is)
    (case i_aeq => k_is)
    (case l_aeq => k_is)
    (case cd_aeq_ => k_is)
    (case k_aeq => k_is)
    (case a_astr => k_is)
    (case i_astr => k_is)
    (case l_astr => k_is)
    (case cd_astr_ => k_is)
    (case k_astr => k_is)
    (case a_is_integer => k_is)
    (case l_is_integer => k_is)
    (case cd_is_integer_ => k_is)
    (case k_is_integer => k_is)
    (case a_shared_factor => k_is)
    (case l_shared_factor => k_is)
    (case cd_shared_factor_ => k_is)
    (case k_shared_factor => k_is)
    (case a_is_fraction => k_is)
    (case l_is_fraction => k_is)
    (case cd_is_fraction_ => k_is)
    (case k_is_fraction => k_is)
    (case a_as_ratio => k_is)
    (case l_as_ratio => k_is)
    (case cd_as_ratio_ => k_is)
    (case k_as_ratio => k_is)
    (case a_order_of => k_is)
    (case l_order_of => k_is)
    (case cd_order_of_ => k_is)
    (case k_order_of => k_is)
    (case a_bag => k_is)
    (case l_bag => k_is)
    (case cd_bag_ => k_is)
    (case k_bag => k_is)
    (case a_draw => k_is)
    (case l_draw => k_is)
    (case cd_draw_ => k_is)
    (case k_draw => k_is)
    (case a_one => k_is)
    (case l_one => k_is)
    (case cd_one_ => k_is)
    (case k_one => k_is)
    (case a_low => k_is)
    (case l_low => k_is)
    (case cd_low_ => k_is)
    (case k_low => k_is)
    (case a_law => k_is)
    (case l_law => k_is)
    (case cd_law_ => k_is)
    (case k_law => k_is)
    (case a_raisin_order => k_is)
    (case l_raisin_order => k_is)
    (case cd_raisin_order_ => k_is)
    (case k_raisin_order => k_is)
    (case a_right => k_is)
    (case l_right => k_is)
    (case cd_right_ => k_is)
    (case k_right => k_is)
    (case z_isinstance => k_is)
    (case z_abs => k_is)
    (case z_len => k_is)
    (case z_max => k_is)
    (case z_min => k_is)
    (case z_all => k_is)
    (case z_int => k_is)
    (case z_bool => k_is)
    (case z_range => k_is)
    (case z_str => k_is)
    (case n_R_top => k_is)
    (case n_R_bottom => k_is)
    (case n_A_place => k_is)
    (case n_A_side => k_is)
    (case sf => k_is)
    (case ic => k_is)
    (case ci => k_is)
    (case fA => k_is)
    (case rA => k_is)
    (case fS => k_is)
    (case rS => k_is)
    (case fM => k_is)
    (case rM => k_is)
    (case sA => kernel_rfl)
    (case sS => kernel_rfl)
    (case sM => kernel_rfl)
    (case ne => k_is)
    (case nb => k_is)
    (case nl => k_is)
    (case nfR => k_is)
    (case kRI => kernel_rfl)
    (case kRB => kernel_rfl)
    (case kT0 => kernel_rfl)
    (case kT1 => kernel_rfl)
    (case kT2 => kernel_rfl)
    (case kT3 => kernel_rfl)
    (case kT4 => kernel_rfl)
    (case kT5 => kernel_rfl)
    (case aS_ => k_is)
    (case lS_ => k_is)
    (case oS_ => kernel_rfl)
    (case kS => kernel_rfl)
    (case neA => k_is)
    (case nfA => k_is)
    (case nfS => k_is)
#print axioms PySem.Challenge.cw_doughfolds_k07_raisins_made_and_in_order_holds

