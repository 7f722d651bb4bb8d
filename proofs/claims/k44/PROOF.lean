import PyProof.Rows.All
import Wide.All
import OpenK.AllK
import Wide.FinOn
import HandS.ForMost
import HandS.Flow
import HandS.Conv
import HandS.IsInst
import HandS.OwnEq
import HandS.MakeKw
import HandS.Defaults
import HandS.MakeKwOnly
import HandS.Style
import PyProof.ReprRoads
import KE.KOpsOwn
import OpenK.KOps
import HandS.TupAny
import HandS.TupMul
import HandS.Words
import HandS.FStr
import HandS.TryOnly
import HandS.List
import KE.KCallOwn
import HandS.Iter
import HandS.Text
import KE.GoesEnum
import HandS.Wide
import PyProof.StrOps2
import HandS.SortInts
import HandS.Deep
import HandS.RaiseMore
import KE.KRevSl
import HandS.ClsMeth
import HandS.Replace
import HandS.SetFor
import HandS.Strs
import HandS.Zip
import PySem.Challenge.RW_doughfolds_k44_rows_of_colours_by_sets
set_option Elab.async false
set_option linter.all false
set_option maxRecDepth 100000
set_option maxHeartbeats 4000000
/-! DL1: data without addresses. D: what a value stands for; Den: that it does; ST: what is known of a frame's slots; EvM, EvT, EvA, SD: what a reading evaluates to. -/
namespace DL
open PySem L2

/-- data: what a value stands for -/
inductive D where
  | non | bl (b : Bool) | int (i : Int) | str (x : Str) | tup (xs : List D) | lst (xs : List D) | obj (c : Nat) (fs : List (Str × D)) | cst (v : V) | dic (kvs : List (D × D))
def keyD : L2.Key → D
  | .inl i => .int i
  | .inr x => .str x
def keyT (ks : List L2.Key) : D := .tup (ks.map keyD)

/-- the written part, the classes by number -/
structure Kc where
  K : PySem.W.Frag
  cl : Nat → Addr
  has : Nat → Bool

mutual
/-- v stands for d in the heap G -/
inductive Den (C : Kc) (G : Hp) : V → D → Prop where
  | non : Den C G .non .non
  | bl (b : Bool) : Den C G (.bl b) (.bl b)
  | int (i : Int) : Den C G (.int i) (.int i)
  | str (x : Str) : Den C G (.str x) (.str x)
  | tup {a : Addr} {xs : List V} {ds : List D} : SqT C.K G a xs → DenL C G xs ds → Den C G (.ref a) (.tup ds)
  | lst {a : Addr} {xs : List V} {ds : List D} : SqL C.K G a xs → DenL C G xs ds → Den C G (.ref a) (.lst ds)
  | obj {a dx : Addr} {c : Nat} {vs : List (Str × V)} {fs : List (Str × D)} : C.has c = true → G a = some (.ins (C.cl c) dx vs) → DenF C G vs fs → Den C G (.ref a) (.obj c fs)
  | cst (v : V) : Den C G v (.cst v)
  | dK {a : Addr} {kvs : List (L2.Key × V)} {kds : List (D × D)} : G a = some (.dK kvs) → DenK C G kvs kds → Den C G (.ref a) (.dic kds)
  | dT {a : Addr} {kvs : List (List L2.Key × V)} {kds : List (D × D)} : G a = some (.dT kvs) → DenT C G kvs kds → Den C G (.ref a) (.dic kds)
inductive DenL (C : Kc) (G : Hp) : List V → List D → Prop where
  | nil : DenL C G [] []
  | cons {v : V} {d : D} {vs : List V} {ds : List D} : Den C G v d → DenL C G vs ds → DenL C G (v :: vs) (d :: ds)
inductive DenF (C : Kc) (G : Hp) : List (Str × V) → List (Str × D) → Prop where
  | nil : DenF C G [] []
  | cons {f : Str} {v : V} {d : D} {vs : List (Str × V)} {ds : List (Str × D)} : Den C G v d → DenF C G vs ds → DenF C G ((f, v) :: vs) ((f, d) :: ds)
inductive DenK (C : Kc) (G : Hp) : List (L2.Key × V) → List (D × D) → Prop where
  | nil : DenK C G [] []
  | cons {k : L2.Key} {v : V} {d : D} {vs : List (L2.Key × V)} {ds : List (D × D)} : Den C G v d → DenK C G vs ds → DenK C G ((k, v) :: vs) ((keyD k, d) :: ds)
inductive DenT (C : Kc) (G : Hp) : List (List L2.Key × V) → List (D × D) → Prop where
  | nil : DenT C G [] []
  | cons {k : List L2.Key} {v : V} {d : D} {vs : List (List L2.Key × V)} {ds : List (D × D)} : Den C G v d → DenT C G vs ds → DenT C G ((k, v) :: vs) ((keyT k, d) :: ds)
end

theorem same_t {K : PySem.W.Frag} {H H' : Hp} {a : Addr} {xs : List V} (e : Same H H') (h : SqT K H a xs) : SqT K H' a xs := by
  rcases h with (h | ⟨o, h⟩) | h
  · exact .inl (.inl (e _ _ h))
  · exact .inl (.inr ⟨o, e _ _ h⟩)
  · exact .inr h

mutual
theorem Den.mono {C : Kc} {G G' : Hp} (e : Same G G') : ∀ {v : V} {d : D}, Den C G v d → Den C G' v d
  | _, _, .non => .non
  | _, _, .bl b => .bl b
  | _, _, .int i => .int i
  | _, _, .str x => .str x
  | _, _, .tup h l => .tup (same_t e h) (DenL.mono e l)
  | _, _, .lst h l => .lst (e.seq h) (DenL.mono e l)
  | _, _, .obj q h l => .obj q (e _ _ h) (DenF.mono e l)
  | _, _, .cst v => .cst v
  | _, _, .dK h l => .dK (e _ _ h) (DenK.mono e l)
  | _, _, .dT h l => .dT (e _ _ h) (DenT.mono e l)
theorem DenL.mono {C : Kc} {G G' : Hp} (e : Same G G') : ∀ {v : List V} {d : List D}, DenL C G v d → DenL C G' v d
  | _, _, .nil => .nil
  | _, _, .cons h l => .cons (Den.mono e h) (DenL.mono e l)
theorem DenF.mono {C : Kc} {G G' : Hp} (e : Same G G') : ∀ {v : List (Str × V)} {d : List (Str × D)}, DenF C G v d → DenF C G' v d
  | _, _, .nil => .nil
  | _, _, .cons h l => .cons (Den.mono e h) (DenF.mono e l)
theorem DenK.mono {C : Kc} {G G' : Hp} (e : Same G G') : ∀ {v : List (L2.Key × V)} {d : List (D × D)}, DenK C G v d → DenK C G' v d
  | _, _, .nil => .nil
  | _, _, .cons h l => .cons (Den.mono e h) (DenK.mono e l)
theorem DenT.mono {C : Kc} {G G' : Hp} (e : Same G G') : ∀ {v : List (List L2.Key × V)} {d : List (D × D)}, DenT C G v d → DenT C G' v d
  | _, _, .nil => .nil
  | _, _, .cons h l => .cons (Den.mono e h) (DenT.mono e l)
end

theorem DenL.length {C : Kc} {G : Hp} : ∀ {vs : List V} {ds : List D}, DenL C G vs ds → vs.length = ds.length
  | _, _, .nil => rfl
  | _, _, .cons _ l => by rw [List.length_cons, List.length_cons, DenL.length l]
theorem DenL.get {C : Kc} {G : Hp} : ∀ {vs : List V} {ds : List D} {i : Nat} {d : D}, DenL C G vs ds → ds[i]? = some d → ∃ v, vs[i]? = some v ∧ Den C G v d
  | _, _, _, _, .nil, e => by simp at e
  | _, _, 0, _, .cons h _, e => by simp at e; subst e; exact ⟨_, rfl, h⟩
  | _, _, i + 1, d, .cons _ l, e => by
    obtain ⟨v, h1, h2⟩ := DenL.get (i := i) (d := d) l (by simpa using e)
    exact ⟨v, by simpa using h1, h2⟩
theorem DenL.getV {C : Kc} {G : Hp} : ∀ {vs : List V} {ds : List D} {i : Nat} {v : V}, DenL C G vs ds → vs[i]? = some v → ∃ d, ds[i]? = some d ∧ Den C G v d
  | _, _, _, _, .nil, e => by simp at e
  | _, _, 0, _, .cons h _, e => by simp at e; subst e; exact ⟨_, rfl, h⟩
  | _, _, i + 1, d, .cons _ l, e => by
    obtain ⟨v, h1, h2⟩ := DenL.getV (i := i) (v := d) l (by simpa using e)
    exact ⟨v, by simpa using h1, h2⟩
theorem DenL.set {C : Kc} {G : Hp} {v : V} {d : D} (h : Den C G v d) : ∀ {vs : List V} {ds : List D} (i : Nat), DenL C G vs ds → DenL C G (vs.set i v) (ds.set i d)
  | _, _, _, .nil => .nil
  | _, _, 0, .cons _ l => .cons h l
  | _, _, i + 1, .cons q l => .cons q (DenL.set h i l)
theorem DenL.append {C : Kc} {G : Hp} : ∀ {vs ws : List V} {ds es : List D}, DenL C G vs ds → DenL C G ws es → DenL C G (vs ++ ws) (ds ++ es)
  | _, _, _, _, .nil, s => s
  | _, _, _, _, .cons r t, s => .cons r (DenL.append t s)
theorem DenL.take {C : Kc} {G : Hp} : ∀ {vs : List V} {ds : List D} (n : Nat), DenL C G vs ds → DenL C G (vs.take n) (ds.take n)
  | _, _, 0, _ => .nil
  | _, _, _ + 1, .nil => .nil
  | _, _, n + 1, .cons r t => .cons r (DenL.take n t)
theorem DenL.drop {C : Kc} {G : Hp} : ∀ {vs : List V} {ds : List D} (n : Nat), DenL C G vs ds → DenL C G (vs.drop n) (ds.drop n)
  | _, _, 0, r => r
  | _, _, _ + 1, .nil => .nil
  | _, _, n + 1, .cons _ t => DenL.drop n t
theorem DenL.split {C : Kc} {G : Hp} : ∀ {vs : List V} {ds es : List D}, DenL C G vs (ds ++ es) → ∃ us ws, vs = us ++ ws ∧ DenL C G us ds ∧ DenL C G ws es
  | vs, [], es, h => ⟨[], vs, rfl, .nil, h⟩
  | _, d :: ds, es, .cons h l => by
    obtain ⟨us, ws, e, h1, h2⟩ := DenL.split (ds := ds) (es := es) l
    exact ⟨_ :: us, ws, by rw [e]; rfl, .cons h h1, h2⟩
theorem DenF.look {C : Kc} {G : Hp} {f : Str} : ∀ {vs : List (Str × V)} {ds : List (Str × D)} {d : D}, DenF C G vs ds → ds.lookup f = some d → ∃ v, vs.lookup f = some v ∧ Den C G v d
  | _, _, _, .nil, e => by simp at e
  | _, _, d, .cons (f := g) (v := v) h l, e => by
    rw [List.lookup_cons] at e ⊢
    cases q : (f == g) with
    | true => rw [q] at e; exact ⟨v, rfl, Option.some.inj e ▸ h⟩
    | false => rw [q] at e; exact DenF.look (d := d) l e
theorem DenF.lookN {C : Kc} {G : Hp} {f : Str} : ∀ {vs : List (Str × V)} {ds : List (Str × D)}, DenF C G vs ds → ds.lookup f = none → vs.lookup f = none
  | _, _, .nil, _ => rfl
  | _, _, .cons (f := g) h l, e => by
    rw [List.lookup_cons] at e ⊢
    cases q : (f == g) with
    | true => rw [q] at e; cases e
    | false => rw [q] at e; exact DenF.lookN l e
def putD (f : Str) (d : D) : List (Str × D) → List (Str × D)
  | [] => [(f, d)]
  | (g, x) :: r => if g = f then (g, d) :: r else (g, x) :: putD f d r
theorem DenF.put {C : Kc} {G : Hp} {f : Str} {v : V} {d : D} (h : Den C G v d) : ∀ {vs : List (Str × V)} {ds : List (Str × D)}, DenF C G vs ds → DenF C G (putF f v vs) (putD f d ds)
  | _, _, .nil => .cons h .nil
  | _, _, .cons (f := g) q l => by
    unfold putF putD
    by_cases e : g = f
    · rw [if_pos e, if_pos e]; exact .cons h l
    · rw [if_neg e, if_neg e]; exact .cons q (DenF.put h l)
theorem DenF.length {C : Kc} {G : Hp} : ∀ {vs : List (Str × V)} {ds : List (Str × D)}, DenF C G vs ds → vs.length = ds.length
  | _, _, .nil => rfl
  | _, _, .cons _ l => by rw [List.length_cons, List.length_cons, DenF.length l]

/-- an object that may change: a list, a dict -/
inductive MO where
  | lst (ds : List D) | dic (kvs : List (D × D))
def dOf : MO → D
  | .lst ds => .lst ds
  | .dic kvs => .dic kvs
inductive MOk (C : Kc) (G : Hp) : HO → MO → Prop where
  | lst {vs : List V} {ds : List D} : DenL C G vs ds → MOk C G (.lst vs) (.lst ds)
  | dK {kvs : List (L2.Key × V)} {kds : List (D × D)} : DenK C G kvs kds → MOk C G (.dK kvs) (.dic kds)
  | dT {kvs : List (List L2.Key × V)} {kds : List (D × D)} : DenT C G kvs kds → MOk C G (.dT kvs) (.dic kds)
theorem MOk.mono {C : Kc} {G G' : Hp} (e : Same G G') {o : HO} {m : MO} (h : MOk C G o m) : MOk C G' o m := by
  cases h with
  | lst h => exact .lst (h.mono e)
  | dK h => exact .dK (h.mono e)
  | dT h => exact .dT (h.mono e)
theorem MOk.den {C : Kc} {G : Hp} {o : HO} {m : MO} {a : Addr} (ha : G a = some o) (h : MOk C G o m) : Den C G (.ref a) (dOf m) := by
  cases h with
  | lst h => exact .lst (SqL.of ha) h
  | dK h => exact .dK ha h
  | dT h => exact .dT ha h
theorem MOk.isL {C : Kc} {G : Hp} {o : HO} {ds : List D} (h : MOk C G o (.lst ds)) : ∃ vs, o = .lst vs ∧ DenL C G vs ds := by
  cases h with
  | lst h => exact ⟨_, rfl, h⟩
/-- what is known of a slot: data; a list or dict of this body's own; the handed object -/
inductive DV where
  | imm (d : D) | own (m : MO) | bag
/-- the handed object: a list, an instance -/
inductive BG where
  | lst (ds : List D) | ins (c : Nat) (fs : List (Str × D))
structure ST where
  s : List (Option DV)
  g : Option (Addr × BG)
def ST.set (S : ST) (i : Nat) (d : D) : ST := ⟨S.s.set i (some (.imm d)), S.g⟩
def ST.setM (S : ST) (i : Nat) (m : MO) : ST := ⟨S.s.set i (some (.own m)), S.g⟩
abbrev ST.setO (S : ST) (i : Nat) (ds : List D) : ST := S.setM i (.lst ds)
def ST.clr (S : ST) (i : Nat) : ST := ⟨S.s.set i none, S.g⟩

def BagOk (C : Kc) (G H : Hp) : Option (Addr × BG) → Prop
  | none => True
  | some (b, .lst ds) => G b = none ∧ ∃ vs, H b = some (.lst vs) ∧ DenL C G vs ds
  | some (b, .ins c fs) => G b = none ∧ ∃ dx vs, H b = some (.ins (C.cl c) dx vs) ∧ DenF C G vs fs

/-- the state: G a part of the heap H in which the data stand; what the slots hold -/
structure Ctx (C : Kc) (G H : Hp) (σ : L2.St) (S : ST) : Prop where
  sub : Same G H
  len : σ.length = S.s.length
  im : ∀ (i : Nat) d, S.s[i]? = some (some (.imm d)) → ∃ v, σ[i]? = some (some v) ∧ Den C G v d
  ow : ∀ (i : Nat) ds, S.s[i]? = some (some (.own ds)) → ∃ a o, σ[i]? = some (some (.ref a)) ∧ G a = none ∧ H a = some o ∧ MOk C G o ds
  apart : ∀ (i j : Nat) ds es a, S.s[i]? = some (some (.own ds)) → S.s[j]? = some (some (.own es)) → σ[i]? = some (some (.ref a)) → σ[j]? = some (some (.ref a)) → i = j
  bg : ∀ (i : Nat) b o, S.g = some (b, o) → S.s[i]? = some (some .bag) → σ[i]? = some (some (.ref b))
  bag : BagOk C G H S.g
  nob : ∀ (i : Nat) b o ds, S.g = some (b, o) → S.s[i]? = some (some (.own ds)) → σ[i]? ≠ some (some (.ref b))

/-- the addresses that this body may change -/
def OA (C : Kc) (σ : L2.St) (S : ST) (a : Addr) : Prop := (∃ (i : Nat) (ds : MO), S.s[i]? = some (some (.own ds)) ∧ σ[i]? = some (some (.ref a))) ∨ ∃ o, S.g = some (a, o)

structure Go (A : Addr → Prop) (G H G2 H2 : Hp) : Prop where
  keep : ∀ a o, ¬ A a → H a = some o → H2 a = some o
  gg : Same G G2
  fr : ∀ a, ¬ A a → H a ≠ none → G a = none → G2 a = none
  dom : ∀ a, H a ≠ none → H2 a ≠ none
theorem same_dom {H H2 : Hp} (k : Same H H2) : ∀ a, H a ≠ none → H2 a ≠ none := fun a h => by
  cases q : H a with
  | none => exact absurd q h
  | some o => rw [k a o q]; simp
theorem Go.refl {A : Addr → Prop} {G H : Hp} : Go A G H G H := ⟨fun _ _ _ h => h, fun _ _ h => h, fun _ _ _ h => h, fun _ h => h⟩
theorem Go.trans {A A2 : Addr → Prop} {G H G1 H1 G2 H2 : Hp} (a : Go A G H G1 H1) (b : Go A2 G1 H1 G2 H2) (h : ∀ x, A2 x → A x ∨ H x = none) : Go A G H G2 H2 where
  keep := fun x o n e => b.keep x o (fun z => (h x z).elim n fun q => by rw [q] at e; cases e) (a.keep x o n e)
  gg := a.gg.trans b.gg
  fr := fun x n e g => by
    cases q : H x with
    | none => exact absurd q e
    | some o => exact b.fr x (fun z => (h x z).elim n fun q' => by rw [q'] at q; cases q) (by rw [a.keep x o n q]; simp) (a.fr x n e g)
  dom := fun x h => b.dom x (a.dom x h)
theorem Go.mono {A A2 : Addr → Prop} {G H G2 H2 : Hp} (a : Go A G H G2 H2) (h : ∀ x, A x → A2 x) : Go A2 G H G2 H2 := ⟨fun x o n => a.keep x o fun z => n (h x z), a.gg, fun x n => a.fr x fun z => n (h x z), a.dom⟩

/-- a move that stores no name -/
structure Mv (C : Kc) (σ : L2.St) (S : ST) (G H : Hp) (S2 : ST) (G2 H2 : Hp) : Prop where
  go : Go (OA C σ S) G H G2 H2
  cx : Ctx C G2 H2 σ S2
  oa : ∀ a, OA C σ S2 a → OA C σ S a
theorem Mv.trans {C : Kc} {σ : L2.St} {S S1 S2 : ST} {G H G1 H1 G2 H2 : Hp} (a : Mv C σ S G H S1 G1 H1) (b : Mv C σ S1 G1 H1 S2 G2 H2) : Mv C σ S G H S2 G2 H2 :=
  ⟨a.go.trans b.go fun x z => .inl (a.oa x z), b.cx, fun x z => a.oa x (b.oa x z)⟩
theorem Mv.refl {C : Kc} {σ : L2.St} {S : ST} {G H : Hp} (c : Ctx C G H σ S) : Mv C σ S G H S G H := ⟨.refl, c, fun _ z => z⟩

/-- nothing of ours is changed, the data part grows -/
theorem Ctx.step {C : Kc} {G H G2 H2 : Hp} {σ : L2.St} {S : ST} (c : Ctx C G H σ S) (k : Same H H2) (gg : Same G G2) (sub : Same G2 H2) (fr : ∀ a, H a ≠ none → G a = none → G2 a = none) : Ctx C G2 H2 σ S where
  sub := sub
  len := c.len
  im := fun i d h => let ⟨v, h1, h2⟩ := c.im i d h; ⟨v, h1, h2.mono gg⟩
  ow := fun i ds h => let ⟨a, vs, h1, h2, h3, h4⟩ := c.ow i ds h; ⟨a, vs, h1, fr a (by rw [h3]; simp) h2, k _ _ h3, h4.mono gg⟩
  apart := c.apart
  bg := c.bg
  bag := by
    have z := c.bag
    cases q : S.g with
    | none => trivial
    | some bo =>
      obtain ⟨b, o⟩ := bo
      rw [q] at z
      cases o with
      | lst ds => obtain ⟨h1, vs, h2, h3⟩ := z; exact ⟨fr _ (by rw [h2]; simp) h1, vs, k _ _ h2, h3.mono gg⟩
      | ins cc fs => obtain ⟨h1, dx, vs, h2, h3⟩ := z; exact ⟨fr _ (by rw [h2]; simp) h1, dx, vs, k _ _ h2, h3.mono gg⟩
  nob := c.nob
theorem Ctx.mv {C : Kc} {G H G2 H2 : Hp} {σ : L2.St} {S : ST} (c : Ctx C G H σ S) (k : Same H H2) (gg : Same G G2) (sub : Same G2 H2) (fr : ∀ a, H a ≠ none → G a = none → G2 a = none) : Mv C σ S G H S G2 H2 :=
  ⟨⟨fun a o _ h => k a o h, gg, fun a _ h1 h2 => fr a h1 h2, same_dom k⟩, c.step k gg sub fr, fun _ z => z⟩
/-- a new object, data -/
theorem Ctx.new {C : Kc} {G H : Hp} {σ : L2.St} {S : ST} {p : Addr} {o : HO} (c : Ctx C G H σ S) (hp : H p = none) : Mv C σ S G H S (upd G p o) (upd H p o) := by
  have gp : G p = none := c.sub.free hp
  refine c.mv (fun a u h => ?_) (fun a u h => ?_) (fun a u h => ?_) (fun a h1 h2 => ?_)
  · rw [upd_ne (ne_of_none h hp)]; exact h
  · rw [upd_ne (ne_of_none h gp)]; exact h
  · by_cases e : a = p
    · subst e; rw [upd_same] at h ⊢; exact h
    · rw [upd_ne e] at h ⊢; exact c.sub _ _ h
  · have e : a ≠ p := fun z => h1 (by rw [z]; exact hp)
    rw [upd_ne e]; exact h2

def EvM (C : Kc) (te : TE) (S S' : ST) (d : D) : Prop :=
  ∀ σ G H, Ctx C G H σ S → ∀ Q : VK, (∀ v G2 H2, Mv C σ S G H S' G2 H2 → Den C G2 v d → Q v H2) → te σ H Q
def EvT (C : Kc) (tt : TT) (S S' : ST) (b : Bool) : Prop :=
  ∀ σ G H, Ctx C G H σ S → ∀ Q : Bool → Hp → Prop, (∀ G2 H2, Mv C σ S G H S' G2 H2 → Q b H2) → tt σ H Q
def EvA (C : Kc) (ta : TA) (S S' : ST) (ds : List D) : Prop :=
  ∀ σ G H, Ctx C G H σ S → ∀ Q : List V → Hp → Prop, (∀ vs G2 H2, Mv C σ S G H S' G2 H2 → DenL C G2 vs ds → Q vs H2) → ta σ H Q
/-- a new list of its own, handed to nobody yet -/
def EvO (C : Kc) (te : TE) (S S' : ST) (ds : List D) : Prop :=
  ∀ σ G H, Ctx C G H σ S → ∀ Q : VK, (∀ p vs G2 H2, Mv C σ S G H S' G2 H2 → H p = none → G2 p = none → H2 p = some (.lst vs) → DenL C G2 vs ds → Q (.ref p) H2) → te σ H Q

/-- a move that may store names -/
structure Mw (C : Kc) (σ : L2.St) (S : ST) (G H : Hp) (σ2 : L2.St) (S2 : ST) (G2 H2 : Hp) : Prop where
  go : Go (OA C σ S) G H G2 H2
  cx : Ctx C G2 H2 σ2 S2
  oa : ∀ a, OA C σ2 S2 a → OA C σ S a ∨ H a = none
theorem Mw.trans {C : Kc} {σ σ1 σ2 : L2.St} {S S1 S2 : ST} {G H G1 H1 G2 H2 : Hp} (a : Mw C σ S G H σ1 S1 G1 H1) (b : Mw C σ1 S1 G1 H1 σ2 S2 G2 H2) : Mw C σ S G H σ2 S2 G2 H2 :=
  ⟨a.go.trans b.go a.oa, b.cx, fun x z => by
    rcases b.oa x z with q | q
    · exact a.oa x q
    · by_cases n : OA C σ S x
      · exact .inl n
      · refine .inr ?_
        cases r : H x with
        | none => rfl
        | some o => rw [a.go.keep x o n r] at q; cases q⟩
theorem Mw.refl {C : Kc} {σ : L2.St} {S : ST} {G H : Hp} (c : Ctx C G H σ S) : Mw C σ S G H σ S G H := ⟨.refl, c, fun _ z => .inl z⟩
theorem Mv.mw {C : Kc} {σ : L2.St} {S S2 : ST} {G H G2 H2 : Hp} (a : Mv C σ S G H S2 G2 H2) : Mw C σ S G H σ S2 G2 H2 := ⟨a.go, a.cx, fun x z => .inl (a.oa x z)⟩

/-- what is wanted behind statements, of data -/
structure Po where
  nx : ST → Prop := fun _ => False
  rt : D → ST → Prop := fun _ _ => False
  bk : ST → Prop := fun _ => False
  ct : ST → Prop := fun _ => False
  ro : List D → ST → Prop := fun _ _ => False
structure Meets (C : Kc) (P : Po) (σ : L2.St) (S : ST) (G H : Hp) (E : Ends) : Prop where
  nx : ∀ σ2 S2 G2 H2, Mw C σ S G H σ2 S2 G2 H2 → P.nx S2 → E.nx σ2 H2
  rt : ∀ v d σ2 S2 G2 H2, Mw C σ S G H σ2 S2 G2 H2 → Den C G2 v d → P.rt d S2 → E.rt v H2
  bk : ∀ σ2 S2 G2 H2, Mw C σ S G H σ2 S2 G2 H2 → P.bk S2 → E.bk σ2 H2
  ct : ∀ σ2 S2 G2 H2, Mw C σ S G H σ2 S2 G2 H2 → P.ct S2 → E.ct σ2 H2
  ro : ∀ p ev es σ2 S2 G2 H2, Mw C σ S G H σ2 S2 G2 H2 → H p = none → G2 p = none → H2 p = some (.lst ev) → DenL C G2 ev es → P.ro es S2 → E.rt (.ref p) H2
theorem back_none {A : Addr → Prop} {G H G2 H2 : Hp} (g : Go A G H G2 H2) {p : Addr} (h : H2 p = none) : H p = none := by
  cases r : H p with
  | none => rfl
  | some o => exact absurd h (g.dom p (by rw [r]; simp))
theorem Meets.move {C : Kc} {P : Po} {σ σ1 : L2.St} {S S1 : ST} {G H G1 H1 : Hp} {E : Ends} (m : Meets C P σ S G H E) (a : Mw C σ S G H σ1 S1 G1 H1) : Meets C P σ1 S1 G1 H1 E :=
  ⟨fun σ2 S2 G2 H2 b h => m.nx _ _ _ _ (a.trans b) h, fun v d σ2 S2 G2 H2 b q h => m.rt v d _ _ _ _ (a.trans b) q h, fun σ2 S2 G2 H2 b h => m.bk _ _ _ _ (a.trans b) h, fun σ2 S2 G2 H2 b h => m.ct _ _ _ _ (a.trans b) h, fun p ev es σ2 S2 G2 H2 b h1 h2 h3 h4 h => m.ro p ev es _ _ _ _ (a.trans b) (back_none a.go h1) h2 h3 h4 h⟩
def SD (C : Kc) (ts : TS) (S : ST) (P : Po) : Prop := ∀ σ G H, Ctx C G H σ S → ∀ E : Ends, Meets C P σ S G H E → ts E σ H

/-- storing data into a slot -/
theorem Ctx.store {C : Kc} {G H : Hp} {σ : L2.St} {S : ST} {i : Nat} {v : V} {d : D} (c : Ctx C G H σ S) (h : Den C G v d) : Mw C σ S G H (σ.set i (some v)) (S.set i d) G H := by
  refine ⟨.refl, ⟨c.sub, by simp [ST.set, c.len], fun j e q => ?_, fun j e q => ?_, fun j k ds es a q1 q2 q3 q4 => ?_, fun j b o hg q => ?_, c.bag, fun j b o ds q q2 => ?_⟩, fun a z => ?_⟩
  · by_cases ij : i = j
    · subst ij
      have hl : i < S.s.length := by
        rcases Nat.lt_or_ge i S.s.length with z | z
        · exact z
        · rw [ST.set, List.getElem?_eq_none (by simpa using z)] at q; cases q
      rw [ST.set, List.getElem?_set_self hl] at q
      cases q
      exact ⟨v, List.getElem?_set_self (by rw [c.len]; exact hl), h⟩
    · rw [ST.set, List.getElem?_set_ne ij] at q
      rw [List.getElem?_set_ne ij]
      exact c.im j e q
  · by_cases ij : i = j
    · subst ij
      rcases Nat.lt_or_ge i S.s.length with z | z
      · rw [ST.set, List.getElem?_set_self z] at q; cases q
      · rw [ST.set, List.getElem?_eq_none (by simpa using z)] at q; cases q
    · rw [ST.set, List.getElem?_set_ne ij] at q
      rw [List.getElem?_set_ne ij]
      exact c.ow j e q
  · have key : ∀ (j : Nat) ds, (S.set i d).s[j]? = some (some (DV.own ds)) → i ≠ j ∧ S.s[j]? = some (some (DV.own ds)) := fun j ds q => by
      by_cases ij : i = j
      · subst ij
        rcases Nat.lt_or_ge i S.s.length with z | z
        · rw [ST.set, List.getElem?_set_self z] at q; cases q
        · rw [ST.set, List.getElem?_eq_none (by simpa using z)] at q; cases q
      · rw [ST.set, List.getElem?_set_ne ij] at q; exact ⟨ij, q⟩
    obtain ⟨n1, k1⟩ := key j ds q1
    obtain ⟨n2, k2⟩ := key k es q2
    rw [List.getElem?_set_ne n1] at q3
    rw [List.getElem?_set_ne n2] at q4
    exact c.apart j k ds es a k1 k2 q3 q4
  · by_cases ij : i = j
    · subst ij
      rcases Nat.lt_or_ge i S.s.length with z | z
      · rw [ST.set, List.getElem?_set_self z] at q; cases q
      · rw [ST.set, List.getElem?_eq_none (by simpa using z)] at q; cases q
    · rw [ST.set, List.getElem?_set_ne ij] at q
      rw [List.getElem?_set_ne ij]
      exact c.bg j b o hg q
  · by_cases ij : i = j
    · subst ij
      rcases Nat.lt_or_ge i S.s.length with z | z
      · rw [ST.set, List.getElem?_set_self z] at q2; cases q2
      · rw [ST.set, List.getElem?_eq_none (by simpa using z)] at q2; cases q2
    · rw [ST.set, List.getElem?_set_ne ij] at q2
      rw [List.getElem?_set_ne ij]
      exact c.nob j b o ds q q2
  · rcases z with ⟨j, ds, q1, q2⟩ | z
    · have ij : i ≠ j := fun ij => by
        subst ij
        rcases Nat.lt_or_ge i S.s.length with z | z
        · rw [ST.set, List.getElem?_set_self z] at q1; cases q1
        · rw [ST.set, List.getElem?_eq_none (by simpa using z)] at q1; cases q1
      rw [ST.set, List.getElem?_set_ne ij] at q1
      rw [List.getElem?_set_ne ij] at q2
      exact .inl (.inl ⟨j, ds, q1, q2⟩)
    · exact .inl (.inr z)
end DL
/-! DL2: judgements over the text: DE, DT, DA (expressions, tests, arguments), DS (statements), over a family of contexts. -/
namespace DL
open PySem L2

structure Fam where
  I : Type
  X : I → Cx
  P : Program
  w : World
  C : Kc
  mg : Str → Option Value
  base : Heap
  N : List Str
  k : Nat
  hP : ∀ i, (X i).prog = P
  hw : ∀ i, (X i).w = w
  hK : ∀ i, (X i).K = C.K
  hmg : ∀ i, (X i).mg = mg
  hbase : ∀ i, (X i).base = base
  hN : ∀ i, (X i).N = N
  nd : N.Nodup
  room : ∀ i, Room k (X i).A
  calm : ∀ i, (X i).calm = true

def anyE (F : Fam) (e : Expr) : TE := fun σ H Q => ∃ te, (∀ i, PE (F.X i) e te) ∧ te σ H Q
def anyT (F : Fam) (e : Expr) : TT := fun σ H Q => ∃ te, (∀ i, PT (F.X i) e te) ∧ te σ H Q
def anyW (F : Fam) (e : Expr) : TT := fun σ H Q => ∃ te, (∀ i, PW (F.X i) e te) ∧ te σ H Q
def anyA (F : Fam) (e : List Expr) : TA := fun σ H Q => ∃ te, (∀ i, PA (F.X i) e te) ∧ te σ H Q
def anyK (F : Fam) (e : List Keyword) : TA := fun σ H Q => ∃ te, (∀ i, PK (F.X i) e te) ∧ te σ H Q
def any1 (F : Fam) (e : Stmt) : TS := fun E σ H => ∃ te, (∀ i, PS (F.X i) e te) ∧ te E σ H
def anyS (F : Fam) (e : List Stmt) : TS := fun E σ H => ∃ te, (∀ i, PSs (F.X i) e te) ∧ te E σ H
theorem anyE_ok {F : Fam} {e : Expr} (i : F.I) : PE (F.X i) e (anyE F e) := ⟨fun pins s σ H Q I h => let ⟨te, h1, h2⟩ := h; (h1 i).run pins s σ H Q I h2⟩
theorem anyT_ok {F : Fam} {e : Expr} (i : F.I) : PT (F.X i) e (anyT F e) := ⟨fun pins s σ H Q I h => let ⟨te, h1, h2⟩ := h; (h1 i).run pins s σ H Q I h2⟩
theorem anyW_ok {F : Fam} {e : Expr} (i : F.I) : PW (F.X i) e (anyW F e) := ⟨fun wh pins s σ H Q I h => let ⟨te, h1, h2⟩ := h; (h1 i).run wh pins s σ H Q I h2⟩
theorem anyA_ok {F : Fam} {e : List Expr} (i : F.I) : PA (F.X i) e (anyA F e) := ⟨fun pos pins s σ H Q I h => let ⟨te, h1, h2⟩ := h; (h1 i).run pos pins s σ H Q I h2⟩
theorem anyK_ok {F : Fam} {e : List Keyword} (i : F.I) : PK (F.X i) e (anyK F e) := ⟨fun pos pins s σ H Q I h => let ⟨te, h1, h2⟩ := h; (h1 i).run pos pins s σ H Q I h2⟩
theorem any1_ok {F : Fam} {e : Stmt} (i : F.I) : PS (F.X i) e (any1 F e) := ⟨fun pins s σ H Q I h => let ⟨te, h1, h2⟩ := h; (h1 i).run pins s σ H Q I h2⟩
theorem anyS_ok {F : Fam} {e : List Stmt} (i : F.I) : PSs (F.X i) e (anyS F e) := ⟨fun pins s σ H Q I h => let ⟨te, h1, h2⟩ := h; (h1 i).run pins s σ H Q I h2⟩

def DE (F : Fam) (e : Expr) (S S' : ST) (d : D) : Prop := EvM F.C (anyE F e) S S' d
def DT (F : Fam) (e : Expr) (S S' : ST) (b : Bool) : Prop := EvT F.C (anyT F e) S S' b
def DW (F : Fam) (e : Expr) (S S' : ST) (b : Bool) : Prop := EvT F.C (anyW F e) S S' b
def DA (F : Fam) (e : List Expr) (S S' : ST) (ds : List D) : Prop := EvA F.C (anyA F e) S S' ds
def DK (F : Fam) (e : List Keyword) (S S' : ST) (ds : List D) : Prop := EvA F.C (anyK F e) S S' ds
def DO (F : Fam) (e : Expr) (S S' : ST) (ds : List D) : Prop := EvO F.C (anyE F e) S S' ds
def D1 (F : Fam) (e : Stmt) (S : ST) (P : Po) : Prop := SD F.C (any1 F e) S P
def DS (F : Fam) (e : List Stmt) (S : ST) (P : Po) : Prop := SD F.C (anyS F e) S P

section
variable {F : Fam} {S S1 S2 S3 : ST} {e a b : Expr} {d x y z : D} {pos : Pos} {P : Po}
theorem de_of {te : TE} (h : ∀ i, PE (F.X i) e te) (v : EvM F.C te S S' d) : DE F e S S' d := fun σ G H c Q q => ⟨te, h, v σ G H c Q q⟩
theorem dt_of {te : TT} {b : Bool} (h : ∀ i, PT (F.X i) e te) (v : EvT F.C te S S' b) : DT F e S S' b := fun σ G H c Q q => ⟨te, h, v σ G H c Q q⟩
theorem dw_of {te : TT} {b : Bool} (h : ∀ i, PW (F.X i) e te) (v : EvT F.C te S S' b) : DW F e S S' b := fun σ G H c Q q => ⟨te, h, v σ G H c Q q⟩
theorem da_of {es : List Expr} {te : TA} {ds : List D} (h : ∀ i, PA (F.X i) es te) (v : EvA F.C te S S' ds) : DA F es S S' ds := fun σ G H c Q q => ⟨te, h, v σ G H c Q q⟩
theorem dk_of {es : List Keyword} {te : TA} {ds : List D} (h : ∀ i, PK (F.X i) es te) (v : EvA F.C te S S' ds) : DK F es S S' ds := fun σ G H c Q q => ⟨te, h, v σ G H c Q q⟩
theorem do_of {te : TE} {ds : List D} (h : ∀ i, PE (F.X i) e te) (v : EvO F.C te S S' ds) : DO F e S S' ds := fun σ G H c Q q => ⟨te, h, v σ G H c Q q⟩
theorem d1_of {st : Stmt} {te : TS} (h : ∀ i, PS (F.X i) st te) (v : SD F.C te S P) : D1 F st S P := fun σ G H c E m => ⟨te, h, v σ G H c E m⟩
theorem ds_of {st : List Stmt} {te : TS} (h : ∀ i, PSs (F.X i) st te) (v : SD F.C te S P) : DS F st S P := fun σ G H c E m => ⟨te, h, v σ G H c E m⟩

/-- the data part grows, nothing tracked changes -/
structure Pu (G H G2 H2 : Hp) : Prop where
  hh : Same H H2
  gg : Same G G2
  sub : Same G2 H2
  fr : ∀ a, H a ≠ none → G a = none → G2 a = none
theorem Pu.refl {G H : Hp} (s : Same G H) : Pu G H G H := ⟨fun _ _ h => h, fun _ _ h => h, s, fun _ _ h => h⟩
theorem Pu.trans {G H G1 H1 G2 H2 : Hp} (a : Pu G H G1 H1) (b : Pu G1 H1 G2 H2) : Pu G H G2 H2 :=
  ⟨a.hh.trans b.hh, a.gg.trans b.gg, b.sub, fun x h1 h2 => by
    cases q : H x with
    | none => exact absurd q h1
    | some o => exact b.fr x (by rw [a.hh x o q]; simp) (a.fr x h1 h2)⟩
theorem Pu.new {G H : Hp} {p : Addr} {o : HO} (s : Same G H) (hp : H p = none) : Pu G H (upd G p o) (upd H p o) := by
  have gp : G p = none := s.free hp
  refine ⟨fun a u h => ?_, fun a u h => ?_, fun a u h => ?_, fun a h1 h2 => ?_⟩
  · rw [upd_ne (ne_of_none h hp)]; exact h
  · rw [upd_ne (ne_of_none h gp)]; exact h
  · by_cases e : a = p
    · subst e; rw [upd_same] at h ⊢; exact h
    · rw [upd_ne e] at h ⊢; exact s _ _ h
  · have e : a ≠ p := fun z => h1 (by rw [z]; exact hp)
    rw [upd_ne e]; exact h2
theorem Ctx.pu {C : Kc} {G H G2 H2 : Hp} {σ : L2.St} {S : ST} (c : Ctx C G H σ S) (p : Pu G H G2 H2) : Mv C σ S G H S G2 H2 := c.mv p.hh p.gg p.sub p.fr
theorem Mv.pu {C : Kc} {G H G1 H1 G2 H2 : Hp} {σ : L2.St} {S S1 : ST} (m : Mv C σ S G H S1 G1 H1) (p : Pu G1 H1 G2 H2) : Mv C σ S G H S1 G2 H2 := m.trans (m.cx.pu p)

/-- a two-place operation by its reading, on data -/
def RD (C : Kc) (r : R2) (x y z : D) : Prop := ∀ G H u v, Same G H → Den C G u x → Den C G v y → ∀ Q : VK, (∀ w G2 H2, Pu G H G2 H2 → Den C G2 w z → Q w H2) → r u v H Q
def RD1 (C : Kc) (r : V → Hp → VK → Prop) (x z : D) : Prop := ∀ G H u, Same G H → Den C G u x → ∀ Q : VK, (∀ w G2 H2, Pu G H G2 H2 → Den C G2 w z → Q w H2) → r u H Q
def RDL (C : Kc) (r : List V → Hp → VK → Prop) (xs : List D) (z : D) : Prop := ∀ G H us, Same G H → DenL C G us xs → ∀ Q : VK, (∀ w G2 H2, Pu G H G2 H2 → Den C G2 w z → Q w H2) → r us H Q

/-! ### names and constants -/
theorem de_var {j : Nat} {x : Str} (h : S.s[j]? = some (some (.imm d))) (hN : ∀ i, (F.X i).N[j]? = some x := by intro _; rfl)
    (hv : ∀ i, Vis (F.X i).env.scope x := by intro _; first | exact Or.inl rfl | exact Or.inr (Or.inl rfl) | exact Or.inr (Or.inr rfl))
    (hd : (x == ("__debug__" : Str)) = false := by decide) (hcd : (x == ("__classdict__" : Str)) = false := by decide) : DE F (.Name x pos) S S d :=
  de_of (fun i => pe_var (hN i) (hv i) hd hcd) fun σ G H c Q q => by
    obtain ⟨v, h1, h2⟩ := c.im j d h
    exact ⟨v, h1, q v G H (.refl c) h2⟩
theorem de_int {i : Int} {k : Nat} : DE F (.Constant (.int i) k pos) S S (.int i) := de_of (fun _ => pe_int) fun _ _ _ c _ q => q _ _ _ (.refl c) (.int i)
theorem de_bl {i : Bool} {k : Nat} : DE F (.Constant (.bool i) k pos) S S (.bl i) := de_of (fun _ => pe_bl) fun _ _ _ c _ q => q _ _ _ (.refl c) (.bl i)
theorem de_non {k : Nat} : DE F (.Constant .none k pos) S S .non := de_of (fun _ => pe_non) fun _ _ _ c _ q => q _ _ _ (.refl c) .non
theorem de_str {i : Str} {k : Nat} : DE F (.Constant (.str i) k pos) S S (.str i) := de_of (fun _ => pe_str) fun _ _ _ c _ q => q _ _ _ (.refl c) (.str i)
/-- a module's constant -/
theorem de_glob {x : Str} {v : V} {u : Value} (hm : F.mg x = some u) (r : RelV v u) (hd : ∀ G, Den F.C G v d) (hg : ∀ i, Gl (F.X i) x := by intro _; rfl) (hb : (x == ("__debug__" : Str)) = false := by decide) : DE F (.Name x pos) S S d :=
  de_of (fun i => pe_glob (hg i) (by rw [F.hmg i]; exact hm) r hb) fun _ G _ c _ q => q _ _ _ (.refl c) (hd G)
theorem de_bltn {x : Str} {v : V} {u : Value} (hm : F.mg x = none) (hv : bootBuiltins x = some u) (r : RelV v u) (hg : ∀ i, Gl (F.X i) x := by intro _; rfl) (hn : x ≠ "__name__" := by decide) (hb : (x == ("__debug__" : Str)) = false := by decide) : DE F (.Name x pos) S S (.cst v) :=
  de_of (fun i => pe_bltn (hg i) (by rw [F.hmg i]; exact hm) hv r hn hb) fun _ G _ c _ q => q _ _ _ (.refl c) (.cst v)
theorem de_is {d' : D} (h : DE F e S S1 d) (q : d = d') : DE F e S S1 d' := q ▸ h
theorem dt_is {b b' : Bool} (h : DT F e S S1 b) (q : b = b') : DT F e S S1 b' := q ▸ h

/-! ### operators -/
def OpD (F : Fam) (f : Value → Value → Sem Value) (x y z : D) : Prop := ∃ r, (∀ i, OpR (F.X i) f r) ∧ RD F.C r x y z
def UnD (F : Fam) (f : Value → Sem Value) (x z : D) : Prop := ∃ r, (∀ i, UnR (F.X i) f r) ∧ RD1 F.C r x z
theorem ev_op {C : Kc} {r : R2} {ta tb : TE} (hr : RD C r x y z) (ha : EvM C ta S S1 x) (hb : EvM C tb S1 S2 y) : EvM C (tOp r ta tb) S S2 z := fun σ G H c Q q =>
  ha σ G H c _ fun u G1 H1 m1 d1 => hb σ G1 H1 m1.cx _ fun v G2 H2 m2 d2 => hr G2 H2 u v m2.cx.sub (d1.mono m2.go.gg) d2 Q fun w G3 H3 p d3 => q w G3 H3 ((m1.trans m2).pu p) d3
theorem de_op {op : Operator} (ha : DE F a S S1 x) (hb : DE F b S1 S2 y) (hr : OpD F (binaryOp op) x y z) : DE F (.BinOp a op b pos) S S2 z := by
  obtain ⟨r, h1, h2⟩ := hr
  exact de_of (fun i => pe_op (h1 i) (anyE_ok i) (anyE_ok i)) (ev_op h2 ha hb)
theorem de_un {op : UnaryOp} (ha : DE F a S S1 x) (hr : UnD F (unaryOp op) x z) : DE F (.UnaryOp op a pos) S S1 z := by
  obtain ⟨r, h1, h2⟩ := hr
  exact de_of (fun i => pe_un (h1 i) (anyE_ok i)) fun σ G H c Q q => ha σ G H c _ fun u G1 H1 m1 d1 => h2 G1 H1 u m1.cx.sub d1 Q fun w G2 H2 p d2 => q w G2 H2 (m1.pu p) d2
theorem de_cmp {op : CmpOp} (ha : DE F a S S1 x) (hb : DE F b S1 S2 y) (hr : OpD F (compareOp op) x y z) (hm : behindInMarks op b = false := by first | exact nomark _ | rfl) : DE F (.Compare a [op] [b] pos) S S2 z := by
  obtain ⟨r, h1, h2⟩ := hr
  exact de_of (fun i => pe_cmpR (h1 i) (anyE_ok i) (anyE_ok i) hm) (ev_op h2 ha hb)
theorem dt_cmp {op : CmpOp} {k : Bool} (ha : DE F a S S1 x) (hb : DE F b S1 S2 y) (hr : OpD F (compareOp op) x y (.bl k)) (hm : behindInMarks op b = false := by first | exact nomark _ | rfl) : DT F (.Compare a [op] [b] pos) S S2 k := by
  obtain ⟨r, h1, h2⟩ := hr
  refine dt_of (fun i => pt_cmpR (h1 i) (anyE_ok i) (anyE_ok i) hm) fun σ G H c Q q => ?_
  refine ev_op h2 ha hb σ G H c _ fun v G2 H2 m d => ?_
  cases d with
  | bl => exact ⟨k, rfl, q G2 H2 m⟩
/-- a < b < c -/
theorem de_chain {op op' : CmpOp} {c : Expr} {w : D} {k l : Bool} (ha : DE F a S S1 x) (hb : DE F b S1 S2 y) (hc : k = true → DE F c S2 S3 w) (hr : OpD F (compareOp op) x y (.bl k)) (hr' : k = true → OpD F (compareOp op') y w (.bl l)) (h0 : k = false → S2 = S3 := by intro _; rfl) (hm : lastMarks [op, op'] [b, c] = false := by with_unfolding_all rfl) : DE F (.Compare a [op, op'] [b, c] pos) S S3 (.bl (k && l)) := by
  obtain ⟨r, h1, h2⟩ := hr
  cases k with
  | true =>
    obtain ⟨r', h1', h2'⟩ := hr' rfl
    refine de_of (fun i => pe_chain (h1 i) (h1' i) (anyE_ok i) (anyE_ok i) (anyE_ok i) (hm := hm)) fun σ G H c' Q q => ?_
    refine ha σ G H c' _ fun u G1 H1 m1 d1 => hb σ G1 H1 m1.cx _ fun v G2 H2 m2 d2 => h2 G2 H2 u v m2.cx.sub (d1.mono m2.go.gg) d2 _ fun t G3 H3 p d3 => ?_
    cases d3 with
    | bl =>
      refine ⟨true, rfl, ?_⟩
      rw [if_pos rfl]
      have m3 := (m1.trans m2).pu p
      refine hc rfl σ G3 H3 m3.cx _ fun t' G4 H4 m4 d4 => h2' G4 H4 v t' m4.cx.sub ((d2.mono p.gg).mono m4.go.gg) d4 _ fun w5 G5 H5 p5 d5 => ?_
      exact q _ _ _ ((m3.trans m4).pu p5) d5
  | false =>
    cases h0 rfl
    refine de_of (fun i => pe_chain (h1 i) (fun _ _ _ _ _ _ _ _ _ _ _ _ z => False.elim z : OpR (F.X i) (compareOp op') fun _ _ _ _ => False) (anyE_ok i) (anyE_ok i) (anyE_ok i) (hm := hm)) fun σ G H c' Q q => ?_
    refine ha σ G H c' _ fun u G1 H1 m1 d1 => hb σ G1 H1 m1.cx _ fun v G2 H2 m2 d2 => h2 G2 H2 u v m2.cx.sub (d1.mono m2.go.gg) d2 _ fun t G3 H3 p d3 => ?_
    cases d3 with
    | bl =>
      refine ⟨false, rfl, ?_⟩
      rw [if_neg Bool.false_ne_true]
      exact q _ _ _ ((m1.trans m2).pu p) (.bl false)

theorem rd_I0 {C : Kc} {g : Int → Int → V} {i j : Int} {z : D} (h : ∀ G, Den C G (g i j) z) : RD C (rI0 g) (.int i) (.int j) z := fun G H u v s hu hv Q q => by
  cases hu; cases hv
  exact ⟨i, j, rfl, rfl, q _ _ _ (.refl s) (h G)⟩
theorem rd_I {C : Kc} {c : Int → Int → Prop} {g : Int → Int → V} {i j : Int} {z : D} (hc : c i j) (h : ∀ G, Den C G (g i j) z) : RD C (rI c g) (.int i) (.int j) z := fun G H u v s hu hv Q q => by
  cases hu; cases hv
  exact ⟨i, j, rfl, rfl, hc, q _ _ _ (.refl s) (h G)⟩
theorem od_add {i j : Int} : OpD F (binaryOp .Add) (.int i) (.int j) (.int (i + j)) := ⟨_, fun _ => op_add, rd_I0 fun _ => .int _⟩
theorem od_sub {i j : Int} : OpD F (binaryOp .Sub) (.int i) (.int j) (.int (i - j)) := ⟨_, fun _ => op_sub, rd_I0 fun _ => .int _⟩
theorem od_mul {i j : Int} (h : CMul i j) : OpD F (binaryOp .Mult) (.int i) (.int j) (.int (i * j)) := ⟨_, fun _ => op_mul, rd_I h fun _ => .int _⟩
theorem od_fdiv {i j : Int} (h : CDiv i j) : OpD F (binaryOp .FloorDiv) (.int i) (.int j) (.int (i / j)) := ⟨_, fun _ => op_fdiv, rd_I h fun _ => .int _⟩
theorem od_mod {i j : Int} (h : 0 < j) : OpD F (binaryOp .Mod) (.int i) (.int j) (.int (i % j)) := ⟨_, fun _ => op_mod, rd_I h fun _ => .int _⟩
theorem od_pow {i j : Int} (h : CPow i j) : OpD F (binaryOp .Pow) (.int i) (.int j) (.int (i ^ j.toNat)) := ⟨_, fun _ => op_pow, rd_I h fun _ => .int _⟩
theorem od_lt {i j : Int} : OpD F (compareOp .Lt) (.int i) (.int j) (.bl (decide (i < j))) := ⟨_, fun _ => op_lt, rd_I0 fun _ => .bl _⟩
theorem od_le {i j : Int} : OpD F (compareOp .LtE) (.int i) (.int j) (.bl (decide (i ≤ j))) := ⟨_, fun _ => op_le, rd_I0 fun _ => .bl _⟩
theorem od_gt {i j : Int} : OpD F (compareOp .Gt) (.int i) (.int j) (.bl (decide (j < i))) := ⟨_, fun _ => op_gt, rd_I0 fun _ => .bl _⟩
theorem od_ge {i j : Int} : OpD F (compareOp .GtE) (.int i) (.int j) (.bl (decide (j ≤ i))) := ⟨_, fun _ => op_ge, rd_I0 fun _ => .bl _⟩
theorem ud_neg {i : Int} : UnD F (unaryOp .USub) (.int i) (.int (-i)) := ⟨_, fun _ => un_neg, fun G H u s hu Q q => by
  cases hu
  exact ⟨i, rfl, q _ _ _ (.refl s) (.int _)⟩⟩
theorem od_eqI {i j : Int} : OpD F (compareOp .Eq) (.int i) (.int j) (.bl (decide (i = j))) := ⟨_, fun _ => op_eq, fun G H u v s hu hv Q q => by
  cases hu; cases hv
  refine ⟨rfl, ?_⟩
  have e : decide (V.int i = V.int j) = decide (i = j) := by rw [dec_int]; by_cases h : i = j <;> simp [h]
  rw [e]
  exact q _ _ _ (.refl s) (.bl _)⟩
theorem od_neI {i j : Int} : OpD F (compareOp .NotEq) (.int i) (.int j) (.bl (!decide (i = j))) := ⟨_, fun _ => op_ne, fun G H u v s hu hv Q q => by
  cases hu; cases hv
  refine ⟨rfl, ?_⟩
  have e : decide (V.int i = V.int j) = decide (i = j) := by rw [dec_int]; by_cases h : i = j <;> simp [h]
  rw [e]
  exact q _ _ _ (.refl s) (.bl _)⟩
theorem od_eqB {i j : Bool} : OpD F (compareOp .Eq) (.bl i) (.bl j) (.bl (decide (i = j))) := ⟨_, fun _ => op_eq, fun G H u v s hu hv Q q => by
  cases hu; cases hv
  refine ⟨rfl, ?_⟩
  have e : decide (V.bl i = V.bl j) = decide (i = j) := by cases i <;> cases j <;> rfl
  rw [e]
  exact q _ _ _ (.refl s) (.bl _)⟩
theorem od_neB {i j : Bool} : OpD F (compareOp .NotEq) (.bl i) (.bl j) (.bl (!decide (i = j))) := ⟨_, fun _ => op_ne, fun G H u v s hu hv Q q => by
  cases hu; cases hv
  refine ⟨rfl, ?_⟩
  have e : decide (V.bl i = V.bl j) = decide (i = j) := by cases i <;> cases j <;> rfl
  rw [e]
  exact q _ _ _ (.refl s) (.bl _)⟩

/-! ### and, or, not, if else -/
theorem dt_val {k : Bool} (h : DE F e S S1 (.bl k)) (he : ∀ i whole, isTrue e (F.X i).env whole = (do let v ← whole; standAt e.pos; holding [v] (truthy v)) := by intro _ _; rfl) : DT F e S S1 k :=
  dt_of (fun i => pt_val (anyE_ok i) (he i)) fun σ G H c Q q => h σ G H c _ fun v G2 H2 m d => by
    cases d with
    | bl => exact ⟨k, rfl, q G2 H2 m⟩
theorem dt_w {k : Bool} (h : DW F e S S1 k) : DT F e S S1 k := dt_of (fun i => (anyW_ok i).pt) h
theorem dw_and1 {k : Bool} (h : DT F a S S1 k) : DW F (.BoolOp .And [a] pos) S S1 k := dw_of (fun i => pw_and1 (anyT_ok i)) h
theorem dw_or1 {k : Bool} (h : DT F a S S1 k) : DW F (.BoolOp .Or [a] pos) S S1 k := dw_of (fun i => pw_or1 (anyT_ok i)) h
theorem dw_and {k l : Bool} {rest : List Expr} (h : DT F a S S1 k) (h2 : k = true → DW F (.BoolOp .And (b :: rest) pos) S1 S2 l) (h0 : k = false → S1 = S2 := by intro _; rfl) : DW F (.BoolOp .And (a :: b :: rest) pos) S S2 (k && l) :=
  dw_of (fun i => pw_and (anyT_ok i) (anyW_ok i)) fun σ G H c Q q => h σ G H c _ fun G1 H1 m => by
    cases k with
    | true => rw [if_pos rfl]; exact h2 rfl σ G1 H1 m.cx _ fun G2 H2 m2 => q G2 H2 (m.trans m2)
    | false => rw [if_neg Bool.false_ne_true]; cases h0 rfl; exact q G1 H1 m
theorem dw_or {k l : Bool} {rest : List Expr} (h : DT F a S S1 k) (h2 : k = false → DW F (.BoolOp .Or (b :: rest) pos) S1 S2 l) (h0 : k = true → S1 = S2 := by intro _; rfl) : DW F (.BoolOp .Or (a :: b :: rest) pos) S S2 (k || l) :=
  dw_of (fun i => pw_or (anyT_ok i) (anyW_ok i)) fun σ G H c Q q => h σ G H c _ fun G1 H1 m => by
    cases k with
    | false => rw [if_neg Bool.false_ne_true]; exact h2 rfl σ G1 H1 m.cx _ fun G2 H2 m2 => q G2 H2 (m.trans m2)
    | true => rw [if_pos rfl]; cases h0 rfl; exact q G1 H1 m
theorem dt_not {k : Bool} (h : DT F a S S1 k) : DT F (.UnaryOp .Not a pos) S S1 (!k) := dt_of (fun i => pt_not (anyT_ok i)) fun σ G H c Q q => h σ G H c _ fun G2 H2 m => q G2 H2 m
theorem de_one {op : BoolOp} (h : DE F a S S1 d) : DE F (.BoolOp op [a] pos) S S1 d := de_of (fun i => pe_one (anyE_ok i)) h
theorem de_and {k l : Bool} {rest : List Expr} (h : DE F a S S1 (.bl k)) (h2 : k = true → DE F (.BoolOp .And (b :: rest) pos) S1 S2 (.bl l)) (h0 : k = false → S1 = S2 := by intro _; rfl) : DE F (.BoolOp .And (a :: b :: rest) pos) S S2 (.bl (k && l)) :=
  de_of (fun i => pe_and (anyE_ok i) (anyE_ok i)) fun σ G H c Q q => h σ G H c _ fun v G1 H1 m dv => by
    cases dv with
    | bl =>
      refine ⟨k, rfl, ?_⟩
      cases k with
      | true => rw [if_pos rfl]; exact h2 rfl σ G1 H1 m.cx _ fun v2 G2 H2 m2 d2 => q v2 G2 H2 (m.trans m2) d2
      | false => rw [if_neg Bool.false_ne_true]; cases h0 rfl; exact q _ G1 H1 m (.bl false)
theorem de_or {k l : Bool} {rest : List Expr} (h : DE F a S S1 (.bl k)) (h2 : k = false → DE F (.BoolOp .Or (b :: rest) pos) S1 S2 (.bl l)) (h0 : k = true → S1 = S2 := by intro _; rfl) : DE F (.BoolOp .Or (a :: b :: rest) pos) S S2 (.bl (k || l)) :=
  de_of (fun i => pe_or (anyE_ok i) (anyE_ok i)) fun σ G H c Q q => h σ G H c _ fun v G1 H1 m dv => by
    cases dv with
    | bl =>
      refine ⟨k, rfl, ?_⟩
      cases k with
      | false => rw [if_neg Bool.false_ne_true]; exact h2 rfl σ G1 H1 m.cx _ fun v2 G2 H2 m2 d2 => q v2 G2 H2 (m.trans m2) d2
      | true => rw [if_pos rfl]; cases h0 rfl; exact q _ G1 H1 m (.bl true)
theorem de_not {k : Bool} (h : DE F a S S1 (.bl k)) : DE F (.UnaryOp .Not a pos) S S1 (.bl (!k)) := de_of (fun i => pe_not (anyE_ok i)) fun σ G H c Q q => h σ G H c _ fun v G1 H1 m dv => by
  cases dv with
  | bl => exact ⟨k, rfl, q _ G1 H1 m (.bl _)⟩
theorem de_if {c : Expr} {k : Bool} (hc : DT F c S S1 k) (h1 : k = true → DE F a S1 S2 d) (h2 : k = false → DE F b S1 S2 d) : DE F (.IfExp c a b pos) S S2 d :=
  de_of (fun i => pe_ifExp (anyT_ok i) (anyE_ok i) (anyE_ok i)) fun σ G H cx Q q => hc σ G H cx _ fun G1 H1 m => by
    cases k with
    | true => rw [if_pos rfl]; exact h1 rfl σ G1 H1 m.cx _ fun v2 G2 H2 m2 d2 => q v2 G2 H2 (m.trans m2) d2
    | false => rw [if_neg Bool.false_ne_true]; exact h2 rfl σ G1 H1 m.cx _ fun v2 G2 H2 m2 d2 => q v2 G2 H2 (m.trans m2) d2

/-! ### arguments, displays -/
theorem da_nil : DA F [] S S [] := da_of (fun _ => pa_nil) fun _ _ _ c _ q => q _ _ _ (.refl c) .nil
theorem da_cons {es : List Expr} {ds : List D} (h : DE F e S S1 d) (hr : DA F es S1 S2 ds) (hs : ∀ i, starEach (e :: es) (F.X i).env = (false, eval e (F.X i).env) :: starEach es (F.X i).env := by intro _; rfl) : DA F (e :: es) S S2 (d :: ds) :=
  da_of (fun i => pa_cons (anyE_ok i) (anyA_ok i) (hs i)) fun σ G H c Q q => h σ G H c _ fun v G1 H1 m d1 => hr σ G1 H1 m.cx _ fun vs G2 H2 m2 d2 => q _ G2 H2 (m.trans m2) (.cons (d1.mono m2.go.gg) d2)
theorem dk_nil : DK F [] S S [] := dk_of (fun _ => pk_nil) fun _ _ _ c _ q => q _ _ _ (.refl c) .nil
theorem dk_cons {nm : Option Str} {kpos : Pos} {es : List Keyword} {ds : List D} (h : DE F e S S1 d) (hr : DK F es S1 S2 ds) : DK F (⟨nm, e, kpos⟩ :: es) S S2 (d :: ds) :=
  dk_of (fun i => pk_cons (anyE_ok i) (anyK_ok i)) fun σ G H c Q q => h σ G H c _ fun v G1 H1 m d1 => hr σ G1 H1 m.cx _ fun vs G2 H2 m2 d2 => q _ G2 H2 (m.trans m2) (.cons (d1.mono m2.go.gg) d2)
theorem de_tup {es : List Expr} {x1 : Nat} {ds : List D} (h : DA F es S S1 ds) (hl : ds.length ≤ sizeLine := by decide) : DE F (.Tuple es x1 pos) S S1 (.tup ds) :=
  de_of (fun i => pe_tup (anyA_ok i)) fun σ G H c Q q => h σ G H c _ fun vs G1 H1 m dl => ⟨by rw [dl.length]; exact hl, fun p hp => by
    have n := m.cx.new (o := .tup vs) hp
    exact q _ _ _ (m.trans n) (.tup (SqT.of upd_same) (dl.mono n.go.gg))⟩
theorem de_lst {es : List Expr} {ds : List D} (h : DA F es S S1 ds) (hl : ds.length ≤ sizeLine := by decide) : DE F (.List es pos) S S1 (.lst ds) :=
  de_of (fun i => pe_lst (anyA_ok i)) fun σ G H c Q q => h σ G H c _ fun vs G1 H1 m dl => ⟨by rw [dl.length]; exact hl, fun p hp => by
    have n := m.cx.new (o := .lst vs) hp
    exact q _ _ _ (m.trans n) (.lst (SqL.of upd_same) (dl.mono n.go.gg))⟩

/-! ### an object's attribute -/
theorem de_fld {c : Nat} {f : Str} {fs : List (Str × D)} (h : DE F e S S1 (.obj c fs)) (hc : Cls F.C.K (F.C.cl c)) (hn : NoAttr F.C.K (F.C.cl c) f) (hl : fs.lookup f = some d)
    (hb : ∀ i, attributeBase e f (F.X i).env (eval e (F.X i).env) = eval e (F.X i).env := by intro _; rfl) : DE F (.Attribute e f pos) S S1 d :=
  de_of (te := tFld F.C.K (anyE F e) f) (fun i => by have := pe_fld (pos := pos) (anyE_ok (e := e) i) (hb i); rw [F.hK i] at this; exact this) fun σ G H cx Q q => h σ G H cx _ fun v G1 H1 m dv => by
    cases dv with
    | @obj a dx _ vs _ _ ha hf =>
      obtain ⟨w, h1, h2⟩ := hf.look hl
      exact ⟨a, _, dx, vs, w, rfl, m.cx.sub _ _ ha, hc, hn, h1, q _ _ _ m h2⟩

/-! ### items -/
def ixD (ds : List D) (i : Int) : Option D := atI ds i
theorem atI_den {C : Kc} {G : Hp} {vs : List V} {ds : List D} {i : Int} {d : D} (h : DenL C G vs ds) (e : atI ds i = some d) : ∃ v, atI vs i = some v ∧ Den C G v d := by
  unfold atI at e ⊢
  rw [h.length]
  cases q : ixN ds.length i with
  | none => rw [q] at e; cases e
  | some j =>
    rw [q] at e
    exact h.get e
theorem de_ixT {i : Int} {ds : List D} (ha : DE F a S S1 (.tup ds)) (hb : DE F b S1 S2 (.int i)) (hi : atI ds i = some d) (hs : PlainIx b := by intro _ _; rfl) : DE F (.Subscript a b pos) S S2 d :=
  de_of (te := tOp (rIxT F.C.K) (anyE F a) (anyE F b)) (fun j => by have := pe_ix (pos := pos) (ix_tup (X := F.X j)) (anyE_ok (e := a) j) (anyE_ok (e := b) j) hs; rw [F.hK j] at this; exact this)
    (ev_op (fun G H u v s hu hv Q q => by
      cases hu with
      | tup h l =>
        cases hv
        obtain ⟨w, h1, h2⟩ := atI_den l hi
        exact ⟨_, _, i, w, rfl, rfl, same_t s h, h1, q _ _ _ (.refl s) h2⟩) ha hb)
theorem de_ixL {i : Int} {ds : List D} (ha : DE F a S S1 (.lst ds)) (hb : DE F b S1 S2 (.int i)) (hi : atI ds i = some d) (hs : PlainIx b := by intro _ _; rfl) : DE F (.Subscript a b pos) S S2 d :=
  de_of (te := tOp (rIxL F.C.K) (anyE F a) (anyE F b)) (fun j => by have := pe_ix (pos := pos) (ix_list (X := F.X j)) (anyE_ok (e := a) j) (anyE_ok (e := b) j) hs; rw [F.hK j] at this; exact this)
    (ev_op (fun G H u v s hu hv Q q => by
      cases hu with
      | lst h l =>
        cases hv
        obtain ⟨w, h1, h2⟩ := atI_den l hi
        exact ⟨_, _, i, w, rfl, rfl, s.seq h, h1, q _ _ _ (.refl s) h2⟩) ha hb)
/-- an item of the handed list -/
theorem ev_bag {C : Kc} {tb : TE} {j : Nat} {i : Int} {bb : Addr} {ds : List D} (hj : S.s[j]? = some (some .bag)) (hb : EvM C tb S S1 (.int i)) (hj1 : S1.g = some (bb, .lst ds)) (hg : S.g = some (bb, .lst ds)) (hi : atI ds i = some d) : EvM C (tOp (rIxL C.K) (tVar j) tb) S S1 d := fun σ G H c Q q =>
  ⟨_, c.bg j _ _ hg hj, hb σ G H c _ fun v G1 H1 m dv => by
    cases dv
    have z := m.cx.bag
    rw [hj1] at z
    obtain ⟨_, vs, z2, z3⟩ := z
    obtain ⟨w, h1, h2⟩ := atI_den z3 hi
    exact ⟨_, vs, i, w, rfl, rfl, SqL.of z2, h1, q _ _ _ m h2⟩⟩
theorem de_bagIx {j : Nat} {x : Str} {i : Int} {p : Pos} {bb : Addr} {ds : List D} (hj : S.s[j]? = some (some .bag)) (hb : DE F b S S1 (.int i)) (hj1 : S1.g = some (bb, .lst ds)) (hg : S.g = some (bb, .lst ds)) (hi : atI ds i = some d) (hs : PlainIx b := by intro _ _; rfl)
    (hN : ∀ i, (F.X i).N[j]? = some x := by intro _; rfl) (hv : ∀ i, Vis (F.X i).env.scope x := by intro _; first | exact Or.inl rfl | exact Or.inr (Or.inl rfl) | exact Or.inr (Or.inr rfl))
    (hd : (x == ("__debug__" : Str)) = false := by decide) (hcd : (x == ("__classdict__" : Str)) = false := by decide) : DE F (.Subscript (.Name x p) b pos) S S1 d :=
  de_of (te := tOp (rIxL F.C.K) (tVar j) (anyE F b)) (fun k => by have := pe_ix (pos := pos) (ix_list (X := F.X k)) (pe_var (pos := p) (hN k) (hv k) hd hcd) (anyE_ok (e := b) k) hs; rw [F.hK k] at this; exact this) (ev_bag hj hb hj1 hg hi)

/-! ### calls of built-ins -/
def CaD (F : Fam) (f : Value) (xs : List D) (z : D) : Prop := ∃ r, (∀ i, CallR (F.X i) f r) ∧ RDL F.C r xs z
theorem ev_cb {C : Kc} {r : List V → Hp → VK → Prop} {ta : TA} {ds : List D} (hr : RDL C r ds z) (ha : EvA C ta S S1 ds) : EvM C (tCB r ta) S S1 z := fun σ G H c Q q =>
  ha σ G H c _ fun vs G1 H1 m dl => hr G1 H1 vs m.cx.sub dl Q fun w G2 H2 p d2 => q w G2 H2 (m.pu p) d2
theorem de_callB {x : Str} {id : String} {p : Pos} {es : List Expr} {ds : List D} (hm : F.mg x = none) (hv : bootBuiltins x = some (.builtin id)) (ha : DA F (e :: es) S S1 ds) (hr : CaD F (.builtin id) ds z)
    (hg : ∀ i, Gl (F.X i) x := by intro _; rfl) (hn : x ≠ "__name__" := by decide) (hdb : (x == ("__debug__" : Str)) = false := by decide)
    (he : ∀ i, starEach (e :: es) (F.X i).env = (false, eval e (F.X i).env) :: starEach es (F.X i).env := by intro _; rfl) (hpl : ∀ i, (backTo pos (starEach es (F.X i).env)).any (·.1) = false := by intro _; rfl) : DE F (.Call (.Name x p) (e :: es) [] pos) S S1 z := by
  obtain ⟨r, h1, h2⟩ := hr
  exact de_of (fun i => pe_callB (h1 i) (hg i) (by rw [F.hmg i]; exact hm) hv (anyA_ok i) hn hdb (he i) (hpl i)) (ev_cb h2 ha)
theorem de_callTy {x : Str} {T : String} {p : Pos} {es : List Expr} {ds : List D} (hm : F.mg x = none) (hv : bootBuiltins x = some (.type T)) (ha : DA F (e :: es) S S1 ds) (hr : CaD F (.type T) ds z)
    (hg : ∀ i, Gl (F.X i) x := by intro _; rfl) (hn : x ≠ "__name__" := by decide) (hdb : (x == ("__debug__" : Str)) = false := by decide)
    (he : ∀ i, starEach (e :: es) (F.X i).env = (false, eval e (F.X i).env) :: starEach es (F.X i).env := by intro _; rfl) (hpl : ∀ i, (backTo pos (starEach es (F.X i).env)).any (·.1) = false := by intro _; rfl) : DE F (.Call (.Name x p) (e :: es) [] pos) S S1 z := by
  obtain ⟨r, h1, h2⟩ := hr
  exact de_of (fun i => pe_callTy (h1 i) (hg i) (by rw [F.hmg i]; exact hm) hv (anyA_ok i) hn hdb (he i) (hpl i)) (ev_cb h2 ha)
theorem ca_abs {i : Int} : CaD F (.builtin "abs") [.int i] (.int (if i < 0 then -i else i)) := ⟨_, fun _ => call_abs, fun G H us s h Q q => by
  cases h with
  | cons h l => cases h; cases l; exact ⟨i, rfl, q _ _ _ (.refl s) (.int _)⟩⟩
theorem ca_int {i : Int} : CaD F (.type "int") [.int i] (.int i) := ⟨_, fun _ => call_int1, fun G H us s h Q q => by
  cases h with
  | cons h l => cases h; cases l; exact .inl ⟨i, rfl, q _ _ _ (.refl s) (.int _)⟩⟩
theorem ca_intB {k : Bool} : CaD F (.type "int") [.bl k] (.int (if k then 1 else 0)) := ⟨_, fun _ => call_int1, fun G H us s h Q q => by
  cases h with
  | cons h l => cases h; cases l; exact .inr ⟨k, rfl, q _ _ _ (.refl s) (.int _)⟩⟩
theorem ca_max {i j : Int} : CaD F (.builtin "max") [.int i, .int j] (.int (if j > i then j else i)) := ⟨_, fun k => call_max2 (F.calm k), fun G H us s h Q q => by
  cases h with
  | cons h l => cases l with
    | cons h2 l => cases h; cases h2; cases l; exact ⟨i, j, rfl, q _ _ _ (.refl s) (.int _)⟩⟩
theorem ca_min {i j : Int} : CaD F (.builtin "min") [.int i, .int j] (.int (if j < i then j else i)) := ⟨_, fun k => call_min2 (F.calm k), fun G H us s h Q q => by
  cases h with
  | cons h l => cases l with
    | cons h2 l => cases h; cases h2; cases l; exact ⟨i, j, rfl, q _ _ _ (.refl s) (.int _)⟩⟩
theorem ca_lenT {ds : List D} : CaD F (.builtin "len") [.tup ds] (.int ds.length) := ⟨fun xs H Q => ∃ p ys, xs = [.ref p] ∧ (SqL F.C.K H p ys ∨ SqT F.C.K H p ys) ∧ Q (.int ys.length) H, fun i => by have := call_len_seq (X := F.X i); rw [F.hK i] at this; exact this, fun G H us s h Q q => by
  cases h with
  | cons h l => cases h with
    | tup h1 h2 => cases l; exact ⟨_, _, rfl, .inr (same_t s h1), q _ _ _ (.refl s) (by rw [h2.length]; exact .int _)⟩⟩
theorem ca_lenL {ds : List D} : CaD F (.builtin "len") [.lst ds] (.int ds.length) := ⟨fun xs H Q => ∃ p ys, xs = [.ref p] ∧ (SqL F.C.K H p ys ∨ SqT F.C.K H p ys) ∧ Q (.int ys.length) H, fun i => by have := call_len_seq (X := F.X i); rw [F.hK i] at this; exact this, fun G H us s h Q q => by
  cases h with
  | cons h l => cases h with
    | lst h1 h2 => cases l; exact ⟨_, _, rfl, .inl (s.seq h1), q _ _ _ (.refl s) (by rw [h2.length]; exact .int _)⟩⟩
theorem ca_lenS {x : Str} (hx : x.length ≤ sizeLine) : CaD F (.builtin "len") [.str x] (.int x.length) := ⟨_, fun _ => call_len_str, fun G H us s h Q q => by
  cases h with
  | cons h l => cases h; cases l; exact ⟨x, rfl, hx, q _ _ _ (.refl s) (.int _)⟩⟩
end
end DL
/-! DL3: promises of defs on data, calls by them, a def's body. -/
namespace DL
open PySem L2

/-- a promise without changes: arguments ds, answer d -/
def spP (C : Kc) (R : List D → D → Prop) : Sp := fun vs H Q _ => ∃ (G : Hp) (ds : List D) (d : D), R ds d ∧ Same G H ∧ DenL C G vs ds ∧ ∀ v G2 H2, Pu G H G2 H2 → Den C G2 v d → Q v H2
/-- the first argument is a list that is changed: from gs to gs' -/
def spB (C : Kc) (R : List D → List D → D → List D → Prop) : Sp := fun vs H Q _ => ∃ (G : Hp) (b : Addr) (ws gv : List V) (ds gs : List D) (d : D) (gs' : List D), vs = .ref b :: ws ∧ R ds gs d gs' ∧ Same G H ∧ G b = none ∧ H b = some (.lst gv) ∧ DenL C G gv gs ∧ DenL C G ws ds ∧
  ∀ v G2 H2 gv', Go (fun a => a = b) G H G2 H2 → Same G2 H2 → G2 b = none → H2 b = some (.lst gv') → DenL C G2 gv' gs' → Den C G2 v d → Q v H2
/-- a new list is handed back, to be the caller's own -/
def spO (C : Kc) (R : List D → List D → Prop) : Sp := fun vs H Q _ => ∃ (G : Hp) (ds es : List D), R ds es ∧ Same G H ∧ DenL C G vs ds ∧ ∀ p ev G2 H2, Pu G H G2 H2 → H p = none → G2 p = none → H2 p = some (.lst ev) → DenL C G2 ev es → Q (.ref p) H2
/-- an __init__: the new instance of the class c gets the attributes fs -/
def spI (C : Kc) (c : Nat) (R : List D → List (Str × D) → Prop) : Sp := fun vs H Q _ => ∃ (G : Hp) (b dx : Addr) (ws : List V) (ds : List D) (fs : List (Str × D)), vs = .ref b :: ws ∧ R ds fs ∧ Same G H ∧ G b = none ∧ H b = some (.ins (C.cl c) dx []) ∧ DenL C G ws ds ∧
  ∀ G2 H2 dx2 fv, Go (fun a => a = b) G H G2 H2 → Same G2 H2 → G2 b = none → H2 b = some (.ins (C.cl c) dx2 fv) → DenF C G2 fv fs → Q .non H2

def perm {α : Type} : List Nat → List α → List α
  | [], _ => []
  | i :: r, xs => match xs[i]? with
    | some x => x :: perm r xs
    | none => perm r xs
theorem DenL.perm {C : Kc} {G : Hp} {vs : List V} {ds : List D} (h : DenL C G vs ds) : ∀ ix : List Nat, DenL C G (perm ix vs) (perm ix ds)
  | [] => .nil
  | i :: r => by
    unfold DL.perm
    cases q : ds[i]? with
    | none =>
      have : vs[i]? = none := by
        rw [List.getElem?_eq_none_iff] at q ⊢
        rw [h.length]; exact q
      rw [this]
      exact DenL.perm h r
    | some d =>
      obtain ⟨v, h1, h2⟩ := h.get q
      rw [h1]
      exact .cons h2 (DenL.perm h r)
theorem Vals.perm {vs : List V} {us : List Value} (h : Vals vs us) : ∀ ix : List Nat, Vals (perm ix vs) (perm ix us)
  | [] => .nil
  | i :: r => by
    unfold DL.perm
    cases q : vs[i]? with
    | none => rw [h.none_of q]; exact Vals.perm h r
    | some d =>
      obtain ⟨v, h1, h2⟩ := h.get q
      rw [h1]
      exact .cons h2 (Vals.perm h r)

section
variable (P : Program) (w : World) (C : Kc) (mg : Str → Option Value) (base : Heap)
/-- the def x of the module keeps the promise sp at level k, all parameters given by place -/
def Cal (k : Nat) (x : Str) (sp : Sp) : Prop := ∃ f fd ps, FnOk P w C.K mg base CX0 k f fd ps sp ∧ mg x = some (.ref f) ∧ PySem.W.keepIn C.K (.ref f) = true ∧ Binds C.K fd ps []
/-- .. by names: ks in this order, ix the place of each parameter among them -/
def CalK (k : Nat) (x : Str) (sp : Sp) (ks : List Str) (ix : List Nat) : Prop := ∃ f fd ps, FnOk P w C.K mg base CX0 k f fd ps sp ∧ mg x = some (.ref f) ∧ PySem.W.keepIn C.K (.ref f) = true ∧ KBn C.K fd ps 0 ks (fun us ws => us ++ perm ix ws) (fun vs zs => vs ++ perm ix zs)
/-- the class x, number c: made by R; dd: the defaults that fill up -/
def Mak (k : Nat) (x : Str) (c : Nat) (R : List D → List (Str × D) → Prop) (dd : List D) : Prop := ∃ f fd ps ds dvs, FnOk P w C.K mg base CX0 k f fd ps (spI C c R) ∧ mg x = some (.ref (C.cl c)) ∧ Mk C.K (C.cl c) f ∧ Binds C.K fd ps ds ∧ Vals dvs ds ∧ (∀ G, DenL C G dvs dd) ∧ C.has c = true
def MakK (k : Nat) (x : Str) (c : Nat) (R : List D → List (Str × D) → Prop) (ks : List Str) (ix : List Nat) : Prop := ∃ f fd ps g, FnOk P w C.K mg base CX0 k f fd ps (spI C c R) ∧ mg x = some (.ref (C.cl c)) ∧ Mk C.K (C.cl c) f ∧
  KBn C.K fd ps 1 ks g (fun vs zs => vs ++ perm ix zs) ∧ C.has c = true
/-- the method m of the class c; ds: the instance first -/
def Met (k : Nat) (c : Nat) (m : Str) (sp : Sp) : Prop := ∃ f fd ps, FnOk P w C.K mg base CX0 k f fd ps sp ∧ Cls C.K (C.cl c) ∧ Meth C.K (C.cl c) m f ∧ Binds C.K fd ps []
def MetK (k : Nat) (c : Nat) (m : Str) (sp : Sp) (ks : List Str) (ix : List Nat) : Prop := ∃ f fd ps, FnOk P w C.K mg base CX0 k f fd ps sp ∧ Cls C.K (C.cl c) ∧ Meth C.K (C.cl c) m f ∧ KBn C.K fd ps 1 ks (fun us ws => us ++ perm ix ws) (fun vs zs => vs ++ perm ix zs)
end

section
variable {F : Fam} {S S1 S2 S3 : ST} {e a b : Expr} {d x y z : D} {pos p apos : Pos} {es : List Expr} {ds : List D} {k : Nat} {nm : Str} {kws : List Keyword}

theorem fn_at {i : F.I} {k : Nat} {f : Addr} {fd : FuncData} {ps : List Str} {sp : Sp} (G : FnOk F.P F.w F.C.K F.mg F.base CX0 k f fd ps sp) : FnOk (F.X i).prog (F.X i).w (F.X i).K (F.X i).mg (F.X i).base CX0 k f fd ps sp := by
  rw [F.hP, F.hw, F.hK, F.hmg, F.hbase]; exact G

/-! ### a call without changes -/
theorem ev_sp {C : Kc} {R : List D → D → Prop} {ta : TA} {E : XK} (hR : R ds d) (ha : EvA C ta S S1 ds) : EvM C (fun σ H Q => ta σ H fun vs H1 => spP C R vs H1 Q E) S S1 d := fun σ G H c Q q =>
  ha σ G H c _ fun vs G1 H1 m dl => ⟨G1, ds, d, hR, m.cx.sub, dl, fun v G2 H2 p dv => q v G2 H2 (m.pu p) dv⟩
theorem de_call {R : List D → D → Prop} (c : Cal F.P F.w F.C F.mg F.base k nm (spP F.C R)) (ha : DA F (e :: es) S S1 ds) (hR : R ds d) (hk : k ≤ F.k := by exact Nat.le_of_ble_eq_true rfl)
    (hg : ∀ i, Gl (F.X i) nm := by intro _; rfl) (hdb : (nm == ("__debug__" : Str)) = false := by decide)
    (he : ∀ i, starEach (e :: es) (F.X i).env = (false, eval e (F.X i).env) :: starEach es (F.X i).env := by intro _; rfl) (hpl : ∀ i, (backTo pos (starEach es (F.X i).env)).any (·.1) = false := by intro _; rfl) : DE F (.Call (.Name nm p) (e :: es) [] pos) S S1 d := by
  obtain ⟨f, fd, ps, G, hm, hkp, hb⟩ := c
  refine de_of (te := tCall (spP F.C R) [] E0 (anyA F (e :: es))) (fun i => pe_call (fn_at G) ((F.room i).mono hk) (hg i) (by rw [F.hmg i]; exact hm) (by rw [F.hK i]; exact hkp) (by rw [F.hK i]; exact hb) .nil pass0 (anyA_ok i) hdb (he i) (hpl i)) ?_
  intro σ G H cx Q q
  refine ha σ G H cx _ fun vs G1 H1 m dl => ?_
  rw [List.append_nil]
  exact ⟨G1, ds, d, hR, m.cx.sub, dl, fun v G2 H2 p dv => q v G2 H2 (m.pu p) dv⟩
theorem pe_callK0 {X : Cx} {f : Addr} {fd : FuncData} {ps ks : List Str} {sp : Sp} {E : XK} {x : Str} {g : List Value → List Value → List Value} {gV : List V → List V → List V} {CX : CXT} {tk : TA}
    (G : FnOk X.prog X.w X.K X.mg X.base CX k f fd ps sp) (hr : Room k X.A) (hg : Gl X x) (hm : X.mg x = some (.ref f)) (hk : PySem.W.keepIn X.K (.ref f) = true) (hb : KBn X.K fd ps 0 ks g gV) (hx : Passes CX X E) (hkw : PK X kws tk)
    (hall : (backToKw pos (keywordEach kws X.env)).all (·.1.isSome) = true := by rfl) (hks : (backToKw pos (keywordEach kws X.env)).filterMap (·.1) = ks := by rfl) (hdb : (x == ("__debug__" : Str)) = false := by decide)
    (hpl : ((backTo pos (starEach [] X.env)).any (·.1) || (backToKw pos (keywordEach kws X.env)).any (·.1.isNone)) = false := by rfl) :
    PE X (.Call (.Name x p) [] kws pos) (tCallN 0 ks.length sp gV E tNil tk) := by
  refine ⟨fun pins s σ H Q I h => ?_⟩
  refine wpAny_Call_Name_kw (ld_glob I hg hm ?_ hdb)
  refine PySem.W.callWith_KW0 (h₀ := X.base) I.ok.mod.kin hk hall ?_ hpl
  refine thn (hkw.run pos pins s σ H _ I h) fun ws s2 ⟨zs, H2, I2, rz, l1, l2, q2⟩ => ⟨I2.kIn, ?_⟩
  rw [hks]
  exact run_fnN (us := []) (vs := []) G hr hb hx I2 .nil rz rfl l2 q2
theorem de_callK {R : List D → D → Prop} {ks : List Str} {ix : List Nat} (c : CalK F.P F.w F.C F.mg F.base k nm (spP F.C R) ks ix) (ha : DK F kws S S1 ds) (hR : R (perm ix ds) d) (hl : ds.length = ks.length := by rfl) (hk : k ≤ F.k := by exact Nat.le_of_ble_eq_true rfl)
    (hg : ∀ i, Gl (F.X i) nm := by intro _; rfl) (hdb : (nm == ("__debug__" : Str)) = false := by decide) (hall : ∀ i, (backToKw pos (keywordEach kws (F.X i).env)).all (·.1.isSome) = true := by intro _; rfl)
    (hks : ∀ i, (backToKw pos (keywordEach kws (F.X i).env)).filterMap (·.1) = ks := by intro _; rfl) (hpl : ∀ i, ((backTo pos (starEach [] (F.X i).env)).any (·.1) || (backToKw pos (keywordEach kws (F.X i).env)).any (·.1.isNone)) = false := by intro _; rfl) : DE F (.Call (.Name nm p) [] kws pos) S S1 d := by
  obtain ⟨f, fd, ps, G, hm, hkp, hb⟩ := c
  refine de_of (te := tCallN 0 ks.length (spP F.C R) (fun vs zs => vs ++ perm ix zs) E0 tNil (anyK F kws)) (fun i => pe_callK0 (fn_at G) ((F.room i).mono hk) (hg i) (by rw [F.hmg i]; exact hm) (by rw [F.hK i]; exact hkp) (by rw [F.hK i]; exact hb) pass0 (anyK_ok i) (hall i) (hks i) hdb (hpl i)) ?_
  intro σ G H cx Q q
  refine ha σ G H cx _ fun vs G1 H1 m dl => ?_
  refine ⟨rfl, by rw [dl.length]; exact hl, ?_⟩
  show spP F.C R (perm ix vs) H1 Q E0
  exact ⟨G1, _, d, hR, m.cx.sub, dl.perm ix, fun v G2 H2 p dv => q v G2 H2 (m.pu p) dv⟩

/-! ### a new instance -/
theorem make_ev {C : Kc} {c : Nat} {R : List D → List (Str × D) → Prop} {fs : List (Str × D)} {σ : L2.St} {G H : Hp} {vs : List V} {E : XK} {Q : VK} (cx : Ctx C G H σ S) (hh : C.has c = true) (dl : DenL C G vs ds) (hR : R ds fs)
    (q : ∀ v G2 H2, Mv C σ S G H S G2 H2 → Den C G2 v (.obj c fs) → Q v H2) :
    ∀ x dx, H x = none → H dx = none → dx ≠ x → spI C c R (.ref x :: vs) (upd (upd H dx (.own x)) x (.ins (C.cl c) dx [])) (fun v H2 => v = .non ∧ Q (.ref x) H2) E := by
  intro x dx hx hdx ne
  have gx : G x = none := cx.sub.free hx
  have gd : G dx = none := cx.sub.free hdx
  have s1 : Same H (upd (upd H dx (.own x)) x (.ins (C.cl c) dx [])) := fun a o h => by
    rw [upd_ne (ne_of_none h hx), upd_ne (ne_of_none h hdx)]; exact h
  refine ⟨G, x, dx, vs, ds, fs, rfl, hR, cx.sub.trans s1, gx, upd_same, dl, fun G2 H2 dx2 fv go sub g2 h2 df => ⟨rfl, ?_⟩⟩
  have hk : Same H H2 := fun a o h => go.keep a o (ne_of_none h hx) (s1 a o h)
  refine q (.ref x) (upd G2 x (.ins (C.cl c) dx2 fv)) H2 ?_ (.obj hh upd_same (df.mono fun a o h => by rw [upd_ne (ne_of_none h g2)]; exact h))
  refine cx.mv hk (fun a o h => ?_) (fun a o h => ?_) (fun a h1 hg => ?_)
  · rw [upd_ne (ne_of_none h gx)]; exact go.gg a o h
  · by_cases z : a = x
    · subst z; rw [upd_same] at h; cases h; exact h2
    · rw [upd_ne z] at h; exact sub a o h
  · have z : a ≠ x := fun z => h1 (by rw [z]; exact hx)
    rw [upd_ne z]
    exact go.fr a z (by
      rw [upd_ne z]
      by_cases z2 : a = dx
      · subst z2; rw [upd_same]; simp
      · rw [upd_ne z2]; exact h1) hg
theorem de_make {c : Nat} {R : List D → List (Str × D) → Prop} {dd : List D} {fs : List (Str × D)} (mk : Mak F.P F.w F.C F.mg F.base k nm c R dd) (ha : DA F (e :: es) S S1 ds) (hR : R (ds ++ dd) fs) (hk : k + 1 ≤ F.k := by exact Nat.le_of_ble_eq_true rfl)
    (hg : ∀ i, Gl (F.X i) nm := by intro _; rfl) (hdb : (nm == ("__debug__" : Str)) = false := by decide)
    (he : ∀ i, starEach (e :: es) (F.X i).env = (false, eval e (F.X i).env) :: starEach es (F.X i).env := by intro _; rfl) (hpl : ∀ i, (backTo pos (starEach es (F.X i).env)).any (·.1) = false := by intro _; rfl) : DE F (.Call (.Name nm p) (e :: es) [] pos) S S1 (.obj c fs) := by
  obtain ⟨f, fd, ps, dus, dvs, G, hm, M, hb, hv, hd, hh⟩ := mk
  refine de_of (te := tMake (F.C.cl c) (spI F.C c R) dvs E0 (anyA F (e :: es))) (fun i => pe_make (by rw [F.hK i]; exact M) (fn_at G) ((F.room i).mono hk) (hg i) (by rw [F.hmg i]; exact hm) (by rw [F.hK i]; exact hb) hv pass0 (anyA_ok i) hdb (he i) (hpl i)) ?_
  intro σ G H cx Q q
  refine ha σ G H cx _ fun vs G1 H1 m dl => ?_
  exact make_ev m.cx hh (dl.append (hd G1)) hR fun v G2 H2 m2 dv => q v G2 H2 (m.trans m2) dv
theorem de_makeK {c : Nat} {R : List D → List (Str × D) → Prop} {ks : List Str} {ix : List Nat} {fs : List (Str × D)} (mk : MakK F.P F.w F.C F.mg F.base k nm c R ks ix) (ha : DK F kws S S1 ds) (hR : R (perm ix ds) fs) (hl : ds.length = ks.length := by rfl) (hk : k + 1 ≤ F.k := by exact Nat.le_of_ble_eq_true rfl)
    (hg : ∀ i, Gl (F.X i) nm := by intro _; rfl) (hdb : (nm == ("__debug__" : Str)) = false := by decide) (hall : ∀ i, (backToKw pos (keywordEach kws (F.X i).env)).all (·.1.isSome) = true := by intro _; rfl)
    (hks : ∀ i, (backToKw pos (keywordEach kws (F.X i).env)).filterMap (·.1) = ks := by intro _; rfl) (hpl : ∀ i, ((backTo pos (starEach [] (F.X i).env)).any (·.1) || (backToKw pos (keywordEach kws (F.X i).env)).any (·.1.isNone)) = false := by intro _; rfl) : DE F (.Call (.Name nm p) [] kws pos) S S1 (.obj c fs) := by
  obtain ⟨f, fd, ps, g, G, hm, M, hb, hh⟩ := mk
  refine de_of (te := tMakeK (F.C.cl c) 0 ks.length (spI F.C c R) (fun vs zs => vs ++ perm ix zs) E0 tNil (anyK F kws)) (fun i => pe_makeK0 (by rw [F.hK i]; exact M) (fn_at G) ((F.room i).mono hk) (hg i) (by rw [F.hmg i]; exact hm) (by rw [F.hK i]; exact hb) pass0 (anyK_ok i) (hall i) (hks i) hdb (hpl i)) ?_
  intro σ G H cx Q q
  refine ha σ G H cx _ fun vs G1 H1 m dl => ⟨rfl, by rw [dl.length]; exact hl, ?_⟩
  exact make_ev m.cx hh (dl.perm ix) hR fun v G2 H2 m2 dv => q v G2 H2 (m.trans m2) dv

/-! ### a method without changes -/
theorem de_meth {c : Nat} {m : Str} {fs : List (Str × D)} {R : List D → D → Prop} (mt : Met F.P F.w F.C F.mg F.base k c m (spP F.C R)) (ho : DE F a S S1 (.obj c fs)) (ha : DA F (e :: es) S1 S2 ds) (hR : R (.obj c fs :: ds) d) (hn : fs.lookup m = none := by rfl) (hk : k ≤ F.k := by exact Nat.le_of_ble_eq_true rfl)
    (pl : F.I → Sem Bool) (he : ∀ i, starEach (e :: es) (F.X i).env = (false, eval e (F.X i).env) :: starEach es (F.X i).env := by intro _; rfl) (hpl : ∀ i, (backTo pos (starEach es (F.X i).env)).any (·.1) = false := by intro _; rfl)
    (ht : ∀ i, eval (.Call (.Attribute a m apos) (e :: es) [] pos) (F.X i).env = (do
      let ov ← eval a (F.X i).env
      standAt apos.atName
      let (f, first) ← holding [ov] (getMethod ov m (pl i))
      callWith pos f first (backTo pos (starEach (e :: es) (F.X i).env)) (backToKw pos (keywordEach [] (F.X i).env))) := by intro _; rfl) : DE F (.Call (.Attribute a m apos) (e :: es) [] pos) S S2 d := by
  obtain ⟨f, fd, ps, G, hc, hme, hb⟩ := mt
  refine de_of (te := tMeth (F.C.cl c) m (spP F.C R) [] E0 (anyE F a) (anyA F (e :: es))) (fun i => pe_meth (pl := pl i) (anyE_ok i) (by rw [F.hK i]; exact hc) (by rw [F.hK i]; exact hme) (fn_at G) ((F.room i).mono hk) (by rw [F.hK i]; exact hb) .nil pass0 (anyA_ok i) (he i) (hpl i) (ht i)) ?_
  intro σ G H cx Q q
  refine ho σ G H cx _ fun v G1 H1 m1 dv => ?_
  cases dv with
  | @obj o dx _ vs _ hq h1 h2 =>
    refine ⟨o, dx, vs, rfl, m1.cx.sub _ _ h1, h2.lookN hn, ?_⟩
    refine ha σ G1 H1 m1.cx _ fun vs G2 H2 m2 dl => ?_
    rw [List.append_nil]
    exact ⟨G2, _, d, hR, m2.cx.sub, .cons ((Den.obj hq h1 h2).mono m2.go.gg) dl, fun v G3 H3 p dv => q v G3 H3 ((m1.trans m2).pu p) dv⟩
theorem de_meth0 {c : Nat} {m : Str} {fs : List (Str × D)} {R : List D → D → Prop} (mt : Met F.P F.w F.C F.mg F.base k c m (spP F.C R)) (ho : DE F a S S1 (.obj c fs)) (hR : R [.obj c fs] d) (hn : fs.lookup m = none := by rfl) (hk : k ≤ F.k := by exact Nat.le_of_ble_eq_true rfl)
    (pl : F.I → Sem Bool)
    (ht : ∀ i, eval (.Call (.Attribute a m apos) [] [] pos) (F.X i).env = (do
      let ov ← eval a (F.X i).env
      standAt apos.atName
      let (f, first) ← holding [ov] (getMethod ov m (pl i))
      callWith pos f first (backTo pos (starEach [] (F.X i).env)) (backToKw pos (keywordEach [] (F.X i).env))) := by intro _; rfl) : DE F (.Call (.Attribute a m apos) [] [] pos) S S1 d := by
  obtain ⟨f, fd, ps, G, hc, hme, hb⟩ := mt
  refine de_of (te := tMeth (F.C.cl c) m (spP F.C R) [] E0 (anyE F a) tNil) (fun i => pe_meth0 (pl := pl i) (anyE_ok i) (by rw [F.hK i]; exact hc) (by rw [F.hK i]; exact hme) (fn_at G) ((F.room i).mono hk) (by rw [F.hK i]; exact hb) .nil pass0 (ht i)) ?_
  intro σ G H cx Q q
  refine ho σ G H cx _ fun v G1 H1 m1 dv => ?_
  cases dv with
  | @obj o dx _ vs _ hq h1 h2 =>
    refine ⟨o, dx, vs, rfl, m1.cx.sub _ _ h1, h2.lookN hn, ?_⟩
    exact ⟨G1, _, d, hR, m1.cx.sub, .cons (.obj hq h1 h2) .nil, fun v G3 H3 p dv => q v G3 H3 (m1.pu p) dv⟩
def tMethN (C : Addr) (m : Str) (n : Nat) (sp : Sp) (gV : List V → List V → List V) (E : XK) (ta : TE) (tk : TA) : TE := fun σ H Q => ta σ H fun x H1 => ∃ a dx fs, x = .ref a ∧ H1 a = some (.ins C dx fs) ∧ fs.lookup m = none ∧ tk σ H1 fun zs H2 => zs.length = n ∧ sp (gV [x] zs) H2 Q E
theorem pe_methK0 {X : Cx} {pl : Sem Bool} {o : Expr} {ta : TE} {C f : Addr} {m : Str} {fd : FuncData} {ps ks : List Str} {sp : Sp} {E : XK} {CX : CXT} {tk : TA} {g : List Value → List Value → List Value} {gV : List V → List V → List V}
    (he : PE X o ta) (c : Cls X.K C) (hm : Meth X.K C m f) (G : FnOk X.prog X.w X.K X.mg X.base CX k f fd ps sp) (hr : Room k X.A) (hb : KBn X.K fd ps 1 ks g gV) (hx : Passes CX X E) (hkw : PK X kws tk)
    (hall : (backToKw pos (keywordEach kws X.env)).all (·.1.isSome) = true := by rfl) (hks : (backToKw pos (keywordEach kws X.env)).filterMap (·.1) = ks := by rfl)
    (hpl : ((backTo pos (starEach [] X.env)).any (·.1) || (backToKw pos (keywordEach kws X.env)).any (·.1.isNone)) = false := by rfl)
    (ht : eval (.Call (.Attribute o m apos) [] kws pos) X.env = (do
      let ov ← eval o X.env
      standAt apos.atName
      let (f, first) ← holding [ov] (getMethod ov m pl)
      callWith pos f first (backTo pos (starEach [] X.env)) (backToKw pos (keywordEach kws X.env))) := by rfl) :
    PE X (.Call (.Attribute o m apos) [] kws pos) (tMethN C m ks.length sp gV E ta tk) := by
  refine ⟨fun pins s σ H Q I h => ?_⟩
  refine PySem.W.methodCall_KW (pl := pl) (thn (he.run pins s σ H _ I h) fun u s1 ⟨x, H1, I1, rx, a, dx, fs, ex, ea, l, q⟩ => ?_) ht
  subst ex
  obtain rfl : u = Value.ref a := rx
  refine getmeth_ok I1 ea c hm l ?_
  refine PySem.W.callWith_KW0 (first := [.ref a]) (h₀ := X.base) I.ok.mod.kin hm.kp hall ?_ hpl
  refine thn (hkw.run pos pins s1 σ H1 _ I1 q) fun ws s2 ⟨zs, H2, I2, rz, l2, q2⟩ => ⟨I2.kIn, ?_⟩
  rw [hks]
  exact run_fnN (us := [.ref a]) (vs := [.ref a]) G hr hb hx I2 (.cons rfl .nil) rz rfl l2 q2
theorem de_methK {c : Nat} {m : Str} {fs : List (Str × D)} {R : List D → D → Prop} {ks : List Str} {ix : List Nat} (mt : MetK F.P F.w F.C F.mg F.base k c m (spP F.C R) ks ix) (ho : DE F a S S1 (.obj c fs)) (ha : DK F kws S1 S2 ds) (hR : R (.obj c fs :: perm ix ds) d) (hn : fs.lookup m = none := by rfl) (hl : ds.length = ks.length := by rfl) (hk : k ≤ F.k := by exact Nat.le_of_ble_eq_true rfl)
    (pl : F.I → Sem Bool) (hall : ∀ i, (backToKw pos (keywordEach kws (F.X i).env)).all (·.1.isSome) = true := by intro _; rfl)
    (hks : ∀ i, (backToKw pos (keywordEach kws (F.X i).env)).filterMap (·.1) = ks := by intro _; rfl) (hpl : ∀ i, ((backTo pos (starEach [] (F.X i).env)).any (·.1) || (backToKw pos (keywordEach kws (F.X i).env)).any (·.1.isNone)) = false := by intro _; rfl)
    (ht : ∀ i, eval (.Call (.Attribute a m apos) [] kws pos) (F.X i).env = (do
      let ov ← eval a (F.X i).env
      standAt apos.atName
      let (f, first) ← holding [ov] (getMethod ov m (pl i))
      callWith pos f first (backTo pos (starEach [] (F.X i).env)) (backToKw pos (keywordEach kws (F.X i).env))) := by intro _; rfl) : DE F (.Call (.Attribute a m apos) [] kws pos) S S2 d := by
  obtain ⟨f, fd, ps, G, hc, hme, hb⟩ := mt
  refine de_of (te := tMethN (F.C.cl c) m ks.length (spP F.C R) (fun vs zs => vs ++ perm ix zs) E0 (anyE F a) (anyK F kws)) (fun i => pe_methK0 (pl := pl i) (anyE_ok i) (by rw [F.hK i]; exact hc) (by rw [F.hK i]; exact hme) (fn_at G) ((F.room i).mono hk) (by rw [F.hK i]; exact hb) pass0 (anyK_ok i) (hall i) (hks i) (hpl i) (ht i)) ?_
  intro σ G H cx Q q
  refine ho σ G H cx _ fun v G1 H1 m1 dv => ?_
  cases dv with
  | @obj o dx _ vs _ hq h1 h2 =>
    refine ⟨o, dx, vs, rfl, m1.cx.sub _ _ h1, h2.lookN hn, ?_⟩
    refine ha σ G1 H1 m1.cx _ fun vs G2 H2 m2 dl => ⟨by rw [dl.length]; exact hl, ?_⟩
    exact ⟨G2, _, d, hR, m2.cx.sub, .cons ((Den.obj hq h1 h2).mono m2.go.gg) (dl.perm ix), fun v G3 H3 p dv => q v G3 H3 ((m1.trans m2).pu p) dv⟩

/-! ### the handed list handed on: f(bag, e, ..) -/
theorem ctx_bag {C : Kc} {σ : L2.St} {G H G2 H2 : Hp} {bb : Addr} {gs gs' : List D} {gv' : List V} (cx : Ctx C G H σ S) (hg : S.g = some (bb, .lst gs)) (go : Go (fun a => a = bb) G H G2 H2) (sub : Same G2 H2) (g2 : G2 bb = none) (h2 : H2 bb = some (.lst gv')) (dl : DenL C G2 gv' gs') :
    Mv C σ S G H ⟨S.s, some (bb, .lst gs')⟩ G2 H2 := by
  refine ⟨go.mono fun a z => .inr ⟨.lst gs, by rw [z]; exact hg⟩, ⟨sub, cx.len, fun i d h => ?_, fun i ds h => ?_, cx.apart, fun i b o h h1 => ?_, ⟨g2, gv', h2, dl⟩, fun i b o ds h h1 => ?_⟩, fun a z => ?_⟩
  · obtain ⟨v, h1, h2⟩ := cx.im i d h
    exact ⟨v, h1, h2.mono go.gg⟩
  · obtain ⟨a, vs, h1, h3, h4, h5⟩ := cx.ow i ds h
    have na : a ≠ bb := fun z => cx.nob i bb _ ds hg h (by rw [← z]; exact h1)
    exact ⟨a, vs, h1, go.fr a na (by rw [h4]; simp) h3, go.keep a _ na h4, h5.mono go.gg⟩
  · cases h; exact cx.bg i bb _ hg h1
  · cases h; exact cx.nob i bb _ ds hg h1
  · rcases z with z | ⟨o, z⟩
    · exact .inl z
    · cases z; exact .inr ⟨_, hg⟩
theorem pa_bag {j : Nat} {x : Str} (i : F.I) (hN : (F.X i).N[j]? = some x) (hv : Vis (F.X i).env.scope x) (hd : (x == ("__debug__" : Str)) = false) (hcd : (x == ("__classdict__" : Str)) = false) (hs : starEach (.Name x p :: es) (F.X i).env = (false, eval (.Name x p) (F.X i).env) :: starEach es (F.X i).env) :
    PA (F.X i) (.Name x p :: es) (tCons (tVar j) (anyA F es)) := pa_cons (pe_var hN hv hd hcd) (anyA_ok i) hs
theorem de_callBag {R : List D → List D → D → List D → Prop} {j : Nat} {x : Str} {bb : Addr} {gs gs' : List D} {q' : Pos} (c : Cal F.P F.w F.C F.mg F.base k nm (spB F.C R)) (hj : S.s[j]? = some (some .bag)) (hS : S.g.map (·.1) = some bb) (ha : DA F es S S1 ds) (hg : S1.g = some (bb, .lst gs)) (hR : R ds gs d gs') (hk : k ≤ F.k := by exact Nat.le_of_ble_eq_true rfl)
    (hN : ∀ i, (F.X i).N[j]? = some x := by intro _; rfl) (hv : ∀ i, Vis (F.X i).env.scope x := by intro _; first | exact Or.inl rfl | exact Or.inr (Or.inl rfl) | exact Or.inr (Or.inr rfl))
    (hd : (x == ("__debug__" : Str)) = false := by decide) (hcd : (x == ("__classdict__" : Str)) = false := by decide)
    (hgl : ∀ i, Gl (F.X i) nm := by intro _; rfl) (hdb : (nm == ("__debug__" : Str)) = false := by decide)
    (he : ∀ i, starEach (.Name x q' :: es) (F.X i).env = (false, eval (.Name x q') (F.X i).env) :: starEach es (F.X i).env := by intro _; rfl) (hpl : ∀ i, (backTo pos (starEach es (F.X i).env)).any (·.1) = false := by intro _; rfl) :
    DE F (.Call (.Name nm p) (.Name x q' :: es) [] pos) S ⟨S1.s, some (bb, .lst gs')⟩ d := by
  obtain ⟨f, fd, ps, G, hm, hkp, hb⟩ := c
  refine de_of (te := tCall (spB F.C R) [] E0 (tCons (tVar j) (anyA F es))) (fun i => pe_call (fn_at G) ((F.room i).mono hk) (hgl i) (by rw [F.hmg i]; exact hm) (by rw [F.hK i]; exact hkp) (by rw [F.hK i]; exact hb) .nil pass0 (pa_bag i (hN i) (hv i) hd hcd (he i)) hdb (he i) (hpl i)) ?_
  intro σ G H cx Q q
  have hb0 : σ[j]? = some (some (.ref bb)) := by
    cases e : S.g with
    | none => rw [e] at hS; cases hS
    | some bo =>
      obtain ⟨b0, o⟩ := bo
      rw [e] at hS
      cases hS
      exact cx.bg j _ o e hj
  refine ⟨_, hb0, ha σ G H cx _ fun vs G1 H1 m dl => ?_⟩
  have z := m.cx.bag
  rw [hg] at z
  obtain ⟨z1, gv, z2, z3⟩ := z
  refine ⟨G1, bb, vs, gv, ds, gs, d, gs', List.append_nil _, hR, m.cx.sub, z1, z2, z3, dl, fun v G2 H2 gv' go sub g2 h2 dl' dv => ?_⟩
  exact q v G2 H2 (m.trans (ctx_bag m.cx hg go sub g2 h2 dl')) dv
end

/-! ### a def's body -/
def famD (C : Kc) (P : Program) (w : World) (mg : Str → Option Value) (base : Heap) (N : List Str) (nd : N.Nodup) (qual : Str) (sc : Scope) (f : Addr) (cdv : Value) (A : Around) (outer : List Env) (s : Shared) (H : Hp) (E : XK) (k : Nat) (hr : Room k (A.deeper (PyProof.Rows.envOfC qual sc s.heap.objs.size f cdv))) : Fam where
  I := Unit
  X := fun _ => (cxOf CX0 P w C.K mg base N qual sc f cdv A outer s H E).nox
  P := P
  w := w
  C := C
  mg := mg
  base := base
  N := N
  k := k
  hP := fun _ => rfl
  hw := fun _ => rfl
  hK := fun _ => rfl
  hmg := fun _ => rfl
  hbase := fun _ => rfl
  hN := fun _ => rfl
  nd := nd
  room := fun _ => hr
  calm := fun _ => rfl
/-- what the slots hold at the start -/
def start (N : List Str) (ds : List D) : List (Option DV) := ds.map (fun d => some (.imm d)) ++ List.replicate (N.length - ds.length) none
theorem start_get {N : List Str} {C : Kc} {G : Hp} {vs : List V} {ds : List D} (h : DenL C G vs ds) (i : Nat) (e : DV) (q : (start N ds)[i]? = some (some e)) : ∃ v d, (L2.start N vs)[i]? = some (some v) ∧ e = .imm d ∧ Den C G v d := by
  unfold start at q
  unfold L2.start
  rcases Nat.lt_or_ge i ds.length with hi | hi
  · rw [List.getElem?_append_left (by simpa using hi), List.getElem?_map] at q
    cases r : ds[i]? with
    | none => rw [r] at q; cases q
    | some d =>
      rw [r] at q
      obtain ⟨v, h1, h2⟩ := h.get r
      refine ⟨v, d, ?_, by simpa using q.symm, h2⟩
      rw [List.getElem?_append_left (by rw [List.length_map, h.length]; exact hi), List.getElem?_map, h1]
      rfl
  · rw [List.getElem?_append_right (by simpa using hi)] at q
    rw [List.getElem?_replicate] at q
    split at q <;> cases q
theorem ctx_start {N : List Str} {C : Kc} {G H : Hp} {vs : List V} {ds : List D} (s : Same G H) (h : DenL C G vs ds) : Ctx C G H (L2.start N vs) ⟨start N ds, none⟩ where
  sub := s
  len := by simp [L2.start, start, h.length]
  im := fun i d q => by
    obtain ⟨v, d', h1, h2, h3⟩ := start_get h i _ q
    cases h2
    exact ⟨v, h1, h3⟩
  ow := fun i ds q => by obtain ⟨_, _, _, z, _⟩ := start_get h i _ q; cases z
  apart := fun i j ds es a q => by obtain ⟨_, _, _, z, _⟩ := start_get h i _ q; cases z
  bg := fun i b o z => by cases z
  bag := trivial
  nob := fun i b o ds z => by cases z
theorem oa_start {N : List Str} {C : Kc} {G : Hp} {vs : List V} {ds : List D} (h : DenL C G vs ds) (a : Addr) : ¬ OA C (L2.start N vs) ⟨start N ds, none⟩ a := fun z => by
  rcases z with ⟨i, es, q, _⟩ | ⟨o, z⟩
  · obtain ⟨_, _, _, z, _⟩ := start_get h i _ q; cases z
  · cases z
section
variable {P : Program} {w : World} {C : Kc} {mg : Str → Option Value} {base : Heap}
/-- THE RULE for a def without changes -/
theorem fnP {x qual : Str} {st : Stmt} {f : Addr} {fd : FuncData} {N ps : List Str} {k : Nat} {R : List D → D → Prop} (F : Fun C.K x qual st f fd) (Sc : FnScope N ps (defScope st)) (len : ∀ ds d, R ds d → ds.length = ps.length)
    (body : ∀ ds d, R ds d → ∀ cdv A outer s H E hr, DS (famD C P w mg base N Sc.nd qual (defScope st) f cdv A outer s H E k hr) (defBody st) ⟨start N ds, none⟩ { rt := fun d' _ => d' = d, nx := fun _ => d = .non }) : FnOk P w C.K mg base CX0 (k + 1) f fd ps (spP C R) := by
  refine F.ok Sc (fun vs H Q E h => ?_) (fun cdv A outer s H vs Q E hr h => ?_)
  · obtain ⟨G, ds, d, hR, _, dl, _⟩ := h
    rw [dl.length]; exact len ds d hR
  · obtain ⟨G, ds, d, hR, sub, dl, q⟩ := h
    refine ⟨_, anyS_ok (F := famD C P w mg base N Sc.nd qual (defScope st) f cdv A outer s H E k hr) (), ?_⟩
    have key : ∀ σ2 S2 G2 H2, Mw C (L2.start N vs) ⟨start N ds, none⟩ G H σ2 S2 G2 H2 → Pu G H G2 H2 := fun σ2 S2 G2 H2 m =>
      ⟨fun a o h => m.go.keep a o (oa_start dl a) h, m.go.gg, m.cx.sub, fun a h1 h2 => m.go.fr a (oa_start dl a) h1 h2⟩
    refine body ds d hR cdv A outer s H E hr (L2.start N vs) G H (ctx_start sub dl) _ ⟨fun σ2 S2 G2 H2 m e => ?_, fun v d' σ2 S2 G2 H2 m dv e => ?_, fun _ _ _ _ _ e => e.elim, fun _ _ _ _ _ e => e.elim, fun _ _ _ _ _ _ _ _ _ _ _ _ e => e.elim⟩
    · exact q .non G2 H2 (key _ _ _ _ m) (by rw [e]; exact .non)
    · cases e
      exact q v G2 H2 (key _ _ _ _ m) dv
/-- THE RULE for a def that hands back a new list of its own -/
theorem fnO {x qual : Str} {st : Stmt} {f : Addr} {fd : FuncData} {N ps : List Str} {k : Nat} {R : List D → List D → Prop} (F : Fun C.K x qual st f fd) (Sc : FnScope N ps (defScope st)) (len : ∀ ds es, R ds es → ds.length = ps.length)
    (body : ∀ ds es, R ds es → ∀ cdv A outer s H E hr, DS (famD C P w mg base N Sc.nd qual (defScope st) f cdv A outer s H E k hr) (defBody st) ⟨start N ds, none⟩ { ro := fun es' _ => es' = es }) : FnOk P w C.K mg base CX0 (k + 1) f fd ps (spO C R) := by
  refine F.ok Sc (fun vs H Q E h => ?_) (fun cdv A outer s H vs Q E hr h => ?_)
  · obtain ⟨G, ds, es, hR, _, dl, _⟩ := h
    rw [dl.length]; exact len ds es hR
  · obtain ⟨G, ds, es, hR, sub, dl, q⟩ := h
    refine ⟨_, anyS_ok (F := famD C P w mg base N Sc.nd qual (defScope st) f cdv A outer s H E k hr) (), ?_⟩
    refine body ds es hR cdv A outer s H E hr (L2.start N vs) G H (ctx_start sub dl) _ ⟨fun _ _ _ _ _ e => e.elim, fun _ _ _ _ _ _ _ _ e => e.elim, fun _ _ _ _ _ e => e.elim, fun _ _ _ _ _ e => e.elim, fun p ev es' σ2 S2 G2 H2 m h1 h2 h3 h4 e => ?_⟩
    cases e
    exact q p ev G2 H2 ⟨fun a o h => m.go.keep a o (oa_start dl a) h, m.go.gg, m.cx.sub, fun a h1 h2 => m.go.fr a (oa_start dl a) h1 h2⟩ h1 h2 h3 h4
def startB (N : List Str) (ds : List D) : List (Option DV) := some .bag :: start N.tail ds
theorem ctx_startB {n : Str} {N : List Str} {G H : Hp} {b : Addr} {vs : List V} {ds : List D} {bo : BG} (s : Same G H) (h : DenL C G vs ds) (hb : BagOk C G H (some (b, bo))) : Ctx C G H (L2.start (n :: N) (.ref b :: vs)) ⟨startB (n :: N) ds, some (b, bo)⟩ := by
  have e : L2.start (n :: N) (.ref b :: vs) = some (.ref b) :: L2.start N vs := by simp [L2.start]
  have c := ctx_start (N := N) s h
  rw [e]
  refine ⟨s, by simp [startB, c.len, start, L2.start, h.length], fun i d q => ?_, fun i es q => ?_, fun i j es fs a q => ?_, fun i b' o z q => ?_, hb, fun i b' o es z q => ?_⟩
  · cases i with
    | zero => cases q
    | succ i => simpa using c.im i d (by simpa [startB] using q)
  · cases i with
    | zero => cases q
    | succ i => simpa using c.ow i es (by simpa [startB] using q)
  · cases i with
    | zero => cases q
    | succ i => obtain ⟨_, _, _, z, _⟩ := start_get (N := N) h i _ (by simpa [startB] using q); cases z
  · cases z
    cases i with
    | zero => rfl
    | succ i => obtain ⟨_, _, _, z, _⟩ := start_get (N := N) h i _ (by simpa [startB] using q); cases z
  · cases i with
    | zero => cases q
    | succ i => obtain ⟨_, _, _, z, _⟩ := start_get (N := N) h i _ (by simpa [startB] using q); cases z
theorem oa_startB {n : Str} {N : List Str} {G : Hp} {b : Addr} {vs : List V} {ds : List D} {bo : BG} (h : DenL C G vs ds) (a : Addr) (z : OA C (L2.start (n :: N) (.ref b :: vs)) ⟨startB (n :: N) ds, some (b, bo)⟩ a) : a = b := by
  rcases z with ⟨i, es, q, _⟩ | ⟨o, z⟩
  · cases i with
    | zero => cases q
    | succ i => obtain ⟨_, _, _, z, _⟩ := start_get (N := N) h i _ (by simpa [startB] using q); cases z
  · cases z; rfl
/-- THE RULE for a def that changes its first argument, a list -/
theorem fnB {x qual : Str} {st : Stmt} {f : Addr} {fd : FuncData} {n : Str} {N ps : List Str} {k : Nat} {R : List D → List D → D → List D → Prop} (F : Fun C.K x qual st f fd) (Sc : FnScope (n :: N) ps (defScope st)) (len : ∀ ds gs d gs', R ds gs d gs' → ds.length + 1 = ps.length)
    (body : ∀ ds gs d gs', R ds gs d gs' → ∀ b cdv A outer s H E hr, DS (famD C P w mg base (n :: N) Sc.nd qual (defScope st) f cdv A outer s H E k hr) (defBody st) ⟨startB (n :: N) ds, some (b, .lst gs)⟩
      { rt := fun d' S => d' = d ∧ S.g = some (b, .lst gs'), nx := fun S => d = .non ∧ S.g = some (b, .lst gs') }) : FnOk P w C.K mg base CX0 (k + 1) f fd ps (spB C R) := by
  refine F.ok Sc (fun vs H Q E h => ?_) (fun cdv A outer s H vs Q E hr h => ?_)
  · obtain ⟨G, b, ws, gv, ds, gs, d, gs', rfl, hR, _, _, _, _, dl, _⟩ := h
    rw [List.length_cons, dl.length]; exact len ds gs d gs' hR
  · obtain ⟨G, b, ws, gv, ds, gs, d, gs', rfl, hR, sub, gb, hb, dg, dl, q⟩ := h
    refine ⟨_, anyS_ok (F := famD C P w mg base (n :: N) Sc.nd qual (defScope st) f cdv A outer s H E k hr) (), ?_⟩
    have fin : ∀ v σ2 S2 G2 H2, Mw C (L2.start (n :: N) (.ref b :: ws)) ⟨startB (n :: N) ds, some (b, .lst gs)⟩ G H σ2 S2 G2 H2 → S2.g = some (b, .lst gs') → Den C G2 v d → Q v H2 := fun v σ2 S2 G2 H2 m e dv => by
      have z := m.cx.bag
      rw [e] at z
      obtain ⟨z1, gv', z2, z3⟩ := z
      exact q v G2 H2 gv' (m.go.mono fun a => oa_startB dl a) m.cx.sub z1 z2 z3 dv
    refine body ds gs d gs' hR b cdv A outer s H E hr _ G H (ctx_startB sub dl ⟨gb, gv, hb, dg⟩) _ ⟨fun σ2 S2 G2 H2 m e => ?_, fun v d' σ2 S2 G2 H2 m dv e => ?_, fun _ _ _ _ _ e => e.elim, fun _ _ _ _ _ e => e.elim, fun _ _ _ _ _ _ _ _ _ _ _ _ e => e.elim⟩
    · exact fin .non _ _ _ _ m e.2 (by rw [e.1]; exact .non)
    · exact fin v _ _ _ _ m e.2 (e.1 ▸ dv)
/-- THE RULE for an __init__ -/
theorem fnI {x qual : Str} {st : Stmt} {f : Addr} {fd : FuncData} {c : Nat} {n : Str} {N ps : List Str} {k : Nat} {R : List D → List (Str × D) → Prop} (F : Fun C.K x qual st f fd) (Sc : FnScope (n :: N) ps (defScope st)) (len : ∀ ds fs, R ds fs → ds.length + 1 = ps.length)
    (body : ∀ ds fs, R ds fs → ∀ b cdv A outer s H E hr, DS (famD C P w mg base (n :: N) Sc.nd qual (defScope st) f cdv A outer s H E k hr) (defBody st) ⟨startB (n :: N) ds, some (b, .ins c [])⟩
      { nx := fun S => S.g = some (b, .ins c fs) }) : FnOk P w C.K mg base CX0 (k + 1) f fd ps (spI C c R) := by
  refine F.ok Sc (fun vs H Q E h => ?_) (fun cdv A outer s H vs Q E hr h => ?_)
  · obtain ⟨G, b, dx, ws, ds, fs, rfl, hR, _, _, _, dl, _⟩ := h
    rw [List.length_cons, dl.length]; exact len ds fs hR
  · obtain ⟨G, b, dx, ws, ds, fs, rfl, hR, sub, gb, hb, dl, q⟩ := h
    refine ⟨_, anyS_ok (F := famD C P w mg base (n :: N) Sc.nd qual (defScope st) f cdv A outer s H E k hr) (), ?_⟩
    refine body ds fs hR b cdv A outer s H E hr _ G H (ctx_startB sub dl ⟨gb, dx, [], hb, .nil⟩) _ ⟨fun σ2 S2 G2 H2 m e => ?_, fun v d' σ2 S2 G2 H2 m dv e => e.elim, fun _ _ _ _ _ e => e.elim, fun _ _ _ _ _ e => e.elim, fun _ _ _ _ _ _ _ _ _ _ _ _ e => e.elim⟩
    have z := m.cx.bag
    rw [e] at z
    obtain ⟨z1, dx2, fv, z2, z3⟩ := z
    exact q G2 H2 dx2 fv (m.go.mono fun a => oa_startB dl a) m.cx.sub z1 z2 z3
/-- .. with defaults -/
theorem fnID {x qual : Str} {st : Stmt} {dvs : List V} {kws : List (Str × V)} {f : Addr} {fd : FuncData} {c : Nat} {n : Str} {N ps : List Str} {k : Nat} {R : List D → List (Str × D) → Prop} (F : FunD C.K x qual (defArgs st) (defBody st) (defScope st) dvs kws f fd) (Sc : FnScope (n :: N) ps (defScope st)) (len : ∀ ds fs, R ds fs → ds.length + 1 = ps.length)
    (body : ∀ ds fs, R ds fs → ∀ b cdv A outer s H E hr, DS (famD C P w mg base (n :: N) Sc.nd qual (defScope st) f cdv A outer s H E k hr) (defBody st) ⟨startB (n :: N) ds, some (b, .ins c [])⟩
      { nx := fun S => S.g = some (b, .ins c fs) }) : FnOk P w C.K mg base CX0 (k + 1) f fd ps (spI C c R) := by
  refine F.ok Sc (fun vs H Q E h => ?_) (fun cdv A outer s H vs Q E hr h => ?_)
  · obtain ⟨G, b, dx, ws, ds, fs, rfl, hR, _, _, _, dl, _⟩ := h
    rw [List.length_cons, dl.length]; exact len ds fs hR
  · obtain ⟨G, b, dx, ws, ds, fs, rfl, hR, sub, gb, hb, dl, q⟩ := h
    refine ⟨_, PSs.nox (anyS_ok (F := famD C P w mg base (n :: N) Sc.nd qual (defScope st) f cdv A outer s H E k hr) ()), ?_⟩
    refine body ds fs hR b cdv A outer s H E hr _ G H (ctx_startB sub dl ⟨gb, dx, [], hb, .nil⟩) _ ⟨fun σ2 S2 G2 H2 m e => ?_, fun v d' σ2 S2 G2 H2 m dv e => e.elim, fun _ _ _ _ _ e => e.elim, fun _ _ _ _ _ e => e.elim, fun _ _ _ _ _ _ _ _ _ _ _ _ e => e.elim⟩
    have z := m.cx.bag
    rw [e] at z
    obtain ⟨z1, dx2, fv, z2, z3⟩ := z
    exact q G2 H2 dx2 fv (m.go.mono fun a => oa_startB dl a) m.cx.sub z1 z2 z3
end
end DL
/-! DL4: statements, loops, comprehensions on data. -/
namespace DL
open PySem L2

section
variable {F : Fam} {S S1 S2 S3 : ST} {e a b : Expr} {d x y z : D} {pos p apos : Pos} {es : List Expr} {ds : List D} {k : Bool} {nm : Str} {P : Po} {rest t u : List Stmt} {st : Stmt} {M : ST → Prop}

/-! ### blocks -/
theorem ds_nil (h : P.nx S) : DS F [] S P := ds_of (fun _ => pss_nil) fun σ G H c E m => m.nx σ S G H (.refl c) h
theorem ds_cons (h1 : D1 F st S { P with nx := M }) (h2 : ∀ S2, M S2 → DS F rest S2 P) : DS F (st :: rest) S P :=
  ds_of (te := tSeq (any1 F st) (anyS F rest)) (fun i => pss_cons (any1_ok i) (anyS_ok i)) fun σ G H c E m =>
    h1 σ G H c _ ⟨fun σ2 S2 G2 H2 a q => h2 S2 q σ2 G2 H2 a.cx E (m.move a), m.rt, m.bk, m.ct, m.ro⟩
theorem d1_mono {P' : Po} (h : D1 F st S P) (h1 : ∀ S, P.nx S → P'.nx S) (h2 : ∀ d S, P.rt d S → P'.rt d S) (h3 : ∀ S, P.bk S → P'.bk S) (h4 : ∀ S, P.ct S → P'.ct S) (h5 : ∀ es S, P.ro es S → P'.ro es S := by intro _ _ z; exact z) : D1 F st S P' := fun σ G H c E m =>
  h σ G H c E ⟨fun σ2 S2 G2 H2 a q => m.nx _ _ _ _ a (h1 _ q), fun v d σ2 S2 G2 H2 a q r => m.rt _ _ _ _ _ _ a q (h2 _ _ r), fun σ2 S2 G2 H2 a q => m.bk _ _ _ _ a (h3 _ q), fun σ2 S2 G2 H2 a q => m.ct _ _ _ _ a (h4 _ q), fun p ev es σ2 S2 G2 H2 a r1 r2 r3 r4 q => m.ro _ _ _ _ _ _ _ a r1 r2 r3 r4 (h5 _ _ q)⟩
theorem ds_mono {P' : Po} {sts : List Stmt} (h : DS F sts S P) (h1 : ∀ S, P.nx S → P'.nx S) (h2 : ∀ d S, P.rt d S → P'.rt d S) (h3 : ∀ S, P.bk S → P'.bk S) (h4 : ∀ S, P.ct S → P'.ct S) (h5 : ∀ es S, P.ro es S → P'.ro es S := by intro _ _ z; exact z) : DS F sts S P' := fun σ G H c E m =>
  h σ G H c E ⟨fun σ2 S2 G2 H2 a q => m.nx _ _ _ _ a (h1 _ q), fun v d σ2 S2 G2 H2 a q r => m.rt _ _ _ _ _ _ a q (h2 _ _ r), fun σ2 S2 G2 H2 a q => m.bk _ _ _ _ a (h3 _ q), fun σ2 S2 G2 H2 a q => m.ct _ _ _ _ a (h4 _ q), fun p ev es σ2 S2 G2 H2 a r1 r2 r3 r4 q => m.ro _ _ _ _ _ _ _ a r1 r2 r3 r4 (h5 _ _ q)⟩
theorem d1_pass (h : P.nx S) : D1 F (.Pass pos) S P := d1_of (fun _ => ps_pass) fun σ G H c E m => m.nx σ S G H (.refl c) h
theorem d1_break (h : P.bk S) : D1 F (.Break pos) S P := d1_of (fun _ => ps_break) fun σ G H c E m => m.bk σ S G H (.refl c) h
theorem d1_cont (h : P.ct S) : D1 F (.Continue pos) S P := d1_of (fun _ => ps_continue) fun σ G H c E m => m.ct σ S G H (.refl c) h
theorem d1_ret (h : DE F e S S1 d) (q : P.rt d S1) : D1 F (.Return (some e) pos) S P := d1_of (te := tRet (anyE F e)) (fun i => ps_ret (anyE_ok i)) fun σ G H c E m =>
  h σ G H c _ fun v G1 H1 m1 dv => m.rt v d σ S1 G1 H1 m1.mw dv q
/-- return of a new list -/
theorem d1_retO (h : DO F e S S1 ds) (q : P.ro ds S1) : D1 F (.Return (some e) pos) S P := d1_of (te := tRet (anyE F e)) (fun i => ps_ret (anyE_ok i)) fun σ G H c E m =>
  h σ G H c _ fun p ev G1 H1 m1 h1 h2 h3 h4 => m.ro p ev ds σ S1 G1 H1 m1.mw h1 h2 h3 h4 q
theorem ds_retO (h : DO F e S S1 ds) (q : P.ro ds S1) : DS F (.Return (some e) pos :: rest) S P := ds_cons (M := fun _ => False) (d1_retO h q) fun _ z => z.elim
theorem d1_retN (q : P.rt .non S) : D1 F (.Return none pos) S P := d1_of (te := tRetN) (fun i => ps_retN) fun σ G H c E m => m.rt .non .non σ S G H (.refl c) .non q
theorem ds_ret (h : DE F e S S1 d) (q : P.rt d S1) : DS F (.Return (some e) pos :: rest) S P := ds_cons (M := fun _ => False) (d1_ret h q) fun _ z => z.elim
theorem d1_expr (h : DE F e S S1 d) (q : P.nx S1) (hs : ∀ i, swapsWith e none pos.line (F.X i).env = pure false := by intro _; rfl) : D1 F (.Expr e pos) S P := d1_of (te := tDrop (anyE F e)) (fun i => ps_expr (anyE_ok i) (hs i)) fun σ G H c E m =>
  h σ G H c _ fun v G1 H1 m1 dv => m.nx σ S1 G1 H1 m1.mw q
theorem ds_expr (h : DE F e S S1 d) (q : DS F rest S1 P) (hs : ∀ i, swapsWith e none pos.line (F.X i).env = pure false := by intro _; rfl) : DS F (.Expr e pos :: rest) S P :=
  ds_cons (M := fun S2 => S2 = S1) (d1_expr h rfl hs) fun _ z => z ▸ q
theorem d1_if {c : Expr} (hc : DT F c S S1 k) (h1 : k = true → DS F t S1 P) (h2 : k = false → DS F u S1 P) : D1 F (.If c t u pos) S P :=
  d1_of (te := tIfS (anyT F c) (anyS F t) (anyS F u)) (fun i => ps_if (anyT_ok i) (anyS_ok i) (anyS_ok i)) fun σ G H cx E m => hc σ G H cx _ fun G1 H1 m1 => by
    cases k with
    | true => rw [if_pos rfl]; exact h1 rfl σ G1 H1 m1.cx E (m.move m1.mw)
    | false => rw [if_neg Bool.false_ne_true]; exact h2 rfl σ G1 H1 m1.cx E (m.move m1.mw)
/-- if c: .. (left by return, break or continue), then the rest -/
theorem ds_ifr {c : Expr} (hc : DT F c S S1 k) (h1 : k = true → DS F t S1 { P with nx := fun _ => False }) (h2 : k = false → DS F rest S1 P) : DS F (.If c t [] pos :: rest) S P :=
  ds_cons (M := fun S2 => S2 = S1 ∧ k = false) (d1_if hc (fun h => ds_mono (h1 h) (fun _ z => z.elim) (fun _ _ z => z) (fun _ z => z) fun _ z => z) fun h => ds_nil ⟨rfl, h⟩) fun _ ⟨z, h⟩ => z ▸ h2 h
/-- .. joined behind -/
theorem ds_if (M : ST → Prop) {c : Expr} (hc : DT F c S S1 k) (h1 : k = true → DS F t S1 { P with nx := M }) (h2 : k = false → DS F u S1 { P with nx := M }) (h3 : ∀ S2, M S2 → DS F rest S2 P) : DS F (.If c t u pos :: rest) S P :=
  ds_cons (M := M) (d1_if hc h1 h2) h3
/-! ### stores -/
theorem d1_set {j : Nat} {x : Str} {pos' : Pos} (he : DE F e S S1 d) (q : P.nx (S1.set j d)) (hN : ∀ i, (F.X i).N[j]? = some x := by intro _; rfl) (hx : ∀ i, Loc (F.X i).env.scope x := by intro _; first | exact Or.inl rfl | exact Or.inr rfl)
    (hs : ∀ i, swapsWith e (some (.Name x pos')) pos.line (F.X i).env = pure false := by intro _; rfl) (hf : ∀ i, (F.X i).fn x = true ∨ (F.X i).env.scope.names.lookup x = some .local := by intro _; first | exact .inl rfl | exact .inr rfl) : D1 F (.Assign [.Name x pos'] e pos) S P :=
  d1_of (te := tAsg (anyE F e) (gName j)) (fun i => ps_set (by rw [F.hN i]; exact F.nd) (hN i) (hx i) (anyE_ok i) (hs i) (hf i)) fun σ G H c E m => he σ G H c _ fun v G1 H1 m1 dv =>
    m.nx _ _ G1 H1 (m1.mw.trans (m1.cx.store dv)) q
theorem ds_set {j : Nat} {x : Str} {pos' : Pos} (he : DE F e S S1 d) (q : DS F rest (S1.set j d) P) (hN : ∀ i, (F.X i).N[j]? = some x := by intro _; rfl) (hx : ∀ i, Loc (F.X i).env.scope x := by intro _; first | exact Or.inl rfl | exact Or.inr rfl)
    (hs : ∀ i, swapsWith e (some (.Name x pos')) pos.line (F.X i).env = pure false := by intro _; rfl) (hf : ∀ i, (F.X i).fn x = true ∨ (F.X i).env.scope.names.lookup x = some .local := by intro _; first | exact .inl rfl | exact .inr rfl) : DS F (.Assign [.Name x pos'] e pos :: rest) S P :=
  ds_cons (M := fun S2 => S2 = S1.set j d) (d1_set he rfl hN hx hs hf) fun _ z => z ▸ q
/-- targets -/
def anyG (F : Fam) (tg : Expr) : TG := fun v σ H Q => ∃ g, (∀ i, PG (F.X i) tg g) ∧ g v σ H Q
theorem anyG_ok {tg : Expr} (i : F.I) : PG (F.X i) tg (anyG F tg) := by
  constructor
  intro pins s σ H v u Q I r h
  obtain ⟨g, h1, h2⟩ := h
  exact (h1 i).run pins s σ H v u Q I r h2
/-- the slots js may be stored -/
def Only (js : List Nat) (σ σ2 : L2.St) : Prop := ∀ vs : List Nat, (∀ j ∈ js, j ∈ vs) → wipe σ2 vs = wipe σ vs
theorem wipe_set_none (σ : L2.St) (j : Nat) (x : Option V) : ∀ vs : List Nat, (wipe (σ.set j x) vs).set j none = (wipe σ vs).set j none
  | [] => by unfold wipe; rw [List.set_set]
  | v :: vs => by
    unfold wipe
    by_cases h : v = j
    · subst h
      rw [List.set_set, List.set_set, wipe_set_none σ v x vs]
    · rw [List.set_comm _ _ h, wipe_set_none σ j x vs, List.set_comm _ _ h]
theorem wipe_set_in (σ : L2.St) (j : Nat) (x : Option V) : ∀ vs : List Nat, j ∈ vs → wipe (σ.set j x) vs = wipe σ vs
  | [], h => nomatch h
  | v :: vs, h => by
    unfold wipe
    by_cases e : v = j
    · subst e; exact wipe_set_none σ v x vs
    · have : j ∈ vs := by
        rcases List.mem_cons.mp h with z | z
        · exact absurd z.symm e
        · exact z
      rw [wipe_set_in σ j x vs this]
def DG (F : Fam) (tg : Expr) (d : D) (S S' : ST) (js : List Nat) : Prop := ∀ σ G H v, Ctx F.C G H σ S → Den F.C G v d → ∀ Q : L2.St → Hp → Prop, (∀ σ2 G2 H2, Mw F.C σ S G H σ2 S' G2 H2 → Only js σ σ2 → Q σ2 H2) → anyG F tg v σ H Q
def anyGs (F : Fam) (tg : List Expr) : TGs := fun v σ H Q => ∃ g, (∀ i, PGs (F.X i) tg g) ∧ g v σ H Q
theorem anyGs_ok {tg : List Expr} (i : F.I) : PGs (F.X i) tg (anyGs F tg) := by
  constructor
  intro pins s σ H v u Q I r h
  obtain ⟨g, h1, h2⟩ := h
  exact (h1 i).run pins s σ H v u Q I r h2
def DGs (F : Fam) (tg : List Expr) (ds : List D) (S S' : ST) (js : List Nat) : Prop := ∀ σ G H vs, Ctx F.C G H σ S → DenL F.C G vs ds → ∀ Q : L2.St → Hp → Prop, (∀ σ2 G2 H2, Mw F.C σ S G H σ2 S' G2 H2 → Only js σ σ2 → Q σ2 H2) → anyGs F tg vs σ H Q
theorem dg_name {j : Nat} {x : Str} (hN : ∀ i, (F.X i).N[j]? = some x := by intro _; rfl) (hx : ∀ i, Loc (F.X i).env.scope x := by intro _; first | exact Or.inl rfl | exact Or.inr rfl)
    (hf : ∀ i, (F.X i).fn x = true ∨ (F.X i).env.scope.names.lookup x = some .local := by intro _; first | exact .inl rfl | exact .inr rfl) : DG F (.Name x pos) d S (S.set j d) [j] := fun σ G H v c dv Q q =>
  ⟨gName j, fun i => pg_name (by rw [F.hN i]; exact F.nd) (hN i) (hx i) (hf i), q _ G H (c.store dv) fun vs h => wipe_set_in σ j _ vs (h j List.mem_cons_self)⟩
theorem dgs_nil : DGs F [] [] S S [] := fun σ G H vs c dv Q q => ⟨gNil, fun i => pgs_nil, by cases dv; exact ⟨rfl, q _ G H (.refl c) fun _ _ => rfl⟩⟩
theorem dgs_cons {tg : Expr} {tgs : List Expr} {js ks : List Nat} (h1 : DG F tg d S S1 js) (h2 : DGs F tgs ds S1 S2 ks) (hs : ∀ i, PGs (F.X i) (tg :: tgs) (gCons (anyG F tg) (anyGs F tgs)) := by intro i; exact pgs_cons (anyG_ok i) (anyGs_ok i)) : DGs F (tg :: tgs) (d :: ds) S S2 (js ++ ks) := fun σ G H vs c dv Q q =>
  ⟨gCons (anyG F tg) (anyGs F tgs), hs, by
    cases dv with
    | cons hd hl => exact ⟨_, _, rfl, h1 σ G H _ c hd _ fun σ1 G1 H1 m1 o1 => h2 σ1 G1 H1 _ m1.cx (hl.mono m1.go.gg) Q fun σ2 G2 H2 m2 o2 => q σ2 G2 H2 (m1.trans m2) fun vs h => (o2 vs fun j hj => h j (List.mem_append_right _ hj)).trans (o1 vs fun j hj => h j (List.mem_append_left _ hj))⟩⟩
theorem dg_tup {tgs : List Expr} {kk : Nat} {js : List Nat} (h : DGs F tgs ds S S1 js) (hp : ∀ i, PG (F.X i) (.Tuple tgs kk pos) (gTup (F.X i).K ds.length (anyGs F tgs)) := by intro i; exact pg_tup (Fam.calm _ i) (anyGs_ok i)) : DG F (.Tuple tgs kk pos) (.tup ds) S S1 js := fun σ G H v c dv Q q =>
  ⟨gTup F.C.K ds.length (anyGs F tgs), fun i => by have := hp i; rw [F.hK i] at this; exact this, by
    cases dv with
    | tup h1 h2 => exact ⟨_, _, rfl, same_t c.sub h1, h2.length, h σ G H _ c h2 Q q⟩⟩
theorem d1_asg {tg : Expr} {js : List Nat} (he : DE F e S S1 d) (hg : DG F tg d S1 S2 js) (q : P.nx S2) (hs : ∀ i, swapsWithSole [tg] e pos.line (F.X i).env = pure false := by intro _; rfl) (hw : ∀ i, swappedStores [tg] e (F.X i).env = pure none := by intro _; rfl)
    (ho : ∀ i, PS (F.X i) (.Assign [tg] e pos) (tAsg (anyE F e) (anyG F tg)) := by intro i; exact ps_asg (anyE_ok i) (anyG_ok i)) : D1 F (.Assign [tg] e pos) S P :=
  d1_of (te := tAsg (anyE F e) (anyG F tg)) ho fun σ G H c E m => he σ G H c _ fun v G1 H1 m1 dv => hg σ G1 H1 v m1.cx dv _ fun σ2 G2 H2 m2 _ => m.nx _ _ _ _ (m1.mw.trans m2) q
theorem ds_asg {tg : Expr} {js : List Nat} (he : DE F e S S1 d) (hg : DG F tg d S1 S2 js) (q : DS F rest S2 P)
    (ho : ∀ i, PS (F.X i) (.Assign [tg] e pos) (tAsg (anyE F e) (anyG F tg)) := by intro i; exact ps_asg (anyE_ok i) (anyG_ok i)) : DS F (.Assign [tg] e pos :: rest) S P :=
  ds_cons (M := fun S3 => S3 = S2) (d1_of (te := tAsg (anyE F e) (anyG F tg)) ho fun σ G H c E m => he σ G H c _ fun v G1 H1 m1 dv => hg σ G1 H1 v m1.cx dv _ fun σ2 G2 H2 m2 _ => m.nx _ _ _ _ (m1.mw.trans m2) rfl) fun _ z => z ▸ q
end
end DL
/-! DL5: parallel stores, the handed object, own lists, loops, comprehensions. -/
namespace DL
open PySem L2

section
variable {F : Fam} {S S1 S2 S3 : ST} {e a b c : Expr} {d x y z : D} {pos p apos : Pos} {es : List Expr} {ds : List D} {k : Bool} {nm : Str} {P : Po} {rest t u : List Stmt} {st : Stmt} {M : ST → Prop}

/-! ### a, b = x, y -/
theorem ds_par {i j : Nat} {n1 n2 : Str} {px py pt : Pos} {kt k2 : Nat} {pt2 : Pos} (ha : DE F a S S1 x) (hb : DE F b S1 S2 y) (q : DS F rest ((S2.set i x).set j y) P) (hi : ∀ l, (F.X l).N[i]? = some n1 := by intro _; rfl) (hj : ∀ l, (F.X l).N[j]? = some n2 := by intro _; rfl) (hij : i ≠ j := by decide)
    (hx : ∀ l, (F.X l).env.scope.names.lookup n1 = some .local := by intro _; rfl) (hy : ∀ l, (F.X l).env.scope.names.lookup n2 = some .local := by intro _; rfl)
    (hw : ∀ l, swappedStores [.Tuple [.Name n1 px, .Name n2 py] kt pt] (.Tuple [a, b] k2 pt2) (F.X l).env = pure (some [n1, n2]) := by intro _; rfl)
    (hs : ∀ l, swapsWithSole [.Tuple [.Name n1 px, .Name n2 py] kt pt] (.Tuple [a, b] k2 pt2) pos.line (F.X l).env = pure false := by intro _; rfl)
    (hst : ∀ i, starEach [a, b] (F.X i).env = (false, eval a (F.X i).env) :: starEach [b] (F.X i).env := by intro _; rfl) (hst2 : ∀ i, starEach [b] (F.X i).env = (false, eval b (F.X i).env) :: starEach [] (F.X i).env := by intro _; rfl) :
    DS F (.Assign [.Tuple [.Name n1 px, .Name n2 py] kt pt] (.Tuple [a, b] k2 pt2) pos :: rest) S P := by
  refine ds_cons (M := fun S3 => S3 = (S2.set i x).set j y) (d1_of (te := tPar i j (tCons (anyE F a) (tCons (anyE F b) tNil))) (fun l => ps_par (F.calm l) (by rw [F.hN l]; exact F.nd) (hi l) (hj l) hij (hx l) (hy l) (pa_cons (anyE_ok l) (pa_cons (anyE_ok l) pa_nil (hst2 l)) (hst l)) (hw l) (hs l)) ?_) fun _ z => z ▸ q
  intro σ G H c E m
  refine ha σ G H c _ fun v G1 H1 m1 d1 => hb σ G1 H1 m1.cx _ fun w G2 H2 m2 d2 => ⟨v, w, rfl, ?_⟩
  have s1 := m2.cx.store (i := i) (d1.mono m2.go.gg)
  exact m.nx _ _ _ _ ((m1.mw.trans m2.mw).trans (s1.trans (s1.cx.store (i := j) d2))) rfl
theorem Fam.ndX (F : Fam) (o : F.I) : (F.X o).N.Nodup := by rw [F.hN o]; exact F.nd
theorem ds_par3 {i j l : Nat} {w : D} {n1 n2 n3 : Str} {px py pz pt : Pos} {kt k2 : Nat} {pt2 : Pos} (ha : DE F a S S1 x) (hb : DE F b S1 S2 y) (hc : DE F c S2 S3 w) (q : DS F rest (((S3.set i x).set j y).set l w) P) (hi : ∀ o, (F.X o).N[i]? = some n1 := by intro _; rfl) (hj : ∀ o, (F.X o).N[j]? = some n2 := by intro _; rfl) (hl : ∀ o, (F.X o).N[l]? = some n3 := by intro _; rfl)
    (hij : i ≠ j := by decide) (hil : i ≠ l := by decide) (hjl : j ≠ l := by decide)
    (hp : ∀ o, PS (F.X o) (.Assign [.Tuple [.Name n1 px, .Name n2 py, .Name n3 pz] kt pt] (.Tuple [a, b, c] k2 pt2) pos) (tPar3 i j l (tCons (anyE F a) (tCons (anyE F b) (tCons (anyE F c) tNil)))) := by
      intro o; exact ps_par3 (Fam.calm _ o) (Fam.ndX _ o) rfl rfl rfl (by decide) (by decide) (by decide) rfl rfl rfl (pa_cons (anyE_ok o) (pa_cons (anyE_ok o) (pa_cons (anyE_ok o) pa_nil))) rfl) :
    DS F (.Assign [.Tuple [.Name n1 px, .Name n2 py, .Name n3 pz] kt pt] (.Tuple [a, b, c] k2 pt2) pos :: rest) S P := by
  refine ds_cons (M := fun S4 => S4 = ((S3.set i x).set j y).set l w) (d1_of (te := tPar3 i j l (tCons (anyE F a) (tCons (anyE F b) (tCons (anyE F c) tNil)))) hp ?_) fun _ z => z ▸ q
  intro σ G H cx E m
  refine ha σ G H cx _ fun v1 G1 H1 m1 d1 => hb σ G1 H1 m1.cx _ fun v2 G2 H2 m2 d2 => hc σ G2 H2 m2.cx _ fun v3 G3 H3 m3 d3 => ⟨v1, v2, v3, rfl, ?_⟩
  have s1 := m3.cx.store (i := i) ((d1.mono m2.go.gg).mono m3.go.gg)
  have s2 := s1.cx.store (i := j) (d2.mono m3.go.gg)
  exact m.nx _ _ _ _ (((m1.mw.trans m2.mw).trans m3.mw).trans (s1.trans (s2.trans (s2.cx.store (i := l) d3)))) rfl

/-! ### the handed object: bag[i] = e, self.f = e -/
theorem ctx_bagSet {C : Kc} {σ : L2.St} {G H : Hp} {bb : Addr} {o o' : BG} {ho : HO} (cx : Ctx C G H σ S) (hg : S.g = some (bb, o)) (g2 : G bb = none) (hb : BagOk C G (upd H bb ho) (some (bb, o'))) : Mv C σ S G H ⟨S.s, some (bb, o')⟩ G (upd H bb ho) := by
  have ne : ∀ a, ¬ OA C σ S a → a ≠ bb := fun a n z => n (.inr ⟨o, by rw [z]; exact hg⟩)
  refine ⟨⟨fun a u n h => by rw [upd_ne (ne a n)]; exact h, fun _ _ h => h, fun _ _ _ h => h, fun a h => by
    by_cases z : a = bb
    · rw [z, upd_same]; simp
    · rw [upd_ne z]; exact h⟩, ⟨fun a u h => ?_, cx.len, cx.im, fun i ds h => ?_, cx.apart, fun i b o2 h h1 => ?_, hb, fun i b o2 ds h h1 => ?_⟩, fun a z => ?_⟩
  · have na : a ≠ bb := fun z => by rw [z, g2] at h; cases h
    rw [upd_ne na]; exact cx.sub _ _ h
  · obtain ⟨a, vs, h1, h3, h4, h5⟩ := cx.ow i ds h
    have na : a ≠ bb := fun z => cx.nob i bb _ ds hg h (by rw [← z]; exact h1)
    exact ⟨a, vs, h1, h3, by rw [upd_ne na]; exact h4, h5⟩
  · cases h; exact cx.bg i bb _ hg h1
  · cases h; exact cx.nob i bb _ ds hg h1
  · rcases z with z | ⟨o2, z⟩
    · exact .inl z
    · cases z; exact .inr ⟨_, hg⟩
theorem ds_bagSet {j : Nat} {x : Str} {i : Int} {n : Nat} {q1 : Pos} {bb : Addr} {gs : List D} (he : DE F e S S1 d) (hj : S1.s[j]? = some (some .bag)) (hb : DE F b S1 S1 (.int i)) (hg : S1.g = some (bb, .lst gs)) (hi : ixN gs.length i = some n) (q : DS F rest ⟨S1.s, some (bb, .lst (gs.set n d))⟩ P)
    (hN : ∀ i, (F.X i).N[j]? = some x := by intro _; rfl) (hv : ∀ i, Vis (F.X i).env.scope x := by intro _; first | exact Or.inl rfl | exact Or.inr (Or.inl rfl) | exact Or.inr (Or.inr rfl))
    (hd : (x == ("__debug__" : Str)) = false := by decide) (hcd : (x == ("__classdict__" : Str)) = false := by decide)
    (hp : ∀ i, PS (F.X i) (.Assign [.Subscript (.Name x q1) b p] e pos) (tAsg (anyE F e) (gSub (tVar j) (anyE F b) rSetL)) := by
      intro i; exact ps_asg (anyE_ok i) (pg_sub (pv _) (anyE_ok i) set_list)) :
    DS F (.Assign [.Subscript (.Name x q1) b p] e pos :: rest) S P := by
  refine ds_cons (M := fun S3 => S3 = ⟨S1.s, some (bb, .lst (gs.set n d))⟩) (d1_of (te := tAsg (anyE F e) (gSub (tVar j) (anyE F b) rSetL)) hp ?_) fun _ z => z ▸ q
  intro σ G H c E m
  refine he σ G H c _ fun v G1 H1 m1 dv => ⟨_, m1.cx.bg j _ _ hg hj, ?_⟩
  refine hb σ G1 H1 m1.cx _ fun w G2 H2 m2 dw => ?_
  cases dw
  have z := m2.cx.bag
  rw [hg] at z
  obtain ⟨z1, gv, z2, z3⟩ := z
  refine ⟨bb, gv, i, n, rfl, rfl, z2, by rw [z3.length]; exact hi, ?_⟩
  exact m.nx _ _ _ _ (m1.mw.trans (m2.mw.trans (ctx_bagSet (o' := .lst (gs.set n d)) m2.cx hg z1 ⟨z1, _, upd_same, z3.set (dv.mono m2.go.gg) n⟩).mw)) rfl
theorem ds_fld {j : Nat} {x f : Str} {q1 q2 : Pos} {bb : Addr} {cn : Nat} {fs : List (Str × D)} (he : DE F e S S1 d) (hj : S1.s[j]? = some (some .bag)) (hg : S1.g = some (bb, .ins cn fs)) (hc : Cls F.C.K (F.C.cl cn)) (hn : NoAttr F.C.K (F.C.cl cn) f) (q : DS F rest ⟨S1.s, some (bb, .ins cn (putD f d fs))⟩ P) (hl : fs.length < 1000 := by decide)
    (hN : ∀ i, (F.X i).N[j]? = some x := by intro _; rfl) (hv : ∀ i, Vis (F.X i).env.scope x := by intro _; first | exact Or.inl rfl | exact Or.inr (Or.inl rfl) | exact Or.inr (Or.inr rfl))
    (hd : (x == ("__debug__" : Str)) = false := by decide) (hcd : (x == ("__classdict__" : Str)) = false := by decide)
    (hs : ∀ i, swapsWith e (some (.Attribute (.Name x q1) f q2)) pos.line (F.X i).env = pure false := by intro _; rfl) : DS F (.Assign [.Attribute (.Name x q1) f q2] e pos :: rest) S P := by
  refine ds_cons (M := fun S3 => S3 = ⟨S1.s, some (bb, .ins cn (putD f d fs))⟩) (d1_of (te := sFld F.C.K (tVar j) (anyE F e) f) (fun i => by have := ps_fld (f := f) (pos := pos) (pos' := q2) (pe_var (pos := q1) (hN i) (hv i) hd hcd) (anyE_ok (e := e) i) (hs i); rw [F.hK i] at this; exact this) ?_) fun _ z => z ▸ q
  intro σ G H c E m
  refine he σ G H c _ fun v G1 H1 m1 dv => ⟨_, m1.cx.bg j _ _ hg hj, ?_⟩
  have z := m1.cx.bag
  rw [hg] at z
  obtain ⟨z1, dx, gv, z2, z3⟩ := z
  refine ⟨bb, _, dx, gv, rfl, z2, hc, hn, by rw [z3.length]; exact hl, ?_⟩
  exact m.nx _ _ _ _ (m1.mw.trans (ctx_bagSet (o' := .ins cn (putD f d fs)) m1.cx hg z1 ⟨z1, dx, _, upd_same, z3.put dv⟩).mw) rfl
/-- an attribute of the handed instance -/
theorem de_fldB {j : Nat} {x f : Str} {q1 : Pos} {bb : Addr} {cn : Nat} {fs : List (Str × D)} (hj : S.s[j]? = some (some .bag)) (hg : S.g = some (bb, .ins cn fs)) (hc : Cls F.C.K (F.C.cl cn)) (hn : NoAttr F.C.K (F.C.cl cn) f) (hl : fs.lookup f = some d)
    (hN : ∀ i, (F.X i).N[j]? = some x := by intro _; rfl) (hv : ∀ i, Vis (F.X i).env.scope x := by intro _; first | exact Or.inl rfl | exact Or.inr (Or.inl rfl) | exact Or.inr (Or.inr rfl))
    (hd : (x == ("__debug__" : Str)) = false := by decide) (hcd : (x == ("__classdict__" : Str)) = false := by decide)
    (hb : ∀ i, attributeBase (.Name x q1) f (F.X i).env (eval (.Name x q1) (F.X i).env) = eval (.Name x q1) (F.X i).env := by intro _; rfl) : DE F (.Attribute (.Name x q1) f pos) S S d :=
  de_of (te := tFld F.C.K (tVar j) f) (fun i => by have := pe_fld (pos := pos) (pe_var (pos := q1) (hN i) (hv i) hd hcd) (hb i); rw [F.hK i] at this; exact this) fun σ G H cx Q q => by
    refine ⟨_, cx.bg j _ _ hg hj, ?_⟩
    have z := cx.bag
    rw [hg] at z
    obtain ⟨z1, dx, gv, z2, z3⟩ := z
    obtain ⟨w, h1, h2⟩ := z3.look hl
    exact ⟨bb, _, dx, gv, w, rfl, z2, hc, hn, h1, q _ _ _ (.refl cx) h2⟩

/-! ### own lists -/
theorem Ctx.storeO {C : Kc} {G H : Hp} {σ : L2.St} {S : ST} {i : Nat} {q : Addr} {vs : HO} {ds : MO} (c : Ctx C G H σ S) (gq : G q = none) (hq : H q = some vs) (dl : MOk C G vs ds) (hi : i < S.s.length) (no : ∀ (j : Nat) es, S.s[j]? = some (some (.own es)) → σ[j]? ≠ some (some (.ref q))) (nb : ∀ o, S.g ≠ some (q, o)) :
    Ctx C G H (σ.set i (some (.ref q))) (S.setM i ds) := by
  have hi2 : i < σ.length := by rw [c.len]; exact hi
  have key : ∀ (j : Nat) (o : DV), i ≠ j → (S.setM i ds).s[j]? = some (some o) → S.s[j]? = some (some o) := fun j o ij q => by rw [ST.setM, List.getElem?_set_ne ij] at q; exact q
  have self : (S.setM i ds).s[i]? = some (some (.own ds)) := List.getElem?_set_self hi
  have selfσ : (σ.set i (some (V.ref q)))[i]? = some (some (.ref q)) := List.getElem?_set_self hi2
  refine ⟨c.sub, by simp [ST.setM, c.len], fun j e r => ?_, fun j e r => ?_, fun j k' es fs a r1 r2 r3 r4 => ?_, fun j b o hg r => ?_, c.bag, fun j b o es hg r => ?_⟩
  · by_cases ij : i = j
    · subst ij; rw [self] at r; cases r
    · rw [List.getElem?_set_ne ij]; exact c.im j e (key j _ ij r)
  · by_cases ij : i = j
    · subst ij; rw [self] at r; cases r; exact ⟨q, vs, selfσ, gq, hq, dl⟩
    · rw [List.getElem?_set_ne ij]; exact c.ow j e (key j _ ij r)
  · by_cases ij : i = j
    · by_cases ik : i = k'
      · exact ij.symm.trans ik
      · subst ij
        rw [selfσ] at r3; cases r3
        rw [List.getElem?_set_ne ik] at r4
        exact absurd r4 (no k' fs (key k' _ ik r2))
    · by_cases ik : i = k'
      · subst ik
        rw [selfσ] at r4; cases r4
        rw [List.getElem?_set_ne ij] at r3
        exact absurd r3 (no j es (key j _ ij r1))
      · rw [List.getElem?_set_ne ij] at r3
        rw [List.getElem?_set_ne ik] at r4
        exact c.apart j k' es fs a (key j _ ij r1) (key k' _ ik r2) r3 r4
  · by_cases ij : i = j
    · subst ij; rw [self] at r; cases r
    · rw [List.getElem?_set_ne ij]; exact c.bg j b o hg (key j _ ij r)
  · by_cases ij : i = j
    · subst ij; rw [selfσ]; intro z; cases z; exact nb o hg
    · rw [List.getElem?_set_ne ij]; exact c.nob j b o es hg (key j _ ij r)
/-- a new list is stored as an own one -/
theorem ds_setO {j : Nat} {x : Str} {pos' : Pos} (he : DO F e S S1 ds) (q : DS F rest (S1.setO j ds) P) (hj : j < S1.s.length := by decide) (hN : ∀ i, (F.X i).N[j]? = some x := by intro _; rfl) (hx : ∀ i, Loc (F.X i).env.scope x := by intro _; first | exact Or.inl rfl | exact Or.inr rfl)
    (hs : ∀ i, swapsWith e (some (.Name x pos')) pos.line (F.X i).env = pure false := by intro _; rfl) (hf : ∀ i, (F.X i).fn x = true ∨ (F.X i).env.scope.names.lookup x = some .local := by intro _; first | exact .inl rfl | exact .inr rfl) : DS F (.Assign [.Name x pos'] e pos :: rest) S P := by
  refine ds_cons (M := fun S2 => S2 = S1.setO j ds) (d1_of (te := tAsg (anyE F e) (gName j)) (fun i => ps_set (by rw [F.hN i]; exact F.nd) (hN i) (hx i) (anyE_ok i) (hs i) (hf i)) ?_) fun _ z => z ▸ q
  intro σ G H c E m
  refine he σ G H c _ fun q vs G1 H1 m1 hq gq hq1 dl => m.nx _ _ G1 H1 ?_ rfl
  have noS : ∀ (j : Nat) es, S1.s[j]? = some (some (.own es)) → σ[j]? ≠ some (some (.ref q)) := fun j es r z => by
    rcases m1.oa q (.inl ⟨j, es, r, z⟩) with ⟨j', es', r', z'⟩ | ⟨o, r'⟩
    · obtain ⟨a, vs, h1, _, h2, _⟩ := c.ow j' es' r'
      rw [z'] at h1; cases h1; rw [hq] at h2; cases h2
    · have z := c.bag
      rw [r'] at z
      cases o with
      | lst => obtain ⟨_, _, h2, _⟩ := z; rw [hq] at h2; cases h2
      | ins => obtain ⟨_, _, _, h2, _⟩ := z; rw [hq] at h2; cases h2
  have noB : ∀ o, S1.g ≠ some (q, o) := fun o r => by
    rcases m1.oa q (.inr ⟨o, r⟩) with ⟨j', es', r', z'⟩ | ⟨o, r'⟩
    · obtain ⟨a, vs, h1, _, h2, _⟩ := c.ow j' es' r'
      rw [z'] at h1; cases h1; rw [hq] at h2; cases h2
    · have z := c.bag
      rw [r'] at z
      cases o with
      | lst => obtain ⟨_, _, h2, _⟩ := z; rw [hq] at h2; cases h2
      | ins => obtain ⟨_, _, _, h2, _⟩ := z; rw [hq] at h2; cases h2
  have cx2 := m1.cx.storeO (i := j) gq hq1 (.lst dl) hj noS noB
  refine ⟨m1.go, cx2, fun a z => ?_⟩
  rcases z with ⟨j', es, r1, r2⟩ | ⟨o, r⟩
  · by_cases ij : j = j'
    · subst ij
      rw [List.getElem?_set_self (by rw [m1.cx.len]; exact hj)] at r2
      cases r2
      exact .inr hq
    · have r1' : (S1.s.set j (some (.own (.lst ds))))[j']? = some (some (.own es)) := r1
      rw [List.getElem?_set_ne ij] at r1'
      rw [List.getElem?_set_ne ij] at r2
      exact .inl (m1.oa a (.inl ⟨j', es, r1', r2⟩))
  · exact .inl (m1.oa a (.inr ⟨o, r⟩))
theorem do_lst {es : List Expr} {ds : List D} (h : DA F es S S1 ds) (hl : ds.length ≤ sizeLine := by decide) : DO F (.List es pos) S S1 ds :=
  do_of (fun i => pe_lst (anyA_ok i)) fun σ G H c Q q => h σ G H c _ fun vs G1 H1 m dl => ⟨by rw [dl.length]; exact hl, fun p hp => by
    have sm : Same H1 (upd H1 p (.lst vs)) := fun a u h => by rw [upd_ne (ne_of_none h hp)]; exact h
    have hp0 : H p = none := by
      cases r : H p with
      | none => rfl
      | some o =>
        by_cases n : OA F.C σ S p
        · rcases n with ⟨j, es, r1, r2⟩ | ⟨o', r1⟩
          · have : OA F.C σ S p := .inl ⟨j, es, r1, r2⟩
            obtain ⟨a, ws, h1, _, h2, _⟩ := c.ow j es r1
            rw [r2] at h1; cases h1
            exact absurd hp (m.go.dom _ (by rw [h2]; simp))
          · have z := c.bag
            rw [r1] at z
            cases o' with
            | lst => obtain ⟨_, _, h2, _⟩ := z; exact absurd hp (m.go.dom _ (by rw [h2]; simp))
            | ins => obtain ⟨_, _, _, h2, _⟩ := z; exact absurd hp (m.go.dom _ (by rw [h2]; simp))
        · rw [m.go.keep p o n r] at hp; cases hp
    have g1 : G1 p = none := m.cx.sub.free hp
    exact q p vs G1 _ (m.trans (m.cx.mv sm (fun _ _ h => h) (m.cx.sub.trans sm) fun _ _ h => h)) hp0 g1 upd_same dl⟩
end
end DL
/-! DL6: own lists changed, read, frozen; while, for; comprehensions. -/
namespace DL
open PySem L2

section
variable {F : Fam} {S S1 S2 S3 : ST} {e a b c tg iter : Expr} {d x y z : D} {pos p apos : Pos} {es : List Expr} {ds : List D} {k : Bool} {nm : Str} {P : Po} {rest t u body : List Stmt} {st : Stmt} {M : ST → Prop}

theorem Ctx.putO {C : Kc} {G H : Hp} {σ : L2.St} {S : ST} {j : Nat} {a : Addr} {vs' : HO} {ds ds' : MO} (c : Ctx C G H σ S) (hj : S.s[j]? = some (some (.own ds))) (ha : σ[j]? = some (some (.ref a))) (ga : G a = none) (dl : MOk C G vs' ds') :
    Mv C σ S G H (S.setM j ds') G (upd H a vs') := by
  have hjl : j < S.s.length := by
    rcases Nat.lt_or_ge j S.s.length with z | z
    · exact z
    · rw [List.getElem?_eq_none z] at hj; cases hj
  have self : (S.setM j ds').s[j]? = some (some (.own ds')) := List.getElem?_set_self hjl
  have key : ∀ (i : Nat) (o : DV), j ≠ i → (S.setM j ds').s[i]? = some (some o) → S.s[i]? = some (some o) := fun i o ij q => by rw [ST.setM, List.getElem?_set_ne ij] at q; exact q
  have own : ∀ (i : Nat) es, (S.setM j ds').s[i]? = some (some (.own es)) → ∃ es', S.s[i]? = some (some (.own es')) := fun i es q => by
    by_cases ij : j = i
    · subst ij; exact ⟨ds, hj⟩
    · exact ⟨es, key i _ ij q⟩
  have oa : ∀ x, OA C σ (S.setM j ds') x → OA C σ S x := fun x z => by
    rcases z with ⟨i, es, r1, r2⟩ | z
    · obtain ⟨es', r⟩ := own i es r1
      exact .inl ⟨i, es', r, r2⟩
    · exact .inr z
  have na : ∀ x, ¬ OA C σ S x → x ≠ a := fun x n z => n (.inl ⟨j, ds, hj, by rw [z]; exact ha⟩)
  refine ⟨⟨fun x o n h => by rw [upd_ne (na x n)]; exact h, fun _ _ h => h, fun _ _ _ h => h, fun x h => ?_⟩, ⟨fun x o h => ?_, by simp [ST.setM, c.len], fun i d q => ?_, fun i es q => ?_, fun i i' es es' q q1 q2 q3 q4 => ?_, fun i b o hg q => ?_, ?_, fun i b o es hg q => ?_⟩, oa⟩
  · by_cases z : x = a
    · rw [z, upd_same]; simp
    · rw [upd_ne z]; exact h
  · have z : x ≠ a := fun z => by rw [z, ga] at h; cases h
    rw [upd_ne z]; exact c.sub _ _ h
  · by_cases ij : j = i
    · subst ij; rw [self] at q; cases q
    · exact c.im i d (key i _ ij q)
  · by_cases ij : j = i
    · subst ij; rw [self] at q; cases q; exact ⟨a, vs', ha, ga, upd_same, dl⟩
    · obtain ⟨a', ws, h1, h2, h3, h4⟩ := c.ow i es (key i _ ij q)
      have z : a' ≠ a := fun z => ij (c.apart j i ds es a hj (key i _ ij q) ha (by rw [← z]; exact h1))
      exact ⟨a', ws, h1, h2, by rw [upd_ne z]; exact h3, h4⟩
  · obtain ⟨e1, r1⟩ := own i es q1
    obtain ⟨e2, r2⟩ := own i' es' q2
    exact c.apart i i' e1 e2 q r1 r2 q3 q4
  · by_cases ij : j = i
    · subst ij; rw [self] at q; cases q
    · exact c.bg i b o hg (key i _ ij q)
  · have nb : ∀ b o, S.g = some (b, o) → b ≠ a := fun b o hg z => c.nob j b o ds hg hj (by rw [z]; exact ha)
    have z := c.bag
    show BagOk C G (upd H a vs') S.g
    cases q : S.g with
    | none => trivial
    | some bo =>
      obtain ⟨b, o⟩ := bo
      rw [q] at z
      cases o with
      | lst es => obtain ⟨h1, ws, h2, h3⟩ := z; exact ⟨h1, ws, by rw [upd_ne (nb b _ q)]; exact h2, h3⟩
      | ins cc fs => obtain ⟨h1, dx, ws, h2, h3⟩ := z; exact ⟨h1, dx, ws, by rw [upd_ne (nb b _ q)]; exact h2, h3⟩
  · obtain ⟨e1, r1⟩ := own i es q
    exact c.nob i b o e1 hg r1
/-- x.append(e), x an own list -/
theorem ds_append {j : Nat} {x : Str} {q1 cpos : Pos} {gs : List D} (he : DE F e S S1 d) (hj0 : ∃ es, S.s[j]? = some (some (.own (.lst es)))) (hj : S1.s[j]? = some (some (.own (.lst gs)))) (q : DS F rest (S1.setO j (gs ++ [d])) P) (hl : gs.length < sizeLine)
    (hp : ∀ i, PE (F.X i) (.Call (.Attribute (.Name x q1) "append" apos) [e] [] cpos) (tBM (F.X i).K "list" rAppend (tVar j) (tCons (anyE F e) tNil)) := by
      intro i; exact pe_bm PySem.F.plainAttrs_list PySem.F.slot_list_append PySem.F.type_list_append mt_append (pv _) (pa_cons (anyE_ok i) pa_nil))
    (hs : ∀ i, swapsWith (.Call (.Attribute (.Name x q1) "append" apos) [e] [] cpos) none pos.line (F.X i).env = pure false := by intro _; rfl) : DS F (.Expr (.Call (.Attribute (.Name x q1) "append" apos) [e] [] cpos) pos :: rest) S P := by
  refine ds_cons (M := fun S3 => S3 = S1.setO j (gs ++ [d])) (d1_of (te := tDrop (tBM F.C.K "list" rAppend (tVar j) (tCons (anyE F e) tNil))) (fun i => ps_expr (by have := hp i; rw [F.hK i] at this; exact this) (hs i)) ?_) fun _ z => z ▸ q
  intro σ G H c E m
  obtain ⟨es, hj0⟩ := hj0
  obtain ⟨a0, _, s1, _, s3, s4⟩ := c.ow j _ hj0
  obtain ⟨vs0, rfl, _⟩ := s4.isL
  refine ⟨.ref a0, s1, .inl ⟨rfl, vs0, SqL.of s3⟩, ?_⟩
  refine he σ G H c _ fun v G1 H1 m1 dv => ?_
  obtain ⟨a, _, h1, h2, h3, h4⟩ := m1.cx.ow j _ hj
  rw [s1] at h1; cases h1
  obtain ⟨vs, e4, h5⟩ := h4.isL
  subst e4
  clear h4
  have h4 := h5
  refine ⟨a0, vs, v, rfl, rfl, h3, by rw [h4.length]; exact hl, ?_⟩
  exact m.nx _ _ _ _ (m1.mw.trans (m1.cx.putO hj s1 h2 (.lst (h4.append (.cons dv .nil)))).mw) rfl
/-- x[i] = e, x an own list -/
theorem ds_ownSet {j : Nat} {x : Str} {i : Int} {n : Nat} {q1 : Pos} {gs : List D} (he : DE F e S S1 d) (hj : S1.s[j]? = some (some (.own (.lst gs)))) (hb : DE F b S1 S1 (.int i)) (hi : ixN gs.length i = some n) (q : DS F rest (S1.setO j (gs.set n d)) P)
    (hp : ∀ i, PS (F.X i) (.Assign [.Subscript (.Name x q1) b p] e pos) (tAsg (anyE F e) (gSub (tVar j) (anyE F b) rSetL)) := by
      intro i; exact ps_asg (anyE_ok i) (pg_sub (pv _) (anyE_ok i) set_list)) :
    DS F (.Assign [.Subscript (.Name x q1) b p] e pos :: rest) S P := by
  refine ds_cons (M := fun S3 => S3 = S1.setO j (gs.set n d)) (d1_of (te := tAsg (anyE F e) (gSub (tVar j) (anyE F b) rSetL)) hp ?_) fun _ z => z ▸ q
  intro σ G H c E m
  refine he σ G H c _ fun v G1 H1 m1 dv => ?_
  obtain ⟨a, _, h1, _⟩ := m1.cx.ow j _ hj
  refine ⟨.ref a, h1, ?_⟩
  refine hb σ G1 H1 m1.cx _ fun w G2 H2 m2 dw => ?_
  cases dw
  obtain ⟨a', _, h1', h2, h3, h4⟩ := m2.cx.ow j _ hj
  rw [h1] at h1'; cases h1'
  obtain ⟨vs, e4, h5⟩ := h4.isL
  subst e4
  clear h4
  have h4 := h5
  refine ⟨a, vs, i, n, rfl, rfl, h3, by rw [h4.length]; exact hi, ?_⟩
  exact m.nx _ _ _ _ (m1.mw.trans (m2.mw.trans (m2.cx.putO hj h1 h2 (.lst (h4.set (dv.mono m2.go.gg) n))).mw)) rfl
/-- an own list read by place -/
theorem de_ownIx {j : Nat} {x : Str} {i : Int} {gs : List D} (hj : S.s[j]? = some (some (.own (.lst gs)))) (hb : DE F b S S (.int i)) (hi : atI gs i = some d) (hs : PlainIx b := by intro _ _; rfl)
    (hN : ∀ i, (F.X i).N[j]? = some x := by intro _; rfl) (hv : ∀ i, Vis (F.X i).env.scope x := by intro _; first | exact Or.inl rfl | exact Or.inr (Or.inl rfl) | exact Or.inr (Or.inr rfl))
    (hd : (x == ("__debug__" : Str)) = false := by decide) (hcd : (x == ("__classdict__" : Str)) = false := by decide) : DE F (.Subscript (.Name x p) b pos) S S d :=
  de_of (te := tOp (rIxL F.C.K) (tVar j) (anyE F b)) (fun k => by have := pe_ix (pos := pos) (ix_list (X := F.X k)) (pe_var (pos := p) (hN k) (hv k) hd hcd) (anyE_ok (e := b) k) hs; rw [F.hK k] at this; exact this) fun σ G H c Q q => by
    obtain ⟨a, _, h1, _⟩ := c.ow j _ hj
    refine ⟨_, h1, hb σ G H c _ fun w G2 H2 m2 dw => ?_⟩
    cases dw
    obtain ⟨a', _, h1', h2, h3, h4⟩ := m2.cx.ow j _ hj
    rw [h1] at h1'; cases h1'
    obtain ⟨vs, e4, h5⟩ := h4.isL
    subst e4
    clear h4
    have h4 := h5
    obtain ⟨w, r1, r2⟩ := atI_den h4 hi
    exact ⟨a, vs, i, w, rfl, rfl, SqL.of h3, r1, q _ _ _ m2 r2⟩
/-- an own list is handed over: from now on it is data -/
theorem Ctx.freeze {C : Kc} {G H : Hp} {σ : L2.St} {S : ST} {j : Nat} {a : Addr} {vs : HO} {ds : MO} (c : Ctx C G H σ S) (hj : S.s[j]? = some (some (.own ds))) (ha : σ[j]? = some (some (.ref a))) (ga : G a = none) (h3 : H a = some vs) (dl : MOk C G vs ds) :
    Mv C σ S G H (S.set j (dOf ds)) (upd G a vs) H := by
  have hjl : j < S.s.length := by
    rcases Nat.lt_or_ge j S.s.length with z | z
    · exact z
    · rw [List.getElem?_eq_none z] at hj; cases hj
  have gg : Same G (upd G a vs) := fun x o h => by rw [upd_ne (ne_of_none h ga)]; exact h
  have self : (S.set j (dOf ds)).s[j]? = some (some (.imm (dOf ds))) := List.getElem?_set_self hjl
  have key : ∀ (i : Nat) (o : DV), j ≠ i → (S.set j (dOf ds)).s[i]? = some (some o) → S.s[i]? = some (some o) := fun i o ij q => by rw [ST.set, List.getElem?_set_ne ij] at q; exact q
  have keyO : ∀ (i : Nat) es, (S.set j (dOf ds)).s[i]? = some (some (.own es)) → j ≠ i ∧ S.s[i]? = some (some (.own es)) := fun i es q => by
    by_cases ij : j = i
    · subst ij; rw [self] at q; cases q
    · exact ⟨ij, key i _ ij q⟩
  refine ⟨⟨fun _ _ _ h => h, gg, fun x n h g => ?_, fun _ h => h⟩, ⟨fun x o h => ?_, by simp [ST.set, c.len], fun i d q => ?_, fun i es q => ?_, fun i i' es es' x q1 q2 q3 q4 => ?_, fun i b o hg q => ?_, ?_, fun i b o es hg q => ?_⟩, fun x z => ?_⟩
  · have : x ≠ a := fun z => n (.inl ⟨j, ds, hj, by rw [z]; exact ha⟩)
    rw [upd_ne this]; exact g
  · by_cases z : x = a
    · subst z; rw [upd_same] at h; cases h; exact h3
    · rw [upd_ne z] at h; exact c.sub _ _ h
  · by_cases ij : j = i
    · subst ij; rw [self] at q; cases q; exact ⟨.ref a, ha, (dl.mono gg).den upd_same⟩
    · obtain ⟨v, h1, h2⟩ := c.im i d (key i _ ij q)
      exact ⟨v, h1, h2.mono gg⟩
  · obtain ⟨ij, q⟩ := keyO i es q
    obtain ⟨a', ws, h1, h2, h3, h4⟩ := c.ow i es q
    have z : a' ≠ a := fun z => ij (c.apart j i ds es a hj q ha (by rw [← z]; exact h1))
    exact ⟨a', ws, h1, by rw [upd_ne z]; exact h2, h3, h4.mono gg⟩
  · exact c.apart i i' es es' x (keyO i es q1).2 (keyO i' es' q2).2 q3 q4
  · by_cases ij : j = i
    · subst ij; rw [self] at q; cases q
    · exact c.bg i b o hg (key i _ ij q)
  · have nb : ∀ b o, S.g = some (b, o) → b ≠ a := fun b o hg z => c.nob j b o ds hg hj (by rw [z]; exact ha)
    have z := c.bag
    show BagOk C (upd G a vs) H S.g
    cases q : S.g with
    | none => trivial
    | some bo =>
      obtain ⟨b, o⟩ := bo
      rw [q] at z
      cases o with
      | lst es => obtain ⟨h1, ws, h2, h3⟩ := z; exact ⟨by rw [upd_ne (nb b _ q)]; exact h1, ws, h2, h3.mono gg⟩
      | ins cc fs => obtain ⟨h1, dx, ws, h2, h3⟩ := z; exact ⟨by rw [upd_ne (nb b _ q)]; exact h1, dx, ws, h2, h3.mono gg⟩
  · exact c.nob i b o es hg (keyO i es q).2
  · rcases z with ⟨i, es, r1, r2⟩ | z
    · exact .inl ⟨i, es, (keyO i es r1).2, r2⟩
    · exact .inr z
theorem de_own {j : Nat} {x : Str} {gs : MO} (hj : S.s[j]? = some (some (.own gs))) (hN : ∀ i, (F.X i).N[j]? = some x := by intro _; rfl)
    (hv : ∀ i, Vis (F.X i).env.scope x := by intro _; first | exact Or.inl rfl | exact Or.inr (Or.inl rfl) | exact Or.inr (Or.inr rfl))
    (hd : (x == ("__debug__" : Str)) = false := by decide) (hcd : (x == ("__classdict__" : Str)) = false := by decide) : DE F (.Name x pos) S (S.set j (dOf gs)) (dOf gs) :=
  de_of (fun i => pe_var (hN i) (hv i) hd hcd) fun σ G H c Q q => by
    obtain ⟨a, vs, h1, h2, h3, h4⟩ := c.ow j gs hj
    have m := c.freeze hj h1 h2 h3 h4
    exact ⟨.ref a, h1, q _ _ _ m ((h4.mono m.go.gg).den upd_same)⟩

/-! ### while -/
theorem ds_while (I : ST → Prop) (mu : ST → Nat) (M : ST → Prop) (h0 : I S)
    (hs : ∀ S, I S → ∃ k S1, DT F c S S1 k ∧ (k = true → DS F body S1 { P with nx := fun S2 => I S2 ∧ mu S2 < mu S, ct := fun S2 => I S2 ∧ mu S2 < mu S, bk := M }) ∧ (k = false → M S1))
    (hr : ∀ S2, M S2 → DS F rest S2 P) (hp : ∀ i, PassesOwn (model (F.X i).prog (F.X i).w) (F.X i).A (F.X i).env (F.X i).xe := by intro _; exact PassesOwn.never) : DS F (.While c body [] pos :: rest) S P := by
  refine ds_cons (M := M) (d1_of (te := tWhile (anyT F c) (anyS F body)) (fun i => ps_while (hp i) (anyT_ok i) (anyS_ok i)) ?_) hr
  intro σ0 G0 H0 c0 E m
  refine ⟨fun m' σ H => ∃ S' G, Mw F.C σ0 S G0 H0 σ S' G H ∧ I S' ∧ m' = mu S', ⟨_, S, G0, .refl c0, h0, rfl⟩, ?_⟩
  rintro m' σ H ⟨S', G, mw, hI, rfl⟩
  obtain ⟨k, S1, hc, h1, h2⟩ := hs S' hI
  refine hc σ G H mw.cx _ fun G1 H1 m1 => ?_
  cases k with
  | false =>
    rw [if_neg Bool.false_ne_true]
    exact m.nx _ _ _ _ (mw.trans m1.mw) (h2 rfl)
  | true =>
    rw [if_pos rfl]
    refine ⟨fun σ' H' => ∃ S2 G2, Mw F.C σ0 S G0 H0 σ' S2 G2 H' ∧ I S2 ∧ mu S2 < mu S', fun σ' H' ⟨S2, G2, a, b, l⟩ => ⟨_, l, S2, G2, a, b, rfl⟩, ?_⟩
    have mm := m.move (mw.trans m1.mw)
    exact h1 rfl σ G1 H1 m1.cx _ ⟨fun σ2 S2 G2 H2 a q => ⟨S2, G2, (mw.trans m1.mw).trans a, q.1, q.2⟩, mm.rt, mm.nx, fun σ2 S2 G2 H2 a q => ⟨S2, G2, (mw.trans m1.mw).trans a, q.1, q.2⟩, mm.ro⟩

/-! ### for -/
structure ItD (C : Kc) (J : It) (G0 : Hp) (ds : List D) : Prop where
  go : ∀ i G H, i < ds.length → Same G0 G → Same G H → J.go i H
  yld : ∀ i d G H x H', ds[i]? = some d → Same G0 G → Same G H → J.yld i H x H' → ∃ G', Pu G H G' H' ∧ Den C G' x d
  stop : ∀ i G H, ds.length ≤ i → Same G0 G → Same G H → J.stop i H
theorem ItD.mono {C : Kc} {J : It} {G0 G1 : Hp} {ds : List D} (h : ItD C J G0 ds) (e : Same G0 G1) : ItD C J G1 ds :=
  ⟨fun i G H hi s => h.go i G H hi (e.trans s), fun i d G H x H' hd s => h.yld i d G H x H' hd (e.trans s), fun i G H hi s => h.stop i G H hi (e.trans s)⟩
def anyI (F : Fam) (tg iter : Expr) : TI := fun σ H R => ∃ wi, (∀ i, PI (F.X i) tg iter wi) ∧ wi σ H R
theorem anyI_ok {tg iter : Expr} (i : F.I) : PI (F.X i) tg iter (anyI F tg iter) := ⟨fun pins s σ H R I h => let ⟨wi, h1, h2⟩ := h; (h1 i).run pins s σ H R I h2⟩
def DI (F : Fam) (tg iter : Expr) (S S1 : ST) (ds : List D) : Prop := ∀ σ G H, Ctx F.C G H σ S → ∀ R : It → Hp → Prop, (∀ J G2 H2, Mv F.C σ S G H S1 G2 H2 → ItD F.C J G2 ds → R J H2) → anyI F tg iter σ H R
theorem di_of {wi : TI} (h : ∀ i, PI (F.X i) tg iter wi) (v : ∀ σ G H, Ctx F.C G H σ S → ∀ R : It → Hp → Prop, (∀ J G2 H2, Mv F.C σ S G H S1 G2 H2 → ItD F.C J G2 ds → R J H2) → wi σ H R) : DI F tg iter S S1 ds := fun σ G H c R q => ⟨wi, h, v σ G H c R q⟩
theorem itd_list {C : Kc} {G0 : Hp} {a : Addr} {vs : List V} (h : SqL C.K G0 a vs) (dl : DenL C G0 vs ds) : ItD C (Itl C.K a) G0 ds where
  go := fun i G H hi s s2 => by
    obtain ⟨v, h1, _⟩ := dl.get (List.getElem?_eq_getElem hi)
    exact ⟨vs, v, s2.seq (s.seq h), h1⟩
  yld := fun i d G H x H' hd s s2 hy => by
    obtain ⟨rfl, hy⟩ := hy
    obtain ⟨v, h1, h2⟩ := dl.get hd
    have := hy vs (s2.seq (s.seq h))
    rw [h1] at this; cases this
    exact ⟨G, .refl s2, h2.mono s⟩
  stop := fun i G H hi s s2 => ⟨vs, s2.seq (s.seq h), by rw [dl.length]; exact hi⟩
theorem itd_tup {C : Kc} {G0 : Hp} {a : Addr} {vs : List V} (h : SqT C.K G0 a vs) (dl : DenL C G0 vs ds) : ItD C (Itt C.K a) G0 ds where
  go := fun i G H hi s s2 => by
    obtain ⟨v, h1, _⟩ := dl.get (List.getElem?_eq_getElem hi)
    exact ⟨vs, v, same_t s2 (same_t s h), h1⟩
  yld := fun i d G H x H' hd s s2 hy => by
    obtain ⟨rfl, hy⟩ := hy
    obtain ⟨v, h1, h2⟩ := dl.get hd
    have := hy vs (same_t s2 (same_t s h))
    rw [h1] at this; cases this
    exact ⟨G, .refl s2, h2.mono s⟩
  stop := fun i G H hi s s2 => ⟨vs, same_t s2 (same_t s h), by rw [dl.length]; exact hi⟩
theorem di_list (h : DE F iter S S1 (.lst ds)) : DI F tg iter S S1 ds := di_of (wi := iList F.C.K (anyE F iter)) (fun i => by have := pi_list (tg := tg) (anyE_ok (e := iter) i); rw [F.hK i] at this; exact this) fun σ G H c R q => h σ G H c _ fun v G1 H1 m dv => by
  cases dv with
  | @lst a vs _ h1 h2 => exact ⟨_, rfl, ⟨vs, m.cx.sub.seq h1⟩, q _ _ _ m (itd_list h1 h2)⟩
theorem di_tup (h : DE F iter S S1 (.tup ds)) : DI F tg iter S S1 ds := di_of (wi := iTup F.C.K (anyE F iter)) (fun i => by have := pi_tup (tg := tg) (anyE_ok (e := iter) i); rw [F.hK i] at this; exact this) fun σ G H c R q => h σ G H c _ fun v G1 H1 m dv => by
  cases dv with
  | @tup a vs _ h1 h2 => exact ⟨_, rfl, ⟨vs, same_t m.cx.sub h1⟩, q _ _ _ m (itd_tup h1 h2)⟩
def rangeD (lo : Int) (n : Nat) : List D := (List.range n).map fun (i : Nat) => D.int (lo + i)
theorem rangeD_length (lo : Int) (n : Nat) : (rangeD lo n).length = n := by simp [rangeD]
theorem rangeD_get {lo : Int} {n i : Nat} {d : D} (h : (rangeD lo n)[i]? = some d) : i < n ∧ d = .int (lo + i) := by
  unfold rangeD at h
  rw [List.getElem?_map] at h
  cases q : (List.range n)[i]? with
  | none => rw [q] at h; cases h
  | some j =>
    rw [q] at h
    rw [List.getElem?_eq_some_iff] at q
    obtain ⟨h1, h2⟩ := q
    rw [List.getElem_range] at h2
    subst h2
    exact ⟨by simpa using h1, by simpa using h.symm⟩
theorem itd_range {C : Kc} {G0 : Hp} {lo : Int} {n : Nat} : ItD C (Itr lo n) G0 (rangeD lo n) where
  go := fun i G H hi s s2 => by rw [rangeD_length] at hi; exact hi
  yld := fun i d G H x H' hd s s2 hy => by
    obtain ⟨rfl, rfl⟩ := hy
    obtain ⟨_, rfl⟩ := rangeD_get hd
    exact ⟨G, .refl s2, .int _⟩
  stop := fun i G H hi s s2 => by rw [rangeD_length] at hi; exact hi
theorem di_range1 {i : Int} {q1 : Pos} (hm : F.mg "range" = none) (h : DE F e S S1 (.int i)) (h1 : -(2 ^ 62) ≤ i) (h2 : i < 2 ^ 62) (hg : ∀ l, Gl (F.X l) "range" := by intro _; rfl) (hs : ∀ l, starEach [e] (F.X l).env = [(false, eval e (F.X l).env)] := by intro _; rfl) : DI F tg (.Call (.Name "range" p) [e] [] q1) S S1 (rangeD 0 i.toNat) :=
  di_of (wi := iRng1 (tCons (anyE F e) tNil)) (fun l => pi_range1 (hg l) (by rw [F.hmg l]; exact hm) (pa_cons (anyE_ok l) pa_nil (hs l)) (hs l)) fun σ G H c R q => h σ G H c _ fun v G1 H1 m dv => by
    cases dv
    exact ⟨i, rfl, h1, h2, q _ _ _ m itd_range⟩
theorem di_range2 {i j : Int} {q1 : Pos} (hm : F.mg "range" = none) (h : DE F a S S1 (.int i)) (h' : DE F b S1 S2 (.int j)) (hb : -(2 ^ 62) ≤ i ∧ i < 2 ^ 62 ∧ -(2 ^ 62) ≤ j ∧ j < 2 ^ 62) (hg : ∀ l, Gl (F.X l) "range" := by intro _; rfl) (hs : ∀ l, starEach [a, b] (F.X l).env = [(false, eval a (F.X l).env), (false, eval b (F.X l).env)] := by intro _; rfl)
    (hs2 : ∀ l, starEach [b] (F.X l).env = [(false, eval b (F.X l).env)] := by intro _; rfl) (hs3 : ∀ l, starEach [a, b] (F.X l).env = (false, eval a (F.X l).env) :: starEach [b] (F.X l).env := by intro _; rfl) : DI F tg (.Call (.Name "range" p) [a, b] [] q1) S S2 (rangeD i (j - i).toNat) :=
  di_of (wi := iRng2 (tCons (anyE F a) (tCons (anyE F b) tNil))) (fun l => pi_range2 (hg l) (by rw [F.hmg l]; exact hm) (pa_cons (anyE_ok l) (pa_cons (anyE_ok l) pa_nil (hs2 l)) (hs3 l)) (hs l) (hs2 l)) fun σ G H c R q => h σ G H c _ fun v G1 H1 m dv => h' σ G1 H1 m.cx _ fun v2 G2 H2 m2 dv2 => by
    cases dv
    cases dv2
    exact ⟨i, j, rfl, hb, q _ _ _ (m.trans m2) itd_range⟩
theorem ds_for (I : Nat → ST → Prop) (M : ST → Prop) (hi : DI F tg iter S S1 ds) (h0 : I 0 S1) (hb : ∀ i S d, ds[i]? = some d → I i S → ∃ S' js, DG F tg d S S' js ∧ DS F body S' { P with nx := I (i + 1), ct := I (i + 1), bk := M }) (hd : ∀ S, I ds.length S → M S) (hr : ∀ S2, M S2 → DS F rest S2 P)
    (hp : ∀ i, PassesOwn (model (F.X i).prog (F.X i).w) (F.X i).A (F.X i).env (F.X i).xe := by intro _; exact PassesOwn.never)
    (hf : ∀ i, PS (F.X i) (.For tg iter body [] pos) (tFor (anyI F tg iter) (anyG F tg) (anyS F body)) := by intro i; exact ps_for PassesOwn.never (Fam.calm _ i) (anyI_ok i) (anyG_ok i) (anyS_ok i)) : DS F (.For tg iter body [] pos :: rest) S P := by
  refine ds_cons (M := M) (d1_of (te := tFor (anyI F tg iter) (anyG F tg) (anyS F body)) hf ?_) hr
  intro σ0 G0 H0 c0 E m
  refine hi σ0 G0 H0 c0 _ fun J G1 H1 m1 it => ?_
  refine ⟨fun i m' σ H => i ≤ ds.length ∧ m' = ds.length - i ∧ ∃ S' G, Mw F.C σ0 S1 G1 H1 σ S' G H ∧ I i S', ⟨_, Nat.zero_le _, rfl, S1, G1, .refl m1.cx, h0⟩, ?_⟩
  rintro i m' σ H ⟨hle, rfl, S', G, mw, hI⟩
  by_cases hlt : i < ds.length
  · refine .inr ⟨it.go i G H hlt mw.go.gg mw.cx.sub, fun σ' H' => ∃ S2 G2, Mw F.C σ0 S1 G1 H1 σ' S2 G2 H' ∧ I (i + 1) S2, fun σ' H' ⟨S2, G2, a, b⟩ => ⟨_, by omega, hlt, rfl, S2, G2, a, b⟩, fun x H' hy => ?_⟩
    obtain ⟨G', pu, dx⟩ := it.yld i _ G H x H' (List.getElem?_eq_getElem hlt) mw.go.gg mw.cx.sub hy
    obtain ⟨S3, js, hg, hbd⟩ := hb i S' _ (List.getElem?_eq_getElem hlt) hI
    have m2 := mw.cx.pu pu
    refine hg σ G' H' x m2.cx dx _ fun σ2 G2 H2 m3 _ => ?_
    have all := (mw.trans m2.mw).trans m3
    have mm := m.move (m1.mw.trans all)
    exact hbd σ2 G2 H2 m3.cx _ ⟨fun σ3 S3 G3 H3 a q => ⟨S3, G3, all.trans a, q⟩, mm.rt, mm.nx, fun σ3 S3 G3 H3 a q => ⟨S3, G3, all.trans a, q⟩, mm.ro⟩
  · have e : i = ds.length := by omega
    subst e
    exact .inl ⟨it.stop _ G H (Nat.le_refl _) mw.go.gg mw.cx.sub, m.nx _ _ _ _ (m1.mw.trans mw) (hd S' hI)⟩
end
end DL
/-! DL7: list comprehensions on data. -/
namespace DL
open PySem L2

def Fam.blk (F : Fam) (scope : Scope) : Fam where
  I := F.I × (Shared × Hp × Addr × List (Str × Addr) × List Addr)
  X := fun j => (F.X j.1).blk j.2.1 j.2.2.1 scope (compEnvC scope j.2.2.2.2.1 j.2.2.2.1 (F.X j.1).env) j.2.2.2.2.2
  P := F.P
  w := F.w
  C := F.C
  mg := F.mg
  base := F.base
  N := F.N
  k := F.k
  hP := fun i => F.hP i.1
  hw := fun i => F.hw i.1
  hK := fun i => F.hK i.1
  hmg := fun i => F.hmg i.1
  hbase := fun i => F.hbase i.1
  hN := fun i => F.hN i.1
  nd := F.nd
  room := fun i => F.room i.1
  calm := fun i => F.calm i.1

/-- the slots of the block's own names forgotten -/
def hidS (s : List (Option DV)) : List Nat → List (Option DV)
  | [] => s
  | v :: vs => (hidS s vs).set v none
theorem hidS_length (s : List (Option DV)) : ∀ vs, (hidS s vs).length = s.length
  | [] => by simp [hidS]
  | v :: vs => by unfold hidS; rw [List.length_set, hidS_length s vs]
theorem hidS_get {s : List (Option DV)} {i : Nat} {o : DV} : ∀ {vs : List Nat}, (hidS s vs)[i]? = some (some o) → s[i]? = some (some o) ∧ i ∉ vs
  | [], h => ⟨h, by simp⟩
  | v :: vs, h => by
    unfold hidS at h
    by_cases e : v = i
    · subst e
      rcases Nat.lt_or_ge v (hidS s vs).length with z | z
      · rw [List.getElem?_set_self z] at h; cases h
      · rw [List.getElem?_eq_none (by simpa using z)] at h; cases h
    · rw [List.getElem?_set_ne e] at h
      obtain ⟨h1, h2⟩ := hidS_get h
      exact ⟨h1, by simp only [List.mem_cons, not_or]; exact ⟨fun z => e z.symm, h2⟩⟩
theorem hidS_keep {s : List (Option DV)} {i : Nat} : ∀ {vs : List Nat}, i ∉ vs → (hidS s vs)[i]? = s[i]?
  | [], _ => rfl
  | v :: vs, h => by
    unfold hidS
    have h2 : i ≠ v ∧ i ∉ vs := by simpa using h
    rw [List.getElem?_set_ne (Ne.symm h2.1)]
    exact hidS_keep h2.2
theorem wipe_keep {σ : L2.St} {i : Nat} : ∀ {vs : List Nat}, i ∉ vs → (wipe σ vs)[i]? = σ[i]?
  | [], _ => rfl
  | v :: vs, h => by
    unfold wipe
    have h2 : i ≠ v ∧ i ∉ vs := by simpa using h
    rw [List.getElem?_set_ne (Ne.symm h2.1)]
    exact wipe_keep h2.2
theorem Ctx.hid {C : Kc} {G H : Hp} {σ : L2.St} {S : ST} (c : Ctx C G H σ S) (vs : List Nat) : Ctx C G H (wipe σ vs) ⟨hidS S.s vs, S.g⟩ where
  sub := c.sub
  len := by rw [wipe_length, hidS_length]; exact c.len
  im := fun i d h => by obtain ⟨h1, h2⟩ := hidS_get h; rw [wipe_keep h2]; exact c.im i d h1
  ow := fun i es h => by obtain ⟨h1, h2⟩ := hidS_get h; rw [wipe_keep h2]; exact c.ow i es h1
  apart := fun i j es fs a h h' q q' => by
    obtain ⟨h1, h2⟩ := hidS_get h
    obtain ⟨h3, h4⟩ := hidS_get h'
    rw [wipe_keep h2] at q
    rw [wipe_keep h4] at q'
    exact c.apart i j es fs a h1 h3 q q'
  bg := fun i b o hg h => by obtain ⟨h1, h2⟩ := hidS_get h; rw [wipe_keep h2]; exact c.bg i b o hg h1
  bag := c.bag
  nob := fun i b o es hg h => by obtain ⟨h1, h2⟩ := hidS_get h; rw [wipe_keep h2]; exact c.nob i b o es hg h1
theorem oa_hid {C : Kc} {σ : L2.St} {S : ST} {vs : List Nat} {a : Addr} (z : OA C (wipe σ vs) ⟨hidS S.s vs, S.g⟩ a) : OA C σ S a := by
  rcases z with ⟨i, es, r, q⟩ | z
  · obtain ⟨h1, h2⟩ := hidS_get r
    rw [wipe_keep h2] at q
    exact .inl ⟨i, es, h1, q⟩
  · exact .inr z
/-- the own lists stand in T as in s -/
def KeepOwn (s : List (Option DV)) (vs : List Nat) (T : ST) : Prop := ∀ (i : Nat) es, s[i]? = some (some (.own es)) → i ∉ vs ∧ T.s[i]? = some (some (.own es))
/-- from a block's state back to the state around it -/
theorem Ctx.outer {C : Kc} {G H G2 H2 : Hp} {σ σ2 : L2.St} {S T : ST} {vs : List Nat} (c : Ctx C G H σ S) (m : Mw C (wipe σ vs) ⟨hidS S.s vs, S.g⟩ G H σ2 T G2 H2) (hg : T.g.map (·.1) = S.g.map (·.1)) (ko : KeepOwn S.s vs T) (hσ : wipe σ2 vs = wipe σ vs) : Mv C σ S G H ⟨S.s, T.g⟩ G2 H2 := by
  have ad : ∀ b o, T.g = some (b, o) → ∃ o', S.g = some (b, o') := fun b o h => by
    rw [h] at hg
    cases q : S.g with
    | none => rw [q] at hg; cases hg
    | some bo => obtain ⟨b', o'⟩ := bo; rw [q] at hg; cases hg; exact ⟨o', rfl⟩
  have eσ : ∀ i, i ∉ vs → σ2[i]? = σ[i]? := fun i h => by
    rw [← wipe_keep (σ := σ2) h, hσ, wipe_keep h]
  refine ⟨m.go.mono fun a z => oa_hid z, ⟨m.cx.sub, c.len, fun i d h => ?_, fun i es h => ?_, c.apart, fun i b o h h1 => ?_, m.cx.bag, fun i b o es h h1 => ?_⟩, fun a z => ?_⟩
  · obtain ⟨v, h1, h2⟩ := c.im i d h
    exact ⟨v, h1, h2.mono m.go.gg⟩
  · obtain ⟨n, t⟩ := ko i es h
    obtain ⟨a, o, h1, h2, h3, h4⟩ := m.cx.ow i es t
    rw [eσ i n] at h1
    exact ⟨a, o, h1, h2, h3, h4⟩
  · obtain ⟨o', r⟩ := ad b o h
    exact c.bg i b o' r h1
  · obtain ⟨o', r⟩ := ad b o h
    exact c.nob i b o' es r h1
  · rcases z with z | ⟨o, z⟩
    · exact .inl z
    · obtain ⟨o', r⟩ := ad a o z
      exact .inr ⟨o', r⟩

theorem wipe_wipe (σ : L2.St) (vs : List Nat) : wipe (wipe σ vs) vs = wipe σ vs := by
  have key : ∀ (us : List Nat) (τ : L2.St), (∀ v ∈ us, v ∈ vs) → wipe (wipe τ us) vs = wipe τ vs := fun us => by
    induction us with
    | nil => intro τ _; rfl
    | cons u us ih =>
      intro τ h
      show wipe ((wipe τ us).set u none) vs = wipe τ vs
      rw [wipe_set_in _ u none vs (h u List.mem_cons_self)]
      exact ih τ fun v hv => h v (List.mem_cons_of_mem _ hv)
  exact key vs σ fun _ h => h
/-- an object that is nobody's data, no own list and not the handed one is changed -/
theorem ctx_priv {C : Kc} {G H : Hp} {σ : L2.St} {S : ST} {q : Addr} {o o' : HO} (c : Ctx C G H σ S) (gq : G q = none) (no : ∀ (j : Nat) es, S.s[j]? = some (some (.own es)) → σ[j]? ≠ some (some (.ref q))) (nb : ∀ o, S.g ≠ some (q, o)) (hq : H q = some o) : Ctx C G (upd H q o') σ S where
  sub := fun a u h => by
    have : a ≠ q := fun z => by rw [z, gq] at h; cases h
    rw [upd_ne this]; exact c.sub a u h
  len := c.len
  im := c.im
  ow := fun i es h => by
    obtain ⟨a, ws, h1, h2, h3, h4⟩ := c.ow i es h
    have : a ≠ q := fun z => no i es h (by rw [← z]; exact h1)
    exact ⟨a, ws, h1, h2, by rw [upd_ne this]; exact h3, h4⟩
  apart := c.apart
  bg := c.bg
  bag := by
    have z := c.bag
    cases r : S.g with
    | none => trivial
    | some bo =>
      obtain ⟨b, bo⟩ := bo
      have nq : b ≠ q := fun e => nb bo (by rw [r, e])
      rw [r] at z
      cases bo with
      | lst es => obtain ⟨h1, ws, h2, h3⟩ := z; exact ⟨h1, ws, by rw [upd_ne nq]; exact h2, h3⟩
      | ins cc fs => obtain ⟨h1, dx, ws, h2, h3⟩ := z; exact ⟨h1, dx, ws, by rw [upd_ne nq]; exact h2, h3⟩
  nob := c.nob

section
variable {F : Fam} {S S1 S2 S3 : ST} {e a b c tg iter elt : Expr} {d x y z : D} {pos p apos : Pos} {es : List Expr} {ds : List D} {k : Bool} {nm : Str} {P : Po} {rest t u body : List Stmt} {st : Stmt} {M : ST → Prop} {ifs : List Expr} {scope : Scope} {own : List (Str × Nat)}
def anyTs (F : Fam) (ifs : List Expr) : TT := fun σ H Q => ∃ te, (∀ i, PTs (F.X i) ifs te) ∧ te σ H Q
theorem anyTs_ok {ifs : List Expr} (i : F.I) : PTs (F.X i) ifs (anyTs F ifs) := ⟨fun pins s σ H Q I h => let ⟨te, h1, h2⟩ := h; (h1 i).run pins s σ H Q I h2⟩
def DTs (F : Fam) (ifs : List Expr) (S S' : ST) (b : Bool) : Prop := EvT F.C (anyTs F ifs) S S' b
theorem dts_nil : DTs F [] S S true := fun σ G H c Q q => ⟨tYes, fun _ => pts_nil, q G H (.refl c)⟩
theorem dts_one {k : Bool} (h : DT F c S S1 k) : DTs F [c] S S1 k := fun σ G H cx Q q => ⟨anyT F c, fun i => pts_one (anyT_ok i), h σ G H cx Q q⟩
/-- one turn of a comprehension: from the bag g and what is made so far to g', out' -/
def Turn1 (F : Fam) (tg : Expr) (ifs : List Expr) (elt : Expr) (vs : List Nat) (s : List (Option DV)) (d : D) (g : Option (Addr × BG)) (out : List D) (g' : Option (Addr × BG)) (out' : List D) : Prop :=
  ∃ T1 T2 b js, DG F tg d ⟨hidS s vs, g⟩ T1 js ∧ (∀ j ∈ js, j ∈ vs) ∧ DTs F ifs T1 T2 b ∧ (b = true → ∃ T3 y, DE F elt T2 T3 y ∧ T3.g = g' ∧ KeepOwn s vs T3 ∧ out' = out ++ [y] ∧ out.length < sizeLine) ∧ (b = false → T2.g = g' ∧ KeepOwn s vs T2 ∧ out' = out)
theorem ev_lc {vs0 : List Nat} (hi : DI F tg iter S S1 ds) (gO : Nat → Option (Addr × BG)) (out : Nat → List D) (hg0 : gO 0 = S1.g) (ho0 : out 0 = []) (hga : ∀ i, (gO i).map (·.1) = S1.g.map (·.1))
    (step : ∀ i d, ds[i]? = some d → Turn1 (F.blk scope) tg ifs elt vs0 S1.s d (gO i) (out i) (gO (i + 1)) (out (i + 1))) :
    ∀ σ G H, Ctx F.C G H σ S → ∀ Q : VK, (∀ q vs G2 H2, Mv F.C σ S G H ⟨S1.s, gO ds.length⟩ G2 H2 → H q = none → G2 q = none → H2 q = some (.lst vs) → DenL F.C G2 vs (out ds.length) → Q (.ref q) H2) →
      tLc (anyI F tg iter) (anyG (F.blk scope) tg) (anyTs (F.blk scope) ifs) (anyE (F.blk scope) elt) vs0 σ H Q := by
  intro σ G0 H0 c0 Q q
  refine hi σ G0 H0 c0 _ fun J G1 H1 m1 it => ?_
  intro Da hD
  have gD : G1 Da = none := m1.cx.sub.free hD
  have hD0 : H0 Da = none := by
    cases r : H0 Da with
    | none => rfl
    | some o => exact absurd hD (m1.go.dom Da (by rw [r]; simp))
  refine ⟨fun i m' H => i ≤ ds.length ∧ m' = ds.length - i ∧ ∃ G vs, Mv F.C σ S1 G1 H1 ⟨S1.s, gO i⟩ G H ∧ G Da = none ∧ H Da = some (.lst vs) ∧ DenL F.C G vs (out i), ⟨_, Nat.zero_le _, rfl, G1, [], ?_, gD, upd_same, by rw [ho0]; exact .nil⟩, ?_⟩
  · have sm : Same H1 (upd H1 Da (.lst [])) := fun a o h => by rw [upd_ne (ne_of_none h hD)]; exact h
    have := m1.cx.mv sm (fun _ _ h => h) (m1.cx.sub.trans sm) fun _ _ h => h
    rw [hg0]
    exact this
  · rintro i m' H ⟨hle, rfl, G, vs, mv, gDi, hDi, dl⟩
    by_cases hlt : i < ds.length
    · refine .inr ⟨it.go i G H hlt mv.go.gg mv.cx.sub, fun H' => ∃ G' vs', Mv F.C σ S1 G1 H1 ⟨S1.s, gO (i + 1)⟩ G' H' ∧ G' Da = none ∧ H' Da = some (.lst vs') ∧ DenL F.C G' vs' (out (i + 1)), fun H' z => ⟨_, by omega, hlt, rfl, z⟩, fun x H' hy => ?_⟩
      obtain ⟨G', pu, dx⟩ := it.yld i _ G H x H' (List.getElem?_eq_getElem hlt) mv.go.gg mv.cx.sub hy
      obtain ⟨T1, T2, b, js, hg, hjs, ht, h1, h2⟩ := step i _ (List.getElem?_eq_getElem hlt)
      have m2 := mv.cx.pu pu
      refine hg (wipe σ vs0) G' H' x (m2.cx.hid _) dx _ fun σ2 G2 H2 m3 only => ⟨(only _ hjs).trans (by
        have := only _ hjs
        exact wipe_wipe σ _), ?_⟩
      refine ht σ2 G2 H2 m3.cx _ fun G3 H3 m4 => ?_
      have nD : ∀ o, gO i ≠ some (Da, o) := fun o z => by
        have r := hga i
        rw [z] at r
        cases r2 : S1.g with
        | none => rw [r2] at r; cases r
        | some bo =>
          obtain ⟨b', o'⟩ := bo
          rw [r2] at r
          cases r
          have z2 := m1.cx.bag
          rw [r2] at z2
          cases o' with
          | lst => obtain ⟨_, _, z3, _⟩ := z2; rw [hD] at z3; cases z3
          | ins => obtain ⟨_, _, _, z3, _⟩ := z2; rw [hD] at z3; cases z3
      have nOA : ¬ OA F.C (wipe σ vs0) ⟨hidS S1.s vs0, gO i⟩ Da := fun z => by
        rcases oa_hid (S := ⟨S1.s, gO i⟩) z with ⟨j, es, r, z⟩ | ⟨o, z⟩
        · obtain ⟨a', _, r1, r2, r3, _⟩ := m1.cx.ow j es r
          rw [r1] at z; cases z
          rw [hD] at r3; cases r3
        · exact nD o z
      have hDp : H' Da = some (.lst vs) := pu.hh _ _ hDi
      have gDp : G' Da = none := pu.fr Da (by rw [hDi]; simp) gDi
      cases b with
      | false =>
        rw [if_neg Bool.false_ne_true]
        obtain ⟨e1, ko, e2⟩ := h2 rfl
        have mm := m3.trans m4.mw
        have mo := m2.cx.outer mm (by rw [e1]; exact (hga (i + 1)).trans (hga i).symm) ko ((only _ hjs).trans (wipe_wipe σ _))
        rw [e1] at mo
        refine ⟨G3, vs, (mv.trans m2).trans mo, mm.go.fr Da nOA (by rw [hDp]; simp) gDp, mm.go.keep Da _ nOA hDp, ?_⟩
        rw [e2]
        exact (dl.mono pu.gg).mono mm.go.gg
      | true =>
        rw [if_pos rfl]
        obtain ⟨T3, y, he, e1, ko, e2, e3⟩ := h1 rfl
        refine he σ2 G3 H3 m4.cx _ fun v G4 H4 m5 dv => ?_
        have mm := (m3.trans m4.mw).trans m5.mw
        have mo := m2.cx.outer mm (by rw [e1]; exact (hga (i + 1)).trans (hga i).symm) ko ((only _ hjs).trans (wipe_wipe σ _))
        rw [e1] at mo
        have k1 := mm.go.keep Da _ nOA hDp
        have k2 := mm.go.fr Da nOA (by rw [hDp]; simp) gDp
        refine ⟨vs, k1, by rw [dl.length]; exact e3, G4, vs ++ [v], ?_, k2, upd_same, ?_⟩
        · have mf := (mv.trans m2).trans mo
          refine ⟨⟨fun a o n h => ?_, mf.go.gg, mf.go.fr, fun a h => ?_⟩, ?_, mf.oa⟩
          · have na : a ≠ Da := fun z => by rw [z, hD] at h; cases h
            rw [upd_ne na]; exact mf.go.keep a o n h
          · by_cases na : a = Da
            · rw [na, upd_same]; simp
            · rw [upd_ne na]; exact mf.go.dom a h
          exact ctx_priv mo.cx k2 (fun j es r z => by
            obtain ⟨a', _, r1, r2, r3, _⟩ := m1.cx.ow j es r
            rw [r1] at z; cases z
            rw [hD] at r3; cases r3) (fun o z => by
              have r := hga (i + 1)
              have z' : gO (i + 1) = some (Da, o) := z
              rw [z'] at r
              cases r2 : S1.g with
              | none => rw [r2] at r; cases r
              | some bo =>
                obtain ⟨b', o'⟩ := bo
                rw [r2] at r
                cases r
                have z2 := m1.cx.bag
                rw [r2] at z2
                cases o' with
                | lst => obtain ⟨_, _, z3, _⟩ := z2; rw [hD] at z3; cases z3
                | ins => obtain ⟨_, _, _, z3, _⟩ := z2; rw [hD] at z3; cases z3) k1
        · rw [e2]
          exact ((dl.mono pu.gg).mono mm.go.gg).append (.cons dv .nil)
    · have e : i = ds.length := by omega
      subst e
      exact .inl ⟨it.stop _ G H (Nat.le_refl _) mv.go.gg mv.cx.sub, q Da vs G H (m1.trans mv) hD0 gDi hDi dl⟩
end
end DL
/-! DL8: comprehensions as expressions and stores; == and repr of plain data; isinstance; all, any, sum, tuple, list. -/
namespace DL
open PySem L2

theorem Mv.freezeNew {C : Kc} {σ : L2.St} {S S' : ST} {G H G2 H2 : Hp} {q : Addr} {vs : List V} (c : Ctx C G H σ S) (m : Mv C σ S G H S' G2 H2) (hq : H q = none) (gq : G2 q = none) (h2 : H2 q = some (.lst vs)) : Mv C σ S G H S' (upd G2 q (.lst vs)) H2 := by
  have gg : Same G2 (upd G2 q (.lst vs)) := fun a o h => by rw [upd_ne (ne_of_none h gq)]; exact h
  have nOA : ¬ OA C σ S q := fun z => by
    rcases z with ⟨j, es, r1, r2⟩ | ⟨o, r⟩
    · obtain ⟨a, ws, h1, _, h3, _⟩ := c.ow j es r1
      rw [r2] at h1; cases h1; rw [hq] at h3; cases h3
    · have z := c.bag
      rw [r] at z
      cases o with
      | lst => obtain ⟨_, _, h3, _⟩ := z; rw [hq] at h3; cases h3
      | ins => obtain ⟨_, _, _, h3, _⟩ := z; rw [hq] at h3; cases h3
  refine ⟨⟨m.go.keep, m.go.gg.trans gg, fun a n h g => ?_, m.go.dom⟩, ⟨fun a o h => ?_, m.cx.len, fun i d h => ?_, fun i es h => ?_, m.cx.apart, m.cx.bg, ?_, m.cx.nob⟩, m.oa⟩
  · have na : a ≠ q := fun z => h (by rw [z]; exact hq)
    rw [upd_ne na]; exact m.go.fr a n h g
  · by_cases na : a = q
    · subst na; rw [upd_same] at h; cases h; exact h2
    · rw [upd_ne na] at h; exact m.cx.sub a o h
  · obtain ⟨v, r1, r2⟩ := m.cx.im i d h
    exact ⟨v, r1, r2.mono gg⟩
  · obtain ⟨a, ws, r1, r2, r3, r4⟩ := m.cx.ow i es h
    have na : a ≠ q := fun z => nOA (m.oa q (.inl ⟨i, es, h, by rw [← z]; exact r1⟩))
    exact ⟨a, ws, r1, by rw [upd_ne na]; exact r2, r3, r4.mono gg⟩
  · have z := m.cx.bag
    cases r : S'.g with
    | none => trivial
    | some bo =>
      obtain ⟨b, o⟩ := bo
      have nb : b ≠ q := fun e => nOA (m.oa q (.inr ⟨o, by rw [r, e]⟩))
      rw [r] at z
      cases o with
      | lst es => obtain ⟨h1, ws, h2, h3⟩ := z; exact ⟨by rw [upd_ne nb]; exact h1, ws, h2, h3.mono gg⟩
      | ins cc fs => obtain ⟨h1, dx, ws, h2, h3⟩ := z; exact ⟨by rw [upd_ne nb]; exact h1, dx, ws, h2, h3.mono gg⟩
section
variable {F : Fam} {S S1 S2 S3 : ST} {e a b c tg iter elt : Expr} {d x y z : D} {pos p apos : Pos} {es : List Expr} {ds : List D} {k : Bool} {nm : Str} {P : Po} {rest t u body : List Stmt} {st : Stmt} {M : ST → Prop} {ifs : List Expr} {scope : Scope} {own : List (Str × Nat)}
theorem ev_freeze {C : Kc} {te : TE} (h : EvO C te S S1 ds) : EvM C te S S1 (.lst ds) := fun σ G H c Q q => h σ G H c Q fun p vs G2 H2 m hp gp h2 dl => by
  have m2 := m.freezeNew c hp gp h2
  exact q _ _ _ m2 (.lst (SqL.of upd_same) (dl.mono fun a o h => by rw [upd_ne (ne_of_none h gp)]; exact h))
theorem de_do (h : DO F e S S1 ds) : DE F e S S1 (.lst ds) := ev_freeze h
/-- [elt for tg in iter if ..]: turn by turn -/
theorem do_lc (hi : DI F tg iter S S1 ds) (own : List (Str × Nat)) (ok : ∀ i, BlkOk (F.X i).N (F.X i).env.scope scope own) (gO : Nat → Option (Addr × BG)) (out : Nat → List D) (hg0 : gO 0 = S1.g) (ho0 : out 0 = []) (hga : ∀ i, (gO i).map (·.1) = S1.g.map (·.1))
    (step : ∀ (i : Nat) d, ds[i]? = some d → Turn1 (F.blk scope) tg ifs elt (own.map (·.2)) S1.s d (gO i) (out i) (gO (i + 1)) (out (i + 1))) (hs : ∀ i x, foldedSetIterable iter (F.X i).env x = pure x := by intro _ _; rfl) :
    DO F (.ListComp elt [⟨tg, iter, ifs, 0⟩] scope pos) S ⟨S1.s, gO ds.length⟩ (out ds.length) :=
  do_of (fun i => pe_lc (F.calm i) (by rw [F.hN i]; exact F.nd) (anyI_ok i) (ok i) (fun s H C cl fp => anyG_ok (F := F.blk scope) (i, s, H, C, cl, fp)) (fun s H C cl fp => anyTs_ok (F := F.blk scope) (i, s, H, C, cl, fp)) (fun s H C cl fp => anyE_ok (F := F.blk scope) (i, s, H, C, cl, fp)) (hs i))
    (ev_lc hi gO out hg0 ho0 hga step)
/-- y = [..] as an own list -/
theorem ds_setLcO {j : Nat} {y : Str} {py : Pos} (hi : DI F tg iter S S1 ds) (own : List (Str × Nat)) (ok : ∀ i, BlkOk (F.X i).N (F.X i).env.scope scope own) (gO : Nat → Option (Addr × BG)) (out : Nat → List D) (hg0 : gO 0 = S1.g) (ho0 : out 0 = []) (hga : ∀ i, (gO i).map (·.1) = S1.g.map (·.1))
    (step : ∀ (i : Nat) d, ds[i]? = some d → Turn1 (F.blk scope) tg ifs elt (own.map (·.2)) S1.s d (gO i) (out i) (gO (i + 1)) (out (i + 1)))
    (q : DS F rest ((⟨S1.s, gO ds.length⟩ : ST).set j (.lst (out ds.length))) P)
    (hp : ∀ i, PS (F.X i) (.Assign [.Name y py] (.ListComp elt [⟨tg, iter, ifs, 0⟩] scope p) pos) (tAsg (tLc (anyI F tg iter) (anyG (F.blk scope) tg) (anyTs (F.blk scope) ifs) (anyE (F.blk scope) elt) (own.map (·.2))) (gName j))) :
    DS F (.Assign [.Name y py] (.ListComp elt [⟨tg, iter, ifs, 0⟩] scope p) pos :: rest) S P := by
  refine ds_cons (M := fun S2 => S2 = (⟨S1.s, gO ds.length⟩ : ST).set j (.lst (out ds.length))) (d1_of (te := tAsg (tLc (anyI F tg iter) (anyG (F.blk scope) tg) (anyTs (F.blk scope) ifs) (anyE (F.blk scope) elt) (own.map (·.2))) (gName j)) hp ?_) fun _ z => z ▸ q
  intro σ G H c E m
  have hev : EvM F.C (tLc (anyI F tg iter) (anyG (F.blk scope) tg) (anyTs (F.blk scope) ifs) (anyE (F.blk scope) elt) (own.map (·.2))) S ⟨S1.s, gO ds.length⟩ (.lst (out ds.length)) := ev_freeze (ev_lc hi gO out hg0 ho0 hga step)
  exact hev σ G H c _ fun v G1 H1 m1 dv => m.nx _ _ G1 H1 (m1.mw.trans (m1.cx.store dv)) rfl

/-! ### plain data -/
mutual
def toP : D → PyData
  | .non => .none
  | .bl b => .bool b
  | .int i => .int i
  | .str x => .str x
  | .tup xs => .tuple (toPs xs)
  | .lst xs => .list (toPs xs)
  | .obj _ _ => .none
  | .dic _ => .none
  | .cst _ => .none
def toPs : List D → List PyData
  | [] => []
  | x :: xs => toP x :: toPs xs
end
mutual
def okP : D → Bool
  | .non => true
  | .bl _ => true
  | .int _ => true
  | .str _ => true
  | .tup xs => okPs xs
  | .lst xs => okPs xs
  | .obj _ _ => false
  | .dic _ => false
  | .cst _ => false
def okPs : List D → Bool
  | [] => true
  | x :: xs => okP x && okPs xs
end
mutual
theorem Den.dp {C : Kc} {G H : Hp} (s : Same G H) : ∀ {v : V} {d : D}, Den C G v d → okP d = true → Dp C.K H v (toP d)
  | _, _, .non, _ => by unfold toP; exact .non
  | _, _, .bl b, _ => by unfold toP; exact .bl b
  | _, _, .int i, _ => by unfold toP; exact .int i
  | _, _, .str x, _ => by unfold toP; exact .str x
  | _, _, .tup h l, k => by
    unfold okP at k
    unfold toP
    exact .tup (same_t s h) (DenL.dp s l k)
  | _, _, .lst h l, k => by
    unfold okP at k
    unfold toP
    exact .lst (s.seq h) (DenL.dp s l k)
  | _, _, .obj _ _ _, k => by unfold okP at k; cases k
  | _, _, .cst _, k => by unfold okP at k; cases k
  | _, _, .dK _ _, k => by unfold okP at k; cases k
  | _, _, .dT _ _, k => by unfold okP at k; cases k
theorem DenL.dp {C : Kc} {G H : Hp} (s : Same G H) : ∀ {v : List V} {d : List D}, DenL C G v d → okPs d = true → DpAll C.K H v (toPs d)
  | _, _, .nil, _ => by unfold toPs; exact .nil
  | _, _, .cons h l, k => by
    unfold okPs at k
    rw [Bool.and_eq_true] at k
    unfold toPs
    exact .cons (Den.dp s h k.1) (DenL.dp s l k.2)
end
theorem od_eqP (h1 : okP x = true) (h2 : okP y = true) (h3 : SeqAt.shaped (toP x) = true) (h4 : SeqAt.shaped (toP y) = true) : OpD F (compareOp .Eq) x y (.bl (PyData.eqv (toP x) (toP y))) :=
  ⟨rEqD F.C.K, fun i => by have := op_eqD (X := F.X i) (F.room i).units; rw [F.hK i] at this; exact this, fun G H u v s hu hv Q q => ⟨_, _, hu.dp s h1, hv.dp s h2, h3, h4, q _ _ _ (.refl s) (.bl _)⟩⟩
theorem od_neP (h1 : okP x = true) (h2 : okP y = true) (h3 : SeqAt.shaped (toP x) = true) (h4 : SeqAt.shaped (toP y) = true) : OpD F (compareOp .NotEq) x y (.bl (!PyData.eqv (toP x) (toP y))) :=
  ⟨rNeD F.C.K, fun i => by have := op_neD (X := F.X i) (F.room i).units; rw [F.hK i] at this; exact this, fun G H u v s hu hv Q q => ⟨_, _, hu.dp s h1, hv.dp s h2, h3, h4, q _ _ _ (.refl s) (.bl _)⟩⟩
theorem od_eqR (h1 : okP x = true) (h3 : SeqAt.shaped (toP x) = true) : OpD F (compareOp .Eq) x x (.bl true) := by
  have := od_eqP (F := F) h1 h1 h3 h3
  rw [PySem.SeqAt.eqv_refl _ (SeqAt.canLay_of_shaped h3)] at this
  exact this
theorem od_neR (h1 : okP x = true) (h3 : SeqAt.shaped (toP x) = true) : OpD F (compareOp .NotEq) x x (.bl false) := by
  have := od_neP (F := F) h1 h1 h3 h3
  rw [PySem.SeqAt.eqv_refl _ (SeqAt.canLay_of_shaped h3)] at this
  exact this

/-! ### isinstance -/
def tyD (C : Kc) : D → Value
  | .non => .type "NoneType"
  | .bl _ => .type "bool"
  | .int _ => .type "int"
  | .str _ => .type "str"
  | .tup _ => .type "tuple"
  | .lst _ => .type "list"
  | .obj c _ => .ref (C.cl c)
  | .cst _ => .none
  | .dic _ => .type "dict"
/-- what isinstance wants to know of an own class -/
structure InsF (K : PySem.W.Frag) (c : Addr) : Prop where
  cl : Cls K c
  ha : PySem.W.findIn K (.ref c) "__class__" = some (some (.builtin "object.__class__"))
  hn : PySem.W.specialIn K (.builtin "object.__class__") "__get__" = some (some (.builtin "getset_descriptor.__get__"))
  htk : PySem.W.takesIn K (.builtin "object.__class__") = some true
  hm : PySem.W.mroIn K c (.type "object") = some true
theorem Den.tyX {C : Kc} {G H : Hp} (s : Same G H) {v : V} {d : D} (h : Den C G v d) (ho : ∀ c fs, d = .obj c fs → C.has c = true → InsF C.K (C.cl c)) (hc : ∀ v, d ≠ .cst v) : TyX C.K H v (tyD C d) := by
  cases h with
  | non => exact .base .non
  | bl b => exact .base (.bl b)
  | int i => exact .base (.int i)
  | str x => exact .base (.str x)
  | tup h l =>
    rcases same_t s h with (h | ⟨o, h⟩) | ⟨o, _, _, h, h', _⟩
    · exact .base (.tup h)
    · exact .fTuple h
    · exact .kTuple h h'
  | lst h l =>
    rcases s.seq h with (h | ⟨o, h⟩) | ⟨o, _, _, h, h', _⟩
    · exact .base (.lst h)
    · exact .base (.frz h)
    · exact .kList h h'
  | obj q h l => have := ho _ _ rfl q; exact .base (.ins (s _ _ h) this.cl this.ha this.hn this.htk this.hm)
  | cst v => exact absurd rfl (hc v)
  | dK h l => exact .base (.dK (s _ _ h))
  | dT h l => exact .base (.dT (s _ _ h))
/-- isinstance(x, T): t, x's type; u, the class -/
theorem ca_isi {cv : V} {u : Value} {k : Bool} (hc : ClsV cv u) (ho : ∀ c fs, x = .obj c fs → F.C.has c = true → InsF F.C.K (F.C.cl c)) (hn : ∀ v, x ≠ .cst v) (hk : PySem.W.kitOne F.C.K (tyD F.C x) u = some k) : CaD F (.builtin "isinstance") [x, .cst cv] (.bl k) :=
  ⟨rIsi F.C.K, fun i => by have := call_isi (X := F.X i); rw [F.hK i] at this; exact this, fun G H us s h Q q => by
    cases h with
    | cons h l => cases l with
      | cons h2 l => cases l; cases h2; exact ⟨_, _, _, _, k, rfl, hc, h.tyX s ho hn, hk, q _ _ _ (.refl s) (.bl _)⟩⟩

/-! ### all, any, sum, tuple, list -/
theorem denL_bl {C : Kc} {G : Hp} : ∀ {vs : List V} {bs : List Bool}, DenL C G vs (bs.map D.bl) → vs = bs.map V.bl
  | _, [], .nil => rfl
  | _, b :: bs, .cons h l => by cases h; rw [denL_bl l]; rfl
theorem denL_int {C : Kc} {G : Hp} : ∀ {vs : List V} {bs : List Int}, DenL C G vs (bs.map D.int) → vs = bs.map V.int
  | _, [], .nil => rfl
  | _, b :: bs, .cons h l => by cases h; rw [denL_int l]; rfl
theorem denL_str {C : Kc} {G : Hp} : ∀ {vs : List V} {bs : List Str}, DenL C G vs (bs.map D.str) → vs = bs.map V.str
  | _, [], .nil => rfl
  | _, b :: bs, .cons h l => by cases h; rw [denL_str l]; rfl
theorem ca_all {bs : List Bool} : CaD F (.builtin "all") [.lst (bs.map D.bl)] (.bl (bs.all id)) := ⟨rAll F.C.K, fun i => by have := cr_all (X := F.X i) (F.calm i); rw [F.hK i] at this; exact this, fun G H us s h Q q => by
  cases h with
  | cons h l => cases h with
    | lst h1 h2 => cases l; exact ⟨_, bs, rfl, by rw [← denL_bl h2]; exact s.seq h1, q _ _ _ (.refl s) (.bl _)⟩⟩
theorem ca_any {bs : List Bool} : CaD F (.builtin "any") [.lst (bs.map D.bl)] (.bl (bs.any id)) := ⟨rAny F.C.K, fun i => by have := cr_any (X := F.X i) (F.calm i); rw [F.hK i] at this; exact this, fun G H us s h Q q => by
  cases h with
  | cons h l => cases h with
    | lst h1 h2 => cases l; exact ⟨_, bs, rfl, by rw [← denL_bl h2]; exact s.seq h1, q _ _ _ (.refl s) (.bl _)⟩⟩
theorem ca_sum {bs : List Int} : CaD F (.builtin "sum") [.lst (bs.map D.int)] (.int bs.sum) := ⟨rSum F.C.K, fun i => by have := cr_sum (X := F.X i) (F.calm i); rw [F.hK i] at this; exact this, fun G H us s h Q q => by
  cases h with
  | cons h l => cases h with
    | lst h1 h2 => cases l; exact ⟨_, bs, rfl, by rw [← denL_int h2]; exact s.seq h1, q _ _ _ (.refl s) (.int _)⟩⟩
theorem ca_tupL : CaD F (.type "tuple") [.lst ds] (.tup ds) := ⟨fun xs H Q => ∃ p ys, xs = [.ref p] ∧ ((SqL F.C.K H p ys ∧ ∀ l, H l = none → Q (.ref l) (upd H l (.tup ys))) ∨ (SqT F.C.K H p ys ∧ Q (.ref p) H)), fun i => by have := call_tuple_of (X := F.X i); rw [F.hK i] at this; exact this, fun G H us s h Q q => by
  cases h with
  | cons h l => cases h with
    | lst h1 h2 => cases l; exact ⟨_, _, rfl, .inl ⟨s.seq h1, fun p hp => by
      exact q _ _ _ (Pu.new s hp) (.tup (SqT.of upd_same) (h2.mono (Pu.new s hp).gg))⟩⟩⟩
theorem ca_tupT : CaD F (.type "tuple") [.tup ds] (.tup ds) := ⟨fun xs H Q => ∃ p ys, xs = [.ref p] ∧ ((SqL F.C.K H p ys ∧ ∀ l, H l = none → Q (.ref l) (upd H l (.tup ys))) ∨ (SqT F.C.K H p ys ∧ Q (.ref p) H)), fun i => by have := call_tuple_of (X := F.X i); rw [F.hK i] at this; exact this, fun G H us s h Q q => by
  cases h with
  | cons h l => cases h with
    | tup h1 h2 => cases l; exact ⟨_, _, rfl, .inr ⟨same_t s h1, q _ _ _ (.refl s) (.tup h1 h2)⟩⟩⟩
theorem ca_listL : CaD F (.type "list") [.lst ds] (.lst ds) := ⟨fun xs H Q => ∃ p ys, xs = [.ref p] ∧ (SqL F.C.K H p ys ∨ SqT F.C.K H p ys) ∧ ∀ l, H l = none → Q (.ref l) (upd H l (.lst ys)), fun i => by have := call_list_of (X := F.X i); rw [F.hK i] at this; exact this, fun G H us s h Q q => by
  cases h with
  | cons h l => cases h with
    | lst h1 h2 => cases l; exact ⟨_, _, rfl, .inl (s.seq h1), fun p hp => by
      exact q _ _ _ (Pu.new s hp) (.lst (SqL.of upd_same) (h2.mono (Pu.new s hp).gg))⟩⟩
theorem ca_listT : CaD F (.type "list") [.tup ds] (.lst ds) := ⟨fun xs H Q => ∃ p ys, xs = [.ref p] ∧ (SqL F.C.K H p ys ∨ SqT F.C.K H p ys) ∧ ∀ l, H l = none → Q (.ref l) (upd H l (.lst ys)), fun i => by have := call_list_of (X := F.X i); rw [F.hK i] at this; exact this, fun G H us s h Q q => by
  cases h with
  | cons h l => cases h with
    | tup h1 h2 => cases l; exact ⟨_, _, rfl, .inr (same_t s h1), fun p hp => by
      exact q _ _ _ (Pu.new s hp) (.lst (SqL.of upd_same) (h2.mono (Pu.new s hp).gg))⟩⟩
end
end DL
/-! DL9: operators and comparisons by own methods. -/
namespace DLO
open PySem PySem.W PySem.SeqAt PySem.Calls PyProof.Rows
open AutoSeq1 (wpAny_loadPart')
section
variable {M : Model} {prog : Program} {w : World} {A : Around} {E : Value → Shared → Prop} {s : Shared} {K : Frag} {x y C b f : Addr} {ox oy : Obj} {od od' : Option Obj} {dx : Addr} {i : Int} {t : Tok}
theorem int_add_ref {Q : Fin → Shared → Prop} (hb : s.heap.get? b = some (instObj C dx)) (h : Q (.done (.ret .notImplemented)) s) : wpAny M A (Builtin.«int.__add__» ⟨[.int i t, .ref b], []⟩) Q E s := by
  obtain ⟨hp, g, d, tk, os⟩ := s
  wp_walk using wpAny_loadPart' hb
  exact h
theorem int_sub_ref {Q : Fin → Shared → Prop} (hb : s.heap.get? b = some (instObj C dx)) (h : Q (.done (.ret .notImplemented)) s) : wpAny M A (Builtin.«int.__sub__» ⟨[.int i t, .ref b], []⟩) Q E s := by
  obtain ⟨hp, g, d, tk, os⟩ := s
  wp_walk using wpAny_loadPart' hb
  exact h
theorem int_mul_ref {Q : Fin → Shared → Prop} (hb : s.heap.get? b = some (instObj C dx)) (h : Q (.done (.ret .notImplemented)) s) : wpAny M A (Builtin.«int.__mul__» ⟨[.int i t, .ref b], []⟩) Q E s := by
  obtain ⟨hp, g, d, tk, os⟩ := s
  wp_walk using wpAny_loadPart' hb
  exact h
theorem int_eq_ref {Q : Fin → Shared → Prop} (hb : s.heap.get? b = some (instObj C dx)) (h : Q (.done (.ret .notImplemented)) s) : wpAny M A (Builtin.«int.__eq__» ⟨[.int i t, .ref b], []⟩) Q E s := by
  obtain ⟨hp, g, d, tk, os⟩ := s
  wp_walk using wpAny_loadPart' hb
  exact h
theorem int_ne_ref {Q : Fin → Shared → Prop} (hb : s.heap.get? b = some (instObj C dx)) (h : Q (.done (.ret .notImplemented)) s) : wpAny M A (Builtin.«int.__ne__» ⟨[.int i t, .ref b], []⟩) Q E s := by
  obtain ⟨hp, g, d, tk, os⟩ := s
  wp_walk using wpAny_loadPart' hb
  exact h

/-- x op y, both of one own class -/
theorem binS {op : Operator} {Q : Value → Shared → Prop} (X : K.In s.heap) (I : InstAt s.heap x ox C od) (J : InstAt s.heap y oy C od') (hc : selfFirst K C = true)
    (hs : findIn K (.ref C) (PySem.dunder op.info.2) = some (some (.ref f))) (hf : isFn K (.ref f) = true)
    (h : wpAny (model prog w) A (call (.ref f) [.ref x, .ref y]) (PySem.W.CmpBack Q) E s) : wpAny (model prog w) A (binaryOp op (.ref x) (.ref y)) Q E s := by
  obtain ⟨cd, rest, hcd, hm⟩ := ksp_first hc
  rcases hi : op.info with ⟨sym, nm'⟩
  rw [hi] at hs
  dsimp only at hs
  have one := ksp_try X I hs hf h
  obtain ⟨hh, g, d, tt, os⟩ := s
  have L1 : Looks (model prog w) hh (typeOf (.ref x)) (.ref C) := I.type
  have L2 : Looks (model prog w) hh (typeOf (.ref y)) (.ref C) := J.type
  have L3 : Looks (model prog w) hh (fillsNumberSlot (.ref C) nm') true := fills_K X hcd hm hs
  have he : (Value.ref C == Value.ref C) = true := by simp
  simp only [binaryOp, hi]
  refine wpAny_holding (wpAny_bind ?_)
  unfold binaryOp1
  refine wpAny_bind (L1.at (wpAny_bind (L2.at (wpAny_bind (L3.at ?_)))))
  simp only [he, if_true]
  ksp_lk
  refine wpAny_mono one (fun r s' hr' => ?_) fun _ _ e => e
  obtain ⟨v, rfl, hq⟩ := hr'
  ksp_lk
  exact hq
/-- i op y, y of an own class: the int's own method declines -/
theorem binR {op : Operator} {id : String} {B : Builtin} {Q : Value → Shared → Prop} {fo ro : Option Value} (X : K.In s.heap) (J : InstAt s.heap y oy C od) (hc : selfFirst K C = true)
    (sl : Slot "int" (PySem.dunder op.info.2) id) (en : entryFor table id = some B) (ag : argsOk id ⟨[.int i t, .ref y], []⟩)
    (hB : ∀ (A : Around) (E : Value → Shared → Prop) (Q : Fin → Shared → Prop), Q (.done (.ret .notImplemented)) s → wpAny (model prog w) A (B ⟨[.int i t, .ref y], []⟩) Q E s)
    (h1 : findIn K (.type "int") (PySem.dunder op.info.2) = some fo) (h2 : findIn K (.type "int") (dunderR op.info.2) = some ro) (h3 : ((fo.isSome && !isSeqSlot fo) || (ro.isSome && !isSeqSlot ro)) = true)
    (hs : findIn K (.ref C) (PySem.dunder op.info.2) = some (some (.ref b))) (hr : findIn K (.ref C) (dunderR op.info.2) = some (some (.ref f))) (hf : isFn K (.ref f) = true) (hsub : subIn K (.ref C) (.type "int") = some false)
    (h : wpAny (model prog w) A (call (.ref f) [.ref y, .int i t]) (PySem.W.CmpBack Q) E s) : wpAny (model prog w) A (binaryOp op (.int i t) (.ref y)) Q E s := by
  obtain ⟨cd, rest, hcd, hm⟩ := ksp_first hc
  rcases hi : op.info with ⟨sym, nm'⟩
  rw [hi] at hs sl h1 h2 hr
  dsimp only at hs sl h1 h2 hr
  have one : wpAny (model prog w) A (tryMethod (.int i t) (PySem.dunder nm') (.ref y)) (fun r s' => r = none ∧ s' = s) E s :=
    wpAny_tryMethod_declines (typeIs_int s i t) sl (wpAny_call (codeAny_call_builtin sl.plain en (sl.check _ _ _ _ _ _ _ _ (typeIs_int s i t) ag (hB _ _ _ ⟨rfl, rfl, rfl⟩))))
  have two := ksp_try X J hr hf h
  obtain ⟨hh, g, d, tt, os⟩ := s
  have L1 : Looks (model prog w) hh (typeOf (.int i t)) (.type "int") := Looks.of_pure rfl
  have L2 : Looks (model prog w) hh (typeOf (.ref y)) (.ref C) := J.type
  have L3 : Looks (model prog w) hh (fillsNumberSlot (.type "int") nm') true := by have := ksp_fillsT (M := model prog w) X h1 h2; rw [h3] at this; exact this
  have L4 : Looks (model prog w) hh (fillsNumberSlot (.ref C) nm') true := fills_K X hcd hm hs
  have L5 : Looks (model prog w) hh (isSubtype (.ref C) (.type "int")) false := looks_subIn X hsub
  have L6 : Looks (model prog w) hh (numberSlotInPython (.type "int") nm') false := Looks.of_pure rfl
  have hne : (Value.type "int" == Value.ref C) = false := Bool.eq_false_iff.mpr fun q => by cases beq_iff_eq.mp q
  simp only [binaryOp, hi]
  refine wpAny_holding (wpAny_bind ?_)
  unfold binaryOp1
  refine wpAny_bind (L1.at (wpAny_bind (L2.at (wpAny_bind (L3.at ?_)))))
  simp only [hne, Bool.false_eq_true, if_false]
  ksp_lk
  refine wpAny_mono one (fun r s' hr' => ?_) fun _ _ e => e
  obtain ⟨rfl, rfl⟩ := hr'
  ksp_lk
  refine wpAny_mono two (fun r s' hr' => ?_) fun _ _ e => e
  obtain ⟨v, rfl, hq⟩ := hr'
  ksp_lk
  exact hq
/-- i == y, y of an own class with its own == -/
theorem eqR {Q : Value → Shared → Prop} (hu : A.units < cLine) (X : K.In s.heap) (J : InstAt s.heap y (instObj C dx) C od) (hs : findIn K (.ref C) "__eq__" = some (some (.ref f))) (hf : isFn K (.ref f) = true) (hsub : subIn K (.ref C) (.type "int") = some false)
    (h : wpAny (model prog w) A (call (.ref f) [.ref y, .int i t]) (PySem.W.CmpBack Q) E s) : wpAny (model prog w) A (richCompare .Eq (.int i t) (.ref y)) Q E s := by
  have one : wpAny (model prog w) A (tryCompare (.int i t) "__eq__" (.ref y)) (fun r s' => r = none ∧ s' = s) E s :=
    wpAny_tryCompare_declines (typeIs_int s i t) F.slot_int_eq (wpAny_call (codeAny_call_builtin F.slot_int_eq.plain F.entry_int_eq (F.slot_int_eq.check _ _ _ _ _ _ _ _ (typeIs_int s i t) (F.args_int_eq_2 _ _) (int_eq_ref J.at_ ⟨rfl, rfl, rfl⟩))))
  have two : wpAny (model prog w) A (tryCompare (.ref y) "__eq__" (.int i t)) (fun r s' => ∃ v, r = some v ∧ Q v s') E s := by
    unfold tryCompare
    refine wpAny_bind (ifBound_K X J hs hf (wpAny_mono h (fun v s' hv => ?_) fun _ _ e => e))
    cases v <;> first | exact hv.elim | exact wpAny_pure ⟨_, rfl, hv⟩
  have hot : oneThing? .Eq (.int i t) (.ref y) = none := rfl
  simp only [richCompare, cmpInfo_Eq, hot]
  refine wpAny_holding (wpAny_bind (wpAny_cRoomFor hu ?_))
  refine wpAny_bind (wpAny_typeOf (typeIs_int s i t) ?_)
  refine wpAny_bind (J.type.here ?_)
  have hne : (Value.type "int" != Value.ref C) = true := by
    rw [bne_iff_ne]; intro q; cases q
  rw [hne]
  refine wpAny_bind ((looks_subIn X hsub).here ?_)
  simp only [Bool.false_eq_true, if_false, Bool.not_false, if_true]
  refine wpAny_bind (m := tryCompare (.int i t) _ (.ref y)) (wpAny_mono one (fun r s1 z => ?_) fun _ _ e => e)
  obtain ⟨rfl, rfl⟩ := z
  refine wpAny_bind (m := tryCompare (.ref y) _ (.int i t)) (wpAny_mono two (fun r s2 z => ?_) fun _ _ e => e)
  obtain ⟨v, rfl, hq⟩ := z
  exact wpAny_pure hq
/-- != by the own == -/
theorem objNe_own {v : Value} {Q : Fin → Shared → Prop} (hu : A.units < cLine) (X : K.In s.heap) (I : InstAt s.heap x ox C od) (hs : findIn K (.ref C) "__eq__" = some (some (.ref f))) (hf : isFn K (.ref f) = true)
    (h : wpAny (model prog w) A (call (.ref f) [.ref x, v]) (fun r s' => ∃ b, r = .bool b ∧ Q (.done (.ret (.bool (!b)))) s') E s) : wpAny (model prog w) A (Builtin.«object.__ne__» ⟨[.ref x, v], []⟩) Q E s := by
  have one := ifBound_K (M := model prog w) (args := [v]) (Q := fun r s' => ∃ b, r = some (.bool b) ∧ Q (.done (.ret (.bool (!b)))) s') X I hs hf (wpAny_mono h (fun r s' hr => by obtain ⟨b, rfl, hq⟩ := hr; exact ⟨b, rfl, hq⟩) fun _ _ e => e)
  obtain ⟨hp, g, d, tk, os⟩ := s
  unfold Builtin.«object.__ne__»
  repeat (first
    | with_reducible refine wpAny_cRoomFor hu ?_
    | (refine wpAny_bind (m := callSpecialIfBound? (.ref x) (Str.ofString "__eq__") [v])
        (wpAny_mono one (fun r s' hr => by
          obtain ⟨b, rfl, hq⟩ := hr
          repeat (first | exact hq | exact wpAny_pure hq | exact wpAny_truthy_bool hq | (refine wpAny_bind (m := truthy (.bool _)) (wpAny_truthy_bool ?_)) | wp_step)) fun _ _ e => e))
    | wp_step)
theorem ifBound_objNe {args : List Value} {Q : Option Value → Shared → Prop} (X : K.In s.heap) (I : InstAt s.heap x ox C od) (hs : findIn K (.ref C) "__ne__" = some (some (.builtin "object.__ne__")))
    (h : wpAny M A (call (.builtin "object.__ne__") (.ref x :: args)) (fun v => Q (some v)) E s) : wpAny M A (callSpecialIfBound? (.ref x) "__ne__" args) Q E s := by
  simp only [callSpecialIfBound?, bindSpecialIfBound?]
  refine wpAny_holding (wpAny_bind (wpAny_bind (wpAny_bind (I.type.here ((PySem.W.looks_findIn X hs).here ?_)))))
  refine wpAny_bind (wpAny_askSetting (wpAny_ite ?_))
  have fin : wpAny M A (call (.builtin "object.__ne__") ([.ref x] ++ args) >>= fun v => pure (some v)) Q E s := wpAny_bind (wpAny_mono h (fun v s' h' => wpAny_pure h') fun _ _ h' => h')
  split
  · exact wpAny_bind (wpAny_of_eq (F.cmp_object.ne.bind _) (wpAny_pure (by exact fin)))
  · exact wpAny_tryCatch (wpAny_bind (wpAny_of_eq (F.cmp_object.ne.bind _) (wpAny_pure (by exact fin))))
theorem neO {v tb : Value} {Q : Value → Shared → Prop} (hu : A.units + 1 < cLine) (X : K.In s.heap) (I : InstAt s.heap x ox C od) (hb : Looks (model prog w) s.heap (typeOf v) tb) (hn : notFirst K C tb = true) (hm : mroIn K C (.type "object") = some true)
    (hne : findIn K (.ref C) "__ne__" = some (some (.builtin "object.__ne__"))) (hs : findIn K (.ref C) "__eq__" = some (some (.ref f))) (hf : isFn K (.ref f) = true)
    (h : wpAny (model prog w) A.in1 (call (.ref f) [.ref x, v]) (fun r s' => ∃ b, r = .bool b ∧ Q (.bool (!b)) s') E s) : wpAny (model prog w) A (richCompare .NotEq (.ref x) v) Q E s := by
  have one : wpAny (model prog w) A (tryCompare (.ref x) "__ne__" v) (fun r s' => ∃ b, r = some (.bool b) ∧ Q (.bool b) s') E s := by
    unfold tryCompare
    refine wpAny_bind (ifBound_objNe X I hne (wpAny_call (codeAny_call_builtin F.cmp_object.ne.plain F.cmpEntry_ne (PySem.W.check_slot F.cmpKind_ne F.cmpSplit_ne (I.type.andThen (PySem.W.looks_mroIn X hm)) (F.cmpArgs_ne _ _) (objNe_own (A := A.in1) hu X I hs hf (wpAny_mono h (fun r s' hr => ?_) fun _ _ e => e))))))
    obtain ⟨b, rfl, hq⟩ := hr
    first | exact ⟨b, rfl, wpAny_pure ⟨_, rfl, hq⟩⟩ | exact ⟨b, rfl, ⟨_, rfl, hq⟩⟩
  unfold richCompare
  simp only [oneThing_ref]
  refine wpAny_holding (wpAny_bind (wpAny_cRoomFor (Nat.lt_of_succ_lt hu) ?_))
  rw [cmpInfo_NotEq]
  dsimp only
  refine wpAny_bind (I.type.here (wpAny_bind (hb.here ?_)))
  split
  · rename_i q
    have e : subIn K tb (.ref C) = some false := by
      rcases Bool.or_eq_true_iff.mp hn with e | e
      · rw [beq_iff_eq.mp e] at q; simp at q
      · exact beq_iff_eq.mp e
    refine wpAny_bind ((looks_subIn X e).here ?_)
    simp only [Bool.false_eq_true, if_false]
    refine wpAny_bind (wpAny_mono one (fun r s' z => ?_) fun _ _ e => e)
    obtain ⟨b, rfl, hq⟩ := z
    exact wpAny_pure hq
  · refine wpAny_bind (wpAny_pure ?_)
    simp only [Bool.false_eq_true, if_false]
    refine wpAny_bind (wpAny_mono one (fun r s' z => ?_) fun _ _ e => e)
    obtain ⟨b, rfl, hq⟩ := z
    exact wpAny_pure hq
end
end DLO
/-! DLA: own operators on data; defs that hand back new lists; a def that changes a new list. -/
namespace DL
open PySem L2
theorem back_of {X : Cx} {pins : List (Addr × Obj)} {σ : L2.St} {Q : VK} {A : Around} {c : Sem Value} {s : Shared} {M : Model} {E : Value → Shared → Prop} (h : wpAny M A c (EP X pins σ Q) E s) : wpAny M A c (PySem.W.CmpBack (EP X pins σ Q)) E s := by
  refine wpAny_mono h (fun v s' q => ?_) fun _ _ e => e
  cases v with
  | notImplemented =>
    obtain ⟨z, _, _, r, _⟩ := q
    cases z with
    | int => obtain ⟨_, r⟩ := r; cases r
    | str => obtain ⟨_, r⟩ := r; cases r
    | byt => obtain ⟨_, r⟩ := r; cases r
    | flt => obtain ⟨_, r⟩ := r; cases r
    | non => cases r
    | bl => cases r
    | ref => cases r
    | ty => cases r
  | _ => exact q
/-- what the operators by own methods ask of the class -/
structure OpF (K : PySem.W.Frag) (C : Addr) : Prop where
  sf : PySem.W.selfFirst K C = true
  ic : PySem.W.subIn K (.type "int") (.ref C) = some false
  ci : PySem.W.subIn K (.ref C) (.type "int") = some false
structure IntF (K : PySem.W.Frag) (op : Operator) : Prop where
  ex : ∃ fo ro, PySem.W.findIn K (.type "int") (PySem.dunder op.info.2) = some fo ∧ PySem.W.findIn K (.type "int") (dunderR op.info.2) = some ro ∧ ((fo.isSome && !isSeqSlot fo) || (ro.isSome && !isSeqSlot ro)) = true
section
variable {F : Fam} {S S1 S2 S3 : ST} {e a b c tg iter elt : Expr} {d x y z : D} {pos p apos : Pos} {es : List Expr} {ds : List D} {k : Nat} {nm : Str} {P : Po} {rest : List Stmt} {cn : Nat} {fs gs : List (Str × D)} {R R' : List D → D → Prop} {op : Operator} {m m' : Str}

theorem inst_of {X : Cx} {pins : List (Addr × Obj)} {σ : L2.St} {H : Hp} {s : Shared} {a C dx : Addr} {vs : List (Str × V)} (I : Inv X pins σ H s) (h : H a = some (.ins C dx vs)) : ∃ od, PySem.W.InstAt s.heap a (PySem.W.instObj C dx) C (some od) := by
  obtain ⟨mA, J, _⟩ := ins_get I.hok h
  obtain ⟨od, J, _⟩ := J.look
  exact ⟨od, J⟩
/-- x op y, x and y of the class cn -/
theorem od_binS (hF : OpF F.C.K (F.C.cl cn)) (mt : Met F.P F.w F.C F.mg F.base k cn m (spP F.C R)) (hm : PySem.dunder op.info.2 = m) (hk : k ≤ F.k) (hR : R [.obj cn fs, .obj cn gs] z) : OpD F (binaryOp op) (.obj cn fs) (.obj cn gs) z := by
  obtain ⟨f, fd, ps, G, hc, hme, hb⟩ := mt
  refine ⟨fun x y H Q => ∃ a b dx dy vs ws, x = .ref a ∧ y = .ref b ∧ H a = some (.ins (F.C.cl cn) dx vs) ∧ H b = some (.ins (F.C.cl cn) dy ws) ∧ spP F.C R [x, y] H Q E0, fun i => ?_, fun G H u v s hu hv Q q => ?_⟩
  · intro pins s σ H x y v u Q I rx ry h
    obtain ⟨a, b, dx, dy, vs, ws, rfl, rfl, ha, hb', hsp⟩ := h
    cases rx
    cases ry
    obtain ⟨od, J⟩ := inst_of I ha
    obtain ⟨od', J'⟩ := inst_of I hb'
    refine DLO.binS I.kIn J J' (by rw [F.hK i]; exact hF.sf) (by rw [F.hK i, hm]; exact hme.at_) (by rw [F.hK i]; exact hme.fn) (back_of ?_)
    exact run_fn (vs := [.ref a, .ref b]) (dvs := []) (fn_at G) ((F.room i).mono hk) (by rw [F.hK i]; exact hb) .nil pass0 I (.cons rfl (.cons rfl .nil)) hsp
  · have hu' := hu
    have hv' := hv
    cases hu with
    | obj _ h1 h2 => cases hv with
      | obj _ h3 h4 => exact ⟨_, _, _, _, _, _, rfl, rfl, s _ _ h1, s _ _ h3, G, _, z, hR, s, .cons hu' (.cons hv' .nil), q⟩
/-- x op i -/
theorem od_binT {i : Int} (hF : OpF F.C.K (F.C.cl cn)) (hI : IntF F.C.K op) (mt : Met F.P F.w F.C F.mg F.base k cn m (spP F.C R)) (hm : PySem.dunder op.info.2 = m) {k' : Nat} (mt' : Met F.P F.w F.C F.mg F.base k' cn m' (spP F.C R')) (hm' : dunderR op.info.2 = m') (hk : k ≤ F.k) (hR : R [.obj cn fs, .int i] z) : OpD F (binaryOp op) (.obj cn fs) (.int i) z := by
  obtain ⟨f, fd, ps, G, hc, hme, hb⟩ := mt
  obtain ⟨f', _, _, _, _, hme', _⟩ := mt'
  obtain ⟨fo, ro, i1, i2, _⟩ := hI.ex
  refine ⟨fun x y H Q => ∃ a j dx vs, x = .ref a ∧ y = .int j ∧ H a = some (.ins (F.C.cl cn) dx vs) ∧ spP F.C R [x, y] H Q E0, fun l => ?_, fun G H u v s hu hv Q q => ?_⟩
  · intro pins s σ H x y v u Q I rx ry h
    obtain ⟨a, j, dx, vs, rfl, rfl, ha, hsp⟩ := h
    cases rx
    obtain ⟨t, rfl⟩ := ry
    obtain ⟨od, J⟩ := inst_of I ha
    obtain ⟨mm, hFr⟩ := I.fr
    refine PySem.W.ksp_binT (T := "int") (rc := some (.ref f')) hFr I.ok.mod.kin J rfl (by rw [F.hK l]; exact hF.sf) (by rw [F.hK l, hm]; exact hme.at_) (by rw [F.hK l]; exact hme.fn) (by rw [F.hK l, hm']; exact hme'.at_) (.inr ⟨f', rfl⟩) (by rw [F.hK l]; exact i1) (by rw [F.hK l]; exact i2) (by rw [F.hK l]; exact hF.ic) (back_of ?_)
    exact run_fn (vs := [.ref a, .int j]) (dvs := []) (fn_at G) ((F.room l).mono hk) (by rw [F.hK l]; exact hb) .nil pass0 I (.cons rfl (.cons ⟨t, rfl⟩ .nil)) hsp
  · have hu' := hu
    have hv' := hv
    cases hu with
    | obj _ h1 h2 => cases hv with
      | int => exact ⟨_, _, _, _, rfl, rfl, s _ _ h1, G, _, z, hR, s, .cons hu' (.cons hv' .nil), q⟩
/-- i op x, by the reflected method -/
theorem od_binR {i : Int} {id : String} {B : Builtin} (hF : OpF F.C.K (F.C.cl cn)) (hI : IntF F.C.K op) (mt : Met F.P F.w F.C F.mg F.base k cn m (spP F.C R)) (hm : dunderR op.info.2 = m) {k' : Nat} (mt' : Met F.P F.w F.C F.mg F.base k' cn m' (spP F.C R')) (hm' : PySem.dunder op.info.2 = m') (hk : k ≤ F.k) (hR : R [.obj cn fs, .int i] z)
    (sl : Slot "int" (PySem.dunder op.info.2) id) (en : entryFor table id = some B) (ag : ∀ a b, argsOk id ⟨[a, b], []⟩)
    (hB : ∀ (M : Model) (i : Int) (t : Tok) (b C dx : Addr) (s : Shared) (A : Around) (E : Value → Shared → Prop) (Q : Fin → Shared → Prop), s.heap.get? b = some (PySem.W.instObj C dx) → Q (.done (.ret .notImplemented)) s → wpAny M A (B ⟨[.int i t, .ref b], []⟩) Q E s) : OpD F (binaryOp op) (.int i) (.obj cn fs) z := by
  obtain ⟨f, fd, ps, G, hc, hme, hb⟩ := mt
  obtain ⟨f', _, _, _, _, hme', _⟩ := mt'
  obtain ⟨fo, ro, i1, i2, i3⟩ := hI.ex
  refine ⟨fun x y H Q => ∃ a j dx vs, y = .ref a ∧ x = .int j ∧ H a = some (.ins (F.C.cl cn) dx vs) ∧ spP F.C R [y, x] H Q E0, fun l => ?_, fun G H u v s hu hv Q q => ?_⟩
  · intro pins s σ H x y v u Q I rx ry h
    obtain ⟨a, j, dx, vs, rfl, rfl, ha, hsp⟩ := h
    cases ry
    obtain ⟨t, rfl⟩ := rx
    obtain ⟨od, J⟩ := inst_of I ha
    refine DLO.binR (b := f') I.kIn J (by rw [F.hK l]; exact hF.sf) sl en (ag _ _) (fun A E Q hq => hB _ _ _ _ _ _ _ _ _ _ J.at_ hq) (by rw [F.hK l]; exact i1) (by rw [F.hK l]; exact i2) i3 (by rw [F.hK l, hm']; exact hme'.at_) (by rw [F.hK l, hm]; exact hme.at_) (by rw [F.hK l]; exact hme.fn) (by rw [F.hK l]; exact hF.ci) (back_of ?_)
    exact run_fn (vs := [.ref a, .int j]) (dvs := []) (fn_at G) ((F.room l).mono hk) (by rw [F.hK l]; exact hb) .nil pass0 I (.cons rfl (.cons ⟨t, rfl⟩ .nil)) hsp
  · have hu' := hu
    have hv' := hv
    cases hv with
    | obj _ h1 h2 => cases hu with
      | int => exact ⟨_, _, _, _, rfl, rfl, s _ _ h1, G, _, z, hR, s, .cons hv' (.cons hu' .nil), q⟩
/-- -x -/
theorem ud_own (mt : Met F.P F.w F.C F.mg F.base k cn "__neg__" (spP F.C R)) (hk : k ≤ F.k) (hR : R [.obj cn fs] z) : UnD F (unaryOp .USub) (.obj cn fs) z := by
  obtain ⟨f, fd, ps, G, hc, hme, hb⟩ := mt
  refine ⟨fun x H Q => ∃ a dx vs, x = .ref a ∧ H a = some (.ins (F.C.cl cn) dx vs) ∧ spP F.C R [x] H Q E0, fun l => ?_, fun G H u s hu Q q => ?_⟩
  · intro pins s σ H x v Q I rx h
    obtain ⟨a, dx, vs, rfl, ha, hsp⟩ := h
    cases rx
    obtain ⟨od, J⟩ := inst_of I ha
    obtain ⟨mm, hFr⟩ := I.fr
    refine PySem.W.ksp_neg hFr I.ok.mod.kin J (by rw [F.hK l]; exact hme.at_) (by rw [F.hK l]; exact hme.fn) ?_
    exact run_fn (vs := [.ref a]) (dvs := []) (fn_at G) ((F.room l).mono hk) (by rw [F.hK l]; exact hb) .nil pass0 I (.cons rfl .nil) hsp
  · have hu' := hu
    cases hu with
    | obj _ h1 h2 => exact ⟨_, _, _, rfl, s _ _ h1, G, _, z, hR, s, .cons hu' .nil, q⟩
theorem looks_ty {X : Cx} {pins : List (Addr × Obj)} {σ : L2.St} {H : Hp} {s : Shared} {x : V} {u t : Value} (I : Inv X pins σ H s) (r : RelV x u) (ty : TyX X.K H x t) (M : Model) : PySem.W.Looks M s.heap (typeOf u) t := by
  obtain ⟨P, Z, hp, _⟩ := kit_of I r ty
  exact Z.ty M s.heap I.kIn hp
/-- x == y by the own == of x's class, y anything -/
theorem od_eqO {kb : Bool} (mt : Met F.P F.w F.C F.mg F.base k cn "__eq__" (spP F.C R)) (hk : k ≤ F.k) (ho : ∀ c fs, y = .obj c fs → F.C.has c = true → InsF F.C.K (F.C.cl c)) (hn : ∀ v, y ≠ .cst v) (hf : PySem.W.notFirst F.C.K (F.C.cl cn) (tyD F.C y) = true) (hR : R [.obj cn fs, y] (.bl kb)) : OpD F (compareOp .Eq) (.obj cn fs) y (.bl kb) := by
  obtain ⟨f, fd, ps, G, hc, hme, hb⟩ := mt
  refine ⟨fun x y' H Q => ∃ a dx vs, x = .ref a ∧ H a = some (.ins (F.C.cl cn) dx vs) ∧ TyX F.C.K H y' (tyD F.C y) ∧ spP F.C R [x, y'] H Q E0, fun l => ?_, fun G H u v s hu hv Q q => ?_⟩
  · intro pins s σ H x y' v u Q I rx ry h
    obtain ⟨a, dx, vs, rfl, ha, ty, hsp⟩ := h
    cases rx
    obtain ⟨od, J⟩ := inst_of I ha
    obtain ⟨mm, hFr⟩ := I.fr
    show wpAny _ _ (richCompare .Eq _ _) _ _ _
    refine PySem.W.cmp_K (op := .Eq) (F.room l).units0 hFr I.ok.mod.kin J (looks_ty I ry (by rw [F.hK l]; exact ty) _) (by rw [F.hK l]; exact hf) (by rw [F.hK l]; exact hme.at_) (by rw [F.hK l]; exact hme.fn) (back_of ?_)
    exact run_fn (vs := [.ref a, y']) (dvs := []) (fn_at G) ((F.room l).mono hk) (by rw [F.hK l]; exact hb) .nil pass0 I (.cons rfl (.cons ry .nil)) hsp
  · have hu' := hu
    cases hu with
    | obj _ h1 h2 => exact ⟨_, _, _, rfl, s _ _ h1, hv.tyX s ho hn, G, _, _, hR, s, .cons hu' (.cons hv .nil), q⟩
theorem run_in1 {X : Cx} {pins : List (Addr × Obj)} {σ : L2.St} {H : Hp} {s : Shared} {Q : VK} {us : List Value} {vs : List V} {f : Addr} {fd : FuncData} {ps : List Str} {sp : Sp} (G : FnOk X.prog X.w X.K X.mg X.base CX0 k f fd ps sp) (hr : Room (k + 1) X.A) (hb : Binds X.K fd ps []) (I : Inv X pins σ H s) (r : Vals vs us) (h : sp vs H Q E0) :
    wpAny (model X.prog X.w) X.A.in1 (call (.ref f) us) (EP X pins σ Q) X.xe s := by
  have hl : (us ++ []).length = ps.length := by rw [List.append_nil, ← r.length]; exact G.len _ _ _ _ h
  refine wpAny_call (codeAny_mono (G.run X.A.in1 X.stack s H ⟨us, []⟩ us vs Q E0 hr.in1 I.env0.in1 (by have := hb s us I.kIn hl; rw [List.append_nil] at this; exact this) r h) fun r s' hq => ?_)
  cases r with
  | error e => exact hq.elim
  | ok fl =>
    cases fl with
    | ret u => exact I.after hq
    | next => exact False.elim hq
    | brk => exact False.elim hq
    | cont => exact False.elim hq
theorem od_neO {kb : Bool} (mt : Met F.P F.w F.C F.mg F.base k cn "__eq__" (spP F.C R)) (hk : k + 1 ≤ F.k) (ho : ∀ c fs, y = .obj c fs → F.C.has c = true → InsF F.C.K (F.C.cl c)) (hn : ∀ v, y ≠ .cst v) (hf : PySem.W.notFirst F.C.K (F.C.cl cn) (tyD F.C y) = true) (hi : InsF F.C.K (F.C.cl cn)) (hne : PySem.W.findIn F.C.K (.ref (F.C.cl cn)) "__ne__" = some (some (.builtin "object.__ne__")))
    (hR : R [.obj cn fs, y] (.bl kb)) : OpD F (compareOp .NotEq) (.obj cn fs) y (.bl (!kb)) := by
  obtain ⟨f, fd, ps, G, hc, hme, hb⟩ := mt
  refine ⟨fun x y' H Q => ∃ a dx vs, x = .ref a ∧ H a = some (.ins (F.C.cl cn) dx vs) ∧ TyX F.C.K H y' (tyD F.C y) ∧ spP F.C R [x, y'] H (fun v H' => ∃ b, v = .bl b ∧ Q (.bl (!b)) H') E0, fun l => ?_, fun G H u v s hu hv Q q => ?_⟩
  · intro pins s σ H x y' v u Q I rx ry h
    obtain ⟨a, dx, vs, rfl, ha, ty, hsp⟩ := h
    cases rx
    obtain ⟨od, J⟩ := inst_of I ha
    show wpAny _ _ (richCompare .NotEq _ _) _ _ _
    refine DLO.neO (by have := (F.room l).un; omega) I.kIn J (looks_ty I ry (by rw [F.hK l]; exact ty) _) (by rw [F.hK l]; exact hf) (by rw [F.hK l]; exact hi.hm) (by rw [F.hK l]; exact hne) (by rw [F.hK l]; exact hme.at_) (by rw [F.hK l]; exact hme.fn) ?_
    refine wpAny_mono (run_in1 (vs := [.ref a, y']) (fn_at G) ((F.room l).mono hk) (by rw [F.hK l]; exact hb) I (.cons rfl (.cons ry .nil)) hsp) (fun w s' hw => ?_) fun _ _ e => e
    obtain ⟨w', H', I', rw', b, rfl, q⟩ := hw
    cases rw'
    exact ⟨b, rfl, .bl (!b), H', I', rfl, q⟩
  · have hu' := hu
    cases hu with
    | obj _ h1 h2 => exact ⟨_, _, _, rfl, s _ _ h1, hv.tyX s ho hn, G, _, _, hR, s, .cons hu' (.cons hv .nil), fun v G2 H2 p dv => by cases dv; exact ⟨kb, rfl, q _ _ _ p (.bl _)⟩⟩
/-- i == x -/
theorem od_eqR2 {i : Int} {kb : Bool} (mt : Met F.P F.w F.C F.mg F.base k cn "__eq__" (spP F.C R)) (hk : k ≤ F.k) (hF : OpF F.C.K (F.C.cl cn)) (hR : R [.obj cn fs, .int i] (.bl kb)) : OpD F (compareOp .Eq) (.int i) (.obj cn fs) (.bl kb) := by
  obtain ⟨f, fd, ps, G, hc, hme, hb⟩ := mt
  refine ⟨fun x y H Q => ∃ a j dx vs, y = .ref a ∧ x = .int j ∧ H a = some (.ins (F.C.cl cn) dx vs) ∧ spP F.C R [y, x] H Q E0, fun l => ?_, fun G H u v s hu hv Q q => ?_⟩
  · intro pins s σ H x y v u Q I rx ry h
    obtain ⟨a, j, dx, vs, rfl, rfl, ha, hsp⟩ := h
    cases ry
    obtain ⟨t, rfl⟩ := rx
    obtain ⟨od, J⟩ := inst_of I ha
    show wpAny _ _ (richCompare .Eq _ _) _ _ _
    refine DLO.eqR (F.room l).units0 I.kIn J (by rw [F.hK l]; exact hme.at_) (by rw [F.hK l]; exact hme.fn) (by rw [F.hK l]; exact hF.ci) (back_of ?_)
    exact run_fn (vs := [.ref a, .int j]) (dvs := []) (fn_at G) ((F.room l).mono hk) (by rw [F.hK l]; exact hb) .nil pass0 I (.cons rfl (.cons ⟨t, rfl⟩ .nil)) hsp
  · have hu' := hu
    have hv' := hv
    cases hv with
    | obj _ h1 h2 => cases hu with
      | int => exact ⟨_, _, _, _, rfl, rfl, s _ _ h1, G, _, _, hR, s, .cons hv' (.cons hu' .nil), q⟩
/-- not x, x of a class without __bool__ and __len__ -/
theorem de_notO (ha : DE F a S S1 (.obj cn fs)) (h1 : PySem.W.findIn F.C.K (.ref (F.C.cl cn)) "__bool__" = some none) (h2 : PySem.W.findIn F.C.K (.ref (F.C.cl cn)) "__len__" = some none) : DE F (.UnaryOp .Not a pos) S S1 (.bl false) :=
  de_of (te := fun σ H Q => anyE F a σ H fun x H1 => ∃ o dx vs, x = .ref o ∧ H1 o = some (.ins (F.C.cl cn) dx vs) ∧ Q (.bl false) H1) (fun i => ⟨fun pins s σ H Q I h => by
    refine PyProof.Rows.UnaryOp_ (thn ((anyE_ok (e := a) i).run pins s σ H _ I h) fun v s1 ⟨x, H1, I1, r1, q1⟩ => ?_)
    obtain ⟨o, dx, vs, rfl, ho, q1⟩ := q1
    cases r1
    obtain ⟨od, J⟩ := inst_of I1 ho
    obtain ⟨mm, hFr⟩ := I1.fr
    exact PyProof.Rows.not_of (PySem.W.truthy_K0 hFr I1.ok.mod.kin J (by rw [F.hK i]; exact h1) (by rw [F.hK i]; exact h2) ⟨.bl false, H1, I1, rfl, q1⟩)⟩)
    fun σ G H c Q q => ha σ G H c _ fun v G1 H1 m dv => by
      cases dv with
      | obj _ h1 h2 => exact ⟨_, _, _, rfl, m.cx.sub _ _ h1, q _ _ _ m (.bl false)⟩

/-! ### new lists handed back -/
/-- f(..) that hands back a new list, to be owned -/
theorem do_call {R : List D → List D → Prop} {gs : List D} (c : Cal F.P F.w F.C F.mg F.base k nm (spO F.C R)) (ha : DA F (e :: es) S S1 ds) (hR : R ds gs) (hk : k ≤ F.k := by exact Nat.le_of_ble_eq_true rfl)
    (hg : ∀ i, Gl (F.X i) nm := by intro _; rfl) (hdb : (nm == ("__debug__" : Str)) = false := by decide)
    (he : ∀ i, starEach (e :: es) (F.X i).env = (false, eval e (F.X i).env) :: starEach es (F.X i).env := by intro _; rfl) (hpl : ∀ i, (backTo pos (starEach es (F.X i).env)).any (·.1) = false := by intro _; rfl) : DO F (.Call (.Name nm p) (e :: es) [] pos) S S1 gs := by
  obtain ⟨f, fd, ps, G, hm, hkp, hb⟩ := c
  refine do_of (te := tCall (spO F.C R) [] E0 (anyA F (e :: es))) (fun i => pe_call (fn_at G) ((F.room i).mono hk) (hg i) (by rw [F.hmg i]; exact hm) (by rw [F.hK i]; exact hkp) (by rw [F.hK i]; exact hb) .nil pass0 (anyA_ok i) hdb (he i) (hpl i)) ?_
  intro σ G H cx Q q
  refine ha σ G H cx _ fun vs G1 H1 m dl => ?_
  refine ⟨G1, ds, gs, hR, m.cx.sub, by rw [List.append_nil]; exact dl, fun p ev G2 H2 pu hp g2 h2 de => ?_⟩
  have hp0 : H p = none := by
    cases r : H p with
    | none => rfl
    | some o => exact absurd hp (m.go.dom p (by rw [r]; simp))
  exact q p ev G2 H2 (m.pu pu) hp0 g2 h2 de
/-- f(e): the first argument a new list that f changes; nobody sees it behind -/
theorem de_callNew {R : List D → List D → D → List D → Prop} {gs gs' : List D} (c : Cal F.P F.w F.C F.mg F.base k nm (spB F.C R)) (ha : DO F e S S1 gs) (hR : R [] gs d gs') (hk : k ≤ F.k := by exact Nat.le_of_ble_eq_true rfl)
    (hg : ∀ i, Gl (F.X i) nm := by intro _; rfl) (hdb : (nm == ("__debug__" : Str)) = false := by decide)
    (he : ∀ i, starEach [e] (F.X i).env = (false, eval e (F.X i).env) :: starEach [] (F.X i).env := by intro _; rfl) (hpl : ∀ i, (backTo pos (starEach [] (F.X i).env)).any (·.1) = false := by intro _; rfl) : DE F (.Call (.Name nm p) [e] [] pos) S S1 d := by
  obtain ⟨f, fd, ps, G, hm, hkp, hb⟩ := c
  refine de_of (te := tCall (spB F.C R) [] E0 (tCons (anyE F e) tNil)) (fun i => pe_call (fn_at G) ((F.room i).mono hk) (hg i) (by rw [F.hmg i]; exact hm) (by rw [F.hK i]; exact hkp) (by rw [F.hK i]; exact hb) .nil pass0 (pa_cons (anyE_ok i) pa_nil (he i)) hdb (he i) (hpl i)) ?_
  intro σ G H cx Q q
  refine ha σ G H cx _ fun p vs G1 H1 m hp g1 h1 dl => ?_
  have nOA : ¬ OA F.C σ S1 p := fun z => by
    rcases m.oa p z with ⟨j, es, r1, r2⟩ | ⟨o, r⟩
    · obtain ⟨a, ws, q1, _, q3, _⟩ := cx.ow j es r1
      rw [r2] at q1; cases q1; rw [hp] at q3; cases q3
    · have z := cx.bag
      rw [r] at z
      cases o with
      | lst => obtain ⟨_, _, h3, _⟩ := z; rw [hp] at h3; cases h3
      | ins => obtain ⟨_, _, _, h3, _⟩ := z; rw [hp] at h3; cases h3
  refine ⟨G1, p, [], vs, [], gs, d, gs', rfl, hR, m.cx.sub, g1, h1, dl, .nil, fun v G2 H2 gv' go sub g2 h2 dl' dv => ?_⟩
  refine q v G2 H2 ⟨⟨fun a o n h => ?_, m.go.gg.trans go.gg, fun a n h g => ?_, fun a h => go.dom a (m.go.dom a h)⟩, ?_, m.oa⟩ dv
  · have na : a ≠ p := fun z => by rw [z, hp] at h; cases h
    exact go.keep a o na (m.go.keep a o n h)
  · have na : a ≠ p := fun z => h (by rw [z]; exact hp)
    exact go.fr a na (m.go.dom a h) (m.go.fr a n h g)
  · have c1 := m.cx
    have nb : ∀ o, S1.g ≠ some (p, o) := fun o r => nOA (.inr ⟨o, r⟩)
    refine ⟨sub, c1.len, fun i d h => ?_, fun i es h => ?_, c1.apart, c1.bg, ?_, c1.nob⟩
    · obtain ⟨v, h1, h2⟩ := c1.im i d h
      exact ⟨v, h1, h2.mono go.gg⟩
    · obtain ⟨a, ws, r1, r2, r3, r4⟩ := c1.ow i es h
      have na : a ≠ p := fun z => nOA (.inl ⟨i, es, h, by rw [← z]; exact r1⟩)
      exact ⟨a, ws, r1, go.fr a na (by rw [r3]; simp) r2, go.keep a _ na r3, r4.mono go.gg⟩
    · have z := c1.bag
      cases r : S1.g with
      | none => trivial
      | some bo =>
        obtain ⟨b, o⟩ := bo
        have nq : b ≠ p := fun e => nb o (by rw [r, e])
        rw [r] at z
        cases o with
        | lst es => obtain ⟨h1, ws, h2, h3⟩ := z; exact ⟨go.fr b nq (by rw [h2]; simp) h1, ws, go.keep b _ nq h2, h3.mono go.gg⟩
        | ins cc fs => obtain ⟨h1, dx, ws, h2, h3⟩ := z; exact ⟨go.fr b nq (by rw [h2]; simp) h1, dx, ws, go.keep b _ nq h2, h3.mono go.gg⟩
end

end DL
/-! DLB: items, slices, joining, if else, written powers. -/
namespace L2
open PySem PySem.Spec PyProof.Rows
def rCatK (K : PySem.W.Frag) : R2 := fun x y H Q => ∃ a b xs ys, x = V.ref a ∧ y = V.ref b ∧ SqL K H a xs ∧ SqL K H b ys ∧ xs.length + ys.length ≤ sizeLine ∧ ∀ p, H p = none → Q (.ref p) (upd H p (.lst (xs ++ ys)))
theorem op_catK {X : Cx} : OpR X (binaryOp .Add) (rCatK X.K) := by
  intro pins s σ H x y v u Q I rx ry h
  obtain ⟨l, b, xs, zs, rfl, rfl, hH, hB, hz, q⟩ := h
  cases rx
  cases ry
  obtain ⟨its, r, ⟨⟨cls, dd, data, sl⟩, n, ho, hc, hdd, hd⟩, _⟩ := I.list hH
  obtain ⟨its2, r2, ⟨⟨cls2, dd2, data2, sl2⟩, n2, ho2, hc2, hdd2, hd2⟩, _⟩ := I.list hB
  simp only at hc hd hc2 hd2
  subst hc hd hc2 hd2
  refine concat_meets ⟨_, ho, rfl⟩ ⟨_, ho2, rfl⟩ noFill_list_add seq_list_add PySem.F.slot_list_add PySem.F.entry_list_add (PySem.F.args_list_add_2 _ _) (list_addW l b its.toArray its2.toArray n n2 dd dd2 sl sl2 (by rw [List.size_toArray, List.size_toArray, ← r.length, ← r2.length]; exact hz)) ⟨ho, ho2, ?_⟩
  have ea : its.toArray ++ its2.toArray = (its ++ its2).toArray := by simp
  rw [ea]
  exact ⟨.ref _, _, I.lnew (t' := s.toks) (r.append r2) (by rw [List.length_append]; omega), rfl, q _ I.fresh⟩
end L2
namespace DL
open PySem L2
section
variable {F : Fam} {S S1 S2 S3 : ST} {e a b c : Expr} {d x y z : D} {pos p apos : Pos} {es : List Expr} {ds : List D} {k : Bool} {nm : Str} {P : Po} {rest : List Stmt}

/-! ### if else -/
theorem de_ite (hc : DT F c S S1 k) (h1 : k = true → DE F a S1 S2 x) (h2 : k = false → DE F b S1 S2 y) : DE F (.IfExp c a b pos) S S2 (bif k then x else y) := by
  cases k with
  | true => exact de_if hc (fun _ => h1 rfl) (fun h => nomatch h)
  | false => exact de_if hc (fun h => nomatch h) (fun _ => h2 rfl)
theorem de_iteI {i j : Int} (hc : DT F c S S1 k) (h1 : k = true → DE F a S1 S2 (.int i)) (h2 : k = false → DE F b S1 S2 (.int j)) : DE F (.IfExp c a b pos) S S2 (.int (bif k then i else j)) := by
  cases k with
  | true => exact de_if hc (fun _ => h1 rfl) (fun h => nomatch h)
  | false => exact de_if hc (fun h => nomatch h) (fun _ => h2 rfl)
theorem de_iteS {i j : Str} (hc : DT F c S S1 k) (h1 : k = true → DE F a S1 S2 (.str i)) (h2 : k = false → DE F b S1 S2 (.str j)) : DE F (.IfExp c a b pos) S S2 (.str (bif k then i else j)) := by
  cases k with
  | true => exact de_if hc (fun _ => h1 rfl) (fun h => nomatch h)
  | false => exact de_if hc (fun h => nomatch h) (fun _ => h2 rfl)
theorem de_ifT (hc : DT F c S S1 true) (h1 : DE F a S1 S2 d) : DE F (.IfExp c a b pos) S S2 d := de_if hc (fun _ => h1) (fun h => nomatch h)
theorem de_ifF (hc : DT F c S S1 false) (h1 : DE F b S1 S2 d) : DE F (.IfExp c a b pos) S S2 d := de_if hc (fun h => nomatch h) (fun _ => h1)
theorem dt_chain {op op' : CmpOp} {w : D} {k l : Bool} (ha : DE F a S S1 x) (hb : DE F b S1 S2 y) (hc : k = true → DE F c S2 S3 w) (hr : OpD F (compareOp op) x y (.bl k)) (hr' : k = true → OpD F (compareOp op') y w (.bl l)) (h0 : k = false → S2 = S3 := by intro _; rfl) (hm : lastMarks [op, op'] [b, c] = false := by with_unfolding_all rfl) : DT F (.Compare a [op, op'] [b, c] pos) S S3 (k && l) := by
  obtain ⟨r, h1, h2⟩ := hr
  cases k with
  | true =>
    obtain ⟨r', h1', h2'⟩ := hr' rfl
    refine dt_of (fun i => pt_chain (h1 i) (h1' i) (anyE_ok i) (anyE_ok i) (anyE_ok i) (hm := hm)) fun σ G H c' Q q => ?_
    refine ha σ G H c' _ fun u G1 H1 m1 d1 => hb σ G1 H1 m1.cx _ fun v G2 H2 m2 d2 => h2 G2 H2 u v m2.cx.sub (d1.mono m2.go.gg) d2 _ fun t G3 H3 p d3 => ?_
    cases d3 with
    | bl =>
      refine ⟨true, rfl, ?_⟩
      rw [if_pos rfl]
      have m3 := (m1.trans m2).pu p
      refine hc rfl σ G3 H3 m3.cx _ fun t' G4 H4 m4 d4 => h2' G4 H4 v t' m4.cx.sub ((d2.mono p.gg).mono m4.go.gg) d4 _ fun w5 G5 H5 p5 d5 => ?_
      cases d5
      exact ⟨l, rfl, q _ _ ((m3.trans m4).pu p5)⟩
  | false =>
    cases h0 rfl
    refine dt_of (fun i => pt_chain (h1 i) (fun _ _ _ _ _ _ _ _ _ _ _ _ z => False.elim z : OpR (F.X i) (compareOp op') fun _ _ _ _ => False) (anyE_ok i) (anyE_ok i) (anyE_ok i) (hm := hm)) fun σ G H c' Q q => ?_
    refine ha σ G H c' _ fun u G1 H1 m1 d1 => hb σ G1 H1 m1.cx _ fun v G2 H2 m2 d2 => h2 G2 H2 u v m2.cx.sub (d1.mono m2.go.gg) d2 _ fun t G3 H3 p d3 => ?_
    cases d3 with
    | bl =>
      refine ⟨false, rfl, ?_⟩
      rw [if_neg Bool.false_ne_true]
      exact ⟨false, rfl, q _ _ ((m1.trans m2).pu p)⟩

/-! ### items -/
def itemD : D → Int → Option D
  | .tup ds, i => atI ds i
  | .lst ds, i => atI ds i
  | _, _ => none
theorem de_ix {i : Int} (ha : DE F a S S1 x) (hb : DE F b S1 S2 (.int i)) (hi : itemD x i = some d) (hs : PlainIx b := by intro _ _; rfl) : DE F (.Subscript a b pos) S S2 d := by
  cases x with
  | tup ds => exact de_ixT ha hb hi hs
  | lst ds => exact de_ixL ha hb hi hs
  | _ => cases hi
theorem de_ixS {i : Int} {t : Str} {cc : Nat} (ha : DE F a S S1 (.str t)) (hb : DE F b S1 S2 (.int i)) (hl : t.length ≤ sizeLine) (hi : atI t.cps.toList i = some cc) (hs : PlainIx b := by intro _ _; rfl) : DE F (.Subscript a b pos) S S2 (.str ⟨#[cc]⟩) :=
  de_of (te := tOp rIxS (anyE F a) (anyE F b)) (fun j => pe_ix (pos := pos) (ix_str (X := F.X j)) (anyE_ok (e := a) j) (anyE_ok (e := b) j) hs)
    (ev_op (fun G H u v s hu hv Q q => by
      cases hu; cases hv
      exact ⟨t, i, cc, rfl, rfl, hl, hi, q _ _ _ (.refl s) (.str _)⟩) ha hb)

/-! ### slices -/
def anyO (F : Fam) (o : Option Expr) : TO := fun σ H Q => ∃ te, (∀ i, PO (F.X i) o te) ∧ te σ H Q
theorem anyO_ok {o : Option Expr} (i : F.I) : PO (F.X i) o (anyO F o) := ⟨fun pins s σ H Q I h => let ⟨te, h1, h2⟩ := h; (h1 i).run pins s σ H Q I h2⟩
def DOp (F : Fam) (o : Option Expr) (S S' : ST) (i : Option Int) : Prop := ∀ σ G H, Ctx F.C G H σ S → ∀ Q : Option Int → Hp → Prop, (∀ G2 H2, Mv F.C σ S G H S' G2 H2 → Q i H2) → anyO F o σ H Q
theorem do_none : DOp F none S S none := fun σ G H c Q q => ⟨tNoPart, fun _ => po_none, q G H (.refl c)⟩
theorem do_some {i : Int} (h : DE F e S S1 (.int i)) : DOp F (some e) S S1 (some i) := fun σ G H c Q q => ⟨tPart (anyE F e), fun l => po_some (anyE_ok l), h σ G H c _ fun v G1 H1 m dv => by cases dv; exact ⟨i, rfl, q G1 H1 m⟩⟩
def cutD (xs : List D) (lo hi : Option Int) : List D := (xs.drop (HT.sIx xs.length 0 lo)).take (HT.sIx xs.length xs.length hi - HT.sIx xs.length 0 lo)
theorem DenL.cut {C : Kc} {G : Hp} {vs : List V} {ds : List D} (h : DenL C G vs ds) (lo hi : Option Int) : DenL C G (cutV vs lo hi) (cutD ds lo hi) := by
  unfold cutV cutD
  rw [h.length]
  exact (h.drop _).take _
variable {lo hi : Option Expr} {l h : Option Int} {p2 : Pos}
theorem do_sliceL (ha : DE F e S S1 (.lst ds)) (hl : DOp F lo S1 S2 l) (hh : DOp F hi S2 S3 h) : DO F (.Subscript e (.Slice lo hi none p2) pos) S S3 (cutD ds l h) :=
  do_of (te := tSl (rSlL F.C.K) (anyE F e) (anyO F lo) (anyO F hi)) (fun i => by have := pe_slice (p2 := p2) (pos := pos) (sl_list (X := F.X i)) (anyE_ok (e := e) i) (anyO_ok (o := lo) i) (anyO_ok (o := hi) i); rw [F.hK i] at this; exact this) fun σ G H c Q q =>
    ha σ G H c _ fun v G1 H1 m1 dv => hl σ G1 H1 m1.cx _ fun G2 H2 m2 => hh σ G2 H2 m2.cx _ fun G3 H3 m3 => by
      cases dv with
      | @lst o vs _ h1 h2 =>
        have m := (m1.trans m2).trans m3
        refine ⟨o, vs, rfl, m3.cx.sub.seq (m3.go.gg.seq (m2.go.gg.seq h1)), fun p hp => ?_⟩
        have sm : Same H3 (upd H3 p (.lst (cutV vs l h))) := fun a u hh => by rw [upd_ne (ne_of_none hh hp)]; exact hh
        exact q p _ G3 _ (m.trans (m3.cx.mv sm (fun _ _ h => h) (m3.cx.sub.trans sm) fun _ _ h => h)) (back_none m.go hp) (m3.cx.sub.free hp) upd_same (((h2.mono m2.go.gg).mono m3.go.gg).cut l h)
theorem de_sliceL (ha : DE F e S S1 (.lst ds)) (hl : DOp F lo S1 S2 l) (hh : DOp F hi S2 S3 h) : DE F (.Subscript e (.Slice lo hi none p2) pos) S S3 (.lst (cutD ds l h)) := de_do (do_sliceL ha hl hh)
theorem de_sliceT (ha : DE F e S S1 (.tup ds)) (hl : DOp F lo S1 S2 l) (hh : DOp F hi S2 S3 h) : DE F (.Subscript e (.Slice lo hi none p2) pos) S S3 (.tup (cutD ds l h)) :=
  de_of (te := tSl (rSlA F.C.K) (anyE F e) (anyO F lo) (anyO F hi)) (fun i => by have := pe_slice (p2 := p2) (pos := pos) (sl_tupA (X := F.X i)) (anyE_ok (e := e) i) (anyO_ok (o := lo) i) (anyO_ok (o := hi) i); rw [F.hK i] at this; exact this) fun σ G H c Q q =>
    ha σ G H c _ fun v G1 H1 m1 dv => hl σ G1 H1 m1.cx _ fun G2 H2 m2 => hh σ G2 H2 m2.cx _ fun G3 H3 m3 => by
      cases dv with
      | @tup o vs _ h1 h2 =>
        have m := (m1.trans m2).trans m3
        have h1' := same_t m3.go.gg (same_t m2.go.gg h1)
        have h2' := (h2.mono m2.go.gg).mono m3.go.gg
        refine ⟨o, vs, rfl, same_t m3.cx.sub h1', fun w => ?_, fun _ p hp => ?_⟩
        · have e : cutV vs l h = vs := by unfold cutV; rw [w.1, w.2]; simp
          have := h2'.cut l h
          rw [e] at this
          exact q _ _ _ m (.tup h1' this)
        · have pn := m3.cx.pu (Pu.new (o := .tup (cutV vs l h)) m3.cx.sub hp)
          exact q _ _ _ (m.trans pn) (.tup (SqT.of upd_same) ((h2'.cut l h).mono pn.go.gg))
theorem de_sliceS {t : Str} (ha : DE F e S S1 (.str t)) (hl : DOp F lo S1 S2 l) (hh : DOp F hi S2 S3 h) (hz : t.length ≤ sizeLine) : DE F (.Subscript e (.Slice lo hi none p2) pos) S S3 (.str (cutS t l h)) :=
  de_of (te := tSl rSlS (anyE F e) (anyO F lo) (anyO F hi)) (fun i => pe_slice (p2 := p2) (pos := pos) (sl_str (X := F.X i)) (anyE_ok (e := e) i) (anyO_ok (o := lo) i) (anyO_ok (o := hi) i)) fun σ G H c Q q =>
    ha σ G H c _ fun v G1 H1 m1 dv => hl σ G1 H1 m1.cx _ fun G2 H2 m2 => hh σ G2 H2 m2.cx _ fun G3 H3 m3 => by
      cases dv
      exact ⟨t, rfl, hz, q _ _ _ ((m1.trans m2).trans m3) (.str _)⟩

/-! ### y = [..] -/
theorem ps_lc {j : Nat} {yn : Str} {py : Pos} {elt tg iter : Expr} {ifs : List Expr} {scope : Scope} {own : List (Str × Nat)} (ok : ∀ i, BlkOk (F.X i).N (F.X i).env.scope scope own) (hN : ∀ i, (F.X i).N[j]? = some yn) (hl : ∀ i, (F.X i).env.scope.names.lookup yn = some .local)
    (hsw : ∀ i, swapsWith (.ListComp elt [⟨tg, iter, ifs, 0⟩] scope p) (some (.Name yn py)) pos.line (F.X i).env = pure true) (hs : ∀ i x, foldedSetIterable iter (F.X i).env x = pure x) (i : F.I) :
    PS (F.X i) (.Assign [.Name yn py] (.ListComp elt [⟨tg, iter, ifs, 0⟩] scope p) pos) (tAsg (tLc (anyI F tg iter) (anyG (F.blk scope) tg) (anyTs (F.blk scope) ifs) (anyE (F.blk scope) elt) (own.map (·.2))) (gName j)) :=
  ps_setLc (F.calm i) (by rw [F.hN i]; exact F.nd) (hN i) (hl i) (hsw i) (anyI_ok i) (ok i) (fun s H C cl fp => anyG_ok (F := F.blk scope) (i, s, H, C, cl, fp)) (fun s H C cl fp => anyTs_ok (F := F.blk scope) (i, s, H, C, cl, fp)) (fun s H C cl fp => anyE_ok (F := F.blk scope) (i, s, H, C, cl, fp)) (hs i)
theorem ds_setDO {j : Nat} {yn : Str} {py : Pos} {elt tg iter : Expr} {ifs : List Expr} {scope : Scope} {own : List (Str × Nat)} (hev : EvO F.C (tLc (anyI F tg iter) (anyG (F.blk scope) tg) (anyTs (F.blk scope) ifs) (anyE (F.blk scope) elt) (own.map (·.2))) S S1 ds) (ok : ∀ i, BlkOk (F.X i).N (F.X i).env.scope scope own) (q : DS F rest (S1.set j (.lst ds)) P)
    (hN : ∀ i, (F.X i).N[j]? = some yn := by intro _; rfl) (hl : ∀ i, (F.X i).env.scope.names.lookup yn = some .local := by intro _; rfl)
    (hsw : ∀ i, swapsWith (.ListComp elt [⟨tg, iter, ifs, 0⟩] scope p) (some (.Name yn py)) pos.line (F.X i).env = pure true := by intro _; exact sw_true rfl rfl rfl (by decide +kernel)) (hs : ∀ i x, foldedSetIterable iter (F.X i).env x = pure x := by intro _ _; rfl) :
    DS F (.Assign [.Name yn py] (.ListComp elt [⟨tg, iter, ifs, 0⟩] scope p) pos :: rest) S P := by
  refine ds_cons (M := fun S2 => S2 = S1.set j (.lst ds)) (d1_of (te := tAsg (tLc (anyI F tg iter) (anyG (F.blk scope) tg) (anyTs (F.blk scope) ifs) (anyE (F.blk scope) elt) (own.map (·.2))) (gName j)) (ps_lc ok hN hl hsw hs) ?_) fun _ z => z ▸ q
  intro σ G H c E m
  exact ev_freeze hev σ G H c _ fun v G1 H1 m1 dv => m.nx _ _ G1 H1 (m1.mw.trans (m1.cx.store dv)) rfl
theorem od_addS {i j : Str} (h : i.length + j.length ≤ sizeLine) : OpD F (binaryOp .Add) (.str i) (.str j) (.str (i ++ j)) := ⟨_, fun _ => op_add_str, fun G H u v s hu hv Q q => by
  cases hu; cases hv
  exact ⟨i, j, rfl, rfl, h, q _ _ _ (.refl s) (.str _)⟩⟩
theorem od_catT {xs ys : List D} (h : xs.length + ys.length ≤ sizeLine) : OpD F (binaryOp .Add) (.tup xs) (.tup ys) (.tup (xs ++ ys)) :=
  ⟨rCatA F.C.K, fun i => by have := op_catA (X := F.X i); rw [F.hK i] at this; exact this, fun G H u v s hu hv Q q => by
    cases hu with
    | @tup a vs _ h1 h2 => cases hv with
      | @tup b ws _ h3 h4 =>
        refine ⟨a, b, vs, ws, rfl, rfl, same_t s h1, same_t s h3, by rw [h2.length, h4.length]; exact h, fun e => ?_, fun _ e => ?_, fun _ _ p hp => ?_⟩
        · subst e
          cases h2
          exact q _ _ _ (.refl s) (.tup h3 h4)
        · subst e
          cases h4
          exact q _ _ _ (.refl s) (by rw [List.append_nil]; exact .tup h1 h2)
        · exact q _ _ _ (Pu.new s hp) (.tup (SqT.of upd_same) ((h2.append h4).mono (Pu.new s hp).gg))⟩
theorem od_catL {xs ys : List D} (h : xs.length + ys.length ≤ sizeLine) : OpD F (binaryOp .Add) (.lst xs) (.lst ys) (.lst (xs ++ ys)) :=
  ⟨rCatK F.C.K, fun i => by have := op_catK (X := F.X i); rw [F.hK i] at this; exact this, fun G H u v s hu hv Q q => by
    cases hu with
    | @lst a vs _ h1 h2 => cases hv with
      | @lst b ws _ h3 h4 =>
        exact ⟨a, b, vs, ws, rfl, rfl, s.seq h1, s.seq h3, by rw [h2.length, h4.length]; exact h, fun p hp => q _ _ _ (Pu.new s hp) (.lst (SqL.of upd_same) ((h2.append h4).mono (Pu.new s hp).gg))⟩⟩
theorem od_pow9 : OpD F (binaryOp .Pow) (.int 10) (.int 9) (.int 1000000000) := od_pow (F := F) (i := 10) (j := 9) (by unfold CPow; decide)
theorem od_pow6 : OpD F (binaryOp .Pow) (.int 10) (.int 6) (.int 1000000) := od_pow (F := F) (i := 10) (j := 6) (by unfold CPow; decide)
theorem od_pow15 : OpD F (binaryOp .Pow) (.int 10) (.int 15) (.int 1000000000000000) := od_pow (F := F) (i := 10) (j := 15) (by unfold CPow; decide)
theorem od_pow18 : OpD F (binaryOp .Pow) (.int 10) (.int 18) (.int 1000000000000000000) := od_pow (F := F) (i := 10) (j := 18) (by unfold CPow; decide)
theorem od_pow20 : OpD F (binaryOp .Pow) (.int 10) (.int 20) (.int 100000000000000000000) := od_pow (F := F) (i := 10) (j := 20) (by unfold CPow; decide)
end
end DL
/-! DLC: the end of a law: from a promise on data to the row. -/
namespace DL
open PySem L2
def spLaw (K : PySem.W.Frag) : Sp := fun vs H Q _ => ∃ (a : Addr) (ns : List Int), vs = [.ref a] ∧ ns.length ≤ 63 ∧ SqL K H a (ns.map V.int) ∧ ∀ H', Q (.bl true) H'
theorem denL_ints {C : Kc} {G : Hp} : ∀ ns : List Int, DenL C G (ns.map V.int) (ns.map D.int)
  | [] => .nil
  | n :: ns => .cons (.int n) (denL_ints ns)
section
variable {P : Program} {w : World} {C : Kc} {mg : Str → Option Value} {base : Heap} {f : Addr} {fd : FuncData} {k : Nat} {ps : List Str}
theorem law_of {R : List D → D → Prop} (h : FnOk P w C.K mg base CX0 k f fd ps (spP C R)) (hR : ∀ is : List Int, is.length ≤ 63 → R [.lst (is.map D.int)] (.bl true)) : FnOk P w C.K mg base CX0 k f fd ps (spLaw C.K) :=
  h.imp fun vs H Q E ⟨a, ns, e, hl, hS, q⟩ => ⟨H, _, _, hR ns hl, fun _ _ h => h, by subst e; exact .cons (.lst hS (denL_ints ns)) .nil, fun v G2 H2 _ d => by cases d; exact q _⟩
variable {x qual : Str} {st : Stmt} {sp : Sp}
theorem cal_mk (ok : FnOk P w C.K mg base CX0 k f fd ps sp) (F : Fun C.K x qual st f fd) (b : Binds C.K fd ps []) (hm : mg x = some (.ref f)) : Cal P w C mg base k x sp := ⟨f, fd, ps, ok, hm, F.kp, b⟩
theorem met_mk {c : Nat} (ok : FnOk P w C.K mg base CX0 k f fd ps sp) (cl : Cls C.K (C.cl c)) (m : Meth C.K (C.cl c) x f) (b : Binds C.K fd ps []) : Met P w C mg base k c x sp := ⟨f, fd, ps, ok, cl, m, b⟩
theorem Fun.kbn (F : Fun C.K x qual st f fd) (n : Nat) (ks : List Str) (ix : List Nat)
    (h : ∀ (kV doc pm : Value) (an : Option Addr) (cdv ct : Value) (us ws : List Value), us.length = n → ws.length = ks.length → bindArgs (PySem.W.fnOf x qual (defArgs st) (defBody st) (defScope st) .none kV doc pm an cdv ct) ⟨us, ks.zip ws⟩ = pure (ps.zip (us ++ perm ix ws))) :
    KBn C.K fd ps n ks (fun us ws => us ++ perm ix ws) (fun vs zs => vs ++ perm ix zs) := by
  obtain ⟨oc, od, kV, doc, pm, an, cdv, ct, osl, rfl, lk, hcd⟩ := F.ex
  exact ⟨fun s us ws X l1 l2 => .of_eq (h kV doc pm an cdv ct us ws l1 l2), fun r1 r2 => r1.append (DL.Vals.perm r2 ix)⟩
end
theorem walk {l : PySem.W.OpenLaw} {q : Program} {loose : List Str} {XP : (Str → Option Value) → Heap → Prop} {YP : World → Heap → Prop} {d : DefRec} {K : Params → PySem.W.Frag} {k : Nat} (x : Str) (hk : k ≤ 100) (hn : l.most = some 63) (hdf : d.params.defaults = [])
    (hY : ∀ (w : World) (h : Heap), YP w h → (K w.params).In h)
    (F : ∀ (w : World) (mg : Str → Option Value) (fa : Addr) (h : Heap), (K w.params).In h → h.Ns mainGlobals mg → mg d.name = some (.ref fa) →
      ∃ fd : FuncData, (∀ (s : Shared) (u : Value), BindsTo s fd ⟨[u], []⟩ [(x, u)]) ∧ ∀ base : Heap, (K w.params).In base → base.Ns mainGlobals mg → FnOk l.prog w (K w.params) mg base CX0 k fa fd [x] (spLaw (K w.params))) :
    PySem.W.WalkO q loose XP YP l.row.toRowW d [] (fun f vs => PySem.call f vs) :=
  L2.walk_of (n := 63) (k := k) (x := x) (CX := fun _ => CX0) (sp := fun w => spLaw (K w.params)) hn (by decide) hdf (Room.mono (k := 100) ⟨rfl, by decide, by decide⟩ hk) hY F (fun _ _ a ns hl _ hS => ⟨a, ns, rfl, hl, hS, fun _ => rfl⟩) fun _ _ _ _ _ z => z
end DL
/-! DLD: texts: ==, f-strings, str; in; a list taken apart. -/
namespace DL
open PySem L2
section
variable {F : Fam} {S S1 S2 S3 : ST} {e a b c : Expr} {d x y z : D} {pos p apos : Pos} {es : List Expr} {ds : List D} {k : Nat} {nm : Str} {P : Po} {rest : List Stmt} {cn : Nat} {fs : List (Str × D)} {R : List D → D → Prop}
theorem od_eqS {i j : Str} : OpD F (compareOp .Eq) (.str i) (.str j) (.bl (decide (i = j))) := ⟨_, fun _ => op_eq, fun G H u v s hu hv Q q => by
  cases hu; cases hv
  refine ⟨rfl, ?_⟩
  have e : decide (V.str i = V.str j) = decide (i = j) := by
    by_cases h : i = j
    · rw [decide_eq_true h, decide_eq_true (by rw [h])]
    · rw [decide_eq_false h, decide_eq_false (by intro z; exact h (V.str.inj z))]
  rw [e]
  exact q _ _ _ (.refl s) (.bl _)⟩
theorem od_neS {i j : Str} : OpD F (compareOp .NotEq) (.str i) (.str j) (.bl (!decide (i = j))) := ⟨_, fun _ => op_ne, fun G H u v s hu hv Q q => by
  cases hu; cases hv
  refine ⟨rfl, ?_⟩
  have e : decide (V.str i = V.str j) = decide (i = j) := by
    by_cases h : i = j
    · rw [decide_eq_true h, decide_eq_true (by rw [h])]
    · rw [decide_eq_false h, decide_eq_false (by intro z; exact h (V.str.inj z))]
  rw [e]
  exact q _ _ _ (.refl s) (.bl _)⟩
/-! ### str -/
theorem ca_strI {i : Int} (h : i.natAbs.log2 < 1920) : CaD F (.type "str") [.int i] (.str (toString i)) := ⟨_, fun _ => call_str_int, fun G H us s hl Q q => by
  cases hl with
  | cons h1 l => cases h1; cases l; exact ⟨i, rfl, h, q _ _ _ (.refl s) (.str _)⟩⟩
theorem run_in2 {X : Cx} {pins : List (Addr × Obj)} {σ : L2.St} {H : Hp} {s : Shared} {Q : VK} {us : List Value} {vs : List V} {f : Addr} {fd : FuncData} {ps : List Str} {sp : Sp} (G : FnOk X.prog X.w X.K X.mg X.base CX0 k f fd ps sp) (hr : Room (k + 2) X.A) (hb : Binds X.K fd ps []) (I : Inv X pins σ H s) (r : Vals vs us) (h : sp vs H Q E0) :
    wpAny (model X.prog X.w) X.A.in1.in1 (call (.ref f) us) (EP X pins σ Q) X.xe s := by
  have hl : (us ++ []).length = ps.length := by rw [List.append_nil, ← r.length]; exact G.len _ _ _ _ h
  refine wpAny_call (codeAny_mono (G.run X.A.in1.in1 X.stack s H ⟨us, []⟩ us vs Q E0 hr.in1.in1 I.env0.in1.in1 (by have := hb s us I.kIn hl; rw [List.append_nil] at this; exact this) r h) fun r s' hq => ?_)
  cases r with
  | error e => exact hq.elim
  | ok fl =>
    cases fl with
    | ret u => exact I.after hq
    | next => exact False.elim hq
    | brk => exact False.elim hq
    | cont => exact False.elim hq
/-- str(x) by the own __str__ of x's class -/
theorem ca_strO {t : Str} (mt : Met F.P F.w F.C F.mg F.base k cn "__str__" (spP F.C R)) (hk : k + 2 ≤ F.k) (hR : R [.obj cn fs] (.str t)) : CaD F (.type "str") [.obj cn fs] (.str t) := by
  obtain ⟨f, fd, ps, G, hc, hme, hb⟩ := mt
  refine ⟨fun xs H Q => ∃ a dx vs, xs = [.ref a] ∧ H a = some (.ins (F.C.cl cn) dx vs) ∧ spP F.C R [.ref a] H (fun v H' => ∃ b, v = .str b ∧ Q (.str b) H') E0, fun l => ?_, fun G H us s hu Q q => ?_⟩
  · intro pins s σ H xs us Q I rx h
    obtain ⟨a, dx, vs, rfl, ha, hsp⟩ := h
    cases rx with
    | cons r0 r1 =>
      cases r1
      cases r0
      obtain ⟨od, J⟩ := inst_of I ha
      refine PySem.W.kso_call ((F.room l).mono hk).in1.in1.units0 I.kIn J (by rw [F.hK l]; exact hme.at_) (by rw [F.hK l]; exact hme.fn) ?_
      refine wpAny_mono (run_in2 (vs := [.ref a]) (fn_at G) ((F.room l).mono hk) (by rw [F.hK l]; exact hb) I (.cons rfl .nil) hsp) (fun w s' hw => ?_) fun _ _ e => e
      obtain ⟨w', H', I', rw', b, rfl, q⟩ := hw
      obtain ⟨tk, rfl⟩ := rw'
      exact ⟨.str b, H', I', ⟨tk, rfl⟩, q⟩
  · cases hu with
    | cons h0 l0 =>
      have h0' := h0
      cases l0
      cases h0 with
      | obj _ h1 h2 => exact ⟨_, _, _, rfl, s _ _ h1, G, _, _, hR, s, .cons h0' .nil, fun v G2 H2 p dv => by cases dv; exact ⟨t, rfl, q _ _ _ p (.str _)⟩⟩
/-! ### f-strings -/
theorem de_fmtI {i : Int} (h : DE F e S S1 (.int i)) (hz : i.natAbs.log2 < 1920) : DE F (.FormattedValue e (-1) none pos) S S1 (.str (toString i)) :=
  de_of (te := tFmt (anyE F e)) (fun l => pe_fmt (anyE_ok l)) fun σ G H c Q q => h σ G H c _ fun v G1 H1 m dv => by cases dv; exact .inr ⟨i, rfl, hz, q _ _ _ m (.str _)⟩
theorem de_fmtS {t : Str} (h : DE F e S S1 (.str t)) (hz : t.length ≤ sizeLine) : DE F (.FormattedValue e (-1) none pos) S S1 (.str t) :=
  de_of (te := tFmt (anyE F e)) (fun l => pe_fmt (anyE_ok l)) fun σ G H c Q q => h σ G H c _ fun v G1 H1 m dv => by cases dv; exact .inl ⟨t, rfl, hz, q _ _ _ m (.str _)⟩
theorem de_join1 (h : DE F e S S1 d) : DE F (.JoinedStr [e] pos) S S1 d :=
  de_of (te := anyE F e) (fun l => pe_joined1 (anyE_ok l)) fun σ G H c Q q => h σ G H c Q q
def DJ (F : Fam) (es : List Expr) (acc : Str) (S S' : ST) (out : Str) : Prop := ∀ σ G H, Ctx F.C G H σ S → ∀ Q : Str → Hp → Prop, (∀ G2 H2, Mv F.C σ S G H S' G2 H2 → Q out H2) → tJs (es.map (anyE F)) acc σ H Q
theorem dj_nil {acc : Str} : DJ F [] acc S S acc := fun σ G H c Q q => q G H (.refl c)
theorem dj_cons {acc t out : Str} (h : DE F e S S1 (.str t)) (hz : (acc ++ t).length ≤ sizeLine) (hr : DJ F es (acc ++ t) S1 S2 out) : DJ F (e :: es) acc S S2 out := fun σ G H c Q q =>
  h σ G H c _ fun v G1 H1 m dv => by
    cases dv
    exact ⟨t, rfl, hz, hr σ G1 H1 m.cx Q fun G2 H2 m2 => q G2 H2 (m.trans m2)⟩
theorem pj_any (i : F.I) : ∀ es : List Expr, PJ (F.X i) es (es.map (anyE F))
  | [] => .nil
  | _ :: es => .cons (anyE_ok i) (pj_any i es)
theorem de_join {v1 v2 : Expr} {out : Str} (h : DJ F (v1 :: v2 :: es) Str.empty S S1 out) : DE F (.JoinedStr (v1 :: v2 :: es) pos) S S1 (.str out) :=
  de_of (fun i => pe_joined (pj_any i (v1 :: v2 :: es))) fun σ G H c Q q => h σ G H c _ fun G2 H2 m => q _ _ _ m (.str _)
/-! ### in -/
theorem od_inS {t : Str} {ss : List Str} : OpD F (compareOp .In) (.str t) (.tup (ss.map D.str)) (.bl (inV (.str t) (ss.map V.str))) := ⟨rIn F.C.K false, fun i => by have := op_in_seq (X := F.X i); rw [F.hK i] at this; exact this, fun G H u v s hu hv Q q => by
  cases hu
  cases hv with
  | @tup a vs _ h1 h2 =>
    have e := denL_str h2
    subst e
    exact ⟨a, _, rfl, .inr (same_t s h1), rfl, by simp [flatV], q _ _ _ (.refl s) (.bl _)⟩⟩
theorem od_ninS {t : Str} {ss : List Str} : OpD F (compareOp .NotIn) (.str t) (.tup (ss.map D.str)) (.bl (!inV (.str t) (ss.map V.str))) := ⟨rIn F.C.K true, fun i => by have := op_notIn_seq (X := F.X i); rw [F.hK i] at this; exact this, fun G H u v s hu hv Q q => by
  cases hu
  cases hv with
  | @tup a vs _ h1 h2 =>
    have e := denL_str h2
    subst e
    exact ⟨a, _, rfl, .inr (same_t s h1), rfl, by simp [flatV], q _ _ _ (.refl s) (.bl _)⟩⟩
/-! ### a, b = [..] -/
theorem dg_lst {tgs : List Expr} {kk : Nat} {js : List Nat} (h : DGs F tgs ds S S1 js) (hp : ∀ i, PG (F.X i) (.Tuple tgs kk pos) (gLst (F.X i).K ds.length (anyGs F tgs)) := by intro i; exact pg_lst (Fam.calm _ i) (anyGs_ok i)) : DG F (.Tuple tgs kk pos) (.lst ds) S S1 js := fun σ G H v c dv Q q =>
  ⟨gLst F.C.K ds.length (anyGs F tgs), fun i => by have := hp i; rw [F.hK i] at this; exact this, by
    cases dv with
    | lst h1 h2 => exact ⟨_, _, rfl, c.sub.seq h1, h2.length, h σ G H _ c h2 Q q⟩⟩
end
/-- a tuple of the top, in the written part -/
theorem den_kt {C : Kc} {G : Hp} {a : Addr} {oc : Value} {od : Option Addr} {n : Nat} {sl : Array (Option Value)} {its : List Value} {vs : List V} {ds : List D} (h : C.K.lookup a = some ⟨oc, od, .seq its.toArray n, sl⟩) (hc : oc = .type "tuple") (hz : its.length ≤ sizeLine) (r : Vals vs its) (d : DenL C G vs ds) : Den C G (.ref a) (.tup ds) :=
  .tup (.inr ⟨_, its.toArray, n, h, hc, rfl, by simpa using hz, by simpa using r⟩) d
end DL
/-! DLG: defs that run where no repr is under way; repr of data. (Calls and defs: printed by dlg_gen.py from DL3 and DLA.) -/
namespace DL
open PySem PySem.Spec PyProof.Rows L2
/-- a promise kept wherever no repr is under way -/
structure FnG (P : Program) (w : World) (K : PySem.W.Frag) (mg : Str → Option Value) (base : Heap) (k : Nat) (f : Addr) (fd : FuncData) (ps : List Str) (sp : Sp) : Prop where
  size : ∀ vs H Q E, sp vs H Q E → vs.length = ps.length
  runs : ∀ (A : Around), Room k A → A.guards = some [] → ∀ (outer : List Env) (s : Shared) (H : Hp), Env0 P w K mg base A outer s H → ∀ (args : Args) (us : List Value), BindsTo s fd args (ps.zip us) → ∀ (vs : List V) (Q : VK) (E : XK), Vals vs us → sp vs H Q E → codeAny (model P w) A (.call (.ref f) args) (CR CX0 outer P w H s Q E) s
section
variable {P : Program} {w : World} {K : PySem.W.Frag} {mg : Str → Option Value} {base : Heap} {k : Nat} {f : Addr} {fd : FuncData} {ps : List Str} {sp sp' : Sp}
theorem FnG.of (F : FnOk P w K mg base CX0 k f fd ps sp) : FnG P w K mg base k f fd ps sp := ⟨F.len, fun A hr _ outer s H e args us b vs Q E r q => F.run A outer s H args us vs Q E hr e b r q⟩
theorem FnG.imp (F : FnG P w K mg base k f fd ps sp) (h : ∀ vs H Q E, sp' vs H Q E → sp vs H Q E) : FnG P w K mg base k f fd ps sp' := ⟨fun vs H Q E q => F.size vs H Q E (h _ _ _ _ q), fun A hr hA outer s H e args us b vs Q E r q => F.runs A hr hA outer s H e args us b vs Q E r (h _ _ _ _ q)⟩
/-- THE RULE: the body read at an Around without a repr under way -/
theorem okG {x qual : Str} {st : Stmt} {N : List Str} (F : Fun K x qual st f fd) (Sc : FnScope N ps (defScope st)) (len : ∀ vs H Q E, sp vs H Q E → vs.length = ps.length)
    (hbody : ∀ (cdv : Value) (A : Around) (outer : List Env) (s : Shared) (H : Hp) (vs : List V) (Q : VK) (E : XK), Room k (A.deeper (PyProof.Rows.envOfC qual (defScope st) s.heap.objs.size f cdv)) → A.guards = some [] → sp vs H Q E →
      ∃ t, PSs (cxOf CX0 P w K mg base N qual (defScope st) f cdv A outer s H E).nox (defBody st) t ∧ t { nx := fun _ H' => Q .non H', rt := Q } (L2.start N vs) H) : FnG P w K mg base (k + 1) f fd ps sp := by
  obtain ⟨oc, od, kV, doc, pm, an, cdv, ct, osl, rfl, lk, hcd⟩ := F.ex
  refine ⟨len, fun A hr hA outer s H en args us b vs Q E r q => ?_⟩
  have kept : ∀ a o, base.get? a = some o → s.heap.get? a = some o := fun a o h => (en.bs a o h).1
  have hK : K.In s.heap := en.mod.kin.keeps kept
  refine codeAny_call_function hr.depth (hK _ _ lk) rfl Sc.co Sc.gen rfl (PySem.W.codeRec_of hK hcd) (b _ _ _ _ ?_)
  refine wpAny_newFunctionEnv_cells Sc.kind ?_ ?_
  · rintro ⟨n, v⟩ hy
    exact (Sc.par n (List.of_mem_zip hy).1).imp id fun c => ⟨c, PySem.W.cellsFrom_some _ _ _ (.inl c)⟩
  · rintro env rfl s1 x1
    refine ⟨(en.mod.nolimit.keeps kept).keeps x1.toInCall.keep, codeAny_func ?_⟩
    obtain ⟨t, h1, h2⟩ := hbody cdv A outer s H vs Q E (hr.deeper _) hA q
    have J0 := inv_start (CX := CX0) (E := E) Sc hr.hd en (len _ _ _ _ q) r x1
    refine wpAny_mono (h1.nox.run [] s1 (L2.start N vs) H _ J0 h2) (fun fl s2 z => ?_) fun _ _ z => z
    cases fl with
    | next => obtain ⟨_, H2, J, z⟩ := z; exact ⟨.non, H2, J.os, J.bare, J.base, J.hok, rfl, z⟩
    | ret u => obtain ⟨v, _, H2, J, rv, z⟩ := z; exact ⟨v, H2, J.os, J.bare, J.base, J.hok, rv, z⟩
    | brk => obtain ⟨_, _, _, z⟩ := z; exact z.elim
    | cont => obtain ⟨_, _, _, z⟩ := z; exact z.elim
theorem run_fnG {X : Cx} {pins : List (Addr × Obj)} {σ : L2.St} {H : Hp} {s : Shared} {Q : VK} {us : List Value} {vs : List V} (hA : X.A.guards = some []) (F : FnG X.prog X.w X.K X.mg X.base k f fd ps sp) (hr : Room k X.A) (hb : Binds X.K fd ps []) (I : Inv X pins σ H s) (r : Vals vs us) (h : sp vs H Q E0) :
    wpAny (model X.prog X.w) X.A (call (.ref f) us) (EP X pins σ Q) X.xe s := by
  have hl : (us ++ []).length = ps.length := by rw [List.append_nil, ← r.length]; exact F.size _ _ _ _ h
  have bd := hb s us I.kIn hl
  rw [List.append_nil] at bd
  refine wpAny_call (codeAny_mono (F.runs X.A hr hA X.stack s H I.env0 ⟨us, []⟩ us bd vs Q E0 r h) fun z s2 hz => ?_)
  cases z with
  | error _ => exact hz.elim
  | ok fl => cases fl with
    | ret _ => exact I.after hz
    | next => exact hz.elim
    | brk => exact hz.elim
    | cont => exact hz.elim
theorem pe_callG {X : Cx} {x : Str} {p pos : Pos} {e : Expr} {es : List Expr} {t : TA} (hA : X.A.guards = some []) (F : FnG X.prog X.w X.K X.mg X.base k f fd ps sp) (hr : Room k X.A) (hg : Gl X x) (hm : X.mg x = some (.ref f)) (hk : PySem.W.keepIn X.K (.ref f) = true) (hb : Binds X.K fd ps []) (_ : Vals ([] : List V) []) (_ : True) (ha : PA X (e :: es) t)
    (hdb : (x == ("__debug__" : Str)) = false) (he : starEach (e :: es) X.env = (false, eval e X.env) :: starEach es X.env) (hpl : (backTo pos (starEach es X.env)).any (·.1) = false) : PE X (.Call (.Name x p) (e :: es) [] pos) (tCall sp [] E0 t) :=
  ⟨fun pins s σ H Q I h => wpAny_Call_Name_kw (ld_glob I hg hm (PySem.W.callWith_K (h₀ := X.base) I.ok.mod.kin hk (thn (ha.run pos pins s σ H _ I h) fun us s1 ⟨vs, H1, I1, r, q⟩ => ⟨I1.kIn, run_fnG hA F hr hb I1 r (by have q1 : sp (vs ++ []) H1 Q E0 := q; rw [List.append_nil] at q1; exact q1)⟩) he hpl) hdb)⟩
end
def CalG (P : Program) (w : World) (C : Kc) (mg : Str → Option Value) (base : Heap) (k : Nat) (x : Str) (sp : Sp) : Prop := ∃ f fd ps, FnG P w C.K mg base k f fd ps sp ∧ mg x = some (.ref f) ∧ PySem.W.keepIn C.K (.ref f) = true ∧ Binds C.K fd ps []
section
variable {F : Fam} {S S1 S2 S3 : ST} {e a b : Expr} {d x y z : D} {pos p apos : Pos} {es : List Expr} {ds : List D} {k : Nat} {nm : Str}
theorem fn_atG {i : F.I} {f : Addr} {fd : FuncData} {ps : List Str} {sp : Sp} (G : FnG F.P F.w F.C.K F.mg F.base k f fd ps sp) : FnG (F.X i).prog (F.X i).w (F.X i).K (F.X i).mg (F.X i).base k f fd ps sp := by
  rw [F.hP, F.hw, F.hK, F.hmg, F.hbase]; exact G
theorem de_callG (hG : ∀ i, (F.X i).A.guards = some []) {R : List D → D → Prop} (c : CalG F.P F.w F.C F.mg F.base k nm (spP F.C R)) (ha : DA F (e :: es) S S1 ds) (hR : R ds d) (hk : k ≤ F.k := by exact Nat.le_of_ble_eq_true rfl)
    (hg : ∀ i, Gl (F.X i) nm := by intro _; rfl) (hdb : (nm == ("__debug__" : Str)) = false := by decide)
    (he : ∀ i, starEach (e :: es) (F.X i).env = (false, eval e (F.X i).env) :: starEach es (F.X i).env := by intro _; rfl) (hpl : ∀ i, (backTo pos (starEach es (F.X i).env)).any (·.1) = false := by intro _; rfl) : DE F (.Call (.Name nm p) (e :: es) [] pos) S S1 d := by
  obtain ⟨f, fd, ps, G, hm, hkp, hb⟩ := c
  refine de_of (te := tCall (spP F.C R) [] E0 (anyA F (e :: es))) (fun i => pe_callG (hG i) (fn_atG G) ((F.room i).mono hk) (hg i) (by rw [F.hmg i]; exact hm) (by rw [F.hK i]; exact hkp) (by rw [F.hK i]; exact hb) .nil trivial (anyA_ok i) hdb (he i) (hpl i)) ?_
  intro σ G H cx Q q
  refine ha σ G H cx _ fun vs G1 H1 m dl => ?_
  rw [List.append_nil]
  exact ⟨G1, ds, d, hR, m.cx.sub, dl, fun v G2 H2 p dv => q v G2 H2 (m.pu p) dv⟩
theorem de_callBagG (hG : ∀ i, (F.X i).A.guards = some []) {R : List D → List D → D → List D → Prop} {j : Nat} {x : Str} {bb : Addr} {gs gs' : List D} {q' : Pos} (c : CalG F.P F.w F.C F.mg F.base k nm (spB F.C R)) (hj : S.s[j]? = some (some .bag)) (hS : S.g.map (·.1) = some bb) (ha : DA F es S S1 ds) (hg : S1.g = some (bb, .lst gs)) (hR : R ds gs d gs') (hk : k ≤ F.k := by exact Nat.le_of_ble_eq_true rfl)
    (hN : ∀ i, (F.X i).N[j]? = some x := by intro _; rfl) (hv : ∀ i, Vis (F.X i).env.scope x := by intro _; first | exact Or.inl rfl | exact Or.inr (Or.inl rfl) | exact Or.inr (Or.inr rfl))
    (hd : (x == ("__debug__" : Str)) = false := by decide) (hcd : (x == ("__classdict__" : Str)) = false := by decide)
    (hgl : ∀ i, Gl (F.X i) nm := by intro _; rfl) (hdb : (nm == ("__debug__" : Str)) = false := by decide)
    (he : ∀ i, starEach (.Name x q' :: es) (F.X i).env = (false, eval (.Name x q') (F.X i).env) :: starEach es (F.X i).env := by intro _; rfl) (hpl : ∀ i, (backTo pos (starEach es (F.X i).env)).any (·.1) = false := by intro _; rfl) :
    DE F (.Call (.Name nm p) (.Name x q' :: es) [] pos) S ⟨S1.s, some (bb, .lst gs')⟩ d := by
  obtain ⟨f, fd, ps, G, hm, hkp, hb⟩ := c
  refine de_of (te := tCall (spB F.C R) [] E0 (tCons (tVar j) (anyA F es))) (fun i => pe_callG (hG i) (fn_atG G) ((F.room i).mono hk) (hgl i) (by rw [F.hmg i]; exact hm) (by rw [F.hK i]; exact hkp) (by rw [F.hK i]; exact hb) .nil trivial (pa_bag i (hN i) (hv i) hd hcd (he i)) hdb (he i) (hpl i)) ?_
  intro σ G H cx Q q
  have hb0 : σ[j]? = some (some (.ref bb)) := by
    cases e : S.g with
    | none => rw [e] at hS; cases hS
    | some bo =>
      obtain ⟨b0, o⟩ := bo
      rw [e] at hS
      cases hS
      exact cx.bg j _ o e hj
  refine ⟨_, hb0, ha σ G H cx _ fun vs G1 H1 m dl => ?_⟩
  have z := m.cx.bag
  rw [hg] at z
  obtain ⟨z1, gv, z2, z3⟩ := z
  refine ⟨G1, bb, vs, gv, ds, gs, d, gs', List.append_nil _, hR, m.cx.sub, z1, z2, z3, dl, fun v G2 H2 gv' go sub g2 h2 dl' dv => ?_⟩
  exact q v G2 H2 (m.trans (ctx_bag m.cx hg go sub g2 h2 dl')) dv
theorem do_callG (hG : ∀ i, (F.X i).A.guards = some []) {R : List D → List D → Prop} {gs : List D} (c : CalG F.P F.w F.C F.mg F.base k nm (spO F.C R)) (ha : DA F (e :: es) S S1 ds) (hR : R ds gs) (hk : k ≤ F.k := by exact Nat.le_of_ble_eq_true rfl)
    (hg : ∀ i, Gl (F.X i) nm := by intro _; rfl) (hdb : (nm == ("__debug__" : Str)) = false := by decide)
    (he : ∀ i, starEach (e :: es) (F.X i).env = (false, eval e (F.X i).env) :: starEach es (F.X i).env := by intro _; rfl) (hpl : ∀ i, (backTo pos (starEach es (F.X i).env)).any (·.1) = false := by intro _; rfl) : DO F (.Call (.Name nm p) (e :: es) [] pos) S S1 gs := by
  obtain ⟨f, fd, ps, G, hm, hkp, hb⟩ := c
  refine do_of (te := tCall (spO F.C R) [] E0 (anyA F (e :: es))) (fun i => pe_callG (hG i) (fn_atG G) ((F.room i).mono hk) (hg i) (by rw [F.hmg i]; exact hm) (by rw [F.hK i]; exact hkp) (by rw [F.hK i]; exact hb) .nil trivial (anyA_ok i) hdb (he i) (hpl i)) ?_
  intro σ G H cx Q q
  refine ha σ G H cx _ fun vs G1 H1 m dl => ?_
  refine ⟨G1, ds, gs, hR, m.cx.sub, by rw [List.append_nil]; exact dl, fun p ev G2 H2 pu hp g2 h2 de => ?_⟩
  have hp0 : H p = none := by
    cases r : H p with
    | none => rfl
    | some o => exact absurd hp (m.go.dom p (by rw [r]; simp))
  exact q p ev G2 H2 (m.pu pu) hp0 g2 h2 de
theorem de_callNewG (hG : ∀ i, (F.X i).A.guards = some []) {R : List D → List D → D → List D → Prop} {gs gs' : List D} (c : CalG F.P F.w F.C F.mg F.base k nm (spB F.C R)) (ha : DO F e S S1 gs) (hR : R [] gs d gs') (hk : k ≤ F.k := by exact Nat.le_of_ble_eq_true rfl)
    (hg : ∀ i, Gl (F.X i) nm := by intro _; rfl) (hdb : (nm == ("__debug__" : Str)) = false := by decide)
    (he : ∀ i, starEach [e] (F.X i).env = (false, eval e (F.X i).env) :: starEach [] (F.X i).env := by intro _; rfl) (hpl : ∀ i, (backTo pos (starEach [] (F.X i).env)).any (·.1) = false := by intro _; rfl) : DE F (.Call (.Name nm p) [e] [] pos) S S1 d := by
  obtain ⟨f, fd, ps, G, hm, hkp, hb⟩ := c
  refine de_of (te := tCall (spB F.C R) [] E0 (tCons (anyE F e) tNil)) (fun i => pe_callG (hG i) (fn_atG G) ((F.room i).mono hk) (hg i) (by rw [F.hmg i]; exact hm) (by rw [F.hK i]; exact hkp) (by rw [F.hK i]; exact hb) .nil trivial (pa_cons (anyE_ok i) pa_nil (he i)) hdb (he i) (hpl i)) ?_
  intro σ G H cx Q q
  refine ha σ G H cx _ fun p vs G1 H1 m hp g1 h1 dl => ?_
  have nOA : ¬ OA F.C σ S1 p := fun z => by
    rcases m.oa p z with ⟨j, es, r1, r2⟩ | ⟨o, r⟩
    · obtain ⟨a, ws, q1, _, q3, _⟩ := cx.ow j es r1
      rw [r2] at q1; cases q1; rw [hp] at q3; cases q3
    · have z := cx.bag
      rw [r] at z
      cases o with
      | lst => obtain ⟨_, _, h3, _⟩ := z; rw [hp] at h3; cases h3
      | ins => obtain ⟨_, _, _, h3, _⟩ := z; rw [hp] at h3; cases h3
  refine ⟨G1, p, [], vs, [], gs, d, gs', rfl, hR, m.cx.sub, g1, h1, dl, .nil, fun v G2 H2 gv' go sub g2 h2 dl' dv => ?_⟩
  refine q v G2 H2 ⟨⟨fun a o n h => ?_, m.go.gg.trans go.gg, fun a n h g => ?_, fun a h => go.dom a (m.go.dom a h)⟩, ?_, m.oa⟩ dv
  · have na : a ≠ p := fun z => by rw [z, hp] at h; cases h
    exact go.keep a o na (m.go.keep a o n h)
  · have na : a ≠ p := fun z => h (by rw [z]; exact hp)
    exact go.fr a na (m.go.dom a h) (m.go.fr a n h g)
  · have c1 := m.cx
    have nb : ∀ o, S1.g ≠ some (p, o) := fun o r => nOA (.inr ⟨o, r⟩)
    refine ⟨sub, c1.len, fun i d h => ?_, fun i es h => ?_, c1.apart, c1.bg, ?_, c1.nob⟩
    · obtain ⟨v, h1, h2⟩ := c1.im i d h
      exact ⟨v, h1, h2.mono go.gg⟩
    · obtain ⟨a, ws, r1, r2, r3, r4⟩ := c1.ow i es h
      have na : a ≠ p := fun z => nOA (.inl ⟨i, es, h, by rw [← z]; exact r1⟩)
      exact ⟨a, ws, r1, go.fr a na (by rw [r3]; simp) r2, go.keep a _ na r3, r4.mono go.gg⟩
    · have z := c1.bag
      cases r : S1.g with
      | none => trivial
      | some bo =>
        obtain ⟨b, o⟩ := bo
        have nq : b ≠ p := fun e => nb o (by rw [r, e])
        rw [r] at z
        cases o with
        | lst es => obtain ⟨h1, ws, h2, h3⟩ := z; exact ⟨go.fr b nq (by rw [h2]; simp) h1, ws, go.keep b _ nq h2, h3.mono go.gg⟩
        | ins cc fs => obtain ⟨h1, dx, ws, h2, h3⟩ := z; exact ⟨go.fr b nq (by rw [h2]; simp) h1, dx, ws, go.keep b _ nq h2, h3.mono go.gg⟩
end
section
variable {P : Program} {w : World} {C : Kc} {mg : Str → Option Value} {base : Heap}
theorem fnPG {x qual : Str} {st : Stmt} {f : Addr} {fd : FuncData} {N ps : List Str} {k : Nat} {R : List D → D → Prop} (F : Fun C.K x qual st f fd) (Sc : FnScope N ps (defScope st)) (len : ∀ ds d, R ds d → ds.length = ps.length)
    (body : ∀ ds d, R ds d → ∀ cdv A outer s H E hr, A.guards = some [] → DS (famD C P w mg base N Sc.nd qual (defScope st) f cdv A outer s H E k hr) (defBody st) ⟨start N ds, none⟩ { rt := fun d' _ => d' = d, nx := fun _ => d = .non }) : FnG P w C.K mg base (k + 1) f fd ps (spP C R) := by
  refine okG F Sc (fun vs H Q E h => ?_) (fun cdv A outer s H vs Q E hr hA h => ?_)
  · obtain ⟨G, ds, d, hR, _, dl, _⟩ := h
    rw [dl.length]; exact len ds d hR
  · obtain ⟨G, ds, d, hR, sub, dl, q⟩ := h
    refine ⟨_, anyS_ok (F := famD C P w mg base N Sc.nd qual (defScope st) f cdv A outer s H E k hr) (), ?_⟩
    have key : ∀ σ2 S2 G2 H2, Mw C (L2.start N vs) ⟨start N ds, none⟩ G H σ2 S2 G2 H2 → Pu G H G2 H2 := fun σ2 S2 G2 H2 m =>
      ⟨fun a o h => m.go.keep a o (oa_start dl a) h, m.go.gg, m.cx.sub, fun a h1 h2 => m.go.fr a (oa_start dl a) h1 h2⟩
    refine body ds d hR cdv A outer s H E hr hA (L2.start N vs) G H (ctx_start sub dl) _ ⟨fun σ2 S2 G2 H2 m e => ?_, fun v d' σ2 S2 G2 H2 m dv e => ?_, fun _ _ _ _ _ e => e.elim, fun _ _ _ _ _ e => e.elim, fun _ _ _ _ _ _ _ _ _ _ _ _ e => e.elim⟩
    · exact q .non G2 H2 (key _ _ _ _ m) (by rw [e]; exact .non)
    · cases e
      exact q v G2 H2 (key _ _ _ _ m) dv
theorem fnOG {x qual : Str} {st : Stmt} {f : Addr} {fd : FuncData} {N ps : List Str} {k : Nat} {R : List D → List D → Prop} (F : Fun C.K x qual st f fd) (Sc : FnScope N ps (defScope st)) (len : ∀ ds es, R ds es → ds.length = ps.length)
    (body : ∀ ds es, R ds es → ∀ cdv A outer s H E hr, A.guards = some [] → DS (famD C P w mg base N Sc.nd qual (defScope st) f cdv A outer s H E k hr) (defBody st) ⟨start N ds, none⟩ { ro := fun es' _ => es' = es }) : FnG P w C.K mg base (k + 1) f fd ps (spO C R) := by
  refine okG F Sc (fun vs H Q E h => ?_) (fun cdv A outer s H vs Q E hr hA h => ?_)
  · obtain ⟨G, ds, es, hR, _, dl, _⟩ := h
    rw [dl.length]; exact len ds es hR
  · obtain ⟨G, ds, es, hR, sub, dl, q⟩ := h
    refine ⟨_, anyS_ok (F := famD C P w mg base N Sc.nd qual (defScope st) f cdv A outer s H E k hr) (), ?_⟩
    refine body ds es hR cdv A outer s H E hr hA (L2.start N vs) G H (ctx_start sub dl) _ ⟨fun _ _ _ _ _ e => e.elim, fun _ _ _ _ _ _ _ _ e => e.elim, fun _ _ _ _ _ e => e.elim, fun _ _ _ _ _ e => e.elim, fun p ev es' σ2 S2 G2 H2 m h1 h2 h3 h4 e => ?_⟩
    cases e
    exact q p ev G2 H2 ⟨fun a o h => m.go.keep a o (oa_start dl a) h, m.go.gg, m.cx.sub, fun a h1 h2 => m.go.fr a (oa_start dl a) h1 h2⟩ h1 h2 h3 h4
theorem fnBG {x qual : Str} {st : Stmt} {f : Addr} {fd : FuncData} {n : Str} {N ps : List Str} {k : Nat} {R : List D → List D → D → List D → Prop} (F : Fun C.K x qual st f fd) (Sc : FnScope (n :: N) ps (defScope st)) (len : ∀ ds gs d gs', R ds gs d gs' → ds.length + 1 = ps.length)
    (body : ∀ ds gs d gs', R ds gs d gs' → ∀ b cdv A outer s H E hr, A.guards = some [] → DS (famD C P w mg base (n :: N) Sc.nd qual (defScope st) f cdv A outer s H E k hr) (defBody st) ⟨startB (n :: N) ds, some (b, .lst gs)⟩
      { rt := fun d' S => d' = d ∧ S.g = some (b, .lst gs'), nx := fun S => d = .non ∧ S.g = some (b, .lst gs') }) : FnG P w C.K mg base (k + 1) f fd ps (spB C R) := by
  refine okG F Sc (fun vs H Q E h => ?_) (fun cdv A outer s H vs Q E hr hA h => ?_)
  · obtain ⟨G, b, ws, gv, ds, gs, d, gs', rfl, hR, _, _, _, _, dl, _⟩ := h
    rw [List.length_cons, dl.length]; exact len ds gs d gs' hR
  · obtain ⟨G, b, ws, gv, ds, gs, d, gs', rfl, hR, sub, gb, hb, dg, dl, q⟩ := h
    refine ⟨_, anyS_ok (F := famD C P w mg base (n :: N) Sc.nd qual (defScope st) f cdv A outer s H E k hr) (), ?_⟩
    have fin : ∀ v σ2 S2 G2 H2, Mw C (L2.start (n :: N) (.ref b :: ws)) ⟨startB (n :: N) ds, some (b, .lst gs)⟩ G H σ2 S2 G2 H2 → S2.g = some (b, .lst gs') → Den C G2 v d → Q v H2 := fun v σ2 S2 G2 H2 m e dv => by
      have z := m.cx.bag
      rw [e] at z
      obtain ⟨z1, gv', z2, z3⟩ := z
      exact q v G2 H2 gv' (m.go.mono fun a => oa_startB dl a) m.cx.sub z1 z2 z3 dv
    refine body ds gs d gs' hR b cdv A outer s H E hr hA _ G H (ctx_startB sub dl ⟨gb, gv, hb, dg⟩) _ ⟨fun σ2 S2 G2 H2 m e => ?_, fun v d' σ2 S2 G2 H2 m dv e => ?_, fun _ _ _ _ _ e => e.elim, fun _ _ _ _ _ e => e.elim, fun _ _ _ _ _ _ _ _ _ _ _ _ e => e.elim⟩
    · exact fin .non _ _ _ _ m e.2 (by rw [e.1]; exact .non)
    · exact fin v _ _ _ _ m e.2 (e.1 ▸ dv)
theorem calG_mk {f : Addr} {fd : FuncData} {k : Nat} {ps : List Str} {x qual : Str} {st : Stmt} {sp : Sp} (ok : FnG P w C.K mg base k f fd ps sp) (F : Fun C.K x qual st f fd) (b : Binds C.K fd ps []) (hm : mg x = some (.ref f)) : CalG P w C mg base k x sp := ⟨f, fd, ps, ok, hm, F.kp, b⟩
theorem law_ofG {f : Addr} {fd : FuncData} {k : Nat} {ps : List Str} {R : List D → D → Prop} (h : FnG P w C.K mg base k f fd ps (spP C R)) (hR : ∀ is : List Int, is.length ≤ 63 → R [.lst (is.map D.int)] (.bl true)) : FnG P w C.K mg base k f fd ps (spLaw C.K) :=
  h.imp fun vs H Q E ⟨a, ns, e, hl, hS, q⟩ => ⟨H, _, _, hR ns hl, fun _ _ h => h, by subst e; exact .cons (.lst hS (denL_ints ns)) .nil, fun v G2 H2 _ d => by cases d; exact q _⟩
end
/-! ### the law's call -/
section
variable {P : Program} {w : World} {K : PySem.W.Frag} {mg mb : Str → Option Value} {s : Shared} {H : Hp} {a : Addr} {vs : List Value} {ns : List Int}
/-- what stands around the law's call, H telling of the script alone -/
theorem env_call (KX : K.In s.heap) (hns : s.heap.Ns mainGlobals mg) (hb : s.heap.Ns builtinsNs mb) (hbb : ∀ x : Str, x ≠ "__name__" → mb x = bootBuiltins x) (hlim : s.heap.NoLimit) (hg : s.gens = #[])
    (ha : s.heap.get? a = some { cls := .type "list", data := .seq vs.toArray }) (hok : HOk P w H s.heap) (hA : ∀ b, H b ≠ none → b = a) (hK : H a ≠ none → K.lookup a = none) :
    K.In (hidT s.heap H) ∧ (hidT s.heap H).Ns mainGlobals mg ∧ Env0 P w K mg (hidT s.heap H) callerA [] s H := by
  have nd : ∀ {b : Addr} {o : Obj} {es : Array DictEntry} {ep : Nat}, s.heap.get? b = some o → o.data = .dict es ep → H b = none := by
    intro b o es ep h1 h2
    by_cases z : H b = none
    · exact z
    · have e := hA b z
      rw [e, ha] at h1
      cases h1
      exact (nomatch (h2 : Data.seq vs.toArray _ = Data.dict es ep))
  have nk : ∀ {b : Addr} {m : Str → Option Value}, s.heap.Ns b m → (hidT s.heap H).Ns b m := by
    rintro b m ⟨o, es, ep, h1, h2, h3⟩
    exact ⟨o, es, ep, hidT_get h1 (nd h1 h2), h2, h3⟩
  have kin : K.In (hidT s.heap H) := by
    intro b o h1
    refine hidT_get (KX b o h1) ?_
    by_cases z : H b = none
    · exact z
    · have e := hA b z
      rw [e] at z h1
      rw [hK z] at h1
      cases h1
  obtain ⟨mc, l1, l2⟩ := hlim
  exact ⟨kin, nk hns, ⟨rfl, ⟨kin, nk hns, ⟨mb, nk hb, hbb⟩, ⟨mc, nk l1, l2⟩⟩, fun _ _ h => of_hidT h, Nat.le_of_eq (hidT_size _ _), trivial, fun _ h => (List.not_mem_nil h).elim, hok, .of_eq hg⟩⟩
/-- the abstract heap that tells of the script -/
def hScript (K : PySem.W.Frag) (a : Addr) (vs : List Value) (ns : List Int) : Hp := fun b => match K.lookup a with
  | some _ => none
  | none => if b = a then some (.frz { cls := .type "list", data := .seq vs.toArray } (.lst (ns.map V.int))) else none
theorem hScript_k {o : Obj} (h : K.lookup a = some o) : hScript K a vs ns = fun _ => none := by
  funext b; unfold hScript; rw [h]
theorem hScript_n (h : K.lookup a = none) (b : Addr) : hScript K a vs ns b = if b = a then some (.frz { cls := .type "list", data := .seq vs.toArray } (.lst (ns.map V.int))) else none := by
  unfold hScript; rw [h]
theorem law_callG {k : Nat} {fa : Addr} {fd : FuncData} {x : Str} (KX : K.In s.heap) (hns : s.heap.Ns mainGlobals mg) (hb : s.heap.Ns builtinsNs mb) (hbb : ∀ x : Str, x ≠ "__name__" → mb x = bootBuiltins x) (hlim : s.heap.NoLimit) (hg : s.gens = #[])
    (ha : s.heap.get? a = some { cls := .type "list", data := .seq vs.toArray }) (hi : IntsAre vs ns) (hl : ns.length ≤ 63) (hr : Room k callerA)
    (F : ∀ base : Heap, K.In base → base.Ns mainGlobals mg → FnG P w K mg base k fa fd [x] (spLaw K)) (hbind : ∀ (s : Shared) (u : Value), BindsTo s fd ⟨[u], []⟩ [(x, u)]) :
    codeAny (model P w) callerA (.call (.ref fa) ⟨[.ref a], []⟩) (fun r s' => r = .ok (.ret (.bool true)) ∧ OldK s.heap s'.heap ∧ s'.os = s.os ∧ AllBare s'.gens) s := by
  have rv := vals_ints hi
  have lz : ns.length ≤ sizeLine := Nat.le_trans hl (by decide)
  have facts : HOk P w (hScript K a vs ns) s.heap ∧ (∀ b, hScript K a vs ns b ≠ none → b = a) ∧ (hScript K a vs ns a ≠ none → K.lookup a = none) ∧ SqL K (hScript K a vs ns) a (ns.map V.int) ∧ (∀ b u, hScript K a vs ns b = some u → ∃ o xs, u = .frz o xs) := by
    cases hk : K.lookup a with
    | some o =>
      have h1 := KX a o hk
      rw [ha] at h1
      cases h1
      rw [hScript_k hk]
      refine ⟨?_, fun b z => absurd rfl z, fun z => absurd rfl z, ?_, fun b u z => ?_⟩
      · intro b u z
        have z1 : (none : Option HO) = some u := z
        cases z1
      · exact Or.inr ⟨_, vs.toArray, _, hk, rfl, rfl, rfl, by rw [List.size_toArray, hi.length]; exact lz, by simpa using rv⟩
      · have z1 : (none : Option HO) = some u := z
        cases z1
    | none =>
      have hn := hScript_n (vs := vs) (ns := ns) hk
      refine ⟨fun b u z => ?_, fun b z => ?_, fun _ => rfl, .inl (.inr ⟨_, by rw [hn a, if_pos rfl]⟩), fun b u z => ?_⟩
      · rw [hn b] at z
        split at z
        · rename_i e
          cases z
          subst e
          exact ⟨ha, by rw [List.length_map]; exact lz, vs, _, rv, ha⟩
        · cases z
      · rw [hn b] at z
        by_cases e : b = a
        · exact e
        · rw [if_neg e] at z; exact absurd rfl z
      · rw [hn b] at z
        split at z
        · cases z; exact ⟨_, _, rfl⟩
        · cases z
  obtain ⟨hok, f1, f2, f3, f4⟩ := facts
  obtain ⟨kin, kns, en⟩ := env_call KX hns hb hbb hlim hg ha hok f1 f2
  refine codeAny_mono ((F _ kin kns).runs callerA hr rfl [] s _ en ⟨[.ref a], []⟩ [.ref a] (hbind s (.ref a)) [.ref a] (fun v _ => v = .bl true) (fun _ _ _ => False) (.cons rfl .nil) ⟨a, ns, rfl, hl, f3, fun _ => rfl⟩) fun z s2 hz => ?_
  cases z with
  | error _ => exact hz.elim
  | ok fl => cases fl with
    | next => exact hz.elim
    | brk => exact hz.elim
    | cont => exact hz.elim
    | ret u =>
      obtain ⟨v, H2, os, bare, un, hok2, ru, e⟩ := hz
      have e' : v = .bl true := e
      subst e'
      obtain rfl : u = Value.bool true := ru
      refine ⟨rfl, OldK.of_keep fun b o hbo => ?_, os, bare⟩
      cases hq : hScript K a vs ns b with
      | none => exact un.keep b o hbo hq (fun z => (List.not_mem_nil z).elim) (fun z => (List.not_mem_nil z).elim)
      | some u0 =>
        obtain ⟨ob, xs, rfl⟩ := f4 b u0 hq
        have h2 := un.frzs b ob _ hq
        have p1 := (hok b _ hq).1
        have p2 := (hok2 b _ h2).1
        rw [hbo] at p1
        cases p1
        exact p2
end
theorem walkG {l : PySem.W.OpenLaw} {q : Program} {loose : List Str} {XP : (Str → Option Value) → Heap → Prop} {YP : World → Heap → Prop} {d : DefRec} {K : Params → PySem.W.Frag} {k : Nat} (x : Str) (hk : k ≤ 100) (hn : l.most = some 63) (hdf : d.params.defaults = [])
    (hY : ∀ (w : World) (h : Heap), YP w h → (K w.params).In h)
    (F : ∀ (w : World) (mg : Str → Option Value) (fa : Addr) (h : Heap), (K w.params).In h → h.Ns mainGlobals mg → mg d.name = some (.ref fa) →
      ∃ fd : FuncData, (∀ (s : Shared) (u : Value), BindsTo s fd ⟨[u], []⟩ [(x, u)]) ∧ ∀ base : Heap, (K w.params).In base → base.Ns mainGlobals mg → FnG l.prog w (K w.params) mg base k fa fd [x] (spLaw (K w.params))) :
    PySem.W.WalkO q loose XP YP l.row.toRowW d [] (fun f vs => PySem.call f vs) := by
  refine Att.attach_call hn hdf fun w s₀ s₁ mg mb fa o pm cd doc a vs ns Z Y ho hd hcd hmg hobj hints hlen hg => ?_
  obtain ⟨fd, h1, h2⟩ := F w mg fa _ (hY w _ Y) Z.T.g hmg
  exact law_callG (hY w _ Y) Z.T.g Z.T.b Z.T.builtins Z.T.nolimit hg hobj hints hlen (Room.mono (k := 100) ⟨rfl, by decide, by decide⟩ hk) h2 h1
end DL
/-! DLH: repr of data; texts in order, sign by sign; in; len by an own __len__; enumerate of a tuple. -/
namespace DL
open PySem PySem.Spec PyProof.Rows L2
/-! ### repr -/
/-- data that repr shows: n: how deep, W: how much -/
structure Rep (n W : Nat) (d : D) : Prop where
  ok : okP d = true
  sh : (toP d).showable = true
  ls : (toP d).leavesShort 100 = true
  nd : (toP d).hasDict = false
  dp : (toP d).depth ≤ n
  wt : (toP d).weight ≤ W
  cl : (toP d).canLay0 = true
structure RepL (n W : Nat) (d : List D) : Prop where
  ok : okPs d = true
  sh : PyData.showableAll (toPs d) = true
  ls : PyData.leavesShortAll 100 (toPs d) = true
  nd : PyData.hasDictAll (toPs d) = false
  dp : PyData.depthAll (toPs d) ≤ n
  wt : PyData.weightAll (toPs d) ≤ W
  cl : PyData.canLayAll0 (toPs d) = true
theorem rep_non : Rep 0 0 .non := ⟨rfl, rfl, rfl, rfl, Nat.le_refl _, Nat.le_refl _, rfl⟩
theorem rep_bl (b : Bool) : Rep 0 0 (.bl b) := ⟨rfl, rfl, rfl, rfl, Nat.le_refl _, Nat.le_refl _, rfl⟩
theorem rep_int {i : Int} (h1 : (PyData.int i).shown.length ≤ 100) (h2 : i.natAbs.log2 < 400) : Rep 0 401 (.int i) :=
  ⟨rfl, decide_eq_true (by omega), decide_eq_true h1, rfl, Nat.le_refl _, by
    show (if i == 0 then 0 else i.natAbs.log2 + 1) ≤ 401
    split <;> omega, rfl⟩
theorem rep_i {i : Int} (h : i.natAbs < 10 ^ 12) : Rep 0 401 (.int i) := by
  refine rep_int (Nat.le_trans (PyData.shown_int_le h) (by decide)) ?_
  by_cases z : i.natAbs = 0
  · rw [z]; decide
  · have : i.natAbs < 2 ^ 400 := Nat.lt_of_lt_of_le h (by decide)
    exact (Nat.log2_lt z).mpr this
theorem rep_str {x : Str} {n : Nat} (h : ∀ c ∈ x.cps.toList, c < 1114112) (hn : x.length ≤ n) : Rep 0 n (.str x) :=
  ⟨rfl, rfl, by
    show (x.cps.toList.all fun c => decide (c < 16 ^ 8)) = true
    rw [List.all_eq_true]
    intro c hc
    have := h c hc
    exact decide_eq_true (by omega), rfl, Nat.le_refl _, hn, by
    show x.cps.all (· < 0x110000) = true
    rw [Array.all_eq_true_iff_forall_mem]
    intro c hc
    exact decide_eq_true (h c (Array.mem_toList_iff.mpr hc))⟩
theorem rep_nil {n : Nat} : RepL n 0 [] := ⟨rfl, rfl, rfl, rfl, Nat.zero_le _, Nat.le_refl _, rfl⟩
theorem rep_cons {n W W' : Nat} {d : D} {ds : List D} (h : Rep n W d) (r : RepL n W' ds) : RepL n (W + 1 + W') (d :: ds) := by
  refine ⟨?_, ?_, ?_, ?_, ?_, ?_, ?_⟩
  · show (okP d && okPs ds) = true; rw [h.ok, r.ok]; rfl
  · show (PyData.showable (toP d) && PyData.showableAll (toPs ds)) = true; rw [h.sh, r.sh]; rfl
  · show (PyData.leavesShort 100 (toP d) && PyData.leavesShortAll 100 (toPs ds)) = true; rw [h.ls, r.ls]; rfl
  · show (PyData.hasDict (toP d) || PyData.hasDictAll (toPs ds)) = false; rw [h.nd, r.nd]; rfl
  · show Nat.max (toP d).depth (PyData.depthAll (toPs ds)) ≤ n; exact Nat.max_le.mpr ⟨h.dp, r.dp⟩
  · show (toP d).weight + 1 + PyData.weightAll (toPs ds) ≤ _; have := h.wt; have := r.wt; omega
  · show (PyData.canLay0 (toP d) && PyData.canLayAll0 (toPs ds)) = true; rw [h.cl, r.cl]; rfl
theorem Rep.mono {n W n' W' : Nat} {d : D} (h : Rep n W d) (h1 : n ≤ n') (h2 : W ≤ W') : Rep n' W' d := ⟨h.ok, h.sh, h.ls, h.nd, Nat.le_trans h.dp h1, Nat.le_trans h.wt h2, h.cl⟩
theorem RepL.mono {n W n' W' : Nat} {d : List D} (h : RepL n W d) (h1 : n ≤ n') (h2 : W ≤ W') : RepL n' W' d := ⟨h.ok, h.sh, h.ls, h.nd, Nat.le_trans h.dp h1, Nat.le_trans h.wt h2, h.cl⟩
theorem rep_all {n W : Nat} : ∀ {ds : List D}, (∀ d ∈ ds, Rep n W d) → RepL n ((W + 1) * ds.length) ds
  | [], _ => rep_nil
  | d :: ds, h => (rep_cons (h d List.mem_cons_self) (rep_all fun x hx => h x (List.mem_cons_of_mem _ hx))).mono (Nat.le_refl _) (by rw [List.length_cons, Nat.mul_succ]; omega)
theorem rep_tup {n W : Nat} {ds : List D} (h : RepL n W ds) : Rep (n + 1) W (.tup ds) := ⟨h.ok, h.sh, h.ls, h.nd, by show PyData.depthAll (toPs ds) + 1 ≤ n + 1; have := h.dp; omega, h.wt, h.cl⟩
theorem rep_lst {n W : Nat} {ds : List D} (h : RepL n W ds) : Rep (n + 1) W (.lst ds) := ⟨h.ok, h.sh, h.ls, h.nd, by show PyData.depthAll (toPs ds) + 1 ≤ n + 1; have := h.dp; omega, h.wt, h.cl⟩
theorem Rep.shaped {n W : Nat} {d : D} (h : Rep n W d) (hn : n ≤ 60 := by decide) : SeqAt.shaped (toP d) = true := by
  have := h.dp
  show ((toP d).canLay0 && decide ((toP d).depth ≤ 64)) = true
  rw [h.cl, decide_eq_true (by omega)]; rfl
def isSeqD : D → Bool
  | .tup _ => true
  | .lst _ => true
  | _ => false
section
variable {F : Fam} {S S1 S2 S3 : ST} {e a b c tg iter : Expr} {d x y z : D} {pos p apos : Pos} {es : List Expr} {ds : List D} {k : Nat} {nm : Str} {P : Po} {rest : List Stmt} {cn : Nat} {fs : List (Str × D)} {R : List D → D → Prop}
/-- repr of a list or tuple of data, where no repr is under way -/
theorem ca_repr {n W : Nat} (hG : ∀ i, (F.X i).A.guards = some []) (h : Rep n W d) (hq : isSeqD d = true) (hn : n ≤ 60 := by decide) (hW : W ≤ 100000 := by decide) : CaD F (.builtin "repr") [d] (.str (toP d).shown) := by
  refine ⟨fun xs H Q => ∃ v, xs = [v] ∧ Dp F.C.K H v (toP d) ∧ Q (.str (toP d).shown) H, fun i => ?_, fun G H us s hu Q q => ?_⟩
  · intro pins s σ H xs us Q I rx hx
    obtain ⟨v, rfl, hd, q⟩ := hx
    cases rx with
    | @cons _ u _ _ r0 r1 =>
      cases r1
      have hd' : Dp (F.X i).K H v (toP d) := by rw [F.hK i]; exact hd
      obtain ⟨as, rd⟩ := Dp.reads I _ _ _ hd' r0
      have hr := (F.room i).units
      have hsz := PyData.shown_le 100 (by decide) (toP d) h.ls
      have hwt := h.wt
      have hdp := h.dp
      have hu : ∃ ad, u = .ref ad := by
        cases d with
        | tup xs =>
          have hd2 : Dp F.C.K H v (.tuple (toPs xs)) := hd
          cases hd2
          cases r0
          exact ⟨_, rfl⟩
        | lst xs =>
          have hd2 : Dp F.C.K H v (.list (toPs xs)) := hd
          cases hd2
          cases r0
          exact ⟨_, rfl⟩
        | _ => cases hq
      obtain ⟨ad, rfl⟩ := hu
      refine repr_of_reads' rd h.sh (fun z => by rw [h.nd] at z; cases z) (hG i) (by omega) (fun _ _ z => z) (fun h' t tk kp => ⟨.str _, H, I.kept kp, ⟨t, rfl⟩, q⟩) ?_
      have e : sizeLine = 16777216 := by decide
      omega
  · cases hu with
    | cons h0 l => cases l; exact ⟨_, rfl, h0.dp s h.ok, q _ _ _ (.refl s) (.str _)⟩

/-! ### texts -/
theorem od_ltS {i j : Str} : OpD F (compareOp .Lt) (.str i) (.str j) (.bl (decide (i.cps.toList < j.cps.toList))) := ⟨_, fun _ => op_lt_str, fun G H u v s hu hv Q q => by
  cases hu; cases hv
  exact ⟨i, j, rfl, rfl, q _ _ _ (.refl s) (.bl _)⟩⟩
theorem od_leS {i j : Str} : OpD F (compareOp .LtE) (.str i) (.str j) (.bl (!decide (j.cps.toList < i.cps.toList))) := ⟨_, fun _ => op_le_str, fun G H u v s hu hv Q q => by
  cases hu; cases hv
  exact ⟨i, j, rfl, rfl, q _ _ _ (.refl s) (.bl _)⟩⟩
def signsD (x : Str) : List D := x.cps.toList.map fun c => D.str ⟨#[c]⟩
theorem itd_str {C : Kc} {G : Hp} {x : Str} : ItD C (Its x) G (signsD x) where
  go := fun i _ _ hi _ _ => by
    unfold signsD at hi
    rw [List.length_map] at hi
    exact hi
  yld := fun i d G H v H' hd s s2 hy => by
    obtain ⟨rfl, c, hc, rfl⟩ := hy
    unfold signsD at hd
    rw [List.getElem?_map, Array.getElem?_toList, hc] at hd
    cases hd
    exact ⟨G, .refl s2, .str _⟩
  stop := fun i _ _ hi _ _ => by
    unfold signsD at hi
    rw [List.length_map] at hi
    exact hi
theorem di_str {t : Str} (h : DE F iter S S1 (.str t)) : DI F tg iter S S1 (signsD t) := di_of (wi := iStr (anyE F iter)) (fun i => pi_str (tg := tg) (anyE_ok (e := iter) i)) fun σ G H c R q => h σ G H c _ fun v G1 H1 m dv => by
  cases dv
  exact ⟨t, rfl, q _ _ _ m itd_str⟩
/-! ### in -/
theorem flat_ints {is : List Int} : (is.map V.int).all flatV = true := by simp [flatV]
theorem in_ints {i : Int} {is : List Int} : inV (.int i) (is.map V.int) = decide (i ∈ is) := by
  unfold inV
  rw [List.any_map]
  have : ∀ x : Int, eqV (.int x) (.int i) = decide (x = i) := fun x => by
    show decide _ = _
    first | rfl | simp
  induction is with
  | nil => simp
  | cons x r ih =>
    rw [List.any_cons, ih]
    show (eqV (.int x) (.int i) || _) = _
    rw [this]
    simp [List.mem_cons, eq_comm]
theorem od_inI {i : Int} {is : List Int} : OpD F (compareOp .In) (.int i) (.tup (is.map D.int)) (.bl (decide (i ∈ is))) := ⟨rIn F.C.K false, fun i => by have := op_in_seq (X := F.X i); rw [F.hK i] at this; exact this, fun G H u v s hu hv Q q => by
  cases hu
  cases hv with
  | @tup a vs _ h1 h2 =>
    have e := denL_int h2
    subst e
    refine ⟨a, _, rfl, .inr (same_t s h1), rfl, flat_ints, ?_⟩
    rw [in_ints]
    exact q _ _ _ (.refl s) (.bl _)⟩
theorem od_ninI {i : Int} {is : List Int} : OpD F (compareOp .NotIn) (.int i) (.tup (is.map D.int)) (.bl (!decide (i ∈ is))) := ⟨rIn F.C.K true, fun i => by have := op_notIn_seq (X := F.X i); rw [F.hK i] at this; exact this, fun G H u v s hu hv Q q => by
  cases hu
  cases hv with
  | @tup a vs _ h1 h2 =>
    have e := denL_int h2
    subst e
    refine ⟨a, _, rfl, .inr (same_t s h1), rfl, flat_ints, ?_⟩
    rw [in_ints]
    exact q _ _ _ (.refl s) (.bl _)⟩
/-! ### len(x) by an own __len__ -/
theorem ca_lenO {i : Int} (mt : Met F.P F.w F.C F.mg F.base k cn "__len__" (spP F.C R)) (hk : k + 1 ≤ F.k) (hR : R [.obj cn fs] (.int i)) (h0 : 0 ≤ i) (h1 : i < 2 ^ 63) : CaD F (.builtin "len") [.obj cn fs] (.int i) := by
  obtain ⟨f, fd, ps, G, hc, hme, hb⟩ := mt
  refine ⟨fun xs H Q => ∃ a dx vs, xs = [.ref a] ∧ H a = some (.ins (F.C.cl cn) dx vs) ∧ spP F.C R [.ref a] H (fun v H' => v = .int i ∧ Q (.int i) H') E0, fun l => ?_, fun G H us s hu Q q => ?_⟩
  · intro pins s σ H xs us Q I rx h
    obtain ⟨a, dx, vs, rfl, ha, hsp⟩ := h
    cases rx with
    | cons r0 r1 =>
      cases r1
      cases r0
      obtain ⟨od, J⟩ := inst_of I ha
      obtain ⟨mm, hFr⟩ := I.fr
      refine PySem.W.len_K hFr I.ok.mod.kin J (by rw [F.hK l]; exact hme.at_) (by rw [F.hK l]; exact hme.fn) ?_
      refine wpAny_mono (run_in1 (vs := [.ref a]) (fn_at G) ((F.room l).mono hk) (by rw [F.hK l]; exact hb) I (.cons rfl .nil) hsp) (fun w s' hw => ?_) fun _ _ e => e
      obtain ⟨w', H', I', rw', rfl, q⟩ := hw
      obtain ⟨tk, rfl⟩ := rw'
      exact ⟨⟨h0, h1⟩, .int i, H', I'.tok _, ⟨_, rfl⟩, q⟩
  · cases hu with
    | cons h0 l0 =>
      have h0' := h0
      cases l0
      cases h0 with
      | obj _ h1 h2 => exact ⟨_, _, _, rfl, s _ _ h1, G, _, _, hR, s, .cons h0' .nil, fun v G2 H2 p dv => by cases dv; exact ⟨rfl, q _ _ _ p (.int _)⟩⟩
end
end DL
/-! DLI: enumerate of a tuple. -/
namespace DLE
open PySem PySem.Spec PyProof.Rows L2
theorem meets_enum {v : Value} {o : Obj} {H : Heap → Prop} (B : Begins v o H) :
    Meets (Builtin.«enumerate.__new__» ⟨[.type "enumerate", v], []⟩) (fun _ R s => H s.heap ∧
      R (.ok (.ret (.ref (s.heap.push o).objs.size))) { s with heap := (s.heap.push o).push { cls := .type "enumerate", data := .fields #[.none, .bool false, .ref s.heap.objs.size, rawInt 0, .none, .none] } }) :=
  .of_wp fun prog w A R s h => by
    obtain ⟨hp, g, d, tk, os⟩ := s
    obtain ⟨h1, h⟩ := h
    have hsub := sub_enumerate
    have it1 : ∀ {A' : Around} {E : Value → Shared → Prop} {Q : Value → Shared → Prop}, Q (.ref hp.objs.size) ⟨hp.push o, g, d, tk, os⟩ → wpAny (model prog w) A' (pyIter v) Q E ⟨hp, g, d, tk, os⟩ := fun q => B.iter prog w _ _ ⟨hp, g, d, tk, os⟩ _ h1 q
    wp_walk using it1
    refine wpAny_stack_any fun st => wpAny_pure ?_
    split
    · rename_i c _ _ _ _ _
      cases (c == Value.type "enumerate") <;> (wp_walk using it1; exact ⟨_, rfl, h⟩)
    · wp_walk using it1
      exact ⟨_, rfl, h⟩
theorem call_enum {prog : Program} {w : World} {A : Around} {E : Value → Shared → Prop} {s : Shared} {v : Value} {o : Obj} {H : Heap → Prop} {Q : Value → Shared → Prop} (B : Begins v o H) (h1 : H s.heap)
    (h : ∀ h', IsEnum h' (s.heap.objs.size + 1) s.heap.objs.size 0 .none → h'.get? s.heap.objs.size = some o → (∀ b u, s.heap.get? b = some u → h'.get? b = some u) → Q (.ref (s.heap.objs.size + 1)) { s with heap := h' }) :
    wpAny (model prog w) A (call (.type "enumerate") [v]) Q E s := by
  refine callType_new F.called_enumerate (by decide) (F.typeCall_enumerate_1 _) (F.newCall_enumerate_1 _) (fun obj => F.args_object_init_2 obj _) F.entry_enumerate_new (meets_enum B) ⟨h1, ?_⟩
  have hz : (s.heap.push o).objs.size = s.heap.objs.size + 1 := Heap.size_push ..
  have he : IsEnum ((s.heap.push o).push { cls := .type "enumerate", data := .fields #[.none, .bool false, .ref s.heap.objs.size, rawInt 0, .none, .none] }) (s.heap.objs.size + 1) s.heap.objs.size 0 .none := by
    have z := Heap.get?_push_size (s.heap.push o) (o := { cls := .type "enumerate", data := .fields #[.none, .bool false, .ref s.heap.objs.size, rawInt 0, .none, .none] }) rfl
    rw [hz] at z
    exact z
  show _ ∧ _
  rw [hz]
  exact ⟨⟨_, he, rfl⟩, h _ he (Heap.get?_push_of_some _ (Heap.get?_push_size _ B.free)) fun b u z => Heap.get?_push_of_some _ (Heap.get?_push_of_some _ z)⟩
theorem enum_end {prog : Program} {w : World} {A : Around} {E : Value → Shared → Prop} {s : Shared} {e it t : Addr} {i : Nat} {items : Array Value} {old : Value} {Q : Option Value → Shared → Prop} (hh : A.handled = none) (he : IsEnum s.heap e it i old) (hit : s.heap.IsTupleIter it t i) (ht : s.heap.IsTuple t items) (hx : items[i]? = none)
    (hQ : ∀ h', Heap.ExtBut it s.heap h' → Q none { s with heap := h' }) : wpAny (model prog w) A (pyNext (.ref e)) Q E s := by
  have ty : s.TypeIs (.ref e) "enumerate" := ⟨_, he, rfl⟩
  have nx : ∀ Q', (∀ h' x, Heap.ExtBut it s.heap h' → (∃ o, h'.get? x = some o ∧ o.cls = .type "StopIteration") → Q' (.ref x) { s with heap := h' }) → wpAny (model prog w) A.in1 (Builtin.«enumerate.__next__» ⟨[.ref e], []⟩) (fun _ _ => False) Q' s := fun Q' h => by
    show wpAny _ _ (field (.ref e) 2 >>= _) _ _ _
    exact wpAny_bind (wpAny_field he rfl (x := .ref it) rfl (wpAny_bind (wpAny_nextOf_tuple_end hh hit ht hx h)))
  unfold pyNext
  refine wpAny_bind (wpAny_attempt (wpAny_callSpecial?_slot (name := Str.ofString "__next__") ty F.slot_enumerate_next (wpAny_call_entry F.slot_enumerate_next ty F.entry_enumerate_next (wpAny_mono (nx _ fun h' x e1 ⟨o, ho, hc⟩ => ?_) (fun _ _ z => z.elim) fun _ _ z => z) (F.args_enumerate_next_1 _))))
  exact wpAny_bind (wpAny_isInstance (T := "StopIteration") (b := true) ⟨o, ho, hc⟩ isSubtype_stop (wpAny_pure (hQ _ e1)))
/-- the tuple at a, each item in a new pair -/
def IteT (K : PySem.W.Frag) (a : Addr) : It :=
  ⟨fun i H => ∃ (xs : List V) (x : V), SqT K H a xs ∧ xs[i]? = some x, fun i H v H' => ∃ T x, v = .ref T ∧ H T = none ∧ H' = upd H T (.tup [.int (i : Nat), x]) ∧ ∀ ys, SqT K H a ys → ys[i]? = some x, fun i H => ∃ xs : List V, SqT K H a xs ∧ xs.length ≤ i⟩
theorem turnT {P : Program} {w : World} {K : PySem.W.Frag} {elts : List Expr} {kk : Nat} {tpos : Pos} (a e it : Addr) (n1 : e ≠ it) (n2 : a ≠ it) (n3 : a ≠ e) :
    Turn P w K (.Tuple elts kk tpos) (IteT K a) [e, it] e (fun i h => (∃ old, IsEnum h e it ((i : Nat) : Int) old) ∧ h.IsTupleIter it a i) where
  mem := by simp
  obj := fun i h st b hb => by
    obtain ⟨⟨old, he⟩, o, ho, hc, hd⟩ := st
    rcases (show b = e ∨ b = it by simpa using hb) with rfl | rfl
    · exact ⟨_, he, fun v q => nomatch q⟩
    · exact ⟨o, ho, fun v q => by rw [hd] at q; cases q⟩
  keep := fun i h h' st k => ⟨st.1.imp fun old he => k e (by simp) _ he, st.2.at fun o q => k it (by simp) o q⟩
  item := by
    intro X hP hw hK hc i pins s σ H E I hf st hg
    subst hP hw hK
    obtain ⟨⟨old, he⟩, hit⟩ := st
    obtain ⟨xs, x, hq, hx⟩ := hg
    obtain ⟨its, rv, p, hz⟩ := I.tuple hq
    obtain ⟨u, hu, ru⟩ := rv.get hx
    have le : e < s.heap.objs.size := Heap.lt_size he
    have li : it < s.heap.objs.size := by obtain ⟨_, q, _⟩ := hit; exact Heap.lt_size q
    have Dr := Draws.tuple (prog := X.prog) (w := X.w) (A := X.A.in1) (I.ok.hd hc) it a n2 its.toArray
    refine wpAny_pyNext_enum_itemD Dr he ⟨hit, p⟩ (by have := (List.getElem?_eq_some_iff.mp hu).1; simpa using this) n1 (by simp [n1, n3.symm]) fun y h' tk hy ho hst hT hsz hk => ?_
    obtain rfl : y = u := by
      have hy' : its[i]? = some y := by simpa using hy
      rw [hu] at hy'
      exact (Option.some.inj hy').symm
    refine ⟨_, rfl, wpAny_letOwnedTupleGo_enum (s := { s with heap := h', toks := tk + 1 }) ho fun h2 he2 sb => ?_⟩
    have hT2 : h2.get? s.heap.objs.size = some { cls := .type "tuple", data := .seq #[.int i tk, y] } := (sb.2 _ (Nat.ne_of_gt le)).trans hT
    have new : ObjOk X.prog X.w (upd H s.heap.objs.size (.tup [.int (i : Nat), x])) h2 s.heap.objs.size (.tup [.int (i : Nat), x]) := ⟨by show 2 ≤ sizeLine; decide, [.int i tk, y], .cons ⟨_, rfl⟩ (.cons ru .nil), ⟨_, hT2, rfl, _, rfl⟩⟩
    have J := I.turnedNew (ch := [e, it]) (t' := tk + 1) (fun b ob hb q => (sb.2 b (fun z => hb (by simp [z]))).trans (hk b ob (fun z => hb (by simp [z])) (fun z => hb (by simp [z])) q)) hf (Nat.le_refl _) new
    refine ⟨.ref s.heap.objs.size, _, J, rfl, ⟨_, x, rfl, I.hok.fresh (Nat.le_refl _), rfl, fun ys hys => by rw [I.tuple_inj hys hq]; exact hx⟩, ⟨⟨y, ?_⟩, hst.1.at fun o q => (sb.2 it (Ne.symm n1)).trans q⟩, fun b hb => ?_⟩
    · rw [show ((i + 1 : Nat) : Int) = (i : Int) + 1 by omega]
      exact he2
    · have lb : b < s.heap.objs.size := by
        rcases (show b = e ∨ b = it by simpa using hb) with rfl | rfl
        · exact le
        · exact li
      rw [upd_ne (Nat.ne_of_lt lb)]
      exact (hf b hb).1
  done := by
    intro X hP hw hK hc i pins s σ H E I hf st hg
    subst hP hw hK
    obtain ⟨⟨old, he⟩, hit⟩ := st
    obtain ⟨xs, hq, hx⟩ := hg
    obtain ⟨its, rv, p, hz⟩ := I.tuple hq
    obtain ⟨f0, f1, f2, f3, f4, f5⟩ := hf it (by simp)
    have hl := rv.length
    refine enum_end (I.ok.hd hc) he hit p (by simp; omega) fun h' eb => ⟨rfl, I.turned (t' := s.toks) (fun b o hb q => eb b o hb q) f0 f1 f3 f4 f5⟩
  self := fun A i s Q E st h => let ⟨⟨_, he⟩, _⟩ := st; wpAny_pyIter_enum he h
def iEnumT (K : PySem.W.Frag) (ta : TA) : TI := fun σ H R => ta σ H fun vs H1 => ∃ a xs, vs = [.ref a] ∧ SqT K H1 a xs ∧ R (IteT K a) H1
theorem pi_enumT {X : Cx} {e : Expr} {ta : TA} {p pos tpos : Pos} {elts : List Expr} {kk : Nat} (hg : Gl X "enumerate") (hm : X.mg "enumerate" = none) (ha : PA X [e] ta) (hs : starEach [e] X.env = [(false, eval e X.env)]) :
    PI X (.Tuple elts kk tpos) (.Call (.Name "enumerate" p) [e] [] pos) (iEnumT X.K ta) := by
  refine ⟨fun pins s σ H R I h => ?_⟩
  refine Call_ (ld_blt I hg hm boot_enumerate (PyProof.Rows.callWith_type1 (thn (ha.run pos pins s σ H _ I h) fun us s1 ⟨vs, H1, I1, r1, a, xs, ex, hq, q⟩ => ?_) hs rfl))
  subst ex
  cases r1 with
  | cons r rr =>
    cases rr
    cases r
    obtain ⟨its, rv, p', hz⟩ := I1.tuple hq
    have la : a < s1.heap.objs.size := by obtain ⟨_, z, _⟩ := p'; exact Heap.lt_size z
    refine call_enum (begins_tuple a its.toArray) p' fun h' he hi hk => wpAny_pyIter_enum he ?_
    refine ⟨s1.heap.objs.size + 1, [s1.heap.objs.size + 1, s1.heap.objs.size], _, _, H1, rfl, I1.kept (t' := s1.toks) hk, turnT a (s1.heap.objs.size + 1) s1.heap.objs.size (Nat.succ_ne_self _) (Nat.ne_of_lt la) (Nat.ne_of_lt (Nat.lt_succ_of_lt la)), ⟨⟨.none, he⟩, ⟨_, hi, rfl, rfl⟩⟩, fun b hb => ?_, q⟩
    have hle : s1.heap.objs.size ≤ b := by
      rcases (show b = s1.heap.objs.size + 1 ∨ b = s1.heap.objs.size by simpa using hb) with z | z <;> rw [z]
      · exact Nat.le_succ _
      · exact Nat.le_refl _
    exact I1.fpOk hle (I1.hok.fresh hle)
end DLE
namespace DL
open PySem L2
def enumD (ds : List D) : List D := ds.zipIdx.map fun t => D.tup [.int (t.2 : Nat), t.1]
theorem enumD_get {ds : List D} {i : Nat} {d : D} (h : (enumD ds)[i]? = some d) : ∃ x, ds[i]? = some x ∧ d = .tup [.int (i : Nat), x] := by
  unfold enumD at h
  rw [List.getElem?_map, List.getElem?_zipIdx] at h
  cases q : ds[i]? with
  | none => rw [q] at h; cases h
  | some x =>
    rw [q] at h
    refine ⟨x, rfl, ?_⟩
    have := (Option.some.inj h).symm
    simpa using this
theorem enumD_length {ds : List D} : (enumD ds).length = ds.length := by simp [enumD]
section
variable {F : Fam} {S S1 S2 S3 : ST} {e : Expr} {p : Pos} {ds : List D}
theorem itd_enumT {C : Kc} {G0 : Hp} {a : Addr} {vs : List V} (h : SqT C.K G0 a vs) (dl : DenL C G0 vs ds) : ItD C (DLE.IteT C.K a) G0 (enumD ds) where
  go := fun i G H hi s s2 => by
    rw [enumD_length] at hi
    obtain ⟨v, h1, _⟩ := dl.get (List.getElem?_eq_getElem hi)
    exact ⟨vs, v, same_t s2 (same_t s h), h1⟩
  yld := fun i d G H x H' hd s s2 hy => by
    obtain ⟨y, hy1, rfl⟩ := enumD_get hd
    obtain ⟨T, v, rfl, hT, rfl, hv⟩ := hy
    obtain ⟨v', h1, h2⟩ := dl.get hy1
    have e1 := hv vs (same_t s2 (same_t s h))
    rw [h1] at e1
    cases e1
    refine ⟨_, Pu.new s2 hT, .tup (SqT.of upd_same) ?_⟩
    exact .cons (.int _) (.cons ((h2.mono s).mono (Pu.new s2 hT).gg) .nil)
  stop := fun i G H hi s s2 => ⟨vs, same_t s2 (same_t s h), by rw [dl.length, ← enumD_length]; exact hi⟩
theorem di_enumT {elts : List Expr} {kk : Nat} {tpos q1 : Pos} (hm : F.mg "enumerate" = none) (h : DE F e S S1 (.tup ds)) (hg : ∀ l, Gl (F.X l) "enumerate" := by intro _; rfl) (hs : ∀ l, starEach [e] (F.X l).env = [(false, eval e (F.X l).env)] := by intro _; rfl) :
    DI F (.Tuple elts kk tpos) (.Call (.Name "enumerate" p) [e] [] q1) S S1 (enumD ds) :=
  di_of (wi := DLE.iEnumT F.C.K (tCons (anyE F e) tNil)) (fun l => by have := DLE.pi_enumT (X := F.X l) (elts := elts) (kk := kk) (tpos := tpos) (p := p) (pos := q1) (hg l) (by rw [F.hmg l]; exact hm) (pa_cons (anyE_ok (e := e) l) pa_nil (hs l)) (hs l); rw [F.hK l] at this; exact this) fun σ G H c R q => h σ G H c _ fun v G1 H1 m dv => by
    cases dv with
    | @tup a vs _ h1 h2 => exact ⟨a, vs, rfl, same_t m.cx.sub h1, q _ _ _ m (itd_enumT h1 h2)⟩
end
end DL
/-! DLJ: small helps for laws. -/
namespace DL
open PySem L2
section
variable {F : Fam} {x y : D} {ds : List D}
theorem ca_allT : CaD F (.builtin "all") [.lst (ds.map fun _ => D.bl true)] (.bl true) := by
  have h := ca_all (F := F) (bs := ds.map fun _ => true)
  have e1 : (ds.map fun _ => true).map D.bl = ds.map fun _ => D.bl true := by rw [List.map_map]; rfl
  have e2 : (ds.map fun _ => true).all id = true := by rw [List.all_map]; simp
  rw [e1, e2] at h
  exact h
theorem ca_anyF : CaD F (.builtin "any") [.lst (ds.map fun _ => D.bl false)] (.bl false) := by
  have h := ca_any (F := F) (bs := ds.map fun _ => false)
  have e1 : (ds.map fun _ => false).map D.bl = ds.map fun _ => D.bl false := by rw [List.map_map]; rfl
  have e2 : (ds.map fun _ => false).any id = false := by rw [List.any_map]; simp
  rw [e1, e2] at h
  exact h
theorem od_neE (e : x = y) (h1 : okP x = true) (h3 : SeqAt.shaped (toP x) = true) : OpD F (compareOp .NotEq) x y (.bl false) := e ▸ od_neR h1 h3
theorem od_eqE (e : x = y) (h1 : okP x = true) (h3 : SeqAt.shaped (toP x) = true) : OpD F (compareOp .Eq) x y (.bl true) := e ▸ od_eqR h1 h3
theorem od_neT {i j : Str} (e : i = j) : OpD F (compareOp .NotEq) (.str i) (.str j) (.bl false) := by
  have := od_neS (F := F) (i := i) (j := j)
  rw [decide_eq_true e] at this
  exact this
theorem od_eqT {i j : Str} (e : i = j) : OpD F (compareOp .Eq) (.str i) (.str j) (.bl true) := by
  have := od_eqS (F := F) (i := i) (j := j)
  rw [decide_eq_true e] at this
  exact this
end
theorem lt_one {a b : Nat} : decide (([a] : List Nat) < [b]) = decide (a < b) := by
  refine decide_eq_decide.mpr ?_
  rw [List.cons_lt_cons_iff]
  simp
theorem take_one {α : Type} {l : List α} {i : Nat} {x : α} (h : l[i]? = some x) : l.take (i + 1) = l.take i ++ [x] := by
  rw [List.take_succ, h]; rfl
theorem sl_le {n : Nat} (h : n ≤ 100000) : n ≤ sizeLine := Nat.le_trans h (by decide)
theorem bb_isinstance : bootBuiltins "isinstance" = some (.builtin "isinstance") := by decide +kernel
theorem bb_abs : bootBuiltins "abs" = some (.builtin "abs") := by decide +kernel
theorem bb_len : bootBuiltins "len" = some (.builtin "len") := by decide +kernel
theorem bb_max : bootBuiltins "max" = some (.builtin "max") := by decide +kernel
theorem bb_min : bootBuiltins "min" = some (.builtin "min") := by decide +kernel
theorem bb_all : bootBuiltins "all" = some (.builtin "all") := by decide +kernel
theorem bb_any : bootBuiltins "any" = some (.builtin "any") := by decide +kernel
theorem bb_sum : bootBuiltins "sum" = some (.builtin "sum") := by decide +kernel
theorem bb_repr : bootBuiltins "repr" = some (.builtin "repr") := by decide +kernel
theorem bb_int : bootBuiltins "int" = some (.type "int") := by decide +kernel
theorem bb_bool : bootBuiltins "bool" = some (.type "bool") := by decide +kernel
theorem bb_str : bootBuiltins "str" = some (.type "str") := by decide +kernel
theorem bb_tuple : bootBuiltins "tuple" = some (.type "tuple") := by decide +kernel
theorem bb_list : bootBuiltins "list" = some (.type "list") := by decide +kernel
end DL
/-! DLK: list(range(a, b)), tuple(range(a, b)). -/
namespace DL
open PySem L2
def rgD (a b : Int) : List D := (List.range (b - a).toNat).map fun i => D.int (a + (i : Nat))
theorem den_rg {C : Kc} {G : Hp} (a b : Int) : DenL C G (rgV a b) (rgD a b) := by
  unfold rgV rgD
  generalize (b - a).toNat = n
  generalize List.range n = l
  induction l with
  | nil => exact .nil
  | cons x r ih => exact .cons (.int _) ih
section
variable {F : Fam} {S S1 S2 S3 : ST} {a b : Expr} {p p2 pos q1 : Pos} {i j : Int}
theorem do_listRg (hl : F.mg "list" = none) (hm : F.mg "range" = none) (ha : DE F a S S1 (.int i)) (hb : DE F b S1 S2 (.int j)) (ok : RgOk i j)
    (hg : ∀ l, Gl (F.X l) "list" := by intro _; rfl) (hg2 : ∀ l, Gl (F.X l) "range" := by intro _; rfl)
    (n1 : ∀ l, starEach [.Call (.Name "range" p2) [a, b] [] q1] (F.X l).env = (false, eval (.Call (.Name "range" p2) [a, b] [] q1) (F.X l).env) :: starEach [] (F.X l).env := by intro _; rfl)
    (n2 : ∀ l, starEach [a, b] (F.X l).env = (false, eval a (F.X l).env) :: starEach [b] (F.X l).env := by intro _; rfl) (n3 : ∀ l, starEach [b] (F.X l).env = (false, eval b (F.X l).env) :: starEach [] (F.X l).env := by intro _; rfl)
    (n4 : ∀ l, (backTo q1 (starEach [b] (F.X l).env)).any (·.1) = false := by intro _; rfl) :
    DO F (.Call (.Name "list" p) [.Call (.Name "range" p2) [a, b] [] q1] [] pos) S S2 (rgD i j) :=
  do_of (te := tLstRg (tRg2 (anyE F a) (anyE F b))) (fun l => pe_listRg (F.calm l) (hg l) (by rw [F.hmg]; exact hl) (prg_2 (hg2 l) (by rw [F.hmg]; exact hm) (anyE_ok l) (anyE_ok l) (n2 l) (n3 l) (n4 l)) (n1 l)) fun σ G H c Q q =>
    ha σ G H c _ fun v G1 H1 m1 d1 => hb σ G1 H1 m1.cx _ fun u G2 H2 m2 d2 => by
      cases d1
      cases d2
      have m := m1.trans m2
      refine ⟨i, j, rfl, rfl, ok, fun p hp => ?_⟩
      have sm : Same H2 (upd H2 p (.lst (rgV i j))) := fun a u hh => by rw [upd_ne (ne_of_none hh hp)]; exact hh
      exact q p _ G2 _ (m.trans (m2.cx.mv sm (fun _ _ h => h) (m2.cx.sub.trans sm) fun _ _ h => h)) (back_none m.go hp) (m2.cx.sub.free hp) upd_same (den_rg i j)
end
end DL
/-! SL1: outcomes (O), judgements by outcomes: a reading that gives ok d evaluates to d. -/
namespace SL
open PySem L2 DL

inductive O (α : Type) where
  | ok (a : α) | exc (c : Nat) (fs : List D) | bad
def O.bind {α β : Type} (o : O α) (f : α → O β) : O β := match o with
  | .ok a => f a
  | .exc c fs => .exc c fs
  | .bad => .bad
@[simp] theorem O.bind_ok {α β : Type} (a : α) (f : α → O β) : (O.ok a).bind f = f a := rfl
@[simp] theorem O.bind_exc {α β : Type} (c : Nat) (fs : List D) (f : α → O β) : (O.exc c fs : O α).bind f = .exc c fs := rfl
@[simp] theorem O.bind_bad {α β : Type} (f : α → O β) : (O.bad : O α).bind f = .bad := rfl
theorem O.bind_eq {α β : Type} {o : O α} {f : α → O β} {b : β} (h : o.bind f = .ok b) : ∃ a, o = .ok a ∧ f a = .ok b := by
  cases o with
  | ok a => exact ⟨a, rfl, h⟩
  | exc c fs => cases h
  | bad => cases h
theorem O.bind_assoc {α β γ : Type} (o : O α) (f : α → O β) (g : β → O γ) : (o.bind f).bind g = o.bind fun a => (f a).bind g := by
  cases o <;> rfl
def O.cons (o : O D) (os : O (List D)) : O (List D) := o.bind fun d => os.bind fun ds => .ok (d :: ds)
@[simp] theorem O.cons_ok (a : D) (as : List D) : O.cons (.ok a) (.ok as) = .ok (a :: as) := rfl
def asB : D → O Bool
  | .bl b => .ok b
  | _ => .bad
@[simp] theorem asB_bl (b : Bool) : asB (.bl b) = .ok b := rfl
theorem asB_eq {d : D} {b : Bool} (h : asB d = .ok b) : d = .bl b := by
  cases d <;> first | (cases h; rfl) | cases h
/-- a truth as data -/
def tr (o : O Bool) : O D := o.bind fun b => .ok (.bl b)
@[simp] theorem tr_ok (b : Bool) : tr (.ok b) = .ok (.bl b) := rfl
theorem tr_eq {o : O Bool} {d : D} (h : tr o = .ok d) : ∃ b, o = .ok b ∧ d = .bl b := by
  obtain ⟨b, h1, h2⟩ := O.bind_eq h
  cases h2
  exact ⟨b, h1, rfl⟩
def O.ite {α : Type} (o : O Bool) (x y : O α) : O α := o.bind fun b => bif b then x else y
@[simp] theorem O.ite_true {α : Type} (x y : O α) : O.ite (.ok true) x y = x := rfl
@[simp] theorem O.ite_false {α : Type} (x y : O α) : O.ite (.ok false) x y = y := rfl
theorem O.ite_ok {α : Type} (b : Bool) (x y : O α) : O.ite (.ok b) x y = bif b then x else y := rfl
theorem O.ite_eq {α : Type} {o : O Bool} {x y : O α} {a : α} (h : O.ite o x y = .ok a) : (o = .ok true ∧ x = .ok a) ∨ (o = .ok false ∧ y = .ok a) := by
  obtain ⟨b, h1, h2⟩ := O.bind_eq h
  cases b with
  | true => exact .inl ⟨h1, h2⟩
  | false => exact .inr ⟨h1, h2⟩
/-- a function of one .. argument, on the list of its arguments -/
def l1 {α : Type} (f : D → O α) : List D → O α
  | [a] => f a
  | _ => .bad
def l2 {α : Type} (f : D → D → O α) : List D → O α
  | [a, b] => f a b
  | _ => .bad
def l3 {α : Type} (f : D → D → D → O α) : List D → O α
  | [a, b, c] => f a b c
  | _ => .bad
def l4 {α : Type} (f : D → D → D → D → O α) : List D → O α
  | [a, b, c, d] => f a b c d
  | _ => .bad
def l5 {α : Type} (f : D → D → D → D → D → O α) : List D → O α
  | [a, b, c, d, e] => f a b c d e
  | _ => .bad
def l6 {α : Type} (f : D → D → D → D → D → D → O α) : List D → O α
  | [a, b, c, d, e, g] => f a b c d e g
  | _ => .bad
@[simp] theorem l1_ap {α : Type} (f : D → O α) (a : D) : l1 f [a] = f a := rfl
@[simp] theorem l2_ap {α : Type} (f : D → D → O α) (a b : D) : l2 f [a, b] = f a b := rfl
@[simp] theorem l3_ap {α : Type} (f : D → D → D → O α) (a b c : D) : l3 f [a, b, c] = f a b c := rfl
@[simp] theorem l4_ap {α : Type} (f : D → D → D → D → O α) (a b c d : D) : l4 f [a, b, c, d] = f a b c d := rfl
@[simp] theorem l5_ap {α : Type} (f : D → D → D → D → D → O α) (a b c d e : D) : l5 f [a, b, c, d, e] = f a b c d e := rfl
@[simp] theorem l6_ap {α : Type} (f : D → D → D → D → D → D → O α) (a b c d e g : D) : l6 f [a, b, c, d, e, g] = f a b c d e g := rfl
/-- a tuple or list taken apart -/
def un2 {α : Type} (d : D) (f : D → D → O α) : O α := match d with
  | .tup [a, b] => f a b
  | .lst [a, b] => f a b
  | _ => .bad
def un3 {α : Type} (d : D) (f : D → D → D → O α) : O α := match d with
  | .tup [a, b, c] => f a b c
  | .lst [a, b, c] => f a b c
  | _ => .bad
@[simp] theorem un2_tup {α : Type} (a b : D) (f : D → D → O α) : un2 (.tup [a, b]) f = f a b := rfl
@[simp] theorem un2_lst {α : Type} (a b : D) (f : D → D → O α) : un2 (.lst [a, b]) f = f a b := rfl
@[simp] theorem un3_tup {α : Type} (a b c : D) (f : D → D → D → O α) : un3 (.tup [a, b, c]) f = f a b c := rfl
@[simp] theorem un3_lst {α : Type} (a b c : D) (f : D → D → D → O α) : un3 (.lst [a, b, c]) f = f a b c := rfl

/-! ### judgements -/
def DEp (F : Fam) (e : Expr) (S : ST) (o : O D) : Prop := ∀ d, o = .ok d → DE F e S S d
def DTp (F : Fam) (e : Expr) (S : ST) (o : O Bool) : Prop := ∀ b, o = .ok b → DT F e S S b
def DWp (F : Fam) (e : Expr) (S : ST) (o : O Bool) : Prop := ∀ b, o = .ok b → DW F e S S b
def DAp (F : Fam) (es : List Expr) (S : ST) (o : O (List D)) : Prop := ∀ ds, o = .ok ds → DA F es S S ds ∧ ds.length = es.length
def DKp (F : Fam) (ks : List Keyword) (S : ST) (o : O (List D)) : Prop := ∀ ds, o = .ok ds → DK F ks S S ds ∧ ds.length = ks.length
def DOp (F : Fam) (e : Expr) (S : ST) (o : O (List D)) : Prop := ∀ ds, o = .ok ds → DO F e S S ds
def DIp (F : Fam) (tg it : Expr) (S : ST) (o : O (List D)) : Prop := ∀ ds, o = .ok ds → DI F tg it S S ds
/-- operators by outcomes -/
def OpS (F : Fam) (op : Operator) (p : D → D → O D) : Prop := ∀ x y z, p x y = .ok z → OpD F (binaryOp op) x y z
def CmS (F : Fam) (op : CmpOp) (p : D → D → O Bool) : Prop := ∀ x y z, p x y = .ok z → OpD F (compareOp op) x y (.bl z)
def UnS (F : Fam) (op : UnaryOp) (p : D → O D) : Prop := ∀ x z, p x = .ok z → UnD F (unaryOp op) x z
def CaS (F : Fam) (f : Value) (φ : List D → O D) : Prop := ∀ ds z, φ ds = .ok z → CaD F f ds z

section
variable {F : Fam} {S : ST} {e a b c : Expr} {d : D} {pos p : Pos} {oa ob oc oe : O D} {o ot ou : O Bool} {es : List Expr} {os : O (List D)}
theorem p_is {o o' : O D} (h : DEp F e S o) (q : o = o') : DEp F e S o' := q ▸ h
theorem p_ok (h : DE F e S S d) : DEp F e S (.ok d) := fun _ q => by cases q; exact h
theorem p_bad : DEp F e S .bad := fun _ q => nomatch q
theorem p_var {j : Nat} {x : Str} (h : S.s[j]? = some (some (.imm d))) (hN : ∀ i, (F.X i).N[j]? = some x := by intro _; rfl)
    (hv : ∀ i, Vis (F.X i).env.scope x := by intro _; first | exact Or.inl rfl | exact Or.inr (Or.inl rfl) | exact Or.inr (Or.inr rfl))
    (hd : (x == ("__debug__" : Str)) = false := by decide) (hcd : (x == ("__classdict__" : Str)) = false := by decide) : DEp F (.Name x pos) S (.ok d) := p_ok (de_var h hN hv hd hcd)
theorem p_int {i : Int} {k : Nat} : DEp F (.Constant (.int i) k pos) S (.ok (.int i)) := p_ok de_int
theorem p_bl {i : Bool} {k : Nat} : DEp F (.Constant (.bool i) k pos) S (.ok (.bl i)) := p_ok de_bl
theorem p_non {k : Nat} : DEp F (.Constant .none k pos) S (.ok .non) := p_ok de_non
theorem p_str {i : Str} {k : Nat} : DEp F (.Constant (.str i) k pos) S (.ok (.str i)) := p_ok de_str
theorem p_glob {x : Str} {v : V} {u : Value} (hm : F.mg x = some u) (r : RelV v u) (hd : ∀ G, Den F.C G v d) (hg : ∀ i, Gl (F.X i) x := by intro _; rfl) (hb : (x == ("__debug__" : Str)) = false := by decide) : DEp F (.Name x pos) S (.ok d) := p_ok (de_glob hm r hd hg hb)
theorem p_op {op : Operator} {q : D → D → O D} (hr : OpS F op q) (ha : DEp F a S oa) (hb : DEp F b S ob) : DEp F (.BinOp a op b pos) S (oa.bind fun x => ob.bind fun y => q x y) := fun z h => by
  obtain ⟨x, h1, h⟩ := O.bind_eq h
  obtain ⟨y, h2, h⟩ := O.bind_eq h
  exact de_op (ha x h1) (hb y h2) (hr x y z h)
theorem p_un {op : UnaryOp} {q : D → O D} (hr : UnS F op q) (ha : DEp F a S oa) : DEp F (.UnaryOp op a pos) S (oa.bind q) := fun z h => by
  obtain ⟨x, h1, h⟩ := O.bind_eq h
  exact de_un (ha x h1) (hr x z h)
theorem t_cmp {op : CmpOp} {q : D → D → O Bool} (hr : CmS F op q) (ha : DEp F a S oa) (hb : DEp F b S ob) (hm : behindInMarks op b = false := by first | exact nomark _ | rfl) : DTp F (.Compare a [op] [b] pos) S (oa.bind fun x => ob.bind fun y => q x y) := fun z h => by
  obtain ⟨x, h1, h⟩ := O.bind_eq h
  obtain ⟨y, h2, h⟩ := O.bind_eq h
  exact dt_cmp (ha x h1) (hb y h2) (hr x y z h) hm
theorem p_cmp {op : CmpOp} {q : D → D → O Bool} (hr : CmS F op q) (ha : DEp F a S oa) (hb : DEp F b S ob) (hm : behindInMarks op b = false := by first | exact nomark _ | rfl) : DEp F (.Compare a [op] [b] pos) S (tr (oa.bind fun x => ob.bind fun y => q x y)) := fun z h => by
  obtain ⟨k, h0, e0⟩ := tr_eq h
  subst e0
  clear h
  have h := h0
  obtain ⟨x, h1, h⟩ := O.bind_eq h
  obtain ⟨y, h2, h⟩ := O.bind_eq h
  exact de_cmp (ha x h1) (hb y h2) (hr x y k h) hm
def chainO (oa ob oc : O D) (q r : D → D → O Bool) : O Bool := oa.bind fun x => ob.bind fun y => O.ite (q x y) (oc.bind fun z => r y z) (.ok false)
@[simp] theorem chainO_ok (x y z : D) (q r : D → D → O Bool) : chainO (.ok x) (.ok y) (.ok z) q r = O.ite (q x y) (r y z) (.ok false) := rfl
theorem p_chain {op op' : CmpOp} {q r : D → D → O Bool} (hq : CmS F op q) (hr : CmS F op' r) (ha : DEp F a S oa) (hb : DEp F b S ob) (hc : DEp F c S oc) (hm : lastMarks [op, op'] [b, c] = false := by with_unfolding_all rfl) : DEp F (.Compare a [op, op'] [b, c] pos) S (tr (chainO oa ob oc q r)) := fun d h => by
  obtain ⟨k, h0, e0⟩ := tr_eq h
  subst e0
  clear h
  have h := h0
  obtain ⟨x, h1, h⟩ := O.bind_eq h
  obtain ⟨y, h2, h⟩ := O.bind_eq h
  rcases O.ite_eq h with ⟨h3, h⟩ | ⟨h3, h⟩
  · obtain ⟨z, h4, h⟩ := O.bind_eq h
    exact de_chain (k := true) (l := k) (ha x h1) (hb y h2) (fun _ => hc z h4) (hq x y _ h3) (fun _ => hr y z _ h) (hm := hm)
  · cases h
    exact de_chain (k := false) (l := false) (w := .non) (c := c) (ha x h1) (hb y h2) (fun z => nomatch z) (hq x y _ h3) (fun z => nomatch z) (hm := hm)
theorem t_chain {op op' : CmpOp} {q r : D → D → O Bool} (hq : CmS F op q) (hr : CmS F op' r) (ha : DEp F a S oa) (hb : DEp F b S ob) (hc : DEp F c S oc) (hm : lastMarks [op, op'] [b, c] = false := by with_unfolding_all rfl) : DTp F (.Compare a [op, op'] [b, c] pos) S (chainO oa ob oc q r) := fun k h => by
  obtain ⟨x, h1, h⟩ := O.bind_eq h
  obtain ⟨y, h2, h⟩ := O.bind_eq h
  rcases O.ite_eq h with ⟨h3, h⟩ | ⟨h3, h⟩
  · obtain ⟨z, h4, h⟩ := O.bind_eq h
    exact dt_chain (k := true) (l := k) (ha x h1) (hb y h2) (fun _ => hc z h4) (hq x y _ h3) (fun _ => hr y z _ h) (hm := hm)
  · cases h
    exact dt_chain (k := false) (l := false) (w := .non) (c := c) (ha x h1) (hb y h2) (fun z => nomatch z) (hq x y _ h3) (fun z => nomatch z) (hm := hm)

/-! ### and, or, not, if else -/
theorem t_val (h : DEp F e S oe) (he : ∀ i whole, isTrue e (F.X i).env whole = (do let v ← whole; standAt e.pos; holding [v] (truthy v)) := by intro _ _; rfl) : DTp F e S (oe.bind asB) := fun k q => by
  obtain ⟨x, h1, q⟩ := O.bind_eq q
  cases asB_eq q
  exact dt_val (h _ h1) he
theorem t_w (h : DWp F e S o) : DTp F e S o := fun k q => dt_w (h k q)
theorem w_and1 (h : DTp F a S o) : DWp F (.BoolOp .And [a] pos) S o := fun k q => dw_and1 (h k q)
theorem w_or1 (h : DTp F a S o) : DWp F (.BoolOp .Or [a] pos) S o := fun k q => dw_or1 (h k q)
theorem w_and {rest : List Expr} (h : DTp F a S ot) (h2 : DWp F (.BoolOp .And (b :: rest) pos) S ou) : DWp F (.BoolOp .And (a :: b :: rest) pos) S (O.ite ot ou (.ok false)) := fun k q => by
  rcases O.ite_eq q with ⟨h3, q⟩ | ⟨h3, q⟩
  · exact dw_and (k := true) (l := k) (h _ h3) (fun _ => h2 _ q)
  · cases q; exact dw_and (k := false) (l := false) (h _ h3) (fun z => nomatch z)
theorem w_or {rest : List Expr} (h : DTp F a S ot) (h2 : DWp F (.BoolOp .Or (b :: rest) pos) S ou) : DWp F (.BoolOp .Or (a :: b :: rest) pos) S (O.ite ot (.ok true) ou) := fun k q => by
  rcases O.ite_eq q with ⟨h3, q⟩ | ⟨h3, q⟩
  · cases q; exact dw_or (k := true) (l := false) (h _ h3) (fun z => nomatch z)
  · exact dw_or (k := false) (l := k) (h _ h3) (fun _ => h2 _ q)
theorem t_not (h : DTp F a S o) : DTp F (.UnaryOp .Not a pos) S (o.bind fun k => .ok (!k)) := fun k q => by
  obtain ⟨x, h1, q⟩ := O.bind_eq q
  cases q
  exact dt_not (h _ h1)
theorem p_one {op : BoolOp} (h : DEp F a S oa) : DEp F (.BoolOp op [a] pos) S oa := fun d q => de_one (h d q)
/-- a and b, truths -/
theorem p_and {rest : List Expr} (h : DEp F a S oa) (h2 : DEp F (.BoolOp .And (b :: rest) pos) S ob) : DEp F (.BoolOp .And (a :: b :: rest) pos) S (tr (O.ite (oa.bind asB) (ob.bind asB) (.ok false))) := fun d q => by
  obtain ⟨k, q0, e0⟩ := tr_eq q
  subst e0
  clear q
  have q := q0
  rcases O.ite_eq q with ⟨h3, q⟩ | ⟨h3, q⟩
  · obtain ⟨x, h1, h3⟩ := O.bind_eq h3
    obtain ⟨y, h4, q⟩ := O.bind_eq q
    cases asB_eq h3
    cases asB_eq q
    exact de_and (k := true) (l := k) (h _ h1) (fun _ => h2 _ h4)
  · obtain ⟨x, h1, h3⟩ := O.bind_eq h3
    cases asB_eq h3
    cases q
    exact de_and (k := false) (l := false) (h _ h1) (fun z => nomatch z)
theorem p_or {rest : List Expr} (h : DEp F a S oa) (h2 : DEp F (.BoolOp .Or (b :: rest) pos) S ob) : DEp F (.BoolOp .Or (a :: b :: rest) pos) S (tr (O.ite (oa.bind asB) (.ok true) (ob.bind asB))) := fun d q => by
  obtain ⟨k, q0, e0⟩ := tr_eq q
  subst e0
  clear q
  have q := q0
  rcases O.ite_eq q with ⟨h3, q⟩ | ⟨h3, q⟩
  · obtain ⟨x, h1, h3⟩ := O.bind_eq h3
    cases asB_eq h3
    cases q
    exact de_or (k := true) (l := false) (h _ h1) (fun z => nomatch z)
  · obtain ⟨x, h1, h3⟩ := O.bind_eq h3
    obtain ⟨y, h4, q⟩ := O.bind_eq q
    cases asB_eq h3
    cases asB_eq q
    exact de_or (k := false) (l := k) (h _ h1) (fun _ => h2 _ h4)
theorem p_not (h : DEp F a S oa) : DEp F (.UnaryOp .Not a pos) S (tr ((oa.bind asB).bind fun k => .ok (!k))) := fun d q => by
  obtain ⟨k, q0, e0⟩ := tr_eq q
  subst e0
  clear q
  have q := q0
  obtain ⟨l, h3, q⟩ := O.bind_eq q
  obtain ⟨x, h1, h3⟩ := O.bind_eq h3
  cases asB_eq h3
  cases q
  exact de_not (h _ h1)
theorem p_ifx (hc : DTp F c S ot) (h1 : DEp F a S oa) (h2 : DEp F b S ob) : DEp F (.IfExp c a b pos) S (O.ite ot oa ob) := fun d q => by
  rcases O.ite_eq q with ⟨h3, q⟩ | ⟨h3, q⟩
  · exact de_if (k := true) (hc _ h3) (fun _ => h1 _ q) (fun z => nomatch z)
  · exact de_if (k := false) (hc _ h3) (fun z => nomatch z) (fun _ => h2 _ q)

/-! ### arguments, displays -/
theorem a_nil : DAp F [] S (.ok []) := fun ds q => by cases q; exact ⟨da_nil, rfl⟩
theorem a_cons (h : DEp F e S oe) (hr : DAp F es S os) (hs : ∀ i, starEach (e :: es) (F.X i).env = (false, eval e (F.X i).env) :: starEach es (F.X i).env := by intro _; rfl) : DAp F (e :: es) S (O.cons oe os) := fun ds q => by
  obtain ⟨x, h1, q⟩ := O.bind_eq q
  obtain ⟨xs, h2, q⟩ := O.bind_eq q
  cases q
  obtain ⟨h3, h4⟩ := hr xs h2
  exact ⟨da_cons (h x h1) h3 hs, by rw [List.length_cons, List.length_cons, h4]⟩
theorem kw_nil : DKp F [] S (.ok []) := fun ds q => by cases q; exact ⟨dk_nil, rfl⟩
theorem kw_cons {nm : Option Str} {kpos : Pos} {ks : List Keyword} (h : DEp F e S oe) (hr : DKp F ks S os) : DKp F (⟨nm, e, kpos⟩ :: ks) S (O.cons oe os) := fun ds q => by
  obtain ⟨x, h1, q⟩ := O.bind_eq q
  obtain ⟨xs, h2, q⟩ := O.bind_eq q
  cases q
  obtain ⟨h3, h4⟩ := hr xs h2
  exact ⟨dk_cons (h x h1) h3, by rw [List.length_cons, List.length_cons, h4]⟩
theorem p_tup {x1 : Nat} (h : DAp F es S os) (hl : es.length ≤ 1000 := by decide) : DEp F (.Tuple es x1 pos) S (os.bind fun ds => .ok (.tup ds)) := fun d q => by
  obtain ⟨ds, h1, q⟩ := O.bind_eq q
  cases q
  obtain ⟨h3, h4⟩ := h ds h1
  exact de_tup h3 (Nat.le_trans (by rw [h4]; exact hl) (by decide))
theorem p_lst (h : DAp F es S os) (hl : es.length ≤ 1000 := by decide) : DEp F (.List es pos) S (os.bind fun ds => .ok (.lst ds)) := fun d q => by
  obtain ⟨ds, h1, q⟩ := O.bind_eq q
  cases q
  obtain ⟨h3, h4⟩ := h ds h1
  exact de_lst h3 (Nat.le_trans (by rw [h4]; exact hl) (by decide))
theorem o_lst (h : DAp F es S os) (hl : es.length ≤ 1000 := by decide) : DOp F (.List es pos) S os := fun ds q => by
  obtain ⟨h3, h4⟩ := h ds q
  exact do_lst h3 (Nat.le_trans (by rw [h4]; exact hl) (by decide))
theorem p_do (h : DOp F e S os) : DEp F e S (os.bind fun ds => .ok (.lst ds)) := fun d q => by
  obtain ⟨ds, h1, q⟩ := O.bind_eq q
  cases q
  exact de_do (h ds h1)

/-! ### calls -/
/-- a def by its outcome -/
def spF (C : Kc) (φ : List D → O D) : Sp := spP C fun ds d => φ ds = .ok d
def spFI (C : Kc) (c : Nat) (ψ : List D → O (List (Str × D))) : Sp := spI C c fun ds fs => ψ ds = .ok fs
section
variable {k : Nat} {nm : Str} {kws : List Keyword} {φ : List D → O D}
theorem p_call (cl : Cal F.P F.w F.C F.mg F.base k nm (spF F.C φ)) (ha : DAp F (e :: es) S os) (hk : k ≤ F.k := by exact Nat.le_of_ble_eq_true rfl)
    (hg : ∀ i, Gl (F.X i) nm := by intro _; rfl) (hdb : (nm == ("__debug__" : Str)) = false := by decide)
    (he : ∀ i, starEach (e :: es) (F.X i).env = (false, eval e (F.X i).env) :: starEach es (F.X i).env := by intro _; rfl) (hpl : ∀ i, (backTo pos (starEach es (F.X i).env)).any (·.1) = false := by intro _; rfl) : DEp F (.Call (.Name nm p) (e :: es) [] pos) S (os.bind φ) := fun d q => by
  obtain ⟨ds, h1, q⟩ := O.bind_eq q
  exact de_call cl (ha ds h1).1 q hk hg hdb he hpl
theorem p_callG (hG : ∀ i, (F.X i).A.guards = some []) (cl : CalG F.P F.w F.C F.mg F.base k nm (spF F.C φ)) (ha : DAp F (e :: es) S os) (hk : k ≤ F.k := by exact Nat.le_of_ble_eq_true rfl)
    (hg : ∀ i, Gl (F.X i) nm := by intro _; rfl) (hdb : (nm == ("__debug__" : Str)) = false := by decide)
    (he : ∀ i, starEach (e :: es) (F.X i).env = (false, eval e (F.X i).env) :: starEach es (F.X i).env := by intro _; rfl) (hpl : ∀ i, (backTo pos (starEach es (F.X i).env)).any (·.1) = false := by intro _; rfl) : DEp F (.Call (.Name nm p) (e :: es) [] pos) S (os.bind φ) := fun d q => by
  obtain ⟨ds, h1, q⟩ := O.bind_eq q
  exact de_callG hG cl (ha ds h1).1 q hk hg hdb he hpl
theorem p_callK {ks : List Str} {ix : List Nat} (cl : CalK F.P F.w F.C F.mg F.base k nm (spF F.C φ) ks ix) (ha : DKp F kws S os) (hl : kws.length = ks.length := by rfl) (hk : k ≤ F.k := by exact Nat.le_of_ble_eq_true rfl)
    (hg : ∀ i, Gl (F.X i) nm := by intro _; rfl) (hdb : (nm == ("__debug__" : Str)) = false := by decide) (hall : ∀ i, (backToKw pos (keywordEach kws (F.X i).env)).all (·.1.isSome) = true := by intro _; rfl)
    (hks : ∀ i, (backToKw pos (keywordEach kws (F.X i).env)).filterMap (·.1) = ks := by intro _; rfl) (hpl : ∀ i, ((backTo pos (starEach [] (F.X i).env)).any (·.1) || (backToKw pos (keywordEach kws (F.X i).env)).any (·.1.isNone)) = false := by intro _; rfl) : DEp F (.Call (.Name nm p) [] kws pos) S (os.bind fun ds => φ (perm ix ds)) := fun d q => by
  obtain ⟨ds, h1, q⟩ := O.bind_eq q
  obtain ⟨h3, h4⟩ := ha ds h1
  exact de_callK cl h3 q (h4.trans hl) hk hg hdb hall hks hpl
theorem p_make {cn : Nat} {ψ : List D → O (List (Str × D))} {dd : List D} (mk : Mak F.P F.w F.C F.mg F.base k nm cn (fun ds fs => ψ ds = .ok fs) dd) (ha : DAp F (e :: es) S os) (hk : k + 1 ≤ F.k := by exact Nat.le_of_ble_eq_true rfl)
    (hg : ∀ i, Gl (F.X i) nm := by intro _; rfl) (hdb : (nm == ("__debug__" : Str)) = false := by decide)
    (he : ∀ i, starEach (e :: es) (F.X i).env = (false, eval e (F.X i).env) :: starEach es (F.X i).env := by intro _; rfl) (hpl : ∀ i, (backTo pos (starEach es (F.X i).env)).any (·.1) = false := by intro _; rfl) : DEp F (.Call (.Name nm p) (e :: es) [] pos) S (os.bind fun ds => (ψ (ds ++ dd)).bind fun fs => .ok (.obj cn fs)) := fun d q => by
  obtain ⟨ds, h1, q⟩ := O.bind_eq q
  obtain ⟨fs, h2, q⟩ := O.bind_eq q
  cases q
  exact de_make mk (ha ds h1).1 h2 hk hg hdb he hpl
theorem p_makeK {cn : Nat} {ψ : List D → O (List (Str × D))} {ks : List Str} {ix : List Nat} (mk : MakK F.P F.w F.C F.mg F.base k nm cn (fun ds fs => ψ ds = .ok fs) ks ix) (ha : DKp F kws S os) (hl : kws.length = ks.length := by rfl) (hk : k + 1 ≤ F.k := by exact Nat.le_of_ble_eq_true rfl)
    (hg : ∀ i, Gl (F.X i) nm := by intro _; rfl) (hdb : (nm == ("__debug__" : Str)) = false := by decide) (hall : ∀ i, (backToKw pos (keywordEach kws (F.X i).env)).all (·.1.isSome) = true := by intro _; rfl)
    (hks : ∀ i, (backToKw pos (keywordEach kws (F.X i).env)).filterMap (·.1) = ks := by intro _; rfl) (hpl : ∀ i, ((backTo pos (starEach [] (F.X i).env)).any (·.1) || (backToKw pos (keywordEach kws (F.X i).env)).any (·.1.isNone)) = false := by intro _; rfl) : DEp F (.Call (.Name nm p) [] kws pos) S (os.bind fun ds => (ψ (perm ix ds)).bind fun fs => .ok (.obj cn fs)) := fun d q => by
  obtain ⟨ds, h1, q⟩ := O.bind_eq q
  obtain ⟨fs, h2, q⟩ := O.bind_eq q
  cases q
  obtain ⟨h3, h4⟩ := ha ds h1
  exact de_makeK mk h3 h2 (h4.trans hl) hk hg hdb hall hks hpl
theorem p_callB {id : String} (hm : F.mg nm = none) (hv : bootBuiltins nm = some (.builtin id)) (hr : CaS F (.builtin id) φ) (ha : DAp F (e :: es) S os)
    (hg : ∀ i, Gl (F.X i) nm := by intro _; rfl) (hn : nm ≠ "__name__" := by decide) (hdb : (nm == ("__debug__" : Str)) = false := by decide)
    (he : ∀ i, starEach (e :: es) (F.X i).env = (false, eval e (F.X i).env) :: starEach es (F.X i).env := by intro _; rfl) (hpl : ∀ i, (backTo pos (starEach es (F.X i).env)).any (·.1) = false := by intro _; rfl) : DEp F (.Call (.Name nm p) (e :: es) [] pos) S (os.bind φ) := fun d q => by
  obtain ⟨ds, h1, q⟩ := O.bind_eq q
  exact de_callB hm hv (ha ds h1).1 (hr ds d q) hg hn hdb he hpl
theorem p_callTy {T : String} (hm : F.mg nm = none) (hv : bootBuiltins nm = some (.type T)) (hr : CaS F (.type T) φ) (ha : DAp F (e :: es) S os)
    (hg : ∀ i, Gl (F.X i) nm := by intro _; rfl) (hn : nm ≠ "__name__" := by decide) (hdb : (nm == ("__debug__" : Str)) = false := by decide)
    (he : ∀ i, starEach (e :: es) (F.X i).env = (false, eval e (F.X i).env) :: starEach es (F.X i).env := by intro _; rfl) (hpl : ∀ i, (backTo pos (starEach es (F.X i).env)).any (·.1) = false := by intro _; rfl) : DEp F (.Call (.Name nm p) (e :: es) [] pos) S (os.bind φ) := fun d q => by
  obtain ⟨ds, h1, q⟩ := O.bind_eq q
  exact de_callTy hm hv (ha ds h1).1 (hr ds d q) hg hn hdb he hpl
/-- isinstance(a, T), T a built-in class | isinstance(a, C), C a class of the program -/
theorem p_isi {T : Expr} {cv : V} {q : D → O Bool} (hm : F.mg "isinstance" = none) (hT : DE F T S S (.cst cv)) (hr : ∀ x k, q x = .ok k → CaD F (.builtin "isinstance") [x, .cst cv] (.bl k)) (ha : DEp F a S oa)
    (hg : ∀ i, Gl (F.X i) "isinstance" := by intro _; rfl)
    (he : ∀ i, starEach [a, T] (F.X i).env = (false, eval a (F.X i).env) :: starEach [T] (F.X i).env := by intro _; rfl) (he2 : ∀ i, starEach [T] (F.X i).env = (false, eval T (F.X i).env) :: starEach [] (F.X i).env := by intro _; rfl) (hpl : ∀ i, (backTo pos (starEach [T] (F.X i).env)).any (·.1) = false := by intro _; rfl) : DEp F (.Call (.Name "isinstance" p) [a, T] [] pos) S (tr (oa.bind q)) := fun d h => by
  obtain ⟨k, h0, e0⟩ := tr_eq h
  subst e0
  clear h
  have h := h0
  obtain ⟨x, h1, h⟩ := O.bind_eq h
  exact de_callB hm bb_isinstance (da_cons (ha x h1) (da_cons hT da_nil he2) he) (hr x k h) hg (by decide) (by decide) he hpl
end
end
end SL
/-! SL2: operators, comparisons and built-ins on data, each with the rule that it answers for. -/
namespace SL
open PySem L2 DL

instance (i j : Int) : Decidable (CMul i j) := by unfold CMul; infer_instance
instance (i j : Int) : Decidable (CMulW i j) := by unfold CMulW; infer_instance
instance (i j : Int) : Decidable (CDivW i j) := by unfold CDivW; infer_instance
instance (i j : Int) : Decidable (CPow i j) := by unfold CPow; infer_instance
def mulOk (i j : Int) : Bool := decide (CMul i j ∨ CMulW i j)
def b_add : D → D → O D
  | .int i, .int j => .ok (.int (i + j))
  | .str i, .str j => if i.length + j.length ≤ 1000000 then .ok (.str (i ++ j)) else .bad
  | .tup xs, .tup ys => if xs.length + ys.length ≤ 1000000 then .ok (.tup (xs ++ ys)) else .bad
  | .lst xs, .lst ys => if xs.length + ys.length ≤ 1000000 then .ok (.lst (xs ++ ys)) else .bad
  | _, _ => .bad
def b_sub : D → D → O D
  | .int i, .int j => .ok (.int (i - j))
  | _, _ => .bad
def b_mul : D → D → O D
  | .int i, .int j => if mulOk i j then .ok (.int (i * j)) else .bad
  | .tup xs, .int k => if 1 ≤ xs.length ∧ 2 ≤ k ∧ k ≤ 1000 ∧ xs.length ≤ 1000 then .ok (.tup (List.replicate k.toNat xs).flatten) else .bad
  | .str t, .int k => if k = 0 then .ok (.str Str.empty) else if k = 1 then .ok (.str t) else .bad
  | _, _ => .bad
def b_fdiv : D → D → O D
  | .int i, .int j => if CDivW i j then .ok (.int (i / j)) else .bad
  | _, _ => .bad
def b_mod : D → D → O D
  | .int i, .int j => if 0 < j then .ok (.int (i % j)) else .bad
  | _, _ => .bad
def b_pow : D → D → O D
  | .int i, .int j => if CPow i j then .ok (.int (i ^ j.toNat)) else .bad
  | _, _ => .bad
def b_neg : D → O D
  | .int i => .ok (.int (-i))
  | _ => .bad
def c_lt : D → D → O Bool
  | .int i, .int j => .ok (decide (i < j))
  | .str i, .str j => .ok (decide (i.cps.toList < j.cps.toList))
  | _, _ => .bad
def c_le : D → D → O Bool
  | .int i, .int j => .ok (decide (i ≤ j))
  | .str i, .str j => .ok (!decide (j.cps.toList < i.cps.toList))
  | _, _ => .bad
def c_gt : D → D → O Bool
  | .int i, .int j => .ok (decide (j < i))
  | .str i, .str j => .ok (decide (j.cps.toList < i.cps.toList))
  | _, _ => .bad
def c_ge : D → D → O Bool
  | .int i, .int j => .ok (decide (j ≤ i))
  | .str i, .str j => .ok (!decide (i.cps.toList < j.cps.toList))
  | _, _ => .bad
/-- data that == is known for -/
def eqOk (d : D) : Bool := okP d && SeqAt.shaped (toP d)
def c_eq : D → D → O Bool
  | .int i, .int j => .ok (decide (i = j))
  | .str i, .str j => .ok (decide (i = j))
  | .bl i, .bl j => .ok (decide (i = j))
  | x, y => if eqOk x && eqOk y then .ok (PyData.eqv (toP x) (toP y)) else .bad
def c_ne (x y : D) : O Bool := (c_eq x y).bind fun k => .ok (!k)
def isNon : D → Bool
  | .non => true
  | _ => false
def isCst : D → Bool
  | .cst _ => true
  | _ => false
def c_is : D → D → O Bool
  | .bl i, .bl j => .ok (decide (i = j))
  | x, .non => if isCst x then .bad else .ok (isNon x)
  | _, _ => .bad
def c_isnt (x y : D) : O Bool := (c_is x y).bind fun k => .ok (!k)
def ints? : List D → Option (List Int)
  | [] => some []
  | .int i :: r => (ints? r).map (i :: ·)
  | _ :: _ => none
def strs? : List D → Option (List Str)
  | [] => some []
  | .str i :: r => (strs? r).map (i :: ·)
  | _ :: _ => none
def bls? : List D → Option (List Bool)
  | [] => some []
  | .bl i :: r => (bls? r).map (i :: ·)
  | _ :: _ => none
@[simp] theorem ints?_map (is : List Int) : ints? (is.map D.int) = some is := by
  induction is with
  | nil => rfl
  | cons i r ih => show (ints? (r.map D.int)).map (i :: ·) = _; rw [ih]; rfl
@[simp] theorem strs?_map (is : List Str) : strs? (is.map D.str) = some is := by
  induction is with
  | nil => rfl
  | cons i r ih => show (strs? (r.map D.str)).map (i :: ·) = _; rw [ih]; rfl
@[simp] theorem bls?_map (is : List Bool) : bls? (is.map D.bl) = some is := by
  induction is with
  | nil => rfl
  | cons i r ih => show (bls? (r.map D.bl)).map (i :: ·) = _; rw [ih]; rfl
theorem ints?_eq : ∀ {ds : List D} {is : List Int}, ints? ds = some is → ds = is.map D.int
  | [], _, h => by cases h; rfl
  | d :: r, is, h => by
    cases d with
    | int i =>
      have h' : (ints? r).map (i :: ·) = some is := h
      cases q : ints? r with
      | none => rw [q] at h'; cases h'
      | some js => rw [q] at h'; cases h'; rw [List.map_cons, ints?_eq q]
    | _ => cases h
theorem strs?_eq : ∀ {ds : List D} {is : List Str}, strs? ds = some is → ds = is.map D.str
  | [], _, h => by cases h; rfl
  | d :: r, is, h => by
    cases d with
    | str i =>
      have h' : (strs? r).map (i :: ·) = some is := h
      cases q : strs? r with
      | none => rw [q] at h'; cases h'
      | some js => rw [q] at h'; cases h'; rw [List.map_cons, strs?_eq q]
    | _ => cases h
theorem bls?_eq : ∀ {ds : List D} {is : List Bool}, bls? ds = some is → ds = is.map D.bl
  | [], _, h => by cases h; rfl
  | d :: r, is, h => by
    cases d with
    | bl i =>
      have h' : (bls? r).map (i :: ·) = some is := h
      cases q : bls? r with
      | none => rw [q] at h'; cases h'
      | some js => rw [q] at h'; cases h'; rw [List.map_cons, bls?_eq q]
    | _ => cases h
def op2 {α β : Type} (o : Option α) (f : α → O β) : O β := match o with
  | some a => f a
  | none => .bad
@[simp] theorem op2_some {α β : Type} (a : α) (f : α → O β) : op2 (some a) f = f a := rfl
theorem op2_eq {α β : Type} {o : Option α} {f : α → O β} {b : β} (h : op2 o f = .ok b) : ∃ a, o = some a ∧ f a = .ok b := by
  cases o with
  | none => cases h
  | some a => exact ⟨a, rfl, h⟩
def c_in : D → D → O Bool
  | .int i, .tup ds => op2 (ints? ds) fun is => .ok (decide (i ∈ is))
  | .int i, .lst ds => op2 (ints? ds) fun is => .ok (decide (i ∈ is))
  | .str i, .tup ds => op2 (strs? ds) fun is => .ok (decide (i ∈ is))
  | .str i, .lst ds => op2 (strs? ds) fun is => .ok (decide (i ∈ is))
  | .str i, .str j => match i.cps.toList with
    | [c] => .ok (decide (c ∈ j.cps.toList))
    | _ => .bad
  | x, .lst ds => if eqOk x && eqOk (.lst ds) then .ok (ds.any fun z => PyData.eqv (toP z) (toP x)) else .bad
  | _, _ => .bad
def c_nin (x y : D) : O Bool := (c_in x y).bind fun k => .ok (!k)

section
variable {F : Fam}
theorem sl6 {n : Nat} (h : n ≤ 1000000) : n ≤ sizeLine := Nat.le_trans h (by decide)
theorem s_add : OpS F .Add b_add := fun x y z h => by
  unfold b_add at h
  split at h
  · cases h; exact od_add
  · split at h
    · cases h; exact od_addS (sl6 (by assumption))
    · cases h
  · split at h
    · cases h; exact od_catT (sl6 (by assumption))
    · cases h
  · split at h
    · cases h; exact od_catL (sl6 (by assumption))
    · cases h
  · cases h
theorem s_sub : OpS F .Sub b_sub := fun x y z h => by
  unfold b_sub at h
  split at h
  · cases h; exact od_sub
  · cases h
theorem od_repT {xs : List D} {k : Int} (h1 : xs ≠ []) (h2 : 2 ≤ k) (h3 : k ≤ 1000) (h4 : xs.length ≤ 1000) : OpD F (binaryOp .Mult) (.tup xs) (.int k) (.tup (List.replicate k.toNat xs).flatten) :=
  ⟨rRepT F.C.K, fun i => by have := op_repT (X := F.X i); rw [F.hK i] at this; exact this, fun G H u v s hu hv Q q => by
    cases hu with
    | @tup a vs _ g1 g2 =>
      cases hv
      refine ⟨a, k, vs, rfl, rfl, same_t s g1, fun e => h1 ?_, h2, h3, by rw [g2.length]; exact h4, fun p hp => ?_⟩
      · have := g2.length
        rw [e] at this
        exact List.length_eq_zero_iff.mp this.symm
      · have pu := Pu.new (o := .tup (List.replicate k.toNat vs).flatten) s hp
        refine q _ _ _ pu (.tup (SqT.of upd_same) (DenL.mono pu.gg ?_))
        generalize k.toNat = n
        induction n with
        | zero => exact .nil
        | succ n ih => rw [List.replicate_succ, List.replicate_succ, List.flatten_cons, List.flatten_cons]; exact g2.append ih⟩
theorem flat_rep {C : Kc} {G : Hp} {vs : List V} {ds : List D} (h : DenL C G vs ds) : ∀ n : Nat, DenL C G (List.replicate n vs).flatten (List.replicate n ds).flatten
  | 0 => .nil
  | n + 1 => by rw [List.replicate_succ, List.replicate_succ, List.flatten_cons, List.flatten_cons]; exact h.append (flat_rep h n)
theorem od_mulW {i j : Int} (h : CMulW i j) : OpD F (binaryOp .Mult) (.int i) (.int j) (.int (i * j)) := ⟨_, fun _ => op_mulW, rd_I h fun _ => .int _⟩
theorem od_fdivW {i j : Int} (h : CDivW i j) : OpD F (binaryOp .FloorDiv) (.int i) (.int j) (.int (i / j)) := ⟨_, fun _ => op_fdivW, rd_I h fun _ => .int _⟩
def rStrMul : R2 := fun x y H Q => ∃ t k, x = .str t ∧ y = .int k ∧ ((k = 0 ∧ Q (.str Str.empty) H) ∨ (k = 1 ∧ Q (.str t) H))
theorem op_strMul {X : Cx} : OpR X (binaryOp .Mult) rStrMul := by
  intro pins s σ H x y v u Q I rx ry h
  obtain ⟨t, k, rfl, rfl, h⟩ := h
  obtain ⟨tk, rfl⟩ := rx
  obtain ⟨tu, rfl⟩ := ry
  rcases h with ⟨rfl, q⟩ | ⟨rfl, q⟩
  · exact PySem.P.mul_str_none (by decide) (by decide) ⟨.str Str.empty, H, I.tok _, ⟨_, rfl⟩, q⟩
  · exact PySem.P.mul_str (by decide) (fun h1 h2 => absurd h2 (by simp)) (fun h1 h2 => absurd h2 (by simp)) (by
      rw [if_neg (by decide), if_pos (by simp)]
      exact ⟨.str t, H, I, ⟨_, rfl⟩, q⟩)
theorem od_strMul {t t' : Str} {k : Int} (h : (k = 0 ∧ t' = Str.empty) ∨ (k = 1 ∧ t' = t)) : OpD F (binaryOp .Mult) (.str t) (.int k) (.str t') := ⟨rStrMul, fun _ => op_strMul, fun G H u v s hu hv Q q => by
  cases hu; cases hv
  rcases h with ⟨h, rfl⟩ | ⟨h, rfl⟩
  · exact ⟨_, _, rfl, rfl, .inl ⟨h, q _ _ _ (.refl s) (.str _)⟩⟩
  · exact ⟨_, _, rfl, rfl, .inr ⟨h, q _ _ _ (.refl s) (.str _)⟩⟩⟩
theorem s_mul : OpS F .Mult b_mul := fun x y z h => by
  unfold b_mul at h
  split at h
  · split at h
    · rename_i hm
      cases h
      rcases of_decide_eq_true hm with q | q
      · exact od_mul q
      · exact od_mulW q
    · cases h
  · split at h
    · rename_i hm
      cases h
      exact od_repT (fun e => by rw [e] at hm; exact absurd hm.1 (by decide)) hm.2.1 hm.2.2.1 hm.2.2.2
    · cases h
  · split at h
    · cases h; exact od_strMul (.inl ⟨by assumption, rfl⟩)
    · split at h
      · cases h; exact od_strMul (.inr ⟨by assumption, rfl⟩)
      · cases h
  · cases h
theorem s_fdiv : OpS F .FloorDiv b_fdiv := fun x y z h => by
  unfold b_fdiv at h
  split at h
  · split at h
    · cases h; exact od_fdivW (by assumption)
    · cases h
  · cases h
theorem s_mod : OpS F .Mod b_mod := fun x y z h => by
  unfold b_mod at h
  split at h
  · split at h
    · cases h; exact od_mod (by assumption)
    · cases h
  · cases h
theorem s_pow : OpS F .Pow b_pow := fun x y z h => by
  unfold b_pow at h
  split at h
  · split at h
    · cases h; exact od_pow (by assumption)
    · cases h
  · cases h
theorem s_neg : UnS F .USub b_neg := fun x z h => by
  unfold b_neg at h
  split at h
  · cases h; exact ud_neg
  · cases h
theorem od_gtS {i j : Str} : OpD F (compareOp .Gt) (.str i) (.str j) (.bl (decide (j.cps.toList < i.cps.toList))) := ⟨_, fun _ => op_gt_str, fun G H u v s hu hv Q q => by
  cases hu; cases hv
  exact ⟨i, j, rfl, rfl, q _ _ _ (.refl s) (.bl _)⟩⟩
theorem od_geS {i j : Str} : OpD F (compareOp .GtE) (.str i) (.str j) (.bl (!decide (i.cps.toList < j.cps.toList))) := ⟨_, fun _ => op_ge_str, fun G H u v s hu hv Q q => by
  cases hu; cases hv
  exact ⟨i, j, rfl, rfl, q _ _ _ (.refl s) (.bl _)⟩⟩
theorem s_lt : CmS F .Lt c_lt := fun x y z h => by
  unfold c_lt at h
  split at h
  · cases h; exact od_lt
  · cases h; exact od_ltS
  · cases h
theorem s_le : CmS F .LtE c_le := fun x y z h => by
  unfold c_le at h
  split at h
  · cases h; exact od_le
  · cases h; exact od_leS
  · cases h
theorem s_gt : CmS F .Gt c_gt := fun x y z h => by
  unfold c_gt at h
  split at h
  · cases h; exact od_gt
  · cases h; exact od_gtS
  · cases h
theorem s_ge : CmS F .GtE c_ge := fun x y z h => by
  unfold c_ge at h
  split at h
  · cases h; exact od_ge
  · cases h; exact od_geS
  · cases h
theorem eqOk_of {d : D} (h : eqOk d = true) : okP d = true ∧ SeqAt.shaped (toP d) = true := by
  unfold eqOk at h
  exact Bool.and_eq_true_iff.mp h
theorem s_eq : CmS F .Eq c_eq := fun x y z h => by
  unfold c_eq at h
  split at h
  · cases h; exact od_eqI
  · cases h; exact od_eqS
  · cases h; exact od_eqB
  · split at h
    · rename_i hm
      cases h
      obtain ⟨h1, h2⟩ := Bool.and_eq_true_iff.mp hm
      exact od_eqP (eqOk_of h1).1 (eqOk_of h2).1 (eqOk_of h1).2 (eqOk_of h2).2
    · cases h
theorem s_ne : CmS F .NotEq c_ne := fun x y z h => by
  obtain ⟨k, h1, e⟩ := O.bind_eq h
  clear h
  have h := h1
  clear h1
  cases e
  unfold c_eq at h
  split at h
  · cases h; exact od_neI
  · cases h; exact od_neS
  · cases h; exact od_neB
  · split at h
    · rename_i hm
      cases h
      obtain ⟨h1, h2⟩ := Bool.and_eq_true_iff.mp hm
      exact od_neP (eqOk_of h1).1 (eqOk_of h2).1 (eqOk_of h1).2 (eqOk_of h2).2
    · cases h
theorem den_non {C : Kc} {G : Hp} {u : V} {x : D} (h : Den C G u x) (hc : isCst x = false) : decide (u = .non) = isNon x := by
  cases h <;> first | rfl | cases hc | (simp [isNon]; done)
theorem od_isN {x : D} (hc : isCst x = false) : OpD F (compareOp .Is) x .non (.bl (isNon x)) := ⟨_, fun _ => op_isN, fun G H u v s hu hv Q q => by
  cases hv
  refine ⟨rfl, ?_⟩
  rw [den_non hu hc]
  exact q _ _ _ (.refl s) (.bl _)⟩
theorem od_notN {x : D} (hc : isCst x = false) : OpD F (compareOp .IsNot) x .non (.bl (!isNon x)) := ⟨_, fun _ => op_notN, fun G H u v s hu hv Q q => by
  cases hv
  refine ⟨rfl, ?_⟩
  rw [den_non hu hc]
  exact q _ _ _ (.refl s) (.bl _)⟩
theorem od_isB {i j : Bool} : OpD F (compareOp .Is) (.bl i) (.bl j) (.bl (decide (i = j))) := ⟨_, fun _ => op_isBl, fun G H u v s hu hv Q q => by
  cases hu; cases hv
  exact ⟨i, j, rfl, rfl, q _ _ _ (.refl s) (.bl _)⟩⟩
theorem od_isntB {i j : Bool} : OpD F (compareOp .IsNot) (.bl i) (.bl j) (.bl (!decide (i = j))) := ⟨_, fun _ => op_notBl, fun G H u v s hu hv Q q => by
  cases hu; cases hv
  exact ⟨i, j, rfl, rfl, q _ _ _ (.refl s) (.bl _)⟩⟩
theorem s_is : CmS F .Is c_is := fun x y z h => by
  unfold c_is at h
  split at h
  · cases h; exact od_isB
  · split at h
    · cases h
    · rename_i hm
      cases h
      exact od_isN (by simpa using hm)
  · cases h
theorem s_isnt : CmS F .IsNot c_isnt := fun x y z h => by
  obtain ⟨k, h1, e⟩ := O.bind_eq h
  clear h
  have h := h1
  clear h1
  cases e
  unfold c_is at h
  split at h
  · cases h; exact od_isntB
  · split at h
    · cases h
    · rename_i hm
      cases h
      exact od_notN (by simpa using hm)
  · cases h
theorem flat_strs {is : List Str} : (is.map V.str).all flatV = true := by simp [flatV]
theorem in_strs {i : Str} {is : List Str} : inV (.str i) (is.map V.str) = decide (i ∈ is) := by
  unfold inV
  rw [List.any_map]
  have : ∀ x : Str, eqV (.str x) (.str i) = decide (x = i) := fun x => by
    show decide _ = _
    first | rfl | simp
  induction is with
  | nil => simp
  | cons x r ih =>
    rw [List.any_cons, ih]
    show (eqV (.str x) (.str i) || _) = _
    rw [this]
    simp [List.mem_cons, eq_comm]
theorem od_inG {n : Bool} {op : CmpOp} {x : D} {v : V} {ds : List D} {b : Bool} (hop : ∀ i, OpR (F.X i) (compareOp op) (rIn (F.X i).K n)) (hx : ∀ G u, Den F.C G u x → u = v) (hf : flatV v = true) (hd : ∀ G us, DenL F.C G us ds → us.all flatV = true ∧ inV v us = b) (d : D) (hdd : d = .tup ds ∨ d = .lst ds) : OpD F (compareOp op) x d (.bl (if n then !b else b)) :=
  ⟨rIn F.C.K n, fun i => by have := hop i; rw [F.hK i] at this; exact this, fun G H u w s hu hv Q q => by
    cases hx G u hu
    rcases hdd with rfl | rfl
    · cases hv with
      | @tup a vs _ h1 h2 =>
        obtain ⟨z1, z2⟩ := hd G vs h2
        refine ⟨a, vs, rfl, .inr (same_t s h1), hf, z1, ?_⟩
        rw [z2]
        exact q _ _ _ (.refl s) (.bl _)
    · cases hv with
      | @lst a vs _ h1 h2 =>
        obtain ⟨z1, z2⟩ := hd G vs h2
        refine ⟨a, vs, rfl, .inl (s.seq h1), hf, z1, ?_⟩
        rw [z2]
        exact q _ _ _ (.refl s) (.bl _)⟩
theorem od_inIs {i : Int} {is : List Int} {n : Bool} {op : CmpOp} (hop : ∀ i, OpR (F.X i) (compareOp op) (rIn (F.X i).K n)) (d : D) (hd : d = .tup (is.map D.int) ∨ d = .lst (is.map D.int)) : OpD F (compareOp op) (.int i) d (.bl (if n then !decide (i ∈ is) else decide (i ∈ is))) :=
  od_inG hop (fun G u h => by cases h; rfl) rfl (fun G us h => by have e := denL_int h; subst e; exact ⟨flat_ints, in_ints⟩) d hd
theorem od_inSs {i : Str} {is : List Str} {n : Bool} {op : CmpOp} (hop : ∀ i, OpR (F.X i) (compareOp op) (rIn (F.X i).K n)) (d : D) (hd : d = .tup (is.map D.str) ∨ d = .lst (is.map D.str)) : OpD F (compareOp op) (.str i) d (.bl (if n then !decide (i ∈ is) else decide (i ∈ is))) :=
  od_inG hop (fun G u h => by cases h; rfl) rfl (fun G us h => by have e := denL_str h; subst e; exact ⟨flat_strs, in_strs⟩) d hd
theorem od_sign {i : Str} {c : Nat} {j : Str} (h : i.cps.toList = [c]) : OpD F (compareOp .In) (.str i) (.str j) (.bl (decide (c ∈ j.cps.toList))) := ⟨_, fun _ => op_in_sign, fun G H u v s hu hv Q q => by
  cases hu; cases hv
  refine ⟨c, j, ?_, rfl, q _ _ _ (.refl s) (.bl _)⟩
  obtain ⟨a⟩ := i
  have e : a = #[c] := Array.toList_inj.mp h
  rw [e]⟩
theorem od_nsign {i : Str} {c : Nat} {j : Str} (h : i.cps.toList = [c]) : OpD F (compareOp .NotIn) (.str i) (.str j) (.bl (!decide (c ∈ j.cps.toList))) := ⟨_, fun _ => op_notIn_sign, fun G H u v s hu hv Q q => by
  cases hu; cases hv
  refine ⟨c, j, ?_, rfl, q _ _ _ (.refl s) (.bl _)⟩
  obtain ⟨a⟩ := i
  have e : a = #[c] := Array.toList_inj.mp h
  rw [e]⟩
end
end SL
/-! SL3: in, built-ins, items, slices, attributes by outcomes. -/
namespace SL
open PySem L2 DL
theorem okPs_mem {ds : List D} {d : D} (h : okP d = true) : okP d = true := h
section
variable {F : Fam}
theorem od_inL {x : D} {ds : List D} (h1 : eqOk x = true) (h2 : eqOk (.lst ds) = true) : OpD F (compareOp .In) x (.lst ds) (.bl (ds.any fun z => PyData.eqv (toP z) (toP x))) :=
  ⟨rInD F.C.K, fun i => by
      have := op_inD (X := F.X i) (by have := (F.room i).un; omega)
      rw [F.hK i] at this; exact this, fun G H u v s hu hv Q q => by
    refine ⟨toP x, toPs ds, hu.dp s (eqOk_of h1).1, hv.dp s (eqOk_of h2).1, (eqOk_of h1).2, (eqOk_of h2).2, ?_⟩
    have e : ((toPs ds).any fun z => PyData.eqv z (toP x)) = ds.any fun z => PyData.eqv (toP z) (toP x) := by
      clear h2 hv q
      induction ds with
      | nil => rfl
      | cons a r ih => show (PyData.eqv (toP a) (toP x) || (toPs r).any fun z => PyData.eqv z (toP x)) = _; rw [ih]; rfl
    rw [e]
    exact q _ _ _ (.refl s) (.bl _)⟩
theorem od_ninL {x : D} {ds : List D} (h1 : eqOk x = true) (h2 : eqOk (.lst ds) = true) : OpD F (compareOp .NotIn) x (.lst ds) (.bl (!ds.any fun z => PyData.eqv (toP z) (toP x))) :=
  ⟨rNotInD F.C.K, fun i => by
      have := op_notInD (X := F.X i) (by have := (F.room i).un; omega)
      rw [F.hK i] at this; exact this, fun G H u v s hu hv Q q => by
    refine ⟨toP x, toPs ds, hu.dp s (eqOk_of h1).1, hv.dp s (eqOk_of h2).1, (eqOk_of h1).2, (eqOk_of h2).2, ?_⟩
    have e : ((toPs ds).any fun z => PyData.eqv z (toP x)) = ds.any fun z => PyData.eqv (toP z) (toP x) := by
      clear h2 hv q
      induction ds with
      | nil => rfl
      | cons a r ih => show (PyData.eqv (toP a) (toP x) || (toPs r).any fun z => PyData.eqv z (toP x)) = _; rw [ih]; rfl
    rw [e]
    exact q _ _ _ (.refl s) (.bl _)⟩
theorem s_in : CmS F .In c_in := fun x y z h => by
  unfold c_in at h
  split at h
  · obtain ⟨is, h1, h⟩ := op2_eq h
    cases h
    exact od_inIs (n := false) (fun _ => op_in_seq) _ (.inl (by rw [ints?_eq h1]))
  · obtain ⟨is, h1, h⟩ := op2_eq h
    cases h
    exact od_inIs (n := false) (fun _ => op_in_seq) _ (.inr (by rw [ints?_eq h1]))
  · obtain ⟨is, h1, h⟩ := op2_eq h
    cases h
    exact od_inSs (n := false) (fun _ => op_in_seq) _ (.inl (by rw [strs?_eq h1]))
  · obtain ⟨is, h1, h⟩ := op2_eq h
    cases h
    exact od_inSs (n := false) (fun _ => op_in_seq) _ (.inr (by rw [strs?_eq h1]))
  · split at h
    · cases h; exact od_sign (by assumption)
    · cases h
  · split at h
    · rename_i hm
      cases h
      obtain ⟨h1, h2⟩ := Bool.and_eq_true_iff.mp hm
      exact od_inL h1 h2
    · cases h
  · cases h
theorem s_nin : CmS F .NotIn c_nin := fun x y z h => by
  obtain ⟨k, h0, e⟩ := O.bind_eq h
  clear h
  cases e
  unfold c_in at h0
  split at h0
  · obtain ⟨is, h1, h⟩ := op2_eq h0
    cases h
    exact od_inIs (n := true) (fun _ => op_notIn_seq) _ (.inl (by rw [ints?_eq h1]))
  · obtain ⟨is, h1, h⟩ := op2_eq h0
    cases h
    exact od_inIs (n := true) (fun _ => op_notIn_seq) _ (.inr (by rw [ints?_eq h1]))
  · obtain ⟨is, h1, h⟩ := op2_eq h0
    cases h
    exact od_inSs (n := true) (fun _ => op_notIn_seq) _ (.inl (by rw [strs?_eq h1]))
  · obtain ⟨is, h1, h⟩ := op2_eq h0
    cases h
    exact od_inSs (n := true) (fun _ => op_notIn_seq) _ (.inr (by rw [strs?_eq h1]))
  · split at h0
    · cases h0; exact od_nsign (by assumption)
    · cases h0
  · split at h0
    · rename_i hm
      cases h0
      obtain ⟨h1, h2⟩ := Bool.and_eq_true_iff.mp hm
      exact od_ninL h1 h2
    · cases h0
  · cases h0
end

/-! ### built-ins -/
def bi_abs : List D → O D
  | [.int i] => .ok (.int (if i < 0 then -i else i))
  | _ => .bad
def maxL : List Int → Option Int
  | [] => none
  | a :: r => some (r.foldl (fun m x => if x > m then x else m) a)
def minL : List Int → Option Int
  | [] => none
  | a :: r => some (r.foldl (fun m x => if x < m then x else m) a)
def bi_max : List D → O D
  | [.int i, .int j] => .ok (.int (if j > i then j else i))
  | [.lst ds] => op2 (ints? ds) fun is => op2 (maxL is) fun m => .ok (.int m)
  | _ => .bad
def bi_min : List D → O D
  | [.int i, .int j] => .ok (.int (if j < i then j else i))
  | [.lst ds] => op2 (ints? ds) fun is => op2 (minL is) fun m => .ok (.int m)
  | _ => .bad
def bi_len : List D → O D
  | [.tup ds] => .ok (.int ds.length)
  | [.lst ds] => .ok (.int ds.length)
  | [.str t] => if t.length ≤ 1000000 then .ok (.int t.length) else .bad
  | _ => .bad
def bi_all : List D → O D
  | [.lst ds] => op2 (bls? ds) fun bs => .ok (.bl (bs.all id))
  | _ => .bad
def bi_any : List D → O D
  | [.lst ds] => op2 (bls? ds) fun bs => .ok (.bl (bs.any id))
  | _ => .bad
def bi_sum : List D → O D
  | [.lst ds] => op2 (ints? ds) fun is => .ok (.int is.sum)
  | _ => .bad
def bi_int : List D → O D
  | [.int i] => .ok (.int i)
  | [.bl b] => .ok (.int (if b then 1 else 0))
  | [.str t] => if t.length ≤ 640 then op2 (intText? t) fun n => .ok (.int n) else .bad
  | _ => .bad
def bi_str : List D → O D
  | [.int i] => if i.natAbs.log2 < 1920 then .ok (.str (toString i)) else .bad
  | [.str t] => .ok (.str t)
  | _ => .bad
def bi_tuple : List D → O D
  | [.lst ds] => .ok (.tup ds)
  | [.tup ds] => .ok (.tup ds)
  | _ => .bad
def bi_list : List D → O D
  | [.lst ds] => .ok (.lst ds)
  | [.tup ds] => .ok (.lst ds)
  | _ => .bad
def repB (d : D) : Bool := isSeqD d && okP d && (toP d).showable && (toP d).leavesShort 100 && !(toP d).hasDict && decide ((toP d).depth ≤ 60) && decide ((toP d).weight ≤ 100000) && (toP d).canLay0
def bi_repr : List D → O D
  | [d] => if repB d then .ok (.str (toP d).shown) else .bad
  | _ => .bad
theorem maxL_is {is : List Int} {m : Int} (h : maxL is = some m) : m ∈ is ∧ ∀ y ∈ is, y ≤ m := by
  cases is with
  | nil => cases h
  | cons a r =>
    cases h
    have key : ∀ (l : List Int) (m0 : Int), (l.foldl (fun m x => if x > m then x else m) m0 = m0 ∨ l.foldl (fun m x => if x > m then x else m) m0 ∈ l) ∧ m0 ≤ l.foldl (fun m x => if x > m then x else m) m0 ∧ ∀ y ∈ l, y ≤ l.foldl (fun m x => if x > m then x else m) m0 := by
      intro l
      induction l with
      | nil => intro m0; simp
      | cons x l ih =>
        intro m0
        obtain ⟨h1, h2, h3⟩ := ih (if x > m0 then x else m0)
        rw [List.foldl_cons]
        refine ⟨?_, ?_, ?_⟩
        · rcases h1 with h1 | h1
          · by_cases hx : x > m0
            · rw [if_pos hx] at h1 ⊢; right; rw [h1]; exact List.mem_cons_self
            · rw [if_neg hx] at h1 ⊢; left; exact h1
          · right; exact List.mem_cons_of_mem _ h1
        · refine Int.le_trans ?_ h2
          split <;> omega
        · intro y hy
          rcases List.mem_cons.mp hy with rfl | hy
          · refine Int.le_trans ?_ h2
            split <;> omega
          · exact h3 y hy
    obtain ⟨h1, h2, h3⟩ := key r a
    refine ⟨?_, ?_⟩
    · rcases h1 with h1 | h1
      · rw [h1]; exact List.mem_cons_self
      · exact List.mem_cons_of_mem _ h1
    · intro y hy
      rcases List.mem_cons.mp hy with rfl | hy
      · exact h2
      · exact h3 y hy
theorem minL_is {is : List Int} {m : Int} (h : minL is = some m) : m ∈ is ∧ ∀ y ∈ is, m ≤ y := by
  cases is with
  | nil => cases h
  | cons a r =>
    cases h
    have key : ∀ (l : List Int) (m0 : Int), (l.foldl (fun m x => if x < m then x else m) m0 = m0 ∨ l.foldl (fun m x => if x < m then x else m) m0 ∈ l) ∧ l.foldl (fun m x => if x < m then x else m) m0 ≤ m0 ∧ ∀ y ∈ l, l.foldl (fun m x => if x < m then x else m) m0 ≤ y := by
      intro l
      induction l with
      | nil => intro m0; simp
      | cons x l ih =>
        intro m0
        obtain ⟨h1, h2, h3⟩ := ih (if x < m0 then x else m0)
        rw [List.foldl_cons]
        refine ⟨?_, ?_, ?_⟩
        · rcases h1 with h1 | h1
          · by_cases hx : x < m0
            · rw [if_pos hx] at h1 ⊢; right; rw [h1]; exact List.mem_cons_self
            · rw [if_neg hx] at h1 ⊢; left; exact h1
          · right; exact List.mem_cons_of_mem _ h1
        · refine Int.le_trans h2 ?_
          split <;> omega
        · intro y hy
          rcases List.mem_cons.mp hy with rfl | hy
          · refine Int.le_trans h2 ?_
            split <;> omega
          · exact h3 y hy
    obtain ⟨h1, h2, h3⟩ := key r a
    refine ⟨?_, ?_⟩
    · rcases h1 with h1 | h1
      · rw [h1]; exact List.mem_cons_self
      · exact List.mem_cons_of_mem _ h1
    · intro y hy
      rcases List.mem_cons.mp hy with rfl | hy
      · exact h2
      · exact h3 y hy
section
variable {F : Fam}
theorem s_abs : CaS F (.builtin "abs") bi_abs := fun ds z h => by
  unfold bi_abs at h
  split at h
  · cases h; exact ca_abs
  · cases h
theorem ca_maxL {is : List Int} {m : Int} (h : maxL is = some m) : CaD F (.builtin "max") [.lst (is.map D.int)] (.int m) := ⟨rMax F.C.K, fun i => by have := cr_max (X := F.X i) (F.calm i); rw [F.hK i] at this; exact this, fun G H us s hu Q q => by
  cases hu with
  | cons h0 l => cases h0 with
    | @lst a vs _ h1 h2 =>
      cases l
      have e := denL_int h2
      subst e
      obtain ⟨z1, z2⟩ := maxL_is h
      refine ⟨a, is, rfl, s.seq h1, List.length_pos_of_mem z1, fun m' y1 y2 => ?_⟩
      have : m' = m := Int.le_antisymm (z2 m' y1) (y2 m z1)
      rw [this]
      exact q _ _ _ (.refl s) (.int _)⟩
theorem ca_minL {is : List Int} {m : Int} (h : minL is = some m) : CaD F (.builtin "min") [.lst (is.map D.int)] (.int m) := ⟨rMin F.C.K, fun i => by have := cr_min (X := F.X i) (F.calm i); rw [F.hK i] at this; exact this, fun G H us s hu Q q => by
  cases hu with
  | cons h0 l => cases h0 with
    | @lst a vs _ h1 h2 =>
      cases l
      have e := denL_int h2
      subst e
      obtain ⟨z1, z2⟩ := minL_is h
      refine ⟨a, is, rfl, s.seq h1, List.length_pos_of_mem z1, fun m' y1 y2 => ?_⟩
      have : m' = m := Int.le_antisymm (y2 m z1) (z2 m' y1)
      rw [this]
      exact q _ _ _ (.refl s) (.int _)⟩
theorem s_max : CaS F (.builtin "max") bi_max := fun ds z h => by
  unfold bi_max at h
  split at h
  · cases h; exact ca_max
  · obtain ⟨is, h1, h⟩ := op2_eq h
    obtain ⟨m, h2, h⟩ := op2_eq h
    cases h
    rw [ints?_eq h1]
    exact ca_maxL h2
  · cases h
theorem s_min : CaS F (.builtin "min") bi_min := fun ds z h => by
  unfold bi_min at h
  split at h
  · cases h; exact ca_min
  · obtain ⟨is, h1, h⟩ := op2_eq h
    obtain ⟨m, h2, h⟩ := op2_eq h
    cases h
    rw [ints?_eq h1]
    exact ca_minL h2
  · cases h
theorem s_len : CaS F (.builtin "len") bi_len := fun ds z h => by
  unfold bi_len at h
  split at h
  · cases h; exact ca_lenT
  · cases h; exact ca_lenL
  · split at h
    · cases h; exact ca_lenS (sl6 (by assumption))
    · cases h
  · cases h
theorem s_all : CaS F (.builtin "all") bi_all := fun ds z h => by
  unfold bi_all at h
  split at h
  · obtain ⟨bs, h1, h⟩ := op2_eq h
    cases h
    rw [bls?_eq h1]
    exact ca_all
  · cases h
theorem s_any : CaS F (.builtin "any") bi_any := fun ds z h => by
  unfold bi_any at h
  split at h
  · obtain ⟨bs, h1, h⟩ := op2_eq h
    cases h
    rw [bls?_eq h1]
    exact ca_any
  · cases h
theorem s_sum : CaS F (.builtin "sum") bi_sum := fun ds z h => by
  unfold bi_sum at h
  split at h
  · obtain ⟨bs, h1, h⟩ := op2_eq h
    cases h
    rw [ints?_eq h1]
    exact ca_sum
  · cases h
theorem ca_intS {t : Str} {n : Int} (h1 : t.length ≤ 640) (h2 : intText? t = some n) : CaD F (.type "int") [.str t] (.int n) := ⟨_, fun _ => call_int_str, fun G H us s h Q q => by
  cases h with
  | cons h l => cases h; cases l; exact ⟨t, n, rfl, h2, h1, q _ _ _ (.refl s) (.int _)⟩⟩
theorem s_int : CaS F (.type "int") bi_int := fun ds z h => by
  unfold bi_int at h
  split at h
  · cases h; exact ca_int
  · cases h; exact ca_intB
  · split at h
    · obtain ⟨n, h1, h⟩ := op2_eq h
      cases h
      exact ca_intS (by assumption) h1
    · cases h
  · cases h
theorem ca_strS {t : Str} : CaD F (.type "str") [.str t] (.str t) := ⟨_, fun _ => SkE.call_str_str, fun G H us s h Q q => by
  cases h with
  | cons h l => cases h; cases l; exact ⟨t, rfl, q _ _ _ (.refl s) (.str _)⟩⟩
theorem s_str : CaS F (.type "str") bi_str := fun ds z h => by
  unfold bi_str at h
  split at h
  · split at h
    · cases h; exact ca_strI (by assumption)
    · cases h
  · cases h; exact ca_strS
  · cases h
theorem s_tuple : CaS F (.type "tuple") bi_tuple := fun ds z h => by
  unfold bi_tuple at h
  split at h
  · cases h; exact ca_tupL
  · cases h; exact ca_tupT
  · cases h
theorem s_list : CaS F (.type "list") bi_list := fun ds z h => by
  unfold bi_list at h
  split at h
  · cases h; exact ca_listL
  · cases h; exact ca_listT
  · cases h
theorem repB_of {d : D} (h : repB d = true) : isSeqD d = true ∧ Rep 60 100000 d := by
  unfold repB at h
  simp only [Bool.and_eq_true, decide_eq_true_eq, Bool.not_eq_true'] at h
  obtain ⟨⟨⟨⟨⟨⟨⟨h1, h2⟩, h3⟩, h4⟩, h5⟩, h6⟩, h7⟩, h8⟩ := h
  exact ⟨h1, h2, h3, h4, h5, h6, h7, h8⟩
theorem repB_mk {n W : Nat} {d : D} (h : Rep n W d) (hq : isSeqD d = true) (hn : n ≤ 60 := by decide) (hW : W ≤ 100000 := by decide) : repB d = true := by
  unfold repB
  have h1 := h.dp
  have h2 := h.wt
  rw [hq, h.ok, h.sh, h.ls, h.nd, h.cl, decide_eq_true (by omega), decide_eq_true (by omega)]
  rfl
theorem s_repr (hG : ∀ i, (F.X i).A.guards = some []) : CaS F (.builtin "repr") bi_repr := fun ds z h => by
  unfold bi_repr at h
  split at h
  · split at h
    · rename_i hm
      cases h
      obtain ⟨h1, h2⟩ := repB_of hm
      exact ca_repr hG h2 h1
    · cases h
  · cases h
end
/-! ### isinstance -/
/-- the built-in type's name -/
def tyN : D → Option String
  | .non => some "NoneType"
  | .bl _ => some "bool"
  | .int _ => some "int"
  | .str _ => some "str"
  | .tup _ => some "tuple"
  | .lst _ => some "list"
  | .dic _ => some "dict"
  | _ => none
def isiB (T : String) (d : D) : O Bool := match d with
  | .obj _ _ => .ok false
  | .cst _ => .bad
  | d => op2 (tyN d) fun t => op2 (kitB t T) fun b => .ok b
def isiC (c : Nat) (d : D) : O Bool := match d with
  | .obj c' _ => .ok (decide (c' = c))
  | .cst _ => .bad
  | _ => .ok false
/-! ### items -/
def ix : D → D → O D
  | .tup ds, .int i => op2 (atI ds i) .ok
  | .lst ds, .int i => op2 (atI ds i) .ok
  | .str t, .int i => if t.length ≤ 1000000 then op2 (atI t.cps.toList i) fun c => .ok (.str ⟨#[c]⟩) else .bad
  | _, _ => .bad
def cut (d : D) (lo hi : Option Int) : O D := match d with
  | .tup ds => .ok (.tup (cutD ds lo hi))
  | .lst ds => .ok (.lst (cutD ds lo hi))
  | .str t => if t.length ≤ 1000000 then .ok (.str (cutS t lo hi)) else .bad
  | _ => .bad
def fld (f : Str) (cs : List Nat) (d : D) : O D := match d with
  | .obj c fs => if c ∈ cs then op2 (fs.lookup f) .ok else .bad
  | _ => .bad
def asI : D → O Int
  | .int i => .ok i
  | _ => .bad
@[simp] theorem asI_int (i : Int) : asI (.int i) = .ok i := rfl
theorem asI_eq {d : D} {i : Int} (h : asI d = .ok i) : d = .int i := by
  cases d <;> first | (cases h; rfl) | cases h
section
variable {F : Fam} {S : ST} {e a b c : Expr} {pos p p2 : Pos} {oa ob : O D} {lo hi : Option Expr} {ol oh : O (Option Int)}
theorem p_ix (ha : DEp F a S oa) (hb : DEp F b S ob) (hs : PlainIx b := by intro _ _; rfl) : DEp F (.Subscript a b pos) S (oa.bind fun x => ob.bind fun y => ix x y) := fun d h => by
  obtain ⟨x, h1, h⟩ := O.bind_eq h
  obtain ⟨y, h2, h⟩ := O.bind_eq h
  unfold ix at h
  split at h
  · obtain ⟨z, h3, h⟩ := op2_eq h
    cases h
    exact de_ixT (ha _ h1) (hb _ h2) h3 hs
  · obtain ⟨z, h3, h⟩ := op2_eq h
    cases h
    exact de_ixL (ha _ h1) (hb _ h2) h3 hs
  · split at h
    · obtain ⟨z, h3, h⟩ := op2_eq h
      cases h
      exact de_ixS (ha _ h1) (hb _ h2) (sl6 (by assumption)) h3 hs
    · cases h
  · cases h
def DXp (F : Fam) (o : Option Expr) (S : ST) (r : O (Option Int)) : Prop := ∀ i, r = .ok i → DL.DOp F o S S i
theorem x_none : DXp F none S (.ok none) := fun i h => by cases h; exact do_none
theorem x_some (h : DEp F e S oa) : DXp F (some e) S (oa.bind fun x => (asI x).bind fun i => .ok (some i)) := fun i q => by
  obtain ⟨x, h1, q⟩ := O.bind_eq q
  obtain ⟨j, h2, q⟩ := O.bind_eq q
  cases asI_eq h2
  cases q
  exact do_some (h _ h1)
theorem p_slice (ha : DEp F a S oa) (hl : DXp F lo S ol) (hh : DXp F hi S oh) : DEp F (.Subscript a (.Slice lo hi none p2) pos) S (oa.bind fun x => ol.bind fun l => oh.bind fun h => cut x l h) := fun d q => by
  obtain ⟨x, h1, q⟩ := O.bind_eq q
  obtain ⟨l, h2, q⟩ := O.bind_eq q
  obtain ⟨h, h3, q⟩ := O.bind_eq q
  unfold cut at q
  split at q
  · cases q; exact de_sliceT (ha _ h1) (hl _ h2) (hh _ h3)
  · cases q; exact de_sliceL (ha _ h1) (hl _ h2) (hh _ h3)
  · split at q
    · cases q; exact de_sliceS (ha _ h1) (hl _ h2) (hh _ h3) (sl6 (by assumption))
    · cases q
  · cases q
theorem de_fldH {cs : List Nat} {f : Str} {cn : Nat} {fs : List (Str × D)} {d : D} (hT : ∀ c ∈ cs, F.C.has c = true → Cls F.C.K (F.C.cl c) ∧ NoAttr F.C.K (F.C.cl c) f) (h : DE F e S S (.obj cn fs)) (hc : cn ∈ cs) (hl : fs.lookup f = some d)
    (hb : ∀ i, attributeBase e f (F.X i).env (eval e (F.X i).env) = eval e (F.X i).env) : DE F (.Attribute e f pos) S S d :=
  de_of (te := tFld F.C.K (anyE F e) f) (fun i => by have := pe_fld (pos := pos) (anyE_ok (e := e) i) (hb i); rw [F.hK i] at this; exact this) fun σ G H cx Q q => h σ G H cx _ fun v G1 H1 m dv => by
    cases dv with
    | @obj a dx _ vs _ hq ha hf =>
      obtain ⟨w, h1, h2⟩ := hf.look hl
      obtain ⟨t1, t2⟩ := hT cn hc hq
      exact ⟨a, _, dx, vs, w, rfl, m.cx.sub _ _ ha, t1, t2, h1, q _ _ _ m h2⟩
theorem p_fld {cs : List Nat} {f : Str} (hT : ∀ c ∈ cs, F.C.has c = true → Cls F.C.K (F.C.cl c) ∧ NoAttr F.C.K (F.C.cl c) f) (ha : DEp F e S oa)
    (hb : ∀ i, attributeBase e f (F.X i).env (eval e (F.X i).env) = eval e (F.X i).env := by intro _; rfl) : DEp F (.Attribute e f pos) S (oa.bind (fld f cs)) := fun d h => by
  obtain ⟨x, h1, h⟩ := O.bind_eq h
  unfold fld at h
  split at h
  · split at h
    · obtain ⟨y, h2, h⟩ := op2_eq h
      cases h
      exact de_fldH hT (ha _ h1) (by assumption) h2 hb
    · cases h
  · cases h
/-- isinstance, a built-in class -/
theorem isi_ok {T : String} {x : D} {k : Bool} (hI : ∀ c, F.C.has c = true → InsF F.C.K (F.C.cl c)) (hO : ∀ c, F.C.has c = true → PySem.W.kitOne F.C.K (.ref (F.C.cl c)) (.type T) = some false) (h : isiB T x = .ok k) : CaD F (.builtin "isinstance") [x, .cst (.ty T)] (.bl k) := by
  unfold isiB at h
  split at h
  · rename_i c fs
    cases h
    by_cases hc : F.C.has c = true
    · exact ca_isi (.ty T) (fun _ _ e q => hI _ q) (fun _ z => nomatch z) (hO c hc)
    · refine ⟨fun _ _ _ => False, fun _ => fun _ _ _ _ _ _ _ _ _ z => z.elim, fun G H us s hu Q q => ?_⟩
      cases hu with
      | cons h0 _ => cases h0 with
        | obj hq => exact hc hq
  · cases h
  · rename_i h1 h2
    obtain ⟨t, h3, h⟩ := op2_eq h
    obtain ⟨b, h4, h⟩ := op2_eq h
    cases h
    refine ca_isi (.ty T) (fun c fs e _ => absurd e (h1 c fs)) (fun v e => absurd e (h2 v)) ?_
    have : tyD F.C x = .type t := by cases x <;> first | (cases h3; rfl) | cases h3
    rw [this]
    exact kit_ty h4
/-- isinstance, a class of the program -/
theorem isi_own {cn : Nat} {x : D} {k : Bool} (hI : ∀ c, F.C.has c = true → InsF F.C.K (F.C.cl c)) (hh : F.C.has cn = true) (hO : ∀ c, F.C.has c = true → c ≠ cn → PySem.W.kitOne F.C.K (.ref (F.C.cl c)) (.ref (F.C.cl cn)) = some false)
    (hB : ∀ T ∈ ["NoneType", "bool", "int", "str", "tuple", "list", "dict"], PySem.W.kitOne F.C.K (.type T) (.ref (F.C.cl cn)) = some false) (h : isiC cn x = .ok k) : CaD F (.builtin "isinstance") [x, .cst (.ref (F.C.cl cn))] (.bl k) := by
  unfold isiC at h
  split at h
  · rename_i c fs
    cases h
    by_cases hc : F.C.has c = true
    · refine ca_isi (.own _) (fun _ _ e q => hI _ q) (fun _ z => nomatch z) ?_
      by_cases e : c = cn
      · subst e
        rw [decide_eq_true rfl]
        show (if (Value.ref (F.C.cl c) == Value.ref (F.C.cl c)) = true then some true else _) = _
        rw [if_pos (by simp)]
      · rw [decide_eq_false e]
        exact hO c hc e
    · refine ⟨fun _ _ _ => False, fun _ => fun _ _ _ _ _ _ _ _ _ z => z.elim, fun G H us s hu Q q => ?_⟩
      cases hu with
      | cons h0 _ => cases h0 with
        | obj hq => exact hc hq
  · cases h
  · rename_i h1 h2
    cases h
    refine ca_isi (.own _) (fun c fs e _ => absurd e (h1 c fs)) (fun v e => absurd e (h2 v)) ?_
    cases x <;> first | exact hB _ (by decide) | exact absurd rfl (h1 _ _) | exact absurd rfl (h2 _)
end
end SL
/-! SL4: statements by outcomes. -/
namespace DL
open PySem L2
section
variable {F : Fam} {S S1 S2 S3 : ST} {e a b c tg iter : Expr} {pos : Pos} {P : Po} {rest body : List Stmt} {M : ST → Prop}
/-- while, by fuel -/
theorem ds_whileN (I : Nat → ST → Prop) (M : ST → Prop) {n : Nat} (h0 : I n S)
    (hs : ∀ n S, I n S → ∃ k S1, DT F c S S1 k ∧ (k = true → DS F body S1 { P with nx := fun S2 => ∃ n', n' < n ∧ I n' S2, ct := fun S2 => ∃ n', n' < n ∧ I n' S2, bk := M }) ∧ (k = false → M S1))
    (hr : ∀ S2, M S2 → DS F rest S2 P) (hp : ∀ i, PassesOwn (model (F.X i).prog (F.X i).w) (F.X i).A (F.X i).env (F.X i).xe := by intro _; exact PassesOwn.never) : DS F (.While c body [] pos :: rest) S P := by
  refine ds_cons (M := M) (d1_of (te := tWhile (anyT F c) (anyS F body)) (fun i => ps_while (hp i) (anyT_ok i) (anyS_ok i)) ?_) hr
  intro σ0 G0 H0 c0 E m
  refine ⟨fun m' σ H => ∃ S' G, Mw F.C σ0 S G0 H0 σ S' G H ∧ I m' S', ⟨n, S, G0, .refl c0, h0⟩, ?_⟩
  rintro m' σ H ⟨S', G, mw, hI⟩
  obtain ⟨k, S1, hc, h1, h2⟩ := hs m' S' hI
  refine hc σ G H mw.cx _ fun G1 H1 m1 => ?_
  cases k with
  | false =>
    rw [if_neg Bool.false_ne_true]
    exact m.nx _ _ _ _ (mw.trans m1.mw) (h2 rfl)
  | true =>
    rw [if_pos rfl]
    refine ⟨fun σ' H' => ∃ n' S2 G2, n' < m' ∧ Mw F.C σ0 S G0 H0 σ' S2 G2 H' ∧ I n' S2, fun σ' H' ⟨n', S2, G2, l, a, b⟩ => ⟨n', l, S2, G2, a, b⟩, ?_⟩
    have mm := m.move (mw.trans m1.mw)
    exact h1 rfl σ G1 H1 m1.cx _ ⟨fun σ2 S2 G2 H2 a ⟨n', l, q⟩ => ⟨n', S2, G2, l, (mw.trans m1.mw).trans a, q⟩, mm.rt, mm.nx, fun σ2 S2 G2 H2 a ⟨n', l, q⟩ => ⟨n', S2, G2, l, (mw.trans m1.mw).trans a, q⟩, mm.ro⟩
/-! ### knowing less -/
inductive WkL : List (Option DV) → List (Option DV) → Prop where
  | nil : WkL [] []
  | keep {x : Option DV} {xs ys : List (Option DV)} : WkL xs ys → WkL (x :: xs) (x :: ys)
  | drop {x : Option DV} {xs ys : List (Option DV)} : WkL xs ys → WkL (x :: xs) (none :: ys)
structure Wk (S S' : ST) : Prop where
  s : WkL S.s S'.s
  g : S.g = S'.g
theorem WkL.refl : ∀ xs, WkL xs xs
  | [] => .nil
  | _ :: xs => .keep (WkL.refl xs)
theorem Wk.refl (S : ST) : Wk S S := ⟨.refl _, rfl⟩
theorem WkL.len {xs ys : List (Option DV)} (h : WkL xs ys) : xs.length = ys.length := by
  induction h with
  | nil => rfl
  | keep _ ih => simp [ih]
  | drop _ ih => simp [ih]
theorem WkL.get {xs ys : List (Option DV)} (h : WkL xs ys) : ∀ {i : Nat} {o : DV}, ys[i]? = some (some o) → xs[i]? = some (some o) := by
  induction h with
  | nil => intro i o q; simp at q
  | keep _ ih =>
    intro i o q
    cases i with
    | zero => simpa using q
    | succ i => simpa using ih (by simpa using q)
  | drop _ ih =>
    intro i o q
    cases i with
    | zero => simp at q
    | succ i => simpa using ih (by simpa using q)
theorem Wk.mw {C : Kc} {G H : Hp} {σ : L2.St} (w : Wk S S1) (c : Ctx C G H σ S) : Mw C σ S G H σ S1 G H := by
  obtain ⟨w, g⟩ := w
  refine ⟨.refl, ⟨c.sub, c.len.trans w.len, fun i d h => c.im i d (w.get h), fun i m h => c.ow i m (w.get h), fun i j m n a h h' => c.apart i j m n a (w.get h) (w.get h'), fun i b o hg h => c.bg i b o (g.trans hg) (w.get h), g ▸ c.bag, fun i b o m hg h => c.nob i b o m (g.trans hg) (w.get h)⟩, fun a z => .inl ?_⟩
  rcases z with ⟨i, m, h, q⟩ | ⟨o, h⟩
  · exact .inl ⟨i, m, w.get h, q⟩
  · exact .inr ⟨o, g.trans h⟩
theorem ds_wk {sts : List Stmt} (w : Wk S S1) (h : DS F sts S1 P) : DS F sts S P := fun σ G H c E m =>
  let mw := w.mw c
  h σ G H mw.cx E (m.move mw)
theorem dg_wk {d : D} {js : List Nat} (w : Wk S S1) (h : DG F tg d S1 S2 js) : DG F tg d S S2 js := fun σ G H v c dv Q q =>
  let mw := w.mw c
  h σ G H v mw.cx dv Q fun σ2 G2 H2 m o => q σ2 G2 H2 (mw.trans m) o
theorem Wk.mv {C : Kc} {G H : Hp} {σ : L2.St} (w : Wk S S1) (c : Ctx C G H σ S) : Mv C σ S G H S1 G H := by
  have m := w.mw c
  refine ⟨m.go, m.cx, fun a z => ?_⟩
  obtain ⟨w, g⟩ := w
  rcases z with ⟨i, m, h, q⟩ | ⟨o, h⟩
  · exact .inl ⟨i, m, w.get h, q⟩
  · exact .inr ⟨o, g.trans h⟩
theorem dt_wk {k : Bool} (w : Wk S S1) (h : DT F c S1 S2 k) : DT F c S S2 k := fun σ G H cx Q q =>
  let mv := w.mv cx
  h σ G H mv.cx Q fun G2 H2 m => q G2 H2 (mv.trans m)
/-- an own list or dict becomes data -/
theorem ds_fz {sts : List Stmt} {j : Nat} {m : MO} (hj : S.s[j]? = some (some (.own m))) (h : DS F sts (S.set j (dOf m)) P) : DS F sts S P := fun σ G H c E me => by
  obtain ⟨a, o, h1, h2, h3, h4⟩ := c.ow j m hj
  have mv := c.freeze hj h1 h2 h3 h4
  exact h σ _ H mv.cx E (me.move mv.mw)
/-! ### an own list or dict looked at -/
def Atom : D → Prop
  | .non => True
  | .bl _ => True
  | .int _ => True
  | .str _ => True
  | _ => False
theorem Den.atom {C : Kc} {G G2 : Hp} {v : V} {d : D} (h : Den C G v d) (ha : Atom d) : Den C G2 v d := by
  cases h <;> first | exact .non | exact .bl _ | exact .int _ | exact .str _ | exact ha.elim
/-- the view in which nothing may change: own lists and dicts as data -/
def pbV : Option DV → Option DV
  | some (.imm d) => some (.imm d)
  | some (.own m) => some (.imm (dOf m))
  | _ => none
def ST.pb (S : ST) : ST := ⟨S.s.map pbV, none⟩
theorem pb_get {i : Nat} {o : DV} (h : S.pb.s[i]? = some (some o)) : (∃ d, o = .imm d ∧ S.s[i]? = some (some (.imm d))) ∨ ∃ m, o = .imm (dOf m) ∧ S.s[i]? = some (some (.own m)) := by
  have h' : (S.s.map pbV)[i]? = some (some o) := h
  rw [List.getElem?_map] at h'
  cases q : S.s[i]? with
  | none => rw [q] at h'; cases h'
  | some u =>
    rw [q] at h'
    cases u with
    | none => cases h'
    | some u =>
      cases u with
      | imm d => cases h'; exact .inl ⟨d, rfl, rfl⟩
      | own m => cases h'; exact .inr ⟨m, rfl, rfl⟩
      | bag => cases h'
def isOwnA (σ : L2.St) (S : ST) (x : Addr) : Prop := ∃ (i : Nat) (m : MO), S.s[i]? = some (some (.own m)) ∧ σ[i]? = some (some (.ref x))
open Classical in
noncomputable def frzG (σ : L2.St) (S : ST) (G H : Hp) : Hp := fun x => if isOwnA σ S x then H x else G x
open Classical in
noncomputable def thawG (σ : L2.St) (S : ST) (G : Hp) : Hp := fun x => if isOwnA σ S x then none else G x
theorem own_free {C : Kc} {G H : Hp} {σ : L2.St} (c : Ctx C G H σ S) {x : Addr} (h : isOwnA σ S x) : G x = none ∧ H x ≠ none := by
  obtain ⟨i, m, h1, h2⟩ := h
  obtain ⟨a, o, r1, r2, r3, _⟩ := c.ow i m h1
  rw [h2] at r1; cases r1
  exact ⟨r2, by rw [r3]; simp⟩
theorem frz_same {C : Kc} {G H : Hp} {σ : L2.St} (c : Ctx C G H σ S) : Same G (frzG σ S G H) := fun x u h => by
  unfold frzG
  rw [if_neg fun q => by rw [(own_free c q).1] at h; cases h]
  exact h
theorem Ctx.pb {C : Kc} {G H : Hp} {σ : L2.St} (c : Ctx C G H σ S) : Ctx C (frzG σ S G H) H σ S.pb where
  sub := fun x u h => by
    unfold frzG at h
    split at h
    · exact h
    · exact c.sub x u h
  len := by show _ = (S.s.map pbV).length; rw [List.length_map]; exact c.len
  im := fun i d h => by
    rcases pb_get h with ⟨d', e, q⟩ | ⟨m, e, q⟩
    · cases e
      obtain ⟨v, h1, h2⟩ := c.im i d q
      exact ⟨v, h1, h2.mono (frz_same c)⟩
    · cases e
      obtain ⟨a, o, h1, h2, h3, h4⟩ := c.ow i m q
      refine ⟨.ref a, h1, (h4.mono (frz_same c)).den ?_⟩
      unfold frzG
      rw [if_pos ⟨i, m, q, h1⟩]
      exact h3
  ow := fun i m h => by rcases pb_get h with ⟨_, e, _⟩ | ⟨_, e, _⟩ <;> cases e
  apart := fun i j m n a h => by rcases pb_get h with ⟨_, e, _⟩ | ⟨_, e, _⟩ <;> cases e
  bg := fun i b o h => nomatch h
  bag := trivial
  nob := fun i b o m h => nomatch h
theorem oa_pb {C : Kc} {σ : L2.St} {a : Addr} : ¬ OA C σ S.pb a := fun z => by
  rcases z with ⟨i, m, h, _⟩ | ⟨o, h⟩
  · rcases pb_get h with ⟨_, e, _⟩ | ⟨_, e, _⟩ <;> cases e
  · cases h
theorem Mv.thaw {C : Kc} {σ : L2.St} {G H G2 H2 : Hp} (c : Ctx C G H σ S) (mv : Mv C σ S.pb (frzG σ S G H) H S.pb G2 H2) : Pu G H (thawG σ S G2) H2 where
  hh := fun a o h => mv.go.keep a o oa_pb h
  gg := fun x u h => by
    unfold thawG
    rw [if_neg fun q => by rw [(own_free c q).1] at h; cases h]
    exact mv.go.gg x u (frz_same c x u h)
  sub := fun x u h => by
    unfold thawG at h
    split at h
    · cases h
    · exact mv.cx.sub x u h
  fr := fun x h1 h2 => by
    unfold thawG
    split
    · rfl
    · rename_i n
      refine mv.go.fr x oa_pb h1 ?_
      unfold frzG
      rw [if_neg n]
      exact h2
theorem dt_bor {k : Bool} (h : DT F c S.pb S.pb k) : DT F c S S k := fun σ G H cx Q q =>
  h σ _ H cx.pb Q fun G2 H2 m => q _ H2 (cx.pu (m.thaw cx))
theorem de_bor {d : D} (h : DE F e S.pb S.pb d) (ha : Atom d) : DE F e S S d := fun σ G H cx Q q =>
  h σ _ H cx.pb Q fun v G2 H2 m dv => q v _ H2 (cx.pu (m.thaw cx)) (dv.atom ha)
end
end DL
namespace SL
open PySem L2 DL
def atomB : D → Bool
  | .non => true
  | .bl _ => true
  | .int _ => true
  | .str _ => true
  | _ => false
theorem atom_of {d : D} (h : atomB d = true) : Atom d := by cases d <;> first | trivial | cases h
def atomO (o : O D) : O D := o.bind fun d => bif atomB d then .ok d else .bad
@[simp] theorem atomO_non : atomO (.ok .non) = .ok .non := rfl
@[simp] theorem atomO_bl (b : Bool) : atomO (.ok (.bl b)) = .ok (.bl b) := rfl
@[simp] theorem atomO_int (i : Int) : atomO (.ok (.int i)) = .ok (.int i) := rfl
@[simp] theorem atomO_str (i : Str) : atomO (.ok (.str i)) = .ok (.str i) := rfl
def DSk {R : Type} (F : Fam) (sts : List Stmt) (S : ST) (m : O R) (P : R → Po) : Prop := ∀ r, m = .ok r → DS F sts S (P r)
/-- what defs want: an answer; a new list; the bag as well; the attributes -/
def PF : D → Po := fun r => { rt := fun d' _ => d' = r, nx := fun _ => r = .non }
def PN : List D → Po := fun r => { ro := fun es' _ => es' = r }
def PI (b : Addr) (c : Nat) : List (Str × D) → Po := fun r => { nx := fun S => S.g = some (b, .ins c r) }
def PJ {T : Type} (mk : T → ST) : T → Po := fun t => { nx := fun S' => Wk S' (mk t) }
def PB {T : Type} (mk : T → ST) : T → Po := fun t => { nx := fun S' => Wk S' (mk t), ct := fun S' => Wk S' (mk t) }
/-- how a turn ends -/
inductive Fl (T R : Type) where
  | nx (t : T) | bk (t : T) | rt (r : R)
def PL {T R : Type} (P : R → Po) (mk : T → ST) : Fl T R → Po
  | .nx t => { nx := fun S' => Wk S' (mk t), ct := fun S' => Wk S' (mk t) }
  | .bk t => { bk := fun S' => Wk S' (mk t) }
  | .rt r => { P r with nx := fun _ => False, bk := fun _ => False, ct := fun _ => False }
def forO {T : Type} (f : T → D → O T) : List D → T → O T
  | [], t => .ok t
  | d :: ds, t => (f t d).bind fun t' => forO f ds t'
def loopO {T R : Type} (f : T → D → O (Fl T R)) : List D → T → O (Fl T R)
  | [], t => .ok (.nx t)
  | d :: ds, t => (f t d).bind fun
    | .nx t' => loopO f ds t'
    | .bk t' => .ok (.bk t')
    | .rt r => .ok (.rt r)
def thenO {T R : Type} (o : O (Fl T R)) (k : T → O R) : O R := o.bind fun
  | .nx t => k t
  | .bk t => k t
  | .rt r => .ok r
@[simp] theorem thenO_nx {T R : Type} (t : T) (k : T → O R) : thenO (.ok (.nx t)) k = k t := rfl
@[simp] theorem thenO_bk {T R : Type} (t : T) (k : T → O R) : thenO (.ok (.bk t)) k = k t := rfl
@[simp] theorem thenO_rt {T R : Type} (r : R) (k : T → O R) : thenO (.ok (.rt r)) k = .ok r := rfl
def whileO {T : Type} (c : T → O Bool) (f : T → O T) : Nat → T → O T
  | 0, _ => .bad
  | n + 1, t => O.ite (c t) ((f t).bind fun t' => whileO c f n t') (.ok t)
def wloopO {T R : Type} (c : T → O Bool) (f : T → O (Fl T R)) : Nat → T → O (Fl T R)
  | 0, _ => .bad
  | n + 1, t => O.ite (c t) ((f t).bind fun
    | .nx t' => wloopO c f n t'
    | .bk t' => .ok (.bk t')
    | .rt r => .ok (.rt r)) (.ok (.nx t))
def sized {α : Type} (n : Nat) (m : O α) : O α := if n ≤ 1000000 then m else .bad
theorem sized_eq {α : Type} {n : Nat} {m : O α} {a : α} (h : sized n m = .ok a) : n ≤ 1000000 ∧ m = .ok a := by
  unfold sized at h
  split at h
  · exact ⟨by assumption, h⟩
  · cases h
theorem sized_ok {α : Type} {n : Nat} {m : O α} (h : n ≤ 1000000) : sized n m = m := if_pos h
theorem forO_take {T : Type} {f : T → D → O T} : ∀ {ds : List D} {t0 te : T}, forO f ds t0 = .ok te → ∀ i, ∃ t, forO f (ds.take i) t0 = .ok t
  | ds, t0, te, h, 0 => ⟨t0, rfl⟩
  | [], t0, te, h, i + 1 => ⟨t0, rfl⟩
  | d :: ds, t0, te, h, i + 1 => by
    obtain ⟨t', h1, h2⟩ := O.bind_eq (show (f t0 d).bind (fun t' => forO f ds t') = _ from h)
    obtain ⟨t, ht⟩ := forO_take h2 i
    exact ⟨t, by show (f t0 d).bind (fun t' => forO f (ds.take i) t') = _; rw [h1]; exact ht⟩
theorem forO_append {T : Type} {f : T → D → O T} : ∀ (xs ys : List D) (t0 : T), forO f (xs ++ ys) t0 = (forO f xs t0).bind fun t => forO f ys t
  | [], ys, t0 => rfl
  | d :: xs, ys, t0 => by
    show (f t0 d).bind (fun t' => forO f (xs ++ ys) t') = ((f t0 d).bind fun t' => forO f xs t').bind fun t => forO f ys t
    rw [O.bind_assoc]
    congr 1
    funext t'
    exact forO_append xs ys t'
theorem loopO_append {T R : Type} {f : T → D → O (Fl T R)} : ∀ (xs ys : List D) (t0 : T), loopO f (xs ++ ys) t0 = (loopO f xs t0).bind fun
    | .nx t => loopO f ys t
    | .bk t => .ok (.bk t)
    | .rt r => .ok (.rt r)
  | [], ys, t0 => rfl
  | d :: xs, ys, t0 => by
    show (f t0 d).bind _ = ((f t0 d).bind _).bind _
    rw [O.bind_assoc]
    congr 1
    funext z
    cases z with
    | nx t' => exact loopO_append xs ys t'
    | bk t => rfl
    | rt r => rfl

section
variable {F : Fam} {S S1 : ST} {e a b c tg iter : Expr} {d : D} {pos p q1 cpos apos : Pos} {oa ob oe : O D} {ot : O Bool} {es : List Expr} {os oi : O (List D)} {rest t u body sts : List Stmt} {R T B : Type} {m m1 m2 : O R} {P : R → Po}
theorem t_bor (h : DTp F c S.pb ot) : DTp F c S ot := fun k q => dt_bor (h k q)
theorem p_bor (h : DEp F e S.pb oe) : DEp F e S (atomO oe) := fun d q => by
  obtain ⟨x, h1, q⟩ := O.bind_eq q
  cases ha : atomB x with
  | false => rw [ha] at q; cases q
  | true => rw [ha] at q; cases q; exact de_bor (h d h1) (atom_of ha)
theorem k_nil (h : ∀ r, m = .ok r → (P r).nx S) : DSk F [] S m P := fun r q => ds_nil (h r q)
theorem k_wk (w : Wk S S1) (h : DSk F sts S1 m P) : DSk F sts S m P := fun r q => ds_wk w (h r q)
theorem k_fz {j : Nat} {mo : MO} (hj : S.s[j]? = some (some (.own mo))) (h : DSk F sts (S.set j (dOf mo)) m P) : DSk F sts S m P := fun r q => ds_fz hj (h r q)
theorem k_bad : DSk F sts S (.bad : O R) P := fun r q => nomatch q
theorem k_raise {cn : Nat} : DSk F sts S (os.bind fun ds => (.exc cn ds : O R)) P := fun r q => by
  obtain ⟨_, _, q⟩ := O.bind_eq q
  cases q
theorem k_retF (h : DEp F e S oe) : DSk F (.Return (some e) pos :: rest) S oe PF := fun r q => ds_ret (h r q) rfl
theorem k_retA {P : D → Po} (h : DEp F e S oe) (hP : ∀ d, (P d).rt d S := by intro _; rfl) : DSk F (.Return (some e) pos :: rest) S oe P := fun r q => ds_ret (h r q) (hP r)
theorem k_retNA {P : D → Po} (hP : (P .non).rt .non S := by rfl) : DSk F (.Return none pos :: rest) S (.ok .non) P := fun r q => by
  cases q
  exact ds_cons (M := fun _ => False) (d1_retN hP) fun _ z => z.elim
theorem k_contA {x : R} (h : (P x).ct S) : DSk F (.Continue pos :: rest) S (.ok x) P := fun r q => by cases q; exact ds_cons (M := fun _ => False) (d1_cont h) fun _ z => z.elim
theorem k_breakA {x : R} (h : (P x).bk S) : DSk F (.Break pos :: rest) S (.ok x) P := fun r q => by cases q; exact ds_cons (M := fun _ => False) (d1_break h) fun _ z => z.elim
theorem k_retFN : DSk F (.Return none pos :: rest) S (.ok .non) PF := fun r q => by
  cases q
  exact ds_cons (M := fun _ => False) (d1_retN rfl) fun _ z => z.elim
theorem k_nilF : DSk F [] S (.ok .non) PF := fun r q => by cases q; exact ds_nil rfl
theorem k_retN (h : DOp F e S os) : DSk F (.Return (some e) pos :: rest) S os PN := fun r q => ds_retO (h r q) rfl
theorem k_ret {ret : D → R} (h : DEp F e S oe) (hP : ∀ d, (P (ret d)).rt d S := by intro _; rfl) : DSk F (.Return (some e) pos :: rest) S (oe.bind fun d => .ok (ret d)) P := fun r q => by
  obtain ⟨d, h1, q⟩ := O.bind_eq q
  cases q
  exact ds_ret (h d h1) (hP d)
theorem k_retNone {ret : D → R} (hP : (P (ret .non)).rt .non S := by rfl) : DSk F (.Return none pos :: rest) S (.ok (ret .non)) P := fun r q => by
  cases q
  exact ds_cons (M := fun _ => False) (d1_retN hP) fun _ z => z.elim
theorem k_expr {mr : O R} (h : DEp F e S oe) (hr : DSk F rest S mr P) (hs : ∀ i, swapsWith e none pos.line (F.X i).env = pure false := by intro _; rfl) : DSk F (.Expr e pos :: rest) S (oe.bind fun _ => mr) P := fun r q => by
  obtain ⟨d, h1, q⟩ := O.bind_eq q
  exact ds_expr (h d h1) (hr r q) hs
theorem k_pass {mr : O R} (hr : DSk F rest S mr P) : DSk F (.Pass pos :: rest) S mr P := fun r q => ds_cons (M := fun S2 => S2 = S) (d1_pass rfl) fun _ z => z ▸ hr r q
theorem k_ifr (ht : DTp F c S ot) (h1 : DSk F t S m1 (fun r => { P r with nx := fun _ => False })) (h2 : DSk F rest S m2 P) : DSk F (.If c t [] pos :: rest) S (O.ite ot m1 m2) P := fun r q => by
  rcases O.ite_eq q with ⟨h3, q⟩ | ⟨h3, q⟩
  · exact ds_ifr (k := true) (ht _ h3) (fun _ => h1 r q) (fun z => nomatch z)
  · exact ds_ifr (k := false) (ht _ h3) (fun z => nomatch z) (fun _ => h2 r q)
theorem k_if2 (ht : DTp F c S ot) (h1 : DSk F t S m1 (fun r => { P r with nx := fun _ => False })) (h2 : DSk F u S m2 (fun r => { P r with nx := fun _ => False })) : DSk F (.If c t u pos :: rest) S (O.ite ot m1 m2) P := fun r q => by
  rcases O.ite_eq q with ⟨h3, q⟩ | ⟨h3, q⟩
  · exact ds_if (fun _ => False) (k := true) (ht _ h3) (fun _ => h1 r q) (fun z => nomatch z) (fun _ z => z.elim)
  · exact ds_if (fun _ => False) (k := false) (ht _ h3) (fun z => nomatch z) (fun _ => h2 r q) (fun _ z => z.elim)
theorem k_ifd (ht : DTp F c S ot) (h1 : DSk F t S m1 (fun r => { P r with nx := fun S' => DS F rest S' (P r) })) (h2 : DSk F u S m2 (fun r => { P r with nx := fun S' => DS F rest S' (P r) })) : DSk F (.If c t u pos :: rest) S (O.ite ot m1 m2) P := fun r q => by
  rcases O.ite_eq q with ⟨h3, q⟩ | ⟨h3, q⟩
  · exact ds_if (fun S' => DS F rest S' (P r)) (k := true) (ht _ h3) (fun _ => h1 r q) (fun z => nomatch z) (fun _ z => z)
  · exact ds_if (fun S' => DS F rest S' (P r)) (k := false) (ht _ h3) (fun z => nomatch z) (fun _ => h2 r q) (fun _ z => z)
/-- the end of a branch of k_ifd -/
theorem k_nilD (h : DSk F rest S m P) : DSk F [] S m (fun r => { P r with nx := fun S' => DS F rest S' (P r) }) := fun r q => ds_nil (h r q)
theorem k_ifj (mk : T → ST) {n1 n2 : O T} {mr : T → O R} (ht : DTp F c S ot) (h1 : DSk F t S n1 (PJ mk)) (h2 : DSk F u S n2 (PJ mk)) (hr : ∀ x, DSk F rest (mk x) (mr x) P) : DSk F (.If c t u pos :: rest) S ((O.ite ot n1 n2).bind mr) P := fun r q => by
  obtain ⟨x, q1, q⟩ := O.bind_eq q
  rcases O.ite_eq q1 with ⟨h3, q1⟩ | ⟨h3, q1⟩
  · exact ds_if (fun S' => Wk S' (mk x)) (k := true) (ht _ h3) (fun _ => ds_mono (h1 x q1) (fun _ z => z) (fun _ _ z => z.elim) (fun _ z => z.elim) (fun _ z => z.elim) (fun _ _ z => z.elim)) (fun z => nomatch z) (fun _ z => ds_wk z (hr x r q))
  · exact ds_if (fun S' => Wk S' (mk x)) (k := false) (ht _ h3) (fun z => nomatch z) (fun _ => ds_mono (h2 x q1) (fun _ z => z) (fun _ _ z => z.elim) (fun _ z => z.elim) (fun _ z => z.elim) (fun _ _ z => z.elim)) (fun _ z => ds_wk z (hr x r q))
/-- the end of a branch of k_ifj -/
theorem k_nilJ {mk : T → ST} {x : T} (w : Wk S (mk x)) : DSk F [] S (.ok x) (PJ mk) := fun r q => by cases q; exact ds_nil w
theorem k_nilB {mk : T → ST} {x : T} (w : Wk S (mk x)) : DSk F [] S (.ok x) (PB mk) := fun r q => by cases q; exact ds_nil w
theorem k_nilL {mk : T → ST} {x : T} (w : Wk S (mk x)) : DSk F [] S (.ok (.nx x)) (PL P mk) := fun r q => by cases q; exact ds_nil w
theorem k_contB {mk : T → ST} {x : T} (w : Wk S (mk x)) : DSk F (.Continue pos :: rest) S (.ok x) (PB mk) := fun r q => by cases q; exact ds_cons (M := fun _ => False) (d1_cont w) fun _ z => z.elim
theorem k_contL {mk : T → ST} {x : T} (w : Wk S (mk x)) : DSk F (.Continue pos :: rest) S (.ok (.nx x)) (PL P mk) := fun r q => by cases q; exact ds_cons (M := fun _ => False) (d1_cont w) fun _ z => z.elim
theorem k_breakL {mk : T → ST} {x : T} (w : Wk S (mk x)) : DSk F (.Break pos :: rest) S (.ok (.bk x)) (PL P mk) := fun r q => by cases q; exact ds_cons (M := fun _ => False) (d1_break w) fun _ z => z.elim
theorem k_set {j : Nat} {x : Str} {pos' : Pos} {mr : D → O R} (he : DEp F e S oe) (hr : ∀ d, DSk F rest (S.set j d) (mr d) P) (hN : ∀ i, (F.X i).N[j]? = some x := by intro _; rfl) (hx : ∀ i, Loc (F.X i).env.scope x := by intro _; first | exact Or.inl rfl | exact Or.inr rfl)
    (hs : ∀ i, swapsWith e (some (.Name x pos')) pos.line (F.X i).env = pure false := by intro _; rfl) (hf : ∀ i, (F.X i).fn x = true ∨ (F.X i).env.scope.names.lookup x = some .local := by intro _; first | exact .inl rfl | exact .inr rfl) : DSk F (.Assign [.Name x pos'] e pos :: rest) S (oe.bind mr) P := fun r q => by
  obtain ⟨d, h1, q⟩ := O.bind_eq q
  exact ds_set (he d h1) (hr d r q) hN hx hs hf
theorem k_setO {j : Nat} {x : Str} {pos' : Pos} {mr : List D → O R} (he : DOp F e S os) (hr : ∀ ds, DSk F rest (S.setO j ds) (mr ds) P) (hj : j < S.s.length := by exact Nat.le_of_ble_eq_true rfl) (hN : ∀ i, (F.X i).N[j]? = some x := by intro _; rfl) (hx : ∀ i, Loc (F.X i).env.scope x := by intro _; first | exact Or.inl rfl | exact Or.inr rfl)
    (hs : ∀ i, swapsWith e (some (.Name x pos')) pos.line (F.X i).env = pure false := by intro _; rfl) (hf : ∀ i, (F.X i).fn x = true ∨ (F.X i).env.scope.names.lookup x = some .local := by intro _; first | exact .inl rfl | exact .inr rfl) : DSk F (.Assign [.Name x pos'] e pos :: rest) S (os.bind mr) P := fun r q => by
  obtain ⟨ds, h1, q⟩ := O.bind_eq q
  exact ds_setO (he ds h1) (hr ds r q) hj hN hx hs hf
theorem k_append {j : Nat} {x : Str} {gs : List D} {mr : D → O R} (he : DEp F e S oe) (hj : S.s[j]? = some (some (.own (.lst gs)))) (hr : ∀ d, DSk F rest (S.setO j (gs ++ [d])) (mr d) P)
    (hp : ∀ i, PE (F.X i) (.Call (.Attribute (.Name x q1) "append" apos) [e] [] cpos) (tBM (F.X i).K "list" rAppend (tVar j) (tCons (anyE F e) tNil)) := by
      intro i; exact pe_bm PySem.F.plainAttrs_list PySem.F.slot_list_append PySem.F.type_list_append mt_append (pv _) (pa_cons (anyE_ok i) pa_nil))
    (hs : ∀ i, swapsWith (.Call (.Attribute (.Name x q1) "append" apos) [e] [] cpos) none pos.line (F.X i).env = pure false := by intro _; rfl) : DSk F (.Expr (.Call (.Attribute (.Name x q1) "append" apos) [e] [] cpos) pos :: rest) S (oe.bind fun d => sized gs.length (mr d)) P := fun r q => by
  obtain ⟨d, h1, q⟩ := O.bind_eq q
  obtain ⟨h2, q⟩ := sized_eq q
  exact ds_append (he d h1) ⟨gs, hj⟩ hj (hr d r q) (Nat.lt_of_le_of_lt h2 (by decide)) hp hs
theorem k_ownSet {j : Nat} {x : Str} {gs : List D} {mr : D → Nat → O R} (he : DEp F e S oe) (hj : S.s[j]? = some (some (.own (.lst gs)))) (hb : DEp F b S ob) (hr : ∀ d n, DSk F rest (S.setO j (gs.set n d)) (mr d n) P)
    (hp : ∀ i, PS (F.X i) (.Assign [.Subscript (.Name x q1) b p] e pos) (tAsg (anyE F e) (gSub (tVar j) (anyE F b) rSetL)) := by
      intro i; exact ps_asg (anyE_ok i) (pg_sub (pv _) (anyE_ok i) set_list)) :
    DSk F (.Assign [.Subscript (.Name x q1) b p] e pos :: rest) S (oe.bind fun d => ob.bind fun y => (asI y).bind fun i => op2 (ixN gs.length i) fun n => mr d n) P := fun r q => by
  obtain ⟨d, h1, q⟩ := O.bind_eq q
  obtain ⟨y, h2, q⟩ := O.bind_eq q
  obtain ⟨i, h3, q⟩ := O.bind_eq q
  obtain ⟨n, h4, q2⟩ := op2_eq q
  cases asI_eq h3
  exact ds_ownSet (he d h1) hj (hb _ h2) h4 (hr d n r q2) hp
theorem p_ownIx {j : Nat} {x : Str} {gs : List D} (hj : S.s[j]? = some (some (.own (.lst gs)))) (hb : DEp F b S ob) (hs : PlainIx b := by intro _ _; rfl)
    (hN : ∀ i, (F.X i).N[j]? = some x := by intro _; rfl) (hv : ∀ i, Vis (F.X i).env.scope x := by intro _; first | exact Or.inl rfl | exact Or.inr (Or.inl rfl) | exact Or.inr (Or.inr rfl))
    (hd : (x == ("__debug__" : Str)) = false := by decide) (hcd : (x == ("__classdict__" : Str)) = false := by decide) : DEp F (.Subscript (.Name x p) b pos) S (ob.bind fun y => ix (.lst gs) y) := fun d q => by
  obtain ⟨y, h2, q⟩ := O.bind_eq q
  cases y with
  | int i =>
    obtain ⟨z, h3, q⟩ := op2_eq (show op2 (atI gs i) O.ok = _ from q)
    cases q
    exact de_ownIx hj (hb _ h2) h3 hs hN hv hd hcd
  | _ => cases q
/-! ### targets -/
theorem k_asg2 {i j k2 : Nat} {n1 n2 : Str} {px py pt : Pos} {mr : D → D → O R} (he : DEp F e S oe) (hr : ∀ x y, DSk F rest ((S.set i x).set j y) (mr x y) P)
    (h1 : ∀ o, (F.X o).N[i]? = some n1 := by intro _; rfl) (h2 : ∀ o, (F.X o).N[j]? = some n2 := by intro _; rfl)
    (x1 : ∀ o, Loc (F.X o).env.scope n1 := by intro _; first | exact Or.inl rfl | exact Or.inr rfl) (x2 : ∀ o, Loc (F.X o).env.scope n2 := by intro _; first | exact Or.inl rfl | exact Or.inr rfl)
    (f1 : ∀ o, (F.X o).fn n1 = true ∨ (F.X o).env.scope.names.lookup n1 = some .local := by intro _; first | exact .inl rfl | exact .inr rfl) (f2 : ∀ o, (F.X o).fn n2 = true ∨ (F.X o).env.scope.names.lookup n2 = some .local := by intro _; first | exact .inl rfl | exact .inr rfl)
    (ho : ∀ o, PS (F.X o) (.Assign [.Tuple [.Name n1 px, .Name n2 py] k2 pt] e pos) (tAsg (anyE F e) (anyG F (.Tuple [.Name n1 px, .Name n2 py] k2 pt))) := by intro o; exact ps_asg (anyE_ok o) (anyG_ok o)) :
    DSk F (.Assign [.Tuple [.Name n1 px, .Name n2 py] k2 pt] e pos :: rest) S (oe.bind fun d => un2 d mr) P := fun r q => by
  obtain ⟨d, g1, q⟩ := O.bind_eq q
  unfold un2 at q
  split at q
  · exact ds_asg (he _ g1) (dg_tup (dgs_cons (dg_name (j := i) h1 x1 f1) (dgs_cons (dg_name (j := j) h2 x2 f2) dgs_nil))) (hr _ _ r q) ho
  · exact ds_asg (he _ g1) (dg_lst (dgs_cons (dg_name (j := i) h1 x1 f1) (dgs_cons (dg_name (j := j) h2 x2 f2) dgs_nil))) (hr _ _ r q) ho
  · cases q
theorem k_asg3 {i j l k2 : Nat} {n1 n2 n3 : Str} {px py pz pt : Pos} {mr : D → D → D → O R} (he : DEp F e S oe) (hr : ∀ x y z, DSk F rest (((S.set i x).set j y).set l z) (mr x y z) P)
    (h1 : ∀ o, (F.X o).N[i]? = some n1 := by intro _; rfl) (h2 : ∀ o, (F.X o).N[j]? = some n2 := by intro _; rfl) (h3 : ∀ o, (F.X o).N[l]? = some n3 := by intro _; rfl)
    (x1 : ∀ o, Loc (F.X o).env.scope n1 := by intro _; first | exact Or.inl rfl | exact Or.inr rfl) (x2 : ∀ o, Loc (F.X o).env.scope n2 := by intro _; first | exact Or.inl rfl | exact Or.inr rfl) (x3 : ∀ o, Loc (F.X o).env.scope n3 := by intro _; first | exact Or.inl rfl | exact Or.inr rfl)
    (f1 : ∀ o, (F.X o).fn n1 = true ∨ (F.X o).env.scope.names.lookup n1 = some .local := by intro _; first | exact .inl rfl | exact .inr rfl) (f2 : ∀ o, (F.X o).fn n2 = true ∨ (F.X o).env.scope.names.lookup n2 = some .local := by intro _; first | exact .inl rfl | exact .inr rfl) (f3 : ∀ o, (F.X o).fn n3 = true ∨ (F.X o).env.scope.names.lookup n3 = some .local := by intro _; first | exact .inl rfl | exact .inr rfl)
    (ho : ∀ o, PS (F.X o) (.Assign [.Tuple [.Name n1 px, .Name n2 py, .Name n3 pz] k2 pt] e pos) (tAsg (anyE F e) (anyG F (.Tuple [.Name n1 px, .Name n2 py, .Name n3 pz] k2 pt))) := by intro o; exact ps_asg (anyE_ok o) (anyG_ok o)) :
    DSk F (.Assign [.Tuple [.Name n1 px, .Name n2 py, .Name n3 pz] k2 pt] e pos :: rest) S (oe.bind fun d => un3 d mr) P := fun r q => by
  obtain ⟨d, g1, q⟩ := O.bind_eq q
  unfold un3 at q
  split at q
  · exact ds_asg (he _ g1) (dg_tup (dgs_cons (dg_name (j := i) h1 x1 f1) (dgs_cons (dg_name (j := j) h2 x2 f2) (dgs_cons (dg_name (j := l) h3 x3 f3) dgs_nil)))) (hr _ _ _ r q) ho
  · exact ds_asg (he _ g1) (dg_lst (dgs_cons (dg_name (j := i) h1 x1 f1) (dgs_cons (dg_name (j := j) h2 x2 f2) (dgs_cons (dg_name (j := l) h3 x3 f3) dgs_nil)))) (hr _ _ _ r q) ho
  · cases q
/-! ### loops -/
theorem k_for (mk : T → ST) {t0 : T} {β : D → O B} {st : T → B → ST} {mb : T → B → O T} {mr : T → O R} (hi : DIp F tg iter S oi) (w : Wk S (mk t0)) (hg : ∀ x d y, β d = .ok y → ∃ js, DG F tg d (mk x) (st x y) js)
    (hb : ∀ x y, DSk F body (st x y) (mb x y) (PB mk)) (hr : ∀ x, DSk F rest (mk x) (mr x) P)
    (hp : ∀ i, PassesOwn (model (F.X i).prog (F.X i).w) (F.X i).A (F.X i).env (F.X i).xe := by intro _; exact PassesOwn.never)
    (hf : ∀ i, PS (F.X i) (.For tg iter body [] pos) (tFor (anyI F tg iter) (anyG F tg) (anyS F body)) := by intro i; exact ps_for PassesOwn.never (Fam.calm _ i) (anyI_ok i) (anyG_ok i) (anyS_ok i)) :
    DSk F (.For tg iter body [] pos :: rest) S (oi.bind fun ds => (forO (fun x d => (β d).bind fun y => mb x y) ds t0).bind mr) P := fun r q => by
  obtain ⟨ds, h1, q⟩ := O.bind_eq q
  obtain ⟨te, h2, q⟩ := O.bind_eq q
  refine ds_for (fun i S' => ∃ x, forO (fun x d => (β d).bind fun y => mb x y) (ds.take i) t0 = .ok x ∧ Wk S' (mk x)) (fun S' => Wk S' (mk te)) (hi ds h1) ⟨t0, rfl, w⟩ (fun i S' d hd hI => ?_) (fun S' hI => ?_) (fun S' z => ds_wk z (hr te r q)) hp hf
  · obtain ⟨x, e1, wx⟩ := hI
    obtain ⟨x', e2⟩ := forO_take h2 (i + 1)
    have e3 := e2
    rw [take_one hd, forO_append, e1] at e3
    obtain ⟨x2, e4, e5⟩ := O.bind_eq (show ((β d).bind fun y => mb x y).bind (fun t' => forO _ [] t') = _ from e3)
    cases e5
    obtain ⟨y, e6, e7⟩ := O.bind_eq e4
    obtain ⟨js, g⟩ := hg x d y e6
    refine ⟨_, js, dg_wk wx g, ds_mono (hb x y _ e7) (fun S2 z => ⟨_, e2, z⟩) (fun _ _ z => z.elim) (fun _ z => z.elim) (fun S2 z => ⟨_, e2, z⟩) (fun _ _ z => z.elim)⟩
  · obtain ⟨x, e1, wx⟩ := hI
    rw [List.take_length, h2] at e1
    cases e1
    exact wx
theorem loopO_nx {f : T → D → O (Fl T R)} : ∀ {ds : List D} {t0 : T} {z : Fl T R}, loopO f ds t0 = .ok z → ∀ {i : Nat} {d : D} {x : T}, ds[i]? = some d → loopO f (ds.take i) t0 = .ok (.nx x) → ∃ y, f x d = .ok y ∧ loopO f (ds.take (i + 1)) t0 = (match y with
    | .nx t' => .ok (.nx t')
    | .bk t' => .ok (.bk t')
    | .rt r => .ok (.rt r)) ∧ (∀ t', y = .bk t' → z = .bk t') ∧ ∀ r, y = .rt r → z = .rt r := by
  intro ds t0 z h i d x hd hx
  have e : ds = ds.take i ++ d :: ds.drop (i + 1) := by
    have h1 := (List.getElem?_eq_some_iff.mp hd)
    obtain ⟨hlt, he⟩ := h1
    rw [← he]
    simp
  have h2 := h
  rw [e, loopO_append, hx] at h2
  obtain ⟨y, e1, e2⟩ := O.bind_eq (show (f x d).bind _ = _ from h2)
  refine ⟨y, e1, ?_, ?_, ?_⟩
  · rw [take_one hd, loopO_append, hx]
    show (f x d).bind _ = _
    rw [e1]
    cases y <;> rfl
  · intro t' q
    subst q
    cases e2; rfl
  · intro r q
    subst q
    cases e2; rfl
theorem k_forR (mk : T → ST) {t0 : T} {β : D → O B} {st : T → B → ST} {mb : T → B → O (Fl T R)} {mr : T → O R} (hi : DIp F tg iter S oi) (w : Wk S (mk t0)) (hg : ∀ x d y, β d = .ok y → ∃ js, DG F tg d (mk x) (st x y) js)
    (hb : ∀ x y, DSk F body (st x y) (mb x y) (PL P mk)) (hr : ∀ x, DSk F rest (mk x) (mr x) P)
    (hp : ∀ i, PassesOwn (model (F.X i).prog (F.X i).w) (F.X i).A (F.X i).env (F.X i).xe := by intro _; exact PassesOwn.never)
    (hf : ∀ i, PS (F.X i) (.For tg iter body [] pos) (tFor (anyI F tg iter) (anyG F tg) (anyS F body)) := by intro i; exact ps_for PassesOwn.never (Fam.calm _ i) (anyI_ok i) (anyG_ok i) (anyS_ok i)) :
    DSk F (.For tg iter body [] pos :: rest) S (oi.bind fun ds => thenO (loopO (fun x d => (β d).bind fun y => mb x y) ds t0) mr) P := fun r q => by
  obtain ⟨ds, h1, q⟩ := O.bind_eq q
  obtain ⟨z, h2, q⟩ := O.bind_eq (show O.bind _ _ = _ from q)
  refine ds_for (fun i S' => ∃ x, loopO (fun x d => (β d).bind fun y => mb x y) (ds.take i) t0 = .ok (.nx x) ∧ Wk S' (mk x)) (fun S' => ∃ x, mr x = .ok r ∧ Wk S' (mk x)) (hi ds h1) ⟨t0, rfl, w⟩ (fun i S' d hd hI => ?_) (fun S' hI => ?_) (fun S' ⟨x, e, z⟩ => ds_wk z (hr x r e)) hp hf
  · obtain ⟨x, e1, wx⟩ := hI
    obtain ⟨y, e2, e3, e4, e5⟩ := loopO_nx h2 hd e1
    obtain ⟨v, e6, e7⟩ := O.bind_eq e2
    obtain ⟨js, g⟩ := hg x d v e6
    refine ⟨_, js, dg_wk wx g, ?_⟩
    have := hb x v y e7
    cases y with
    | nx t' => exact ds_mono this (fun S2 z => ⟨_, e3, z⟩) (fun _ _ z => z.elim) (fun _ z => z.elim) (fun S2 z => ⟨_, e3, z⟩) (fun _ _ z => z.elim)
    | bk t' =>
      cases e4 t' rfl
      exact ds_mono this (fun S2 z => z.elim) (fun _ _ z => z.elim) (fun S2 z => ⟨t', q, z⟩) (fun S2 z => z.elim) (fun _ _ z => z.elim)
    | rt r' =>
      cases e5 r' rfl
      cases q
      exact ds_mono this (fun S2 z => z.elim) (fun _ _ z => z) (fun S2 z => z.elim) (fun S2 z => z.elim) (fun _ _ z => z)
  · obtain ⟨x, e1, wx⟩ := hI
    rw [List.take_length, h2] at e1
    cases e1
    exact ⟨x, q, wx⟩
theorem k_while (mk : T → ST) (n : Nat) {t0 : T} {ct : T → O Bool} {mb : T → O T} {mr : T → O R} (w : Wk S (mk t0)) (hc : ∀ x, DTp F c (mk x) (ct x)) (hb : ∀ x, DSk F body (mk x) (mb x) (PB mk)) (hr : ∀ x, DSk F rest (mk x) (mr x) P)
    (hp : ∀ i, PassesOwn (model (F.X i).prog (F.X i).w) (F.X i).A (F.X i).env (F.X i).xe := by intro _; exact PassesOwn.never) : DSk F (.While c body [] pos :: rest) S ((whileO ct mb n t0).bind mr) P := fun r q => by
  obtain ⟨te, h2, q⟩ := O.bind_eq q
  refine ds_whileN (fun k S' => ∃ x, whileO ct mb k x = .ok te ∧ Wk S' (mk x)) (fun S' => Wk S' (mk te)) ⟨t0, h2, w⟩ (fun k S' hI => ?_) (fun S' z => ds_wk z (hr te r q)) hp
  obtain ⟨x, e1, wx⟩ := hI
  cases k with
  | zero => cases e1
  | succ k =>
    rcases O.ite_eq (show O.ite _ _ _ = _ from e1) with ⟨h3, h4⟩ | ⟨h3, h4⟩
    · refine ⟨true, mk x, dt_wk wx (hc x _ h3), fun _ => ?_, fun z => nomatch z⟩
      obtain ⟨x', h5, h6⟩ := O.bind_eq h4
      exact ds_mono (hb x x' h5) (fun S2 z => ⟨k, Nat.lt_succ_self k, x', h6, z⟩) (fun _ _ z => z.elim) (fun _ z => z.elim) (fun S2 z => ⟨k, Nat.lt_succ_self k, x', h6, z⟩) (fun _ _ z => z.elim)
    · exact ⟨false, mk x, dt_wk wx (hc x _ h3), fun z => (nomatch z), fun _ => by rw [O.ok.inj h4]; exact Wk.refl _⟩
theorem k_whileR (mk : T → ST) (n : Nat) {t0 : T} {ct : T → O Bool} {mb : T → O (Fl T R)} {mr : T → O R} (w : Wk S (mk t0)) (hc : ∀ x, DTp F c (mk x) (ct x)) (hb : ∀ x, DSk F body (mk x) (mb x) (PL P mk)) (hr : ∀ x, DSk F rest (mk x) (mr x) P)
    (hp : ∀ i, PassesOwn (model (F.X i).prog (F.X i).w) (F.X i).A (F.X i).env (F.X i).xe := by intro _; exact PassesOwn.never) : DSk F (.While c body [] pos :: rest) S (thenO (wloopO ct mb n t0) mr) P := fun r q => by
  obtain ⟨z, h2, q⟩ := O.bind_eq (show O.bind _ _ = _ from q)
  refine ds_whileN (fun k S' => ∃ x, wloopO ct mb k x = .ok z ∧ Wk S' (mk x)) (fun S' => ∃ x, mr x = .ok r ∧ Wk S' (mk x)) ⟨t0, h2, w⟩ (fun k S' hI => ?_) (fun S' ⟨x, e, z⟩ => ds_wk z (hr x r e)) hp
  obtain ⟨x, e1, wx⟩ := hI
  cases k with
  | zero => cases e1
  | succ k =>
    rcases O.ite_eq (show O.ite _ _ _ = _ from e1) with ⟨h3, h4⟩ | ⟨h3, h4⟩
    · refine ⟨true, mk x, dt_wk wx (hc x _ h3), fun _ => ?_, fun z => nomatch z⟩
      obtain ⟨y, h5, h6⟩ := O.bind_eq h4
      have := hb x y h5
      cases y with
      | nx x' => exact ds_mono this (fun S2 z => ⟨k, Nat.lt_succ_self k, x', h6, z⟩) (fun _ _ z => z.elim) (fun _ z => z.elim) (fun S2 z => ⟨k, Nat.lt_succ_self k, x', h6, z⟩) (fun _ _ z => z.elim)
      | bk x' => cases h6; exact ds_mono this (fun S2 z => z.elim) (fun _ _ z => z.elim) (fun S2 z => ⟨x', q, z⟩) (fun S2 z => z.elim) (fun _ _ z => z.elim)
      | rt r' => cases h6; cases q; exact ds_mono this (fun S2 z => z.elim) (fun _ _ z => z) (fun S2 z => z.elim) (fun S2 z => z.elim) (fun _ _ z => z)
    · cases h4
      exact ⟨false, mk x, dt_wk wx (hc x _ h3), fun z => (nomatch z), fun _ => ⟨x, q, Wk.refl _⟩⟩
end
end SL
/-! SL5: what is walked, comprehensions, stores side by side, defs. -/
namespace SL
open PySem L2 DL
/-! ### iterables -/
def itD : D → O (List D)
  | .lst ds => .ok ds
  | .tup ds => .ok ds
  | .str t => .ok (signsD t)
  | _ => .bad
@[simp] theorem itD_lst (ds : List D) : itD (.lst ds) = .ok ds := rfl
@[simp] theorem itD_tup (ds : List D) : itD (.tup ds) = .ok ds := rfl
@[simp] theorem itD_str (t : Str) : itD (.str t) = .ok (signsD t) := rfl
def rg1 (d : D) : O (List D) := (asI d).bind fun i => if -(2 ^ 62) ≤ i ∧ i < 2 ^ 62 then .ok (rangeD 0 i.toNat) else .bad
def rg2 (a b : D) : O (List D) := (asI a).bind fun i => (asI b).bind fun j => if -(2 ^ 62) ≤ i ∧ i < 2 ^ 62 ∧ -(2 ^ 62) ≤ j ∧ j < 2 ^ 62 then .ok (rangeD i (j - i).toNat) else .bad
def enT : D → O (List D)
  | .tup ds => .ok (enumD ds)
  | .lst ds => .ok (enumD ds)
  | _ => .bad
section
variable {F : Fam} {S S1 S2 S3 : ST} {e : Expr} {p : Pos} {ds : List D}
theorem itd_enumL {C : Kc} {G0 : Hp} {a : Addr} {vs : List V} (h : SqL C.K G0 a vs) (dl : DenL C G0 vs ds) : ItD C (Ite C.K a) G0 (enumD ds) where
  go := fun i G H hi s s2 => by
    rw [enumD_length] at hi
    obtain ⟨v, h1, _⟩ := dl.get (List.getElem?_eq_getElem hi)
    exact ⟨vs, v, s2.seq (s.seq h), h1⟩
  yld := fun i d G H x H' hd s s2 hy => by
    obtain ⟨y, hy1, rfl⟩ := enumD_get hd
    obtain ⟨T, v, rfl, hT, rfl, hv⟩ := hy
    obtain ⟨v', h1, h2⟩ := dl.get hy1
    have e1 := hv vs (s2.seq (s.seq h))
    rw [h1] at e1
    cases e1
    refine ⟨_, Pu.new s2 hT, .tup (SqT.of upd_same) ?_⟩
    exact .cons (.int _) (.cons ((h2.mono s).mono (Pu.new s2 hT).gg) .nil)
  stop := fun i G H hi s s2 => ⟨vs, s2.seq (s.seq h), by rw [dl.length, ← enumD_length]; exact hi⟩
theorem di_enumL {elts : List Expr} {kk : Nat} {tpos q1 : Pos} (hm : F.mg "enumerate" = none) (h : DE F e S S1 (.lst ds)) (hg : ∀ l, Gl (F.X l) "enumerate" := by intro _; rfl) (hs : ∀ l, starEach [e] (F.X l).env = [(false, eval e (F.X l).env)] := by intro _; rfl) :
    DI F (.Tuple elts kk tpos) (.Call (.Name "enumerate" p) [e] [] q1) S S1 (enumD ds) :=
  di_of (wi := iEnum F.C.K (tCons (anyE F e) tNil)) (fun l => by have := pi_enum (X := F.X l) (elts := elts) (kk := kk) (tpos := tpos) (p := p) (pos := q1) (hg l) (by rw [F.hmg l]; exact hm) (pa_cons (anyE_ok (e := e) l) pa_nil (hs l)) (hs l); rw [F.hK l] at this; exact this) fun σ G H c R q => h σ G H c _ fun v G1 H1 m dv => by
    cases dv with
    | @lst a vs _ h1 h2 => exact ⟨a, vs, rfl, m.cx.sub.seq h1, q _ _ _ m (itd_enumL h1 h2)⟩
end
theorem un2_bind {α β : Type} (d : D) (f : D → D → O α) (g : α → O β) : (un2 d f).bind g = un2 d fun a b => (f a b).bind g := by
  unfold un2
  split <;> rfl
theorem un3_bind {α β : Type} (d : D) (f : D → D → D → O α) (g : α → O β) : (un3 d f).bind g = un3 d fun a b c => (f a b c).bind g := by
  unfold un3
  split <;> rfl
theorem un2_eq {α : Type} {d : D} {f : D → D → O α} {z : α} (h : un2 d f = .ok z) : ∃ a b, (d = .tup [a, b] ∨ d = .lst [a, b]) ∧ f a b = .ok z := by
  unfold un2 at h
  split at h
  · exact ⟨_, _, .inl rfl, h⟩
  · exact ⟨_, _, .inr rfl, h⟩
  · cases h
theorem un3_eq {α : Type} {d : D} {f : D → D → D → O α} {z : α} (h : un3 d f = .ok z) : ∃ a b c, (d = .tup [a, b, c] ∨ d = .lst [a, b, c]) ∧ f a b c = .ok z := by
  unfold un3 at h
  split at h
  · exact ⟨_, _, _, .inl rfl, h⟩
  · exact ⟨_, _, _, .inr rfl, h⟩
  · cases h
/-! ### comprehensions -/
def lcO (g : D → O (Option D)) : List D → O (List D)
  | [] => .ok []
  | d :: ds => (g d).bind fun o => (lcO g ds).bind fun r => .ok (o.toList ++ r)
def mapO (f : D → O D) (ds : List D) : O (List D) := sized ds.length (lcO (fun d => (f d).bind fun x => .ok (some x)) ds)
def filO (t : D → O Bool) (f : D → O D) (ds : List D) : O (List D) := sized ds.length (lcO (fun d => O.ite (t d) ((f d).bind fun x => .ok (some x)) (.ok none)) ds)
theorem lcO_append {g : D → O (Option D)} : ∀ (xs ys : List D), lcO g (xs ++ ys) = (lcO g xs).bind fun r => (lcO g ys).bind fun s => .ok (r ++ s)
  | [], ys => by
    show lcO g ys = (lcO g ys).bind fun s => .ok s
    cases lcO g ys <;> rfl
  | d :: xs, ys => by
    show (g d).bind _ = ((g d).bind _).bind _
    rw [O.bind_assoc]
    congr 1
    funext o
    rw [show lcO g (xs.append ys) = _ from lcO_append xs ys, O.bind_assoc, O.bind_assoc]
    congr 1
    funext r
    rw [O.bind_assoc]
    show _ = (lcO g ys).bind fun s => .ok ((o.toList ++ r) ++ s)
    congr 1
    funext s
    show O.ok (o.toList ++ (r ++ s)) = _
    rw [List.append_assoc]
theorem lcO_len {g : D → O (Option D)} : ∀ {xs r : List D}, lcO g xs = .ok r → r.length ≤ xs.length
  | [], r, h => by cases h; exact Nat.le_refl _
  | d :: xs, r, h => by
    obtain ⟨o, h1, h⟩ := O.bind_eq (show (g d).bind _ = _ from h)
    obtain ⟨s, h2, h⟩ := O.bind_eq h
    cases h
    have := lcO_len h2
    cases o <;> simp <;> omega
theorem lcO_take {g : D → O (Option D)} {ds r : List D} (h : lcO g ds = .ok r) (i : Nat) : ∃ s, lcO g (ds.take i) = .ok s := by
  have e : ds = ds.take i ++ ds.drop i := (List.take_append_drop i ds).symm
  rw [e, lcO_append] at h
  obtain ⟨s, h1, _⟩ := O.bind_eq h
  exact ⟨s, h1⟩
theorem lcO_map {f : D → O D} {g : D → D} : ∀ {ds : List D}, (∀ d ∈ ds, f d = .ok (g d)) → lcO (fun d => (f d).bind fun x => .ok (some x)) ds = .ok (ds.map g)
  | [], _ => rfl
  | d :: ds, h => by
    show ((f d).bind _).bind _ = _
    rw [h d List.mem_cons_self, lcO_map fun x hx => h x (List.mem_cons_of_mem _ hx)]
    rfl
theorem mapO_ok {f : D → O D} (g : D → D) {ds : List D} (h : ∀ d ∈ ds, f d = .ok (g d)) (hl : ds.length ≤ 1000000) : mapO f ds = .ok (ds.map g) := by
  unfold mapO
  rw [sized_ok hl, lcO_map h]
theorem lcO_fil {t : D → O Bool} {f : D → O D} {k : D → Bool} {g : D → D} : ∀ {ds : List D}, (∀ d ∈ ds, t d = .ok (k d)) → (∀ d ∈ ds, k d = true → f d = .ok (g d)) → lcO (fun d => O.ite (t d) ((f d).bind fun x => .ok (some x)) (.ok none)) ds = .ok ((ds.filter k).map g)
  | [], _, _ => rfl
  | d :: ds, h1, h2 => by
    have ih := lcO_fil (ds := ds) (fun x hx => h1 x (List.mem_cons_of_mem _ hx)) (fun x hx => h2 x (List.mem_cons_of_mem _ hx))
    show (O.ite (t d) _ _).bind _ = _
    rw [h1 d List.mem_cons_self, ih]
    cases q : k d with
    | true =>
      rw [O.ite_true, h2 d List.mem_cons_self q, List.filter_cons, q]
      rfl
    | false =>
      rw [List.filter_cons, q]
      rfl
theorem filO_ok {t : D → O Bool} {f : D → O D} (k : D → Bool) (g : D → D) {ds : List D} (h1 : ∀ d ∈ ds, t d = .ok (k d)) (h2 : ∀ d ∈ ds, k d = true → f d = .ok (g d)) (hl : ds.length ≤ 1000000) : filO t f ds = .ok ((ds.filter k).map g) := by
  unfold filO
  rw [sized_ok hl, lcO_fil h1 h2]
/-- no own list among these slots -/
def noOwns (s : List (Option DV)) : List Nat → Bool
  | [] => true
  | v :: vs => (match s[v]? with
    | some (some (.own _)) => false
    | _ => true) && noOwns s vs
theorem noOwns_of {s : List (Option DV)} {i : Nat} {m : MO} : ∀ {vs : List Nat}, noOwns s vs = true → s[i]? = some (some (.own m)) → i ∉ vs
  | [], _, _ => by simp
  | v :: vs, h, q => by
    unfold noOwns at h
    rw [Bool.and_eq_true] at h
    simp only [List.mem_cons, not_or]
    refine ⟨fun e => ?_, noOwns_of h.2 q⟩
    subst e
    rw [q] at h
    exact absurd h.1 (by simp)
section
variable {F : Fam} {S S1 : ST} {e a b c tg iter elt : Expr} {d : D} {pos p p2 q1 cpos apos : Pos} {oa ob oe : O D} {ot : O Bool} {es : List Expr} {os oi : O (List D)} {rest t u body sts : List Stmt} {R T B : Type} {P : R → Po} {scope : Scope}
theorem i_val (h : DEp F iter S oe) : DIp F tg iter S (oe.bind itD) := fun ds q => by
  obtain ⟨x, h1, q⟩ := O.bind_eq q
  unfold itD at q
  split at q
  · cases q; exact di_list (h _ h1)
  · cases q; exact di_tup (h _ h1)
  · cases q; exact di_str (h _ h1)
  · cases q
theorem i_range1 (hm : F.mg "range" = none) (h : DEp F e S oe) (hg : ∀ l, Gl (F.X l) "range" := by intro _; rfl) (hs : ∀ l, starEach [e] (F.X l).env = [(false, eval e (F.X l).env)] := by intro _; rfl) : DIp F tg (.Call (.Name "range" p) [e] [] q1) S (oe.bind rg1) := fun ds q => by
  obtain ⟨x, h1, q⟩ := O.bind_eq q
  obtain ⟨i, h2, qq⟩ := O.bind_eq (show O.bind _ _ = _ from q)
  split at qq
  · rename_i hb
    have e0 := asI_eq h2
    subst e0
    rw [← O.ok.inj qq]
    exact di_range1 hm (h _ h1) hb.1 hb.2 hg hs
  · cases qq
theorem i_range2 (hm : F.mg "range" = none) (ha : DEp F a S oa) (hb : DEp F b S ob) (hg : ∀ l, Gl (F.X l) "range" := by intro _; rfl) (hs : ∀ l, starEach [a, b] (F.X l).env = [(false, eval a (F.X l).env), (false, eval b (F.X l).env)] := by intro _; rfl)
    (hs2 : ∀ l, starEach [b] (F.X l).env = [(false, eval b (F.X l).env)] := by intro _; rfl) (hs3 : ∀ l, starEach [a, b] (F.X l).env = (false, eval a (F.X l).env) :: starEach [b] (F.X l).env := by intro _; rfl) : DIp F tg (.Call (.Name "range" p) [a, b] [] q1) S (oa.bind fun x => ob.bind fun y => rg2 x y) := fun ds q => by
  obtain ⟨x, h1, q⟩ := O.bind_eq q
  obtain ⟨y, h2, q⟩ := O.bind_eq q
  obtain ⟨i, h3, q⟩ := O.bind_eq (show O.bind _ _ = _ from q)
  obtain ⟨j, h4, qq⟩ := O.bind_eq q
  split at qq
  · rename_i hbd
    have e0 := asI_eq h3
    have e1 := asI_eq h4
    subst e0 e1
    rw [← O.ok.inj qq]
    exact di_range2 hm (ha _ h1) (hb _ h2) hbd hg hs hs2 hs3
  · cases qq
theorem i_enumT {elts : List Expr} {kk : Nat} {tpos : Pos} (hm : F.mg "enumerate" = none) (h : DEp F e S oe) (hg : ∀ l, Gl (F.X l) "enumerate" := by intro _; rfl) (hs : ∀ l, starEach [e] (F.X l).env = (false, eval e (F.X l).env) :: starEach [] (F.X l).env := by intro _; rfl) : DIp F (.Tuple elts kk tpos) (.Call (.Name "enumerate" p) [e] [] q1) S (oe.bind enT) := fun ds q => by
  obtain ⟨x, h1, q⟩ := O.bind_eq q
  unfold enT at q
  split at q
  · cases q; exact di_enumT hm (h _ h1) hg hs
  · cases q; exact di_enumL hm (h _ h1) hg hs
  · cases q
/-- tests of a comprehension -/
def DTsp (F : Fam) (ifs : List Expr) (S : ST) (o : O Bool) : Prop := ∀ b, o = .ok b → DTs F ifs S S b
theorem ts_nil : DTsp F [] S (.ok true) := fun b q => by cases q; exact dts_nil
theorem ts_one (h : DTp F c S ot) : DTsp F [c] S ot := fun b q => dts_one (h b q)
theorem ev_lcG {ifs : List Expr} {vs : List Nat} {js : List Nat} {β : D → O B} {st : B → ST} {tt : B → O Bool} {el : B → O D} {ds r : List D} (hi : DI F tg iter S S ds)
    (hg : ∀ d y, β d = .ok y → DG (F.blk scope) tg d ⟨hidS S.s vs, S.g⟩ (st y) js) (hjs : ∀ j ∈ js, j ∈ vs) (hk : ∀ y, KeepOwn S.s vs (st y)) (hG : ∀ y, (st y).g = S.g)
    (ht : ∀ y, DTsp (F.blk scope) ifs (st y) (tt y)) (he : ∀ y, DEp (F.blk scope) elt (st y) (el y)) (hl : ds.length ≤ 1000000)
    (h : lcO (fun d => (β d).bind fun y => O.ite (tt y) ((el y).bind fun x => .ok (some x)) (.ok none)) ds = .ok r) :
    EvO F.C (tLc (anyI F tg iter) (anyG (F.blk scope) tg) (anyTs (F.blk scope) ifs) (anyE (F.blk scope) elt) vs) S S r := by
  have key : ∀ i, ∃ s, lcO (fun d => (β d).bind fun y => O.ite (tt y) ((el y).bind fun x => .ok (some x)) (.ok none)) (ds.take i) = .ok s := lcO_take h
  have out : ∃ out : Nat → List D, ∀ i, lcO (fun d => (β d).bind fun y => O.ite (tt y) ((el y).bind fun x => .ok (some x)) (.ok none)) (ds.take i) = .ok (out i) := ⟨fun i => (key i).choose, fun i => (key i).choose_spec⟩
  obtain ⟨out, ho⟩ := out
  have o0 : out 0 = [] := by have := ho 0; rw [List.take_zero] at this; exact (O.ok.inj this).symm
  have oe : out ds.length = r := by have := ho ds.length; rw [List.take_length, h] at this; exact (O.ok.inj this).symm
  have := ev_lc (elt := elt) (ifs := ifs) (scope := scope) (vs0 := vs) hi (fun _ => S.g) out rfl o0 (fun _ => rfl) (fun i d hd => by
    have e1 := ho (i + 1)
    rw [take_one hd, lcO_append, ho i] at e1
    obtain ⟨s, e2, e3⟩ := O.bind_eq (show (lcO _ [d]).bind _ = _ from e1)
    obtain ⟨o, e4, e5⟩ := O.bind_eq (show O.bind _ _ = _ from e2)
    obtain ⟨s0, e6, e7⟩ := O.bind_eq e5
    cases e6
    have e7' : s = o.toList := by cases e7; simp
    have e3' : out (i + 1) = out i ++ o.toList := by rw [← e7']; exact (O.ok.inj e3).symm
    obtain ⟨y, e8, e9⟩ := O.bind_eq e4
    have hlt : i < ds.length := (List.getElem?_eq_some_iff.mp hd).1
    have hlen : (out i).length < sizeLine := Nat.lt_of_le_of_lt (lcO_len (ho i)) (by rw [List.length_take]; exact Nat.lt_of_le_of_lt (Nat.le_trans (Nat.min_le_left _ _) (Nat.le_trans (Nat.le_of_lt hlt) hl)) (by decide))
    rcases O.ite_eq e9 with ⟨z1, z2⟩ | ⟨z1, z2⟩
    · obtain ⟨x, z3, z4⟩ := O.bind_eq z2
      cases z4
      exact ⟨_, _, true, js, hg d y e8, hjs, ht y _ z1, fun _ => ⟨_, x, he y x z3, hG y, hk y, e3', hlen⟩, fun z => nomatch z⟩
    · cases z2
      exact ⟨_, _, false, js, hg d y e8, hjs, ht y _ z1, fun z => (nomatch z), fun _ => ⟨hG y, hk y, by rw [e3']; simp⟩⟩)
  rw [oe] at this
  exact this
theorem keep_name {vs : List Nat} {j : Nat} {y : D} (hn : noOwns S.s vs = true) (hj : j ∈ vs) : KeepOwn S.s vs ((⟨hidS S.s vs, S.g⟩ : ST).set j y) := fun i m h => by
  have n := noOwns_of hn h
  refine ⟨n, ?_⟩
  show ((hidS S.s vs).set j (some (.imm y)))[i]? = _
  rw [List.getElem?_set_ne (show j ≠ i from fun z => n (by rw [← z]; exact hj)), hidS_keep n]
  exact h
theorem keep_name2 {vs : List Nat} {j k : Nat} {y z : D} (hn : noOwns S.s vs = true) (hj : j ∈ vs) (hk : k ∈ vs) : KeepOwn S.s vs (((⟨hidS S.s vs, S.g⟩ : ST).set j y).set k z) := fun i m h => by
  obtain ⟨n, q⟩ := keep_name (y := y) hn hj i m h
  refine ⟨n, ?_⟩
  show (((hidS S.s vs).set j (some (.imm y))).set k (some (.imm z)))[i]? = _
  rw [List.getElem?_set_ne (show k ≠ i from fun z => n (by rw [← z]; exact hk))]
  exact q
theorem keep_name3 {vs : List Nat} {j k l : Nat} {y z w : D} (hn : noOwns S.s vs = true) (hj : j ∈ vs) (hk : k ∈ vs) (hl : l ∈ vs) : KeepOwn S.s vs ((((⟨hidS S.s vs, S.g⟩ : ST).set j y).set k z).set l w) := fun i m h => by
  obtain ⟨n, q⟩ := keep_name2 (y := y) (z := z) hn hj hk i m h
  refine ⟨n, ?_⟩
  show ((((hidS S.s vs).set j (some (.imm y))).set k (some (.imm z))).set l (some (.imm w)))[i]? = _
  rw [List.getElem?_set_ne (show l ≠ i from fun z => n (by rw [← z]; exact hl))]
  exact q
/-- what a comprehension over one name gives -/
def Lc1 (F : Fam) (scope : Scope) (S : ST) (elt : Expr) (x : Str) (xp : Pos) (iter : Expr) (ifs : List Expr) (own : List (Str × Nat)) (os : O (List D)) : Prop := ∀ r, os = .ok r → EvO F.C (tLc (anyI F (.Name x xp) iter) (anyG (F.blk scope) (.Name x xp)) (anyTs (F.blk scope) ifs) (anyE (F.blk scope) elt) (own.map (·.2))) S S r
def LcE (F : Fam) (scope : Scope) (S : ST) (elt tg iter : Expr) (ifs : List Expr) (own : List (Str × Nat)) (os : O (List D)) : Prop := ∀ r, os = .ok r → EvO F.C (tLc (anyI F tg iter) (anyG (F.blk scope) tg) (anyTs (F.blk scope) ifs) (anyE (F.blk scope) elt) (own.map (·.2))) S S r
theorem lc_map {x : Str} {xp : Pos} {j : Nat} {own : List (Str × Nat)} {f : D → O D} (hi : DIp F (.Name x xp) iter S oi) (he : ∀ d, DEp (F.blk scope) elt ((⟨hidS S.s (own.map (·.2)), S.g⟩ : ST).set j d) (f d)) (hn : noOwns S.s (own.map (·.2)) = true := by rfl) (hj : j ∈ own.map (·.2) := by decide)
    (hN : ∀ i, ((F.blk scope).X i).N[j]? = some x := by intro _; rfl) (hx : ∀ i, Loc ((F.blk scope).X i).env.scope x := by intro _; first | exact Or.inl rfl | exact Or.inr rfl)
    (hf : ∀ i, ((F.blk scope).X i).fn x = true ∨ ((F.blk scope).X i).env.scope.names.lookup x = some .local := by intro _; first | exact .inl rfl | exact .inr rfl) : LcE F scope S elt (.Name x xp) iter [] own (oi.bind (mapO f)) := fun r q => by
  obtain ⟨ds, h1, q⟩ := O.bind_eq q
  obtain ⟨h2, q⟩ := sized_eq q
  exact ev_lcG (β := .ok) (st := fun d => (⟨hidS S.s (own.map (·.2)), S.g⟩ : ST).set j d) (tt := fun _ => .ok true) (js := [j]) (hi ds h1) (fun d y z => by cases z; exact dg_name hN hx hf) (fun i z => by rw [List.mem_singleton.mp z]; exact hj) (fun y => keep_name hn hj) (fun y => rfl) (fun y => ts_nil) he h2 q
theorem lc_fil {x : Str} {xp : Pos} {j : Nat} {own : List (Str × Nat)} {k : D → O Bool} {f : D → O D} (hi : DIp F (.Name x xp) iter S oi) (ht : ∀ d, DTp (F.blk scope) c ((⟨hidS S.s (own.map (·.2)), S.g⟩ : ST).set j d) (k d)) (he : ∀ d, DEp (F.blk scope) elt ((⟨hidS S.s (own.map (·.2)), S.g⟩ : ST).set j d) (f d)) (hn : noOwns S.s (own.map (·.2)) = true := by rfl) (hj : j ∈ own.map (·.2) := by decide)
    (hN : ∀ i, ((F.blk scope).X i).N[j]? = some x := by intro _; rfl) (hx : ∀ i, Loc ((F.blk scope).X i).env.scope x := by intro _; first | exact Or.inl rfl | exact Or.inr rfl)
    (hf : ∀ i, ((F.blk scope).X i).fn x = true ∨ ((F.blk scope).X i).env.scope.names.lookup x = some .local := by intro _; first | exact .inl rfl | exact .inr rfl) : LcE F scope S elt (.Name x xp) iter [c] own (oi.bind (filO k f)) := fun r q => by
  obtain ⟨ds, h1, q⟩ := O.bind_eq q
  obtain ⟨h2, q⟩ := sized_eq q
  exact ev_lcG (β := .ok) (st := fun d => (⟨hidS S.s (own.map (·.2)), S.g⟩ : ST).set j d) (js := [j]) (hi ds h1) (fun d y z => by cases z; exact dg_name hN hx hf) (fun i z => by rw [List.mem_singleton.mp z]; exact hj) (fun y => keep_name hn hj) (fun y => rfl) (fun y => ts_one (ht y)) he h2 q
theorem dg_un2 {F : Fam} {S : ST} {i j k2 : Nat} {n1 n2 : Str} {px py pt : Pos} {d : D} {y : D × D} (h : (un2 d fun a b => .ok (a, b)) = .ok y) (g1 : ∀ (d : D) (S : ST), DG F (.Name n1 px) d S (S.set i d) [i]) (g2 : ∀ (d : D) (S : ST), DG F (.Name n2 py) d S (S.set j d) [j]) : DG F (.Tuple [.Name n1 px, .Name n2 py] k2 pt) d S ((S.set i y.1).set j y.2) [i, j] := by
  obtain ⟨a, b, hd, h⟩ := un2_eq h
  cases h
  rcases hd with rfl | rfl
  · exact dg_tup (dgs_cons (g1 a S) (dgs_cons (g2 b _) dgs_nil))
  · exact dg_lst (dgs_cons (g1 a S) (dgs_cons (g2 b _) dgs_nil))
theorem dg_un3 {F : Fam} {S : ST} {i j l k2 : Nat} {n1 n2 n3 : Str} {px py pz pt : Pos} {d : D} {y : D × D × D} (h : (un3 d fun a b c => .ok (a, b, c)) = .ok y) (g1 : ∀ (d : D) (S : ST), DG F (.Name n1 px) d S (S.set i d) [i]) (g2 : ∀ (d : D) (S : ST), DG F (.Name n2 py) d S (S.set j d) [j]) (g3 : ∀ (d : D) (S : ST), DG F (.Name n3 pz) d S (S.set l d) [l]) : DG F (.Tuple [.Name n1 px, .Name n2 py, .Name n3 pz] k2 pt) d S (((S.set i y.1).set j y.2.1).set l y.2.2) [i, j, l] := by
  obtain ⟨a, b, c, hd, h⟩ := un3_eq h
  cases h
  rcases hd with rfl | rfl
  · exact dg_tup (dgs_cons (g1 a S) (dgs_cons (g2 b _) (dgs_cons (g3 c _) dgs_nil)))
  · exact dg_lst (dgs_cons (g1 a S) (dgs_cons (g2 b _) (dgs_cons (g3 c _) dgs_nil)))
theorem lc_map2 {n1 n2 : Str} {px py pt : Pos} {i j k2 : Nat} {own : List (Str × Nat)} {f : D → D → O D} (hi : DIp F (.Tuple [.Name n1 px, .Name n2 py] k2 pt) iter S oi) (he : ∀ x y, DEp (F.blk scope) elt (((⟨hidS S.s (own.map (·.2)), S.g⟩ : ST).set i x).set j y) (f x y)) (hn : noOwns S.s (own.map (·.2)) = true := by rfl) (hii : i ∈ own.map (·.2) := by decide) (hj : j ∈ own.map (·.2) := by decide)
    (g1 : ∀ (d : D) (S : ST), DG (F.blk scope) (.Name n1 px) d S (S.set i d) [i] := by intro _ _; exact dg_name) (g2 : ∀ (d : D) (S : ST), DG (F.blk scope) (.Name n2 py) d S (S.set j d) [j] := by intro _ _; exact dg_name) : LcE F scope S elt (.Tuple [.Name n1 px, .Name n2 py] k2 pt) iter [] own (oi.bind (mapO fun d => un2 d f)) := fun r q => by
  obtain ⟨ds, h1, q⟩ := O.bind_eq q
  obtain ⟨h2, q⟩ := sized_eq q
  refine ev_lcG (β := fun d => un2 d fun a b => .ok (a, b)) (st := fun y => ((⟨hidS S.s (own.map (·.2)), S.g⟩ : ST).set i y.1).set j y.2) (tt := fun _ => .ok true) (js := [i, j]) (hi ds h1) (fun d y z => dg_un2 z g1 g2) (fun l z => by
    rcases List.mem_cons.mp z with rfl | z
    · exact hii
    · rw [List.mem_singleton.mp z]; exact hj) (fun y => keep_name2 hn hii hj) (fun y => rfl) (fun y => ts_nil) (fun y => he y.1 y.2) h2 ?_
  rw [← q]
  congr 1
  funext d
  rw [un2_bind, un2_bind]
  rfl
theorem lc_fil2 {n1 n2 : Str} {px py pt : Pos} {i j k2 : Nat} {own : List (Str × Nat)} {k : D → D → O Bool} {f : D → D → O D} (hi : DIp F (.Tuple [.Name n1 px, .Name n2 py] k2 pt) iter S oi) (ht : ∀ x y, DTp (F.blk scope) c (((⟨hidS S.s (own.map (·.2)), S.g⟩ : ST).set i x).set j y) (k x y)) (he : ∀ x y, DEp (F.blk scope) elt (((⟨hidS S.s (own.map (·.2)), S.g⟩ : ST).set i x).set j y) (f x y)) (hn : noOwns S.s (own.map (·.2)) = true := by rfl) (hii : i ∈ own.map (·.2) := by decide) (hj : j ∈ own.map (·.2) := by decide)
    (g1 : ∀ (d : D) (S : ST), DG (F.blk scope) (.Name n1 px) d S (S.set i d) [i] := by intro _ _; exact dg_name) (g2 : ∀ (d : D) (S : ST), DG (F.blk scope) (.Name n2 py) d S (S.set j d) [j] := by intro _ _; exact dg_name) : LcE F scope S elt (.Tuple [.Name n1 px, .Name n2 py] k2 pt) iter [c] own (oi.bind fun ds => sized ds.length (lcO (fun d => un2 d fun x y => O.ite (k x y) ((f x y).bind fun x => .ok (some x)) (.ok none)) ds)) := fun r q => by
  obtain ⟨ds, h1, q⟩ := O.bind_eq q
  obtain ⟨h2, q⟩ := sized_eq q
  refine ev_lcG (β := fun d => un2 d fun a b => .ok (a, b)) (st := fun y => ((⟨hidS S.s (own.map (·.2)), S.g⟩ : ST).set i y.1).set j y.2) (js := [i, j]) (hi ds h1) (fun d y z => dg_un2 z g1 g2) (fun l z => by
    rcases List.mem_cons.mp z with rfl | z
    · exact hii
    · rw [List.mem_singleton.mp z]; exact hj) (fun y => keep_name2 hn hii hj) (fun y => rfl) (fun y => ts_one (ht y.1 y.2)) (fun y => he y.1 y.2) h2 ?_
  rw [← q]
  congr 1
  funext d
  rw [un2_bind]
  rfl
theorem o_lc {ifs : List Expr} {own : List (Str × Nat)} (ok : ∀ i, BlkOk (F.X i).N (F.X i).env.scope scope own) (h : LcE F scope S elt tg iter ifs own os) (hs : ∀ i x, foldedSetIterable iter (F.X i).env x = pure x := by intro _ _; rfl) : DOp F (.ListComp elt [⟨tg, iter, ifs, 0⟩] scope pos) S os := fun r q =>
  do_of (fun i => pe_lc (F.calm i) (by rw [F.hN i]; exact F.nd) (anyI_ok i) (ok i) (fun s H C cl fp => anyG_ok (F := F.blk scope) (i, s, H, C, cl, fp)) (fun s H C cl fp => anyTs_ok (F := F.blk scope) (i, s, H, C, cl, fp)) (fun s H C cl fp => anyE_ok (F := F.blk scope) (i, s, H, C, cl, fp)) (hs i)) (h r q)
/-- y = [..], y a local name -/
theorem k_setLc {j : Nat} {yn : Str} {py : Pos} {ifs : List Expr} {own : List (Str × Nat)} {mr : D → O R} (ok : ∀ i, BlkOk (F.X i).N (F.X i).env.scope scope own) (h : LcE F scope S elt tg iter ifs own os) (hr : ∀ d, DSk F rest (S.set j d) (mr d) P)
    (hN : ∀ i, (F.X i).N[j]? = some yn := by intro _; rfl) (hl : ∀ i, (F.X i).env.scope.names.lookup yn = some .local := by intro _; rfl)
    (hsw : ∀ i, swapsWith (.ListComp elt [⟨tg, iter, ifs, 0⟩] scope p) (some (.Name yn py)) pos.line (F.X i).env = pure true := by intro _; exact sw_true rfl rfl rfl (by decide +kernel)) (hs : ∀ i x, foldedSetIterable iter (F.X i).env x = pure x := by intro _ _; rfl) :
    DSk F (.Assign [.Name yn py] (.ListComp elt [⟨tg, iter, ifs, 0⟩] scope p) pos :: rest) S ((os.bind fun ds => .ok (.lst ds)).bind mr) P := fun r q => by
  obtain ⟨d, q1, q⟩ := O.bind_eq q
  obtain ⟨ds, q2, q1⟩ := O.bind_eq q1
  cases q1
  exact ds_setDO (h ds q2) ok (hr _ r q) hN hl hsw hs
/-! ### loops over names -/
theorem k_for1 (mk : T → ST) {t0 : T} {x : Str} {xp : Pos} {j : Nat} {mb : T → D → O T} {mr : T → O R} (hi : DIp F (.Name x xp) iter S oi) (w : Wk S (mk t0)) (hb : ∀ t d, DSk F body ((mk t).set j d) (mb t d) (PB mk)) (hr : ∀ t, DSk F rest (mk t) (mr t) P)
    (g1 : ∀ (d : D) (S : ST), DG F (.Name x xp) d S (S.set j d) [j] := by intro _ _; exact dg_name)
    (hp : ∀ i, PassesOwn (model (F.X i).prog (F.X i).w) (F.X i).A (F.X i).env (F.X i).xe := by intro _; exact PassesOwn.never)
    (hf : ∀ i, PS (F.X i) (.For (.Name x xp) iter body [] pos) (tFor (anyI F (.Name x xp) iter) (anyG F (.Name x xp)) (anyS F body)) := by intro i; exact ps_for PassesOwn.never (Fam.calm _ i) (anyI_ok i) (anyG_ok i) (anyS_ok i)) :
    DSk F (.For (.Name x xp) iter body [] pos :: rest) S (oi.bind fun ds => (forO mb ds t0).bind mr) P :=
  k_for mk (β := .ok) (st := fun t d => (mk t).set j d) (mb := mb) hi w (fun t d y z => by cases z; exact ⟨_, g1 _ _⟩) hb hr hp hf
theorem k_for2 (mk : T → ST) {t0 : T} {n1 n2 : Str} {px py pt : Pos} {i j k2 : Nat} {mb : T → D → D → O T} {mr : T → O R} (hi : DIp F (.Tuple [.Name n1 px, .Name n2 py] k2 pt) iter S oi) (w : Wk S (mk t0)) (hb : ∀ t x y, DSk F body (((mk t).set i x).set j y) (mb t x y) (PB mk)) (hr : ∀ t, DSk F rest (mk t) (mr t) P)
    (g1 : ∀ (d : D) (S : ST), DG F (.Name n1 px) d S (S.set i d) [i] := by intro _ _; exact dg_name) (g2 : ∀ (d : D) (S : ST), DG F (.Name n2 py) d S (S.set j d) [j] := by intro _ _; exact dg_name)
    (hp : ∀ i, PassesOwn (model (F.X i).prog (F.X i).w) (F.X i).A (F.X i).env (F.X i).xe := by intro _; exact PassesOwn.never)
    (hf : ∀ i, PS (F.X i) (.For (.Tuple [.Name n1 px, .Name n2 py] k2 pt) iter body [] pos) (tFor (anyI F (.Tuple [.Name n1 px, .Name n2 py] k2 pt) iter) (anyG F (.Tuple [.Name n1 px, .Name n2 py] k2 pt)) (anyS F body)) := by intro i; exact ps_for PassesOwn.never (Fam.calm _ i) (anyI_ok i) (anyG_ok i) (anyS_ok i)) :
    DSk F (.For (.Tuple [.Name n1 px, .Name n2 py] k2 pt) iter body [] pos :: rest) S (oi.bind fun ds => (forO (fun t d => un2 d (mb t)) ds t0).bind mr) P := by
  have := k_for mk (β := fun d => un2 d fun a b => .ok (a, b)) (st := fun t y => ((mk t).set i y.1).set j y.2) (mb := fun t y => mb t y.1 y.2) hi w (fun t d y z => ⟨_, dg_un2 z g1 g2⟩) (fun t y => hb t y.1 y.2) hr hp hf
  have e : (fun (x : T) (d : D) => (un2 d fun a b => O.ok (a, b)).bind fun y => mb x y.1 y.2) = fun t d => un2 d (mb t) := by
    funext t d
    rw [un2_bind]
    rfl
  rw [e] at this
  exact this
theorem k_for1R (mk : T → ST) {t0 : T} {x : Str} {xp : Pos} {j : Nat} {mb : T → D → O (Fl T R)} {mr : T → O R} (hi : DIp F (.Name x xp) iter S oi) (w : Wk S (mk t0)) (hb : ∀ t d, DSk F body ((mk t).set j d) (mb t d) (PL P mk)) (hr : ∀ t, DSk F rest (mk t) (mr t) P)
    (g1 : ∀ (d : D) (S : ST), DG F (.Name x xp) d S (S.set j d) [j] := by intro _ _; exact dg_name)
    (hp : ∀ i, PassesOwn (model (F.X i).prog (F.X i).w) (F.X i).A (F.X i).env (F.X i).xe := by intro _; exact PassesOwn.never)
    (hf : ∀ i, PS (F.X i) (.For (.Name x xp) iter body [] pos) (tFor (anyI F (.Name x xp) iter) (anyG F (.Name x xp)) (anyS F body)) := by intro i; exact ps_for PassesOwn.never (Fam.calm _ i) (anyI_ok i) (anyG_ok i) (anyS_ok i)) :
    DSk F (.For (.Name x xp) iter body [] pos :: rest) S (oi.bind fun ds => thenO (loopO mb ds t0) mr) P :=
  k_forR mk (β := .ok) (st := fun t d => (mk t).set j d) (mb := mb) hi w (fun t d y z => by cases z; exact ⟨_, g1 _ _⟩) hb hr hp hf
theorem k_for2R (mk : T → ST) {t0 : T} {n1 n2 : Str} {px py pt : Pos} {i j k2 : Nat} {mb : T → D → D → O (Fl T R)} {mr : T → O R} (hi : DIp F (.Tuple [.Name n1 px, .Name n2 py] k2 pt) iter S oi) (w : Wk S (mk t0)) (hb : ∀ t x y, DSk F body (((mk t).set i x).set j y) (mb t x y) (PL P mk)) (hr : ∀ t, DSk F rest (mk t) (mr t) P)
    (g1 : ∀ (d : D) (S : ST), DG F (.Name n1 px) d S (S.set i d) [i] := by intro _ _; exact dg_name) (g2 : ∀ (d : D) (S : ST), DG F (.Name n2 py) d S (S.set j d) [j] := by intro _ _; exact dg_name)
    (hp : ∀ i, PassesOwn (model (F.X i).prog (F.X i).w) (F.X i).A (F.X i).env (F.X i).xe := by intro _; exact PassesOwn.never)
    (hf : ∀ i, PS (F.X i) (.For (.Tuple [.Name n1 px, .Name n2 py] k2 pt) iter body [] pos) (tFor (anyI F (.Tuple [.Name n1 px, .Name n2 py] k2 pt) iter) (anyG F (.Tuple [.Name n1 px, .Name n2 py] k2 pt)) (anyS F body)) := by intro i; exact ps_for PassesOwn.never (Fam.calm _ i) (anyI_ok i) (anyG_ok i) (anyS_ok i)) :
    DSk F (.For (.Tuple [.Name n1 px, .Name n2 py] k2 pt) iter body [] pos :: rest) S (oi.bind fun ds => thenO (loopO (fun t d => un2 d (mb t)) ds t0) mr) P := by
  have := k_forR mk (β := fun d => un2 d fun a b => .ok (a, b)) (st := fun t y => ((mk t).set i y.1).set j y.2) (mb := fun t y => mb t y.1 y.2) hi w (fun t d y z => ⟨_, dg_un2 z g1 g2⟩) (fun t y => hb t y.1 y.2) hr hp hf
  have e : (fun (x : T) (d : D) => (un2 d fun a b => O.ok (a, b)).bind fun y => mb x y.1 y.2) = fun t d => un2 d (mb t) := by
    funext t d
    rw [un2_bind]
    rfl
  rw [e] at this
  exact this
end
end SL
/-! SL6: a, b = x, y with own lists among them; defs. -/
namespace DL
open PySem L2
/-- v stands for the new content x; H0: the heap ahead of its making -/
inductive StV (C : Kc) (G H0 H : Hp) : V → DV → Prop where
  | imm {v : V} {d : D} : Den C G v d → StV C G H0 H v (.imm d)
  | own {q : Addr} {o : HO} {m : MO} : H0 q = none → G q = none → H q = some o → MOk C G o m → StV C G H0 H (.ref q) (.own m)
theorem fresh_oa {C : Kc} {G H : Hp} {σ : L2.St} {S : ST} (c : Ctx C G H σ S) {q : Addr} (h : H q = none) : ¬ OA C σ S q := fun z => by
  rcases z with ⟨j, es, r1, r2⟩ | ⟨o, r⟩
  · obtain ⟨a, _, q1, _, q3, _⟩ := c.ow j es r1
    rw [r2] at q1; cases q1; rw [h] at q3; cases q3
  · have z := c.bag
    rw [r] at z
    cases o with
    | lst => obtain ⟨_, _, h3, _⟩ := z; rw [h] at h3; cases h3
    | ins => obtain ⟨_, _, _, h3, _⟩ := z; rw [h] at h3; cases h3
theorem StV.step {C : Kc} {G H0 H G2 H2 : Hp} {σ : L2.St} {S S2 : ST} {v : V} {x : DV} (h : StV C G H0 H v x) (n : ∀ q, H0 q = none → ¬ OA C σ S q) (m : Mv C σ S G H S2 G2 H2) : StV C G2 H0 H2 v x := by
  cases h with
  | imm h => exact .imm (h.mono m.go.gg)
  | own h1 h2 h3 h4 => exact .own h1 (m.go.fr _ (n _ h1) (by rw [h3]; simp) h2) (m.go.keep _ _ (n _ h1) h3) (h4.mono m.go.gg)
theorem Ctx.storeV {C : Kc} {G H0 H : Hp} {σ : L2.St} {S : ST} {i : Nat} {v : V} {x : DV} (c : Ctx C G H σ S) (h : StV C G H0 H v x) (hi : i < S.s.length) (n : ∀ q, v = .ref q → H0 q = none → ¬ OA C σ S q) : Ctx C G H (σ.set i (some v)) ⟨S.s.set i (some x), S.g⟩ := by
  cases h with
  | imm h => exact (c.store h).cx
  | own h1 h2 h3 h4 => exact c.storeO h2 h3 h4 hi (fun j es r z => n _ rfl h1 (.inl ⟨j, es, r, z⟩)) fun o r => n _ rfl h1 (.inr ⟨o, r⟩)
theorem oa_storeV {C : Kc} {σ : L2.St} {S : ST} {i : Nat} {v : V} {x : DV} {a : Addr} (z : OA C (σ.set i (some v)) ⟨S.s.set i (some x), S.g⟩ a) : OA C σ S a ∨ (v = .ref a ∧ ∃ m, x = .own m) := by
  rcases z with ⟨j, es, r1, r2⟩ | ⟨o, r⟩
  · by_cases ij : i = j
    · subst ij
      have l1 : i < S.s.length := by
        rcases Nat.lt_or_ge i S.s.length with z | z
        · exact z
        · rw [List.getElem?_eq_none (by simpa using z)] at r1; cases r1
      have l2 : i < σ.length := by
        rcases Nat.lt_or_ge i σ.length with z | z
        · exact z
        · rw [List.getElem?_eq_none (by simpa using z)] at r2; cases r2
      rw [List.getElem?_set_self l1] at r1
      rw [List.getElem?_set_self l2] at r2
      cases r1
      cases r2
      exact .inr ⟨rfl, _, rfl⟩
    · rw [List.getElem?_set_ne ij] at r1 r2
      exact .inl (.inl ⟨j, es, r1, r2⟩)
  · exact .inl (.inr ⟨o, r⟩)
def EvV (C : Kc) (te : TE) (S S1 : ST) (x : DV) : Prop := ∀ σ G H, Ctx C G H σ S → ∀ Q : VK, (∀ v G2 H2, Mv C σ S G H S1 G2 H2 → StV C G2 H H2 v x → Q v H2) → te σ H Q
theorem evv_m {C : Kc} {te : TE} {S S1 : ST} {d : D} (h : EvM C te S S1 d) : EvV C te S S1 (.imm d) := fun σ G H c Q q => h σ G H c Q fun v G2 H2 m dv => q v G2 H2 m (.imm dv)
theorem evv_o {C : Kc} {te : TE} {S S1 : ST} {ds : List D} (h : EvO C te S S1 ds) : EvV C te S S1 (.own (.lst ds)) := fun σ G H c Q q => h σ G H c Q fun p vs G2 H2 m h1 h2 h3 h4 => q _ G2 H2 m (.own h1 h2 h3 (.lst h4))
/-- two values, both stored -/
theorem par2 {C : Kc} {ta tb : TE} {S S1 S2 : ST} {x y : DV} {i j : Nat} {σ : L2.St} {G H : Hp} (c : Ctx C G H σ S) (ha : EvV C ta S S1 x) (hb : EvV C tb S1 S2 y) (hi : i < S2.s.length) (hj : j < S2.s.length) {K : V → V → Hp → Prop}
    (k : ∀ v w G2 H2, Same H2 H2 → Mw C σ S G H ((σ.set i (some v)).set j (some w)) ⟨(S2.s.set i (some x)).set j (some y), S2.g⟩ G2 H2 → K v w H2) : ta σ H fun v H1 => tb σ H1 fun w H2 => K v w H2 :=
  ha σ G H c _ fun v G1 H1 m1 s1 => hb σ G1 H1 m1.cx _ fun w G2 H2 m2 s2 => by
    have n0 : ∀ q, H q = none → ¬ OA C σ S q := fun q h => fresh_oa c h
    have n1 : ∀ q, H q = none → ¬ OA C σ S1 q := fun q h z => n0 q h (m1.oa q z)
    have n2 : ∀ q, H q = none → ¬ OA C σ S2 q := fun q h z => n1 q h (m2.oa q z)
    have n3 : ∀ q, H1 q = none → ¬ OA C σ S2 q := fun q h z => fresh_oa m1.cx h (m2.oa q z)
    have b0 : ∀ q, H1 q = none → H q = none := fun q h => by
      cases r : H q with
      | none => rfl
      | some o => exact absurd h (m1.go.dom q (by rw [r]; simp))
    have t1 := s1.step n1 m2
    have c1 := m2.cx.storeV (i := i) t1 hi (fun q _ h => n2 q h)
    have c2 := c1.storeV (i := j) s2 (by simpa using hj) (fun q e h z => by
      rcases oa_storeV z with z | ⟨e2, m, e3⟩
      · exact n3 q h z
      · subst e2 e3
        cases s1 with
        | own _ _ h3 _ => rw [h] at h3; cases h3)
    refine k v w G2 H2 (fun _ _ h => h) ⟨(m1.trans m2).go, c2, fun a z => ?_⟩
    rcases oa_storeV (S := ⟨S2.s.set i (some x), S2.g⟩) z with z | ⟨e, m, e2⟩
    · rcases oa_storeV z with z | ⟨e, m, e2⟩
      · exact .inl (m1.oa a (m2.oa a z))
      · subst e e2
        cases t1 with
        | own h => exact .inr h
    · subst e e2
      cases s2 with
      | own h => exact .inr (b0 _ h)
theorem par3 {C : Kc} {ta tb tc : TE} {S S1 S2 S3 : ST} {x y z : DV} {i j l : Nat} {σ : L2.St} {G H : Hp} (c : Ctx C G H σ S) (ha : EvV C ta S S1 x) (hb : EvV C tb S1 S2 y) (hc : EvV C tc S2 S3 z) (hi : i < S3.s.length) (hj : j < S3.s.length) (hl : l < S3.s.length) {K : V → V → V → Hp → Prop}
    (k : ∀ u v w G2 H2, Mw C σ S G H (((σ.set i (some u)).set j (some v)).set l (some w)) ⟨((S3.s.set i (some x)).set j (some y)).set l (some z), S3.g⟩ G2 H2 → K u v w H2) : ta σ H fun u H1 => tb σ H1 fun v H2 => tc σ H2 fun w H3 => K u v w H3 :=
  ha σ G H c _ fun u G1 H1 m1 s1 => hb σ G1 H1 m1.cx _ fun v G2 H2 m2 s2 => hc σ G2 H2 m2.cx _ fun w G3 H3 m3 s3 => by
    have n0 : ∀ q, H q = none → ¬ OA C σ S q := fun q h => fresh_oa c h
    have n1 : ∀ q, H q = none → ¬ OA C σ S1 q := fun q h z => n0 q h (m1.oa q z)
    have n2 : ∀ q, H q = none → ¬ OA C σ S2 q := fun q h z => n1 q h (m2.oa q z)
    have p2 : ∀ q, H1 q = none → ¬ OA C σ S2 q := fun q h z => fresh_oa m1.cx h (m2.oa q z)
    have n3 : ∀ q, H q = none → ¬ OA C σ S3 q := fun q h z => n2 q h (m3.oa q z)
    have p3 : ∀ q, H1 q = none → ¬ OA C σ S3 q := fun q h z => p2 q h (m3.oa q z)
    have q3 : ∀ q, H2 q = none → ¬ OA C σ S3 q := fun q h z => fresh_oa m2.cx h (m3.oa q z)
    have b1 : ∀ q, H1 q = none → H q = none := fun q h => by
      cases r : H q with
      | none => rfl
      | some o => exact absurd h (m1.go.dom q (by rw [r]; simp))
    have b2 : ∀ q, H2 q = none → H1 q = none := fun q h => by
      cases r : H1 q with
      | none => rfl
      | some o => exact absurd h (m2.go.dom q (by rw [r]; simp))
    have t1 := s1.step n1 m2
    have r1 := t1.step n2 m3
    have r2 := s2.step p2 m3
    have c1 := m3.cx.storeV (i := i) r1 hi (fun q _ h => n3 q h)
    have c2 := c1.storeV (i := j) r2 (by simpa using hj) (fun q e h zz => by
      rcases oa_storeV zz with zz | ⟨e2, m, e3⟩
      · exact p3 q h zz
      · subst e2 e3
        cases s1 with
        | own _ _ h3 _ => rw [h] at h3; cases h3)
    have c3 := c2.storeV (i := l) s3 (by simpa using hl) (fun q e h zz => by
      rcases oa_storeV zz with zz | ⟨e2, m, e3⟩
      · rcases oa_storeV zz with zz | ⟨e2, m, e3⟩
        · exact q3 q h zz
        · subst e2 e3
          cases t1 with
          | own _ _ h3 _ => rw [h] at h3; cases h3
      · subst e2 e3
        cases s2 with
        | own _ _ h3 _ => rw [h] at h3; cases h3)
    refine k u v w G3 H3 ⟨((m1.trans m2).trans m3).go, c3, fun a zz => ?_⟩
    rcases oa_storeV (S := ⟨(S3.s.set i (some x)).set j (some y), S3.g⟩) zz with zz | ⟨e, m, e2⟩
    · rcases oa_storeV (S := ⟨S3.s.set i (some x), S3.g⟩) zz with zz | ⟨e, m, e2⟩
      · rcases oa_storeV zz with zz | ⟨e, m, e2⟩
        · exact .inl (m1.oa a (m2.oa a (m3.oa a zz)))
        · subst e e2
          cases r1 with
          | own h => exact .inr h
      · subst e e2
        cases r2 with
        | own h => exact .inr (b1 _ h)
    · subst e e2
      cases s3 with
      | own h => exact .inr (b1 _ (b2 _ h))
/-- the tuple that is taken apart at once is nobody's -/
theorem Mw.side {C : Kc} {σ σ2 : L2.St} {S S2 : ST} {G H G2 H2 : Hp} {p : Addr} {o : HO} (m : Mw C σ S G H σ2 S2 G2 H2) (hp : H2 p = none) : Mw C σ S G H σ2 S2 G2 (upd H2 p o) := by
  have sm : Same H2 (upd H2 p o) := fun a u h => by rw [upd_ne (ne_of_none h hp)]; exact h
  exact m.trans (m.cx.mv sm (fun _ _ h => h) (m.cx.sub.trans sm) fun _ _ h => h).mw
end DL
namespace SL
open PySem L2 DL
/-- what a value is stored as: α its content -/
def DVp {α : Type} (F : Fam) (e : Expr) (S : ST) (κ : α → DV) (o : O α) : Prop := ∀ x, o = .ok x → EvV F.C (anyE F e) S S (κ x)
def kI : D → DV := .imm
def kL : List D → DV := fun ds => .own (.lst ds)
def kD : List (D × D) → DV := fun kvs => .own (.dic kvs)
section
variable {F : Fam} {S S1 : ST} {e a b c : Expr} {pos p : Pos} {oe : O D} {os : O (List D)} {rest : List Stmt} {R α β γ : Type} {P : R → Po} {κ : α → DV} {κ' : β → DV} {κ'' : γ → DV} {oa : O α} {ob : O β} {oc : O γ}
theorem v_e (h : DEp F e S oe) : DVp F e S kI oe := fun x q => evv_m (h x q)
theorem v_o (h : DOp F e S os) : DVp F e S kL os := fun x q => evv_o (h x q)
theorem k_par2 {i j : Nat} {n1 n2 : Str} {px py pt : Pos} {kt k2 : Nat} {pt2 : Pos} {mr : α → β → O R} (ha : DVp F a S κ oa) (hb : DVp F b S κ' ob) (hr : ∀ x y, DSk F rest ⟨(S.s.set i (some (κ x))).set j (some (κ' y)), S.g⟩ (mr x y) P)
    (hi : i < S.s.length := by exact Nat.le_of_ble_eq_true rfl) (hj : j < S.s.length := by exact Nat.le_of_ble_eq_true rfl) (h1 : ∀ l, (F.X l).N[i]? = some n1 := by intro _; rfl) (h2 : ∀ l, (F.X l).N[j]? = some n2 := by intro _; rfl) (hij : i ≠ j := by decide)
    (hx : ∀ l, (F.X l).env.scope.names.lookup n1 = some .local := by intro _; rfl) (hy : ∀ l, (F.X l).env.scope.names.lookup n2 = some .local := by intro _; rfl)
    (hw : ∀ l, swappedStores [.Tuple [.Name n1 px, .Name n2 py] kt pt] (.Tuple [a, b] k2 pt2) (F.X l).env = pure (some [n1, n2]) := by intro _; rfl)
    (hs : ∀ l, swapsWithSole [.Tuple [.Name n1 px, .Name n2 py] kt pt] (.Tuple [a, b] k2 pt2) pos.line (F.X l).env = pure false := by intro _; rfl)
    (hst : ∀ i, starEach [a, b] (F.X i).env = (false, eval a (F.X i).env) :: starEach [b] (F.X i).env := by intro _; rfl) (hst2 : ∀ i, starEach [b] (F.X i).env = (false, eval b (F.X i).env) :: starEach [] (F.X i).env := by intro _; rfl) :
    DSk F (.Assign [.Tuple [.Name n1 px, .Name n2 py] kt pt] (.Tuple [a, b] k2 pt2) pos :: rest) S (oa.bind fun x => ob.bind fun y => mr x y) P := fun r q => by
  obtain ⟨x, q1, q⟩ := O.bind_eq q
  obtain ⟨y, q2, q⟩ := O.bind_eq q
  refine ds_cons (M := fun S3 => S3 = ⟨(S.s.set i (some (κ x))).set j (some (κ' y)), S.g⟩) (d1_of (te := tPar i j (tCons (anyE F a) (tCons (anyE F b) tNil))) (fun l => ps_par (F.calm l) (by rw [F.hN l]; exact F.nd) (h1 l) (h2 l) hij (hx l) (hy l) (pa_cons (anyE_ok l) (pa_cons (anyE_ok l) pa_nil (hst2 l)) (hst l)) (hw l) (hs l)) ?_) fun _ z => z ▸ hr x y r q
  intro σ G H c E m
  exact par2 c (ha x q1) (hb y q2) hi hj fun v w G2 H2 _ mw => ⟨v, w, rfl, m.nx _ _ _ _ mw rfl⟩
theorem k_par3 {i j l : Nat} {n1 n2 n3 : Str} {px py pz pt : Pos} {kt k2 : Nat} {pt2 : Pos} {mr : α → β → γ → O R} (ha : DVp F a S κ oa) (hb : DVp F b S κ' ob) (hc : DVp F c S κ'' oc) (hr : ∀ x y z, DSk F rest ⟨((S.s.set i (some (κ x))).set j (some (κ' y))).set l (some (κ'' z)), S.g⟩ (mr x y z) P)
    (hi : i < S.s.length := by exact Nat.le_of_ble_eq_true rfl) (hj : j < S.s.length := by exact Nat.le_of_ble_eq_true rfl) (hl : l < S.s.length := by exact Nat.le_of_ble_eq_true rfl)
    (hp : ∀ o, PS (F.X o) (.Assign [.Tuple [.Name n1 px, .Name n2 py, .Name n3 pz] kt pt] (.Tuple [a, b, c] k2 pt2) pos) (tPar3 i j l (tCons (anyE F a) (tCons (anyE F b) (tCons (anyE F c) tNil)))) := by
      intro o; exact ps_par3 (Fam.calm _ o) (Fam.ndX _ o) rfl rfl rfl (by decide) (by decide) (by decide) rfl rfl rfl (pa_cons (anyE_ok o) (pa_cons (anyE_ok o) (pa_cons (anyE_ok o) pa_nil))) rfl) :
    DSk F (.Assign [.Tuple [.Name n1 px, .Name n2 py, .Name n3 pz] kt pt] (.Tuple [a, b, c] k2 pt2) pos :: rest) S (oa.bind fun x => ob.bind fun y => oc.bind fun z => mr x y z) P := fun r q => by
  obtain ⟨x, q1, q⟩ := O.bind_eq q
  obtain ⟨y, q2, q⟩ := O.bind_eq q
  obtain ⟨z, q3, q⟩ := O.bind_eq q
  refine ds_cons (M := fun S3 => S3 = ⟨((S.s.set i (some (κ x))).set j (some (κ' y))).set l (some (κ'' z)), S.g⟩) (d1_of (te := tPar3 i j l (tCons (anyE F a) (tCons (anyE F b) (tCons (anyE F c) tNil)))) hp ?_) fun _ zz => zz ▸ hr x y z r q
  intro σ G H cx E m
  exact par3 cx (ha x q1) (hb y q2) (hc z q3) hi hj hl fun u v w G2 H2 mw => ⟨u, v, w, rfl, m.nx _ _ _ _ mw rfl⟩
/-- .. where a name is a cell: by a tuple -/
theorem k_parT2 {i j : Nat} {n1 n2 : Str} {px py pt : Pos} {kt k2 : Nat} {pt2 : Pos} {mr : α → β → O R} (ha : DVp F a S κ oa) (hb : DVp F b S κ' ob) (hr : ∀ x y, DSk F rest ⟨(S.s.set i (some (κ x))).set j (some (κ' y)), S.g⟩ (mr x y) P)
    (hi : i < S.s.length := by exact Nat.le_of_ble_eq_true rfl) (hj : j < S.s.length := by exact Nat.le_of_ble_eq_true rfl)
    (hp : ∀ o, PS (F.X o) (.Assign [.Tuple [.Name n1 px, .Name n2 py] kt pt] (.Tuple [a, b] k2 pt2) pos) (tAsg (tTup (tCons (anyE F a) (tCons (anyE F b) tNil))) (gTup (F.X o).K 2 (gCons (gName i) (gCons (gName j) gNil)))) := by
      intro o; exact ps_asg (pe_tup (pa_cons (anyE_ok o) (pa_cons (anyE_ok o) pa_nil))) (pg_tup (Fam.calm _ o) (pgs_cons (pg_name (Fam.ndX _ o) rfl (by first | exact Or.inl rfl | exact Or.inr rfl)) (pgs_cons (pg_name (Fam.ndX _ o) rfl (by first | exact Or.inl rfl | exact Or.inr rfl)) pgs_nil)))) :
    DSk F (.Assign [.Tuple [.Name n1 px, .Name n2 py] kt pt] (.Tuple [a, b] k2 pt2) pos :: rest) S (oa.bind fun x => ob.bind fun y => mr x y) P := fun r q => by
  obtain ⟨x, q1, q⟩ := O.bind_eq q
  obtain ⟨y, q2, q⟩ := O.bind_eq q
  refine ds_cons (M := fun S3 => S3 = ⟨(S.s.set i (some (κ x))).set j (some (κ' y)), S.g⟩) (d1_of (te := tAsg (tTup (tCons (anyE F a) (tCons (anyE F b) tNil))) (gTup F.C.K 2 (gCons (gName i) (gCons (gName j) gNil)))) (fun o => by have := hp o; rw [F.hK o] at this; exact this) ?_) fun _ z => z ▸ hr x y r q
  intro σ G H c E m
  exact par2 c (ha x q1) (hb y q2) hi hj fun v w G2 H2 _ mw => ⟨by show 2 ≤ sizeLine; decide, fun p hp => ⟨p, [v, w], rfl, SqT.of upd_same, rfl, v, [w], rfl, w, [], rfl, rfl, m.nx _ _ _ _ (mw.side hp) rfl⟩⟩
theorem k_parT3 {i j l : Nat} {n1 n2 n3 : Str} {px py pz pt : Pos} {kt k2 : Nat} {pt2 : Pos} {mr : α → β → γ → O R} (ha : DVp F a S κ oa) (hb : DVp F b S κ' ob) (hc : DVp F c S κ'' oc) (hr : ∀ x y z, DSk F rest ⟨((S.s.set i (some (κ x))).set j (some (κ' y))).set l (some (κ'' z)), S.g⟩ (mr x y z) P)
    (hi : i < S.s.length := by exact Nat.le_of_ble_eq_true rfl) (hj : j < S.s.length := by exact Nat.le_of_ble_eq_true rfl) (hl : l < S.s.length := by exact Nat.le_of_ble_eq_true rfl)
    (hp : ∀ o, PS (F.X o) (.Assign [.Tuple [.Name n1 px, .Name n2 py, .Name n3 pz] kt pt] (.Tuple [a, b, c] k2 pt2) pos) (tAsg (tTup (tCons (anyE F a) (tCons (anyE F b) (tCons (anyE F c) tNil)))) (gTup (F.X o).K 3 (gCons (gName i) (gCons (gName j) (gCons (gName l) gNil))))) := by
      intro o; exact ps_asg (pe_tup (pa_cons (anyE_ok o) (pa_cons (anyE_ok o) (pa_cons (anyE_ok o) pa_nil)))) (pg_tup (Fam.calm _ o) (pgs_cons (pg_name (Fam.ndX _ o) rfl (by first | exact Or.inl rfl | exact Or.inr rfl)) (pgs_cons (pg_name (Fam.ndX _ o) rfl (by first | exact Or.inl rfl | exact Or.inr rfl)) (pgs_cons (pg_name (Fam.ndX _ o) rfl (by first | exact Or.inl rfl | exact Or.inr rfl)) pgs_nil))))) :
    DSk F (.Assign [.Tuple [.Name n1 px, .Name n2 py, .Name n3 pz] kt pt] (.Tuple [a, b, c] k2 pt2) pos :: rest) S (oa.bind fun x => ob.bind fun y => oc.bind fun z => mr x y z) P := fun r q => by
  obtain ⟨x, q1, q⟩ := O.bind_eq q
  obtain ⟨y, q2, q⟩ := O.bind_eq q
  obtain ⟨z, q3, q⟩ := O.bind_eq q
  refine ds_cons (M := fun S3 => S3 = ⟨((S.s.set i (some (κ x))).set j (some (κ' y))).set l (some (κ'' z)), S.g⟩) (d1_of (te := tAsg (tTup (tCons (anyE F a) (tCons (anyE F b) (tCons (anyE F c) tNil)))) (gTup F.C.K 3 (gCons (gName i) (gCons (gName j) (gCons (gName l) gNil))))) (fun o => by have := hp o; rw [F.hK o] at this; exact this) ?_) fun _ zz => zz ▸ hr x y z r q
  intro σ G H cx E m
  exact par3 cx (ha x q1) (hb y q2) (hc z q3) hi hj hl fun u v w G2 H2 mw => ⟨by show 3 ≤ sizeLine; decide, fun p hp => ⟨p, [u, v, w], rfl, SqT.of upd_same, rfl, u, [v, w], rfl, v, [w], rfl, w, [], rfl, rfl, m.nx _ _ _ _ (mw.side hp) rfl⟩⟩
end

/-! ### defs -/
section
variable {P : Program} {w : World} {C : Kc} {mg : Str → Option Value} {base : Heap} {x qual : Str} {st : Stmt} {f : Addr} {fd : FuncData} {N ps : List Str} {k : Nat}
theorem fx {φ : List D → O D} (F : Fun C.K x qual st f fd) (Sc : FnScope N ps (defScope st)) (len : ∀ ds d, φ ds = .ok d → ds.length = ps.length)
    (body : ∀ ds cdv A outer s H E hr, DSk (famD C P w mg base N Sc.nd qual (defScope st) f cdv A outer s H E k hr) (defBody st) ⟨DL.start N ds, none⟩ (φ ds) PF) : FnOk P w C.K mg base CX0 (k + 1) f fd ps (spF C φ) :=
  fnP F Sc len fun ds d h cdv A outer s H E hr => body ds cdv A outer s H E hr d h
theorem fxG {φ : List D → O D} (F : Fun C.K x qual st f fd) (Sc : FnScope N ps (defScope st)) (len : ∀ ds d, φ ds = .ok d → ds.length = ps.length)
    (body : ∀ ds cdv A outer s H E hr, A.guards = some [] → DSk (famD C P w mg base N Sc.nd qual (defScope st) f cdv A outer s H E k hr) (defBody st) ⟨DL.start N ds, none⟩ (φ ds) PF) : FnG P w C.K mg base (k + 1) f fd ps (spF C φ) :=
  fnPG F Sc len fun ds d h cdv A outer s H E hr hA => body ds cdv A outer s H E hr hA d h
/-- a def that hands back a new list -/
def spFN (C : Kc) (φ : List D → O (List D)) : Sp := spO C fun ds es => φ ds = .ok es
theorem fxN {φ : List D → O (List D)} (F : Fun C.K x qual st f fd) (Sc : FnScope N ps (defScope st)) (len : ∀ ds d, φ ds = .ok d → ds.length = ps.length)
    (body : ∀ ds cdv A outer s H E hr, DSk (famD C P w mg base N Sc.nd qual (defScope st) f cdv A outer s H E k hr) (defBody st) ⟨DL.start N ds, none⟩ (φ ds) PN) : FnOk P w C.K mg base CX0 (k + 1) f fd ps (spFN C φ) :=
  fnO F Sc len fun ds d h cdv A outer s H E hr => body ds cdv A outer s H E hr d h
theorem fxI {c : Nat} {n : Str} {ψ : List D → O (List (Str × D))} (F : Fun C.K x qual st f fd) (Sc : FnScope (n :: N) ps (defScope st)) (len : ∀ ds fs, ψ ds = .ok fs → ds.length + 1 = ps.length)
    (body : ∀ ds b cdv A outer s H E hr, DSk (famD C P w mg base (n :: N) Sc.nd qual (defScope st) f cdv A outer s H E k hr) (defBody st) ⟨DL.startB (n :: N) ds, some (b, .ins c [])⟩ (ψ ds) (PI b c)) : FnOk P w C.K mg base CX0 (k + 1) f fd ps (spI C c fun ds fs => ψ ds = .ok fs) :=
  fnI F Sc len fun ds fs h b cdv A outer s H E hr => body ds b cdv A outer s H E hr fs h
theorem fxID {c : Nat} {n : Str} {ψ : List D → O (List (Str × D))} {dvs : List V} {kws : List (Str × V)} (F : FunD C.K x qual (defArgs st) (defBody st) (defScope st) dvs kws f fd) (Sc : FnScope (n :: N) ps (defScope st)) (len : ∀ ds fs, ψ ds = .ok fs → ds.length + 1 = ps.length)
    (body : ∀ ds b cdv A outer s H E hr, DSk (famD C P w mg base (n :: N) Sc.nd qual (defScope st) f cdv A outer s H E k hr) (defBody st) ⟨DL.startB (n :: N) ds, some (b, .ins c [])⟩ (ψ ds) (PI b c)) : FnOk P w C.K mg base CX0 (k + 1) f fd ps (spI C c fun ds fs => ψ ds = .ok fs) :=
  fnID F Sc len fun ds fs h b cdv A outer s H E hr => body ds b cdv A outer s H E hr fs h
end
theorem l1_len {α : Type} {f : D → O α} {ds : List D} {d : α} (h : l1 f ds = .ok d) : ds.length = 1 := by unfold l1 at h; split at h <;> first | rfl | cases h
theorem l2_len {α : Type} {f : D → D → O α} {ds : List D} {d : α} (h : l2 f ds = .ok d) : ds.length = 2 := by unfold l2 at h; split at h <;> first | rfl | cases h
theorem l3_len {α : Type} {f : D → D → D → O α} {ds : List D} {d : α} (h : l3 f ds = .ok d) : ds.length = 3 := by unfold l3 at h; split at h <;> first | rfl | cases h
theorem l4_len {α : Type} {f : D → D → D → D → O α} {ds : List D} {d : α} (h : l4 f ds = .ok d) : ds.length = 4 := by unfold l4 at h; split at h <;> first | rfl | cases h
theorem l5_len {α : Type} {f : D → D → D → D → D → O α} {ds : List D} {d : α} (h : l5 f ds = .ok d) : ds.length = 5 := by unfold l5 at h; split at h <;> first | rfl | cases h
theorem l6_len {α : Type} {f : D → D → D → D → D → D → O α} {ds : List D} {d : α} (h : l6 f ds = .ok d) : ds.length = 6 := by unfold l6 at h; split at h <;> first | rfl | cases h
section
variable {F : Fam} {sts : List Stmt} {R α : Type} {P : R → Po} {S : List D → ST}
/-- the arguments of a def one by one -/
theorem ar1 {f : D → O R} (h : ∀ a, DSk F sts (S [a]) (f a) P) : ∀ ds, DSk F sts (S ds) (l1 f ds) P := fun ds r q => by
  unfold l1 at q; split at q
  · exact h _ r q
  · cases q
theorem ar2 {f : D → D → O R} (h : ∀ a b, DSk F sts (S [a, b]) (f a b) P) : ∀ ds, DSk F sts (S ds) (l2 f ds) P := fun ds r q => by
  unfold l2 at q; split at q
  · exact h _ _ r q
  · cases q
theorem ar3 {f : D → D → D → O R} (h : ∀ a b c, DSk F sts (S [a, b, c]) (f a b c) P) : ∀ ds, DSk F sts (S ds) (l3 f ds) P := fun ds r q => by
  unfold l3 at q; split at q
  · exact h _ _ _ r q
  · cases q
theorem ar4 {f : D → D → D → D → O R} (h : ∀ a b c d, DSk F sts (S [a, b, c, d]) (f a b c d) P) : ∀ ds, DSk F sts (S ds) (l4 f ds) P := fun ds r q => by
  unfold l4 at q; split at q
  · exact h _ _ _ _ r q
  · cases q
theorem ar5 {f : D → D → D → D → D → O R} (h : ∀ a b c d e, DSk F sts (S [a, b, c, d, e]) (f a b c d e) P) : ∀ ds, DSk F sts (S ds) (l5 f ds) P := fun ds r q => by
  unfold l5 at q; split at q
  · exact h _ _ _ _ _ r q
  · cases q
theorem ar6 {f : D → D → D → D → D → D → O R} (h : ∀ a b c d e g, DSk F sts (S [a, b, c, d, e, g]) (f a b c d e g) P) : ∀ ds, DSk F sts (S ds) (l6 f ds) P := fun ds r q => by
  unfold l6 at q; split at q
  · exact h _ _ _ _ _ _ r q
  · cases q
end
end SL
/-! SL7: defs that change the list they are handed (the bag): outcomes with its content (M). -/
namespace SL
open PySem L2 DL
abbrev M (α : Type) : Type := List D → O (α × List D)
def M.ret {α : Type} (a : α) : M α := fun g => .ok (a, g)
def M.up {α : Type} (o : O α) : M α := fun g => o.bind fun a => .ok (a, g)
def M.bind {α β : Type} (m : M α) (f : α → M β) : M β := fun g => (m g).bind fun r => f r.1 r.2
def M.ite {α : Type} (m : M Bool) (x y : M α) : M α := m.bind fun b => bif b then x else y
def M.cons (m : M D) (ms : M (List D)) : M (List D) := m.bind fun d => ms.bind fun ds => M.ret (d :: ds)
def M.tr (m : M Bool) : M D := m.bind fun b => M.ret (.bl b)
@[simp] theorem M.ret_ap {α : Type} (a : α) (g : List D) : M.ret a g = .ok (a, g) := rfl
@[simp] theorem M.up_ok {α : Type} (a : α) : M.up (.ok a) = M.ret a := rfl
@[simp] theorem M.up_ap {α : Type} (o : O α) (g : List D) : M.up o g = o.bind fun a => .ok (a, g) := rfl
@[simp] theorem M.bind_ap {α β : Type} (m : M α) (f : α → M β) (g : List D) : M.bind m f g = (m g).bind fun r => f r.1 r.2 := rfl
@[simp] theorem M.ret_bind {α β : Type} (a : α) (f : α → M β) : M.bind (M.ret a) f = f a := rfl
theorem M.ite_ap {α : Type} (m : M Bool) (x y : M α) (g : List D) : M.ite m x y g = (m g).bind fun r => bif r.1 then x r.2 else y r.2 := by
  show (m g).bind _ = _
  congr 1
  funext r
  cases r.1 <;> rfl
@[simp] theorem M.ite_ret {α : Type} (b : Bool) (x y : M α) : M.ite (M.ret b) x y = bif b then x else y := rfl
@[simp] theorem M.cons_ret (a : D) (as : List D) : M.cons (M.ret a) (M.ret as) = M.ret (a :: as) := rfl
@[simp] theorem M.tr_ret (b : Bool) : M.tr (M.ret b) = M.ret (.bl b) := rfl
theorem M.bind_eq {α β : Type} {m : M α} {f : α → M β} {g g' : List D} {b : β} (h : M.bind m f g = .ok (b, g')) : ∃ a g1, m g = .ok (a, g1) ∧ f a g1 = .ok (b, g') := by
  obtain ⟨⟨a, g1⟩, h1, h2⟩ := O.bind_eq h
  exact ⟨a, g1, h1, h2⟩
theorem M.up_eq {α : Type} {o : O α} {g g' : List D} {a : α} (h : M.up o g = .ok (a, g')) : o = .ok a ∧ g' = g := by
  obtain ⟨x, h1, h2⟩ := O.bind_eq h
  cases h2
  exact ⟨h1, rfl⟩
theorem M.ret_eq {α : Type} {x a : α} {g g' : List D} (h : M.ret x g = .ok (a, g')) : a = x ∧ g' = g := by
  have h' : O.ok (x, g) = .ok (a, g') := h
  cases h'
  exact ⟨rfl, rfl⟩
theorem M.ite_eq {α : Type} {m : M Bool} {x y : M α} {g g' : List D} {a : α} (h : M.ite m x y g = .ok (a, g')) : ∃ g1, (m g = .ok (true, g1) ∧ x g1 = .ok (a, g')) ∨ (m g = .ok (false, g1) ∧ y g1 = .ok (a, g')) := by
  obtain ⟨b, g1, h1, h2⟩ := M.bind_eq h
  cases b with
  | true => exact ⟨g1, .inl ⟨h1, h2⟩⟩
  | false => exact ⟨g1, .inr ⟨h1, h2⟩⟩
abbrev gB (s : List (Option DV)) (bb : Addr) (g : List D) : ST := ⟨s, some (bb, .lst g)⟩
def DEm (F : Fam) (bb : Addr) (e : Expr) (s : List (Option DV)) (m : M D) : Prop := ∀ g d g', m g = .ok (d, g') → DE F e (gB s bb g) (gB s bb g') d
def DTm (F : Fam) (bb : Addr) (e : Expr) (s : List (Option DV)) (m : M Bool) : Prop := ∀ g d g', m g = .ok (d, g') → DT F e (gB s bb g) (gB s bb g') d
def DWm (F : Fam) (bb : Addr) (e : Expr) (s : List (Option DV)) (m : M Bool) : Prop := ∀ g d g', m g = .ok (d, g') → DW F e (gB s bb g) (gB s bb g') d
def DAm (F : Fam) (bb : Addr) (es : List Expr) (s : List (Option DV)) (m : M (List D)) : Prop := ∀ g d g', m g = .ok (d, g') → DA F es (gB s bb g) (gB s bb g') d ∧ d.length = es.length
def DOm (F : Fam) (bb : Addr) (e : Expr) (s : List (Option DV)) (m : M (List D)) : Prop := ∀ g d g', m g = .ok (d, g') → DO F e (gB s bb g) (gB s bb g') d
def DIm (F : Fam) (bb : Addr) (tg e : Expr) (s : List (Option DV)) (m : M (List D)) : Prop := ∀ g d g', m g = .ok (d, g') → DI F tg e (gB s bb g) (gB s bb g') d
def DVm {α : Type} (F : Fam) (bb : Addr) (e : Expr) (s : List (Option DV)) (κ : α → DV) (m : M α) : Prop := ∀ g x g', m g = .ok (x, g') → EvV F.C (anyE F e) (gB s bb g) (gB s bb g') (κ x)
def DSm {R : Type} (F : Fam) (bb : Addr) (sts : List Stmt) (s : List (Option DV)) (m : M R) (P : R × List D → Po) : Prop := ∀ g, DSk F sts (gB s bb g) (m g) P
def DXm (F : Fam) (bb : Addr) (o : Option Expr) (s : List (Option DV)) (m : M (Option Int)) : Prop := ∀ g d g', m g = .ok (d, g') → DL.DOp F o (gB s bb g) (gB s bb g') d
section
variable {F : Fam} {bb : Addr} {s : List (Option DV)} {e a b c tg iter elt : Expr} {pos p p2 q1 cpos apos : Pos} {ma mb mc me : M D} {oe : O D} {mt mu : M Bool} {ot : O Bool} {es : List Expr} {ms mi : M (List D)} {os : O (List D)} {rest t u body sts : List Stmt} {R T α β γ : Type} {P : R × List D → Po} {scope : Scope}
/-! ### lifted -/
theorem e_up (h : ∀ g, DEp F e (gB s bb g) oe) : DEm F bb e s (M.up oe) := fun g d g' q => by
  obtain ⟨h1, rfl⟩ := M.up_eq q
  exact h _ d h1
theorem t_up (h : ∀ g, DTp F e (gB s bb g) ot) : DTm F bb e s (M.up ot) := fun g d g' q => by
  obtain ⟨h1, rfl⟩ := M.up_eq q
  exact h _ d h1
theorem a_up (h : ∀ g, DAp F es (gB s bb g) os) : DAm F bb es s (M.up os) := fun g d g' q => by
  obtain ⟨h1, rfl⟩ := M.up_eq q
  exact h _ d h1
theorem o_up (h : ∀ g, DOp F e (gB s bb g) os) : DOm F bb e s (M.up os) := fun g d g' q => by
  obtain ⟨h1, rfl⟩ := M.up_eq q
  exact h _ d h1
theorem i_up (h : ∀ g, DIp F tg e (gB s bb g) os) : DIm F bb tg e s (M.up os) := fun g d g' q => by
  obtain ⟨h1, rfl⟩ := M.up_eq q
  exact h _ d h1
theorem x_up {lo : Option Expr} {ol : O (Option Int)} (h : ∀ g, DXp F lo (gB s bb g) ol) : DXm F bb lo s (M.up ol) := fun g d g' q => by
  obtain ⟨h1, rfl⟩ := M.up_eq q
  exact h _ d h1
theorem xm_some (h : DEm F bb e s me) : DXm F bb (some e) s (me.bind fun x => M.up ((asI x).bind fun i => .ok (some i))) := fun g d g' q => by
  obtain ⟨x, g1, h1, q⟩ := M.bind_eq q
  obtain ⟨q', e1⟩ := M.up_eq q
  clear q
  subst e1
  have q := q'
  obtain ⟨i, h2, q⟩ := O.bind_eq q
  have := asI_eq h2
  subst this
  cases q
  exact do_some (h _ _ _ h1)
/-! ### expressions -/
theorem me_op {op : Operator} {q : D → D → O D} (hr : OpS F op q) (ha : DEm F bb a s ma) (hb : DEm F bb b s mb) : DEm F bb (.BinOp a op b pos) s (ma.bind fun x => mb.bind fun y => M.up (q x y)) := fun g z g' h => by
  obtain ⟨x, g1, h1, h⟩ := M.bind_eq h
  obtain ⟨y, g2, h2, h⟩ := M.bind_eq h
  obtain ⟨h', e⟩ := M.up_eq h
  clear h
  subst e
  have h := h'
  exact de_op (ha _ _ _ h1) (hb _ _ _ h2) (hr x y z h)
theorem me_un {op : UnaryOp} {q : D → O D} (hr : UnS F op q) (ha : DEm F bb a s ma) : DEm F bb (.UnaryOp op a pos) s (ma.bind fun x => M.up (q x)) := fun g z g' h => by
  obtain ⟨x, g1, h1, h⟩ := M.bind_eq h
  obtain ⟨h', e⟩ := M.up_eq h
  clear h
  subst e
  have h := h'
  exact de_un (ha _ _ _ h1) (hr x z h)
theorem mt_cmp {op : CmpOp} {q : D → D → O Bool} (hr : CmS F op q) (ha : DEm F bb a s ma) (hb : DEm F bb b s mb) (hm : behindInMarks op b = false := by first | exact nomark _ | rfl) : DTm F bb (.Compare a [op] [b] pos) s (ma.bind fun x => mb.bind fun y => M.up (q x y)) := fun g z g' h => by
  obtain ⟨x, g1, h1, h⟩ := M.bind_eq h
  obtain ⟨y, g2, h2, h⟩ := M.bind_eq h
  obtain ⟨h', e⟩ := M.up_eq h
  clear h
  subst e
  have h := h'
  exact dt_cmp (ha _ _ _ h1) (hb _ _ _ h2) (hr x y z h) hm
theorem me_cmp {op : CmpOp} {q : D → D → O Bool} (hr : CmS F op q) (ha : DEm F bb a s ma) (hb : DEm F bb b s mb) (hm : behindInMarks op b = false := by first | exact nomark _ | rfl) : DEm F bb (.Compare a [op] [b] pos) s (M.tr (ma.bind fun x => mb.bind fun y => M.up (q x y))) := fun g z g' h => by
  obtain ⟨k, g3, h0, h⟩ := M.bind_eq h
  obtain ⟨e1, e2⟩ := M.ret_eq h
  subst e1 e2
  obtain ⟨x, g1, h1, h0⟩ := M.bind_eq h0
  obtain ⟨y, g2, h2, h0⟩ := M.bind_eq h0
  obtain ⟨h3, e⟩ := M.up_eq h0
  subst e
  exact de_cmp (ha _ _ _ h1) (hb _ _ _ h2) (hr x y k h3) hm
theorem mt_val (h : DEm F bb e s me) (he : ∀ i whole, isTrue e (F.X i).env whole = (do let v ← whole; standAt e.pos; holding [v] (truthy v)) := by intro _ _; rfl) : DTm F bb e s (me.bind fun x => M.up (asB x)) := fun g k g' q => by
  obtain ⟨x, g1, h1, q⟩ := M.bind_eq q
  obtain ⟨q', e1⟩ := M.up_eq q
  clear q
  subst e1
  have q := q'
  have := asB_eq q
  subst this
  exact dt_val (h _ _ _ h1) he
theorem mt_w (h : DWm F bb e s mt) : DTm F bb e s mt := fun g k g' q => dt_w (h g k g' q)
theorem mw_and1 (h : DTm F bb a s mt) : DWm F bb (.BoolOp .And [a] pos) s mt := fun g k g' q => dw_and1 (h g k g' q)
theorem mw_or1 (h : DTm F bb a s mt) : DWm F bb (.BoolOp .Or [a] pos) s mt := fun g k g' q => dw_or1 (h g k g' q)
theorem mw_and {rest : List Expr} (h : DTm F bb a s mt) (h2 : DWm F bb (.BoolOp .And (b :: rest) pos) s mu) : DWm F bb (.BoolOp .And (a :: b :: rest) pos) s (M.ite mt mu (M.ret false)) := fun g k g' q => by
  obtain ⟨g1, ⟨h3, q⟩ | ⟨h3, q⟩⟩ := M.ite_eq q
  · exact dw_and (k := true) (l := k) (h _ _ _ h3) (fun _ => h2 _ _ _ q) (fun z => nomatch z)
  · obtain ⟨e1, e2⟩ := M.ret_eq q
    subst e1 e2
    exact dw_and (k := false) (l := false) (h _ _ _ h3) (fun z => nomatch z)
theorem mw_or {rest : List Expr} (h : DTm F bb a s mt) (h2 : DWm F bb (.BoolOp .Or (b :: rest) pos) s mu) : DWm F bb (.BoolOp .Or (a :: b :: rest) pos) s (M.ite mt (M.ret true) mu) := fun g k g' q => by
  obtain ⟨g1, ⟨h3, q⟩ | ⟨h3, q⟩⟩ := M.ite_eq q
  · obtain ⟨e1, e2⟩ := M.ret_eq q
    subst e1 e2
    exact dw_or (k := true) (l := false) (h _ _ _ h3) (fun z => nomatch z)
  · exact dw_or (k := false) (l := k) (h _ _ _ h3) (fun _ => h2 _ _ _ q) (fun z => nomatch z)
theorem mt_not (h : DTm F bb a s mt) : DTm F bb (.UnaryOp .Not a pos) s (mt.bind fun k => M.ret (!k)) := fun g k g' q => by
  obtain ⟨x, g1, h1, q⟩ := M.bind_eq q
  obtain ⟨e1, e2⟩ := M.ret_eq q
  subst e1 e2
  exact dt_not (h _ _ _ h1)
theorem me_ifx (hc : DTm F bb c s mt) (h1 : DEm F bb a s ma) (h2 : DEm F bb b s mb) : DEm F bb (.IfExp c a b pos) s (M.ite mt ma mb) := fun g k g' q => by
  obtain ⟨g1, ⟨h3, q⟩ | ⟨h3, q⟩⟩ := M.ite_eq q
  · exact de_if (k := true) (hc _ _ _ h3) (fun _ => h1 _ _ _ q) (fun z => nomatch z)
  · exact de_if (k := false) (hc _ _ _ h3) (fun z => nomatch z) (fun _ => h2 _ _ _ q)
theorem ma_nil : DAm F bb [] s (M.ret []) := fun g d g' q => by
  obtain ⟨e1, e2⟩ := M.ret_eq q
  subst e1 e2
  exact ⟨da_nil, rfl⟩
theorem ma_cons (h : DEm F bb e s me) (hr : DAm F bb es s ms) (hs : ∀ i, starEach (e :: es) (F.X i).env = (false, eval e (F.X i).env) :: starEach es (F.X i).env := by intro _; rfl) : DAm F bb (e :: es) s (M.cons me ms) := fun g d g' q => by
  obtain ⟨x, g1, h1, q⟩ := M.bind_eq q
  obtain ⟨xs, g2, h2, q⟩ := M.bind_eq q
  obtain ⟨e1, e2⟩ := M.ret_eq q
  subst e1 e2
  obtain ⟨h3, h4⟩ := hr _ _ _ h2
  exact ⟨da_cons (h _ _ _ h1) h3 hs, by rw [List.length_cons, List.length_cons, h4]⟩
theorem me_tup {x1 : Nat} (h : DAm F bb es s ms) (hl : es.length ≤ 1000 := by decide) : DEm F bb (.Tuple es x1 pos) s (ms.bind fun ds => M.ret (.tup ds)) := fun g d g' q => by
  obtain ⟨ds, g1, h1, q⟩ := M.bind_eq q
  obtain ⟨e1, e2⟩ := M.ret_eq q
  subst e1 e2
  obtain ⟨h3, h4⟩ := h _ _ _ h1
  exact de_tup h3 (Nat.le_trans (by rw [h4]; exact hl) (by decide))
theorem mo_lst (h : DAm F bb es s ms) (hl : es.length ≤ 1000 := by decide) : DOm F bb (.List es pos) s ms := fun g d g' q => by
  obtain ⟨h3, h4⟩ := h _ _ _ q
  exact do_lst h3 (Nat.le_trans (by rw [h4]; exact hl) (by decide))
theorem me_do (h : DOm F bb e s ms) : DEm F bb e s (ms.bind fun ds => M.ret (.lst ds)) := fun g d g' q => by
  obtain ⟨ds, g1, h1, q⟩ := M.bind_eq q
  obtain ⟨e1, e2⟩ := M.ret_eq q
  subst e1 e2
  exact de_do (h _ _ _ h1)
theorem me_lst (h : DAm F bb es s ms) (hl : es.length ≤ 1000 := by decide) : DEm F bb (.List es pos) s (ms.bind fun ds => M.ret (.lst ds)) := me_do (mo_lst h hl)
theorem me_ix (ha : DEm F bb a s ma) (hb : DEm F bb b s mb) (hs : PlainIx b := by intro _ _; rfl) : DEm F bb (.Subscript a b pos) s (ma.bind fun x => mb.bind fun y => M.up (ix x y)) := fun g d g' h => by
  obtain ⟨x, g1, h1, h⟩ := M.bind_eq h
  obtain ⟨y, g2, h2, h⟩ := M.bind_eq h
  obtain ⟨h', e⟩ := M.up_eq h
  clear h
  subst e
  have h := h'
  unfold ix at h
  split at h
  · obtain ⟨z, h3, h⟩ := op2_eq h
    cases h
    exact de_ixT (ha _ _ _ h1) (hb _ _ _ h2) h3 hs
  · obtain ⟨z, h3, h⟩ := op2_eq h
    cases h
    exact de_ixL (ha _ _ _ h1) (hb _ _ _ h2) h3 hs
  · split at h
    · obtain ⟨z, h3, h⟩ := op2_eq h
      cases h
      exact de_ixS (ha _ _ _ h1) (hb _ _ _ h2) (sl6 (by assumption)) h3 hs
    · cases h
  · cases h
theorem me_slice {lo hi : Option Expr} {ml mh : M (Option Int)} (ha : DEm F bb a s ma) (hl : DXm F bb lo s ml) (hh : DXm F bb hi s mh) : DEm F bb (.Subscript a (.Slice lo hi none p2) pos) s (ma.bind fun x => ml.bind fun l => mh.bind fun h => M.up (cut x l h)) := fun g d g' q => by
  obtain ⟨x, g1, h1, q⟩ := M.bind_eq q
  obtain ⟨l, g2, h2, q⟩ := M.bind_eq q
  obtain ⟨h, g3, h3, q⟩ := M.bind_eq q
  obtain ⟨q', e⟩ := M.up_eq q
  clear q
  subst e
  have q := q'
  unfold cut at q
  split at q
  · cases q; exact de_sliceT (ha _ _ _ h1) (hl _ _ _ h2) (hh _ _ _ h3)
  · cases q; exact de_sliceL (ha _ _ _ h1) (hl _ _ _ h2) (hh _ _ _ h3)
  · split at q
    · cases q; exact de_sliceS (ha _ _ _ h1) (hl _ _ _ h2) (hh _ _ _ h3) (sl6 (by assumption))
    · cases q
  · cases q
section
variable {k : Nat} {nm : Str} {φ : List D → O D}
theorem me_call (cl : Cal F.P F.w F.C F.mg F.base k nm (spF F.C φ)) (ha : DAm F bb (e :: es) s ms) (hk : k ≤ F.k := by exact Nat.le_of_ble_eq_true rfl)
    (hg : ∀ i, Gl (F.X i) nm := by intro _; rfl) (hdb : (nm == ("__debug__" : Str)) = false := by decide)
    (he : ∀ i, starEach (e :: es) (F.X i).env = (false, eval e (F.X i).env) :: starEach es (F.X i).env := by intro _; rfl) (hpl : ∀ i, (backTo pos (starEach es (F.X i).env)).any (·.1) = false := by intro _; rfl) : DEm F bb (.Call (.Name nm p) (e :: es) [] pos) s (ms.bind fun ds => M.up (φ ds)) := fun g d g' q => by
  obtain ⟨ds, g1, h1, q⟩ := M.bind_eq q
  obtain ⟨q', e⟩ := M.up_eq q
  clear q
  subst e
  have q := q'
  exact de_call cl (ha _ _ _ h1).1 q hk hg hdb he hpl
theorem me_callG (hG : ∀ i, (F.X i).A.guards = some []) (cl : CalG F.P F.w F.C F.mg F.base k nm (spF F.C φ)) (ha : DAm F bb (e :: es) s ms) (hk : k ≤ F.k := by exact Nat.le_of_ble_eq_true rfl)
    (hg : ∀ i, Gl (F.X i) nm := by intro _; rfl) (hdb : (nm == ("__debug__" : Str)) = false := by decide)
    (he : ∀ i, starEach (e :: es) (F.X i).env = (false, eval e (F.X i).env) :: starEach es (F.X i).env := by intro _; rfl) (hpl : ∀ i, (backTo pos (starEach es (F.X i).env)).any (·.1) = false := by intro _; rfl) : DEm F bb (.Call (.Name nm p) (e :: es) [] pos) s (ms.bind fun ds => M.up (φ ds)) := fun g d g' q => by
  obtain ⟨ds, g1, h1, q⟩ := M.bind_eq q
  obtain ⟨q', e⟩ := M.up_eq q
  clear q
  subst e
  have q := q'
  exact de_callG hG cl (ha _ _ _ h1).1 q hk hg hdb he hpl
theorem me_make {cn : Nat} {ψ : List D → O (List (Str × D))} {dd : List D} (mk : Mak F.P F.w F.C F.mg F.base k nm cn (fun ds fs => ψ ds = .ok fs) dd) (ha : DAm F bb (e :: es) s ms) (hk : k + 1 ≤ F.k := by exact Nat.le_of_ble_eq_true rfl)
    (hg : ∀ i, Gl (F.X i) nm := by intro _; rfl) (hdb : (nm == ("__debug__" : Str)) = false := by decide)
    (he : ∀ i, starEach (e :: es) (F.X i).env = (false, eval e (F.X i).env) :: starEach es (F.X i).env := by intro _; rfl) (hpl : ∀ i, (backTo pos (starEach es (F.X i).env)).any (·.1) = false := by intro _; rfl) : DEm F bb (.Call (.Name nm p) (e :: es) [] pos) s (ms.bind fun ds => M.up ((ψ (ds ++ dd)).bind fun fs => .ok (.obj cn fs))) := fun g d g' q => by
  obtain ⟨ds, g1, h1, q⟩ := M.bind_eq q
  obtain ⟨q', e⟩ := M.up_eq q
  clear q
  subst e
  have q := q'
  obtain ⟨fs, h2, q⟩ := O.bind_eq q
  cases q
  exact de_make mk (ha _ _ _ h1).1 h2 hk hg hdb he hpl
theorem me_callB {id : String} (hm : F.mg nm = none) (hv : bootBuiltins nm = some (.builtin id)) (hr : CaS F (.builtin id) φ) (ha : DAm F bb (e :: es) s ms)
    (hg : ∀ i, Gl (F.X i) nm := by intro _; rfl) (hn : nm ≠ "__name__" := by decide) (hdb : (nm == ("__debug__" : Str)) = false := by decide)
    (he : ∀ i, starEach (e :: es) (F.X i).env = (false, eval e (F.X i).env) :: starEach es (F.X i).env := by intro _; rfl) (hpl : ∀ i, (backTo pos (starEach es (F.X i).env)).any (·.1) = false := by intro _; rfl) : DEm F bb (.Call (.Name nm p) (e :: es) [] pos) s (ms.bind fun ds => M.up (φ ds)) := fun g d g' q => by
  obtain ⟨ds, g1, h1, q⟩ := M.bind_eq q
  obtain ⟨q', e⟩ := M.up_eq q
  clear q
  subst e
  have q := q'
  exact de_callB hm hv (ha _ _ _ h1).1 (hr ds d q) hg hn hdb he hpl
theorem me_callTy {T : String} (hm : F.mg nm = none) (hv : bootBuiltins nm = some (.type T)) (hr : CaS F (.type T) φ) (ha : DAm F bb (e :: es) s ms)
    (hg : ∀ i, Gl (F.X i) nm := by intro _; rfl) (hn : nm ≠ "__name__" := by decide) (hdb : (nm == ("__debug__" : Str)) = false := by decide)
    (he : ∀ i, starEach (e :: es) (F.X i).env = (false, eval e (F.X i).env) :: starEach es (F.X i).env := by intro _; rfl) (hpl : ∀ i, (backTo pos (starEach es (F.X i).env)).any (·.1) = false := by intro _; rfl) : DEm F bb (.Call (.Name nm p) (e :: es) [] pos) s (ms.bind fun ds => M.up (φ ds)) := fun g d g' q => by
  obtain ⟨ds, g1, h1, q⟩ := M.bind_eq q
  obtain ⟨q', e⟩ := M.up_eq q
  clear q
  subst e
  have q := q'
  exact de_callTy hm hv (ha _ _ _ h1).1 (hr ds d q) hg hn hdb he hpl
/-- a def that changes its first argument, by its outcome -/
def spFB (C : Kc) (φ : List D → M D) : Sp := spB C fun ds gs d gs' => φ ds gs = .ok (d, gs')
theorem me_bag {φ : List D → M D} {j : Nat} {x : Str} {q' : Pos} (cl : Cal F.P F.w F.C F.mg F.base k nm (spFB F.C φ)) (hj : s[j]? = some (some .bag)) (ha : DAm F bb es s ms) (hk : k ≤ F.k := by exact Nat.le_of_ble_eq_true rfl)
    (hN : ∀ i, (F.X i).N[j]? = some x := by intro _; rfl) (hv : ∀ i, Vis (F.X i).env.scope x := by intro _; first | exact Or.inl rfl | exact Or.inr (Or.inl rfl) | exact Or.inr (Or.inr rfl))
    (hd : (x == ("__debug__" : Str)) = false := by decide) (hcd : (x == ("__classdict__" : Str)) = false := by decide)
    (hgl : ∀ i, Gl (F.X i) nm := by intro _; rfl) (hdb : (nm == ("__debug__" : Str)) = false := by decide)
    (he : ∀ i, starEach (.Name x q' :: es) (F.X i).env = (false, eval (.Name x q') (F.X i).env) :: starEach es (F.X i).env := by intro _; rfl) (hpl : ∀ i, (backTo pos (starEach es (F.X i).env)).any (·.1) = false := by intro _; rfl) :
    DEm F bb (.Call (.Name nm p) (.Name x q' :: es) [] pos) s (ms.bind φ) := fun g d g' q => by
  obtain ⟨ds, g1, h1, q⟩ := M.bind_eq q
  exact de_callBag (S1 := gB s bb g1) cl hj rfl (ha _ _ _ h1).1 rfl q hk hN hv hd hcd hgl hdb he hpl
theorem me_bagG {φ : List D → M D} {j : Nat} {x : Str} {q' : Pos} (hG : ∀ i, (F.X i).A.guards = some []) (cl : CalG F.P F.w F.C F.mg F.base k nm (spFB F.C φ)) (hj : s[j]? = some (some .bag)) (ha : DAm F bb es s ms) (hk : k ≤ F.k := by exact Nat.le_of_ble_eq_true rfl)
    (hN : ∀ i, (F.X i).N[j]? = some x := by intro _; rfl) (hv : ∀ i, Vis (F.X i).env.scope x := by intro _; first | exact Or.inl rfl | exact Or.inr (Or.inl rfl) | exact Or.inr (Or.inr rfl))
    (hd : (x == ("__debug__" : Str)) = false := by decide) (hcd : (x == ("__classdict__" : Str)) = false := by decide)
    (hgl : ∀ i, Gl (F.X i) nm := by intro _; rfl) (hdb : (nm == ("__debug__" : Str)) = false := by decide)
    (he : ∀ i, starEach (.Name x q' :: es) (F.X i).env = (false, eval (.Name x q') (F.X i).env) :: starEach es (F.X i).env := by intro _; rfl) (hpl : ∀ i, (backTo pos (starEach es (F.X i).env)).any (·.1) = false := by intro _; rfl) :
    DEm F bb (.Call (.Name nm p) (.Name x q' :: es) [] pos) s (ms.bind φ) := fun g d g' q => by
  obtain ⟨ds, g1, h1, q⟩ := M.bind_eq q
  exact de_callBagG (S1 := gB s bb g1) hG cl hj rfl (ha _ _ _ h1).1 rfl q hk hN hv hd hcd hgl hdb he hpl
/-- a new list handed to such a def -/
theorem p_callNew {S : ST} {φ : List D → M D} (cl : Cal F.P F.w F.C F.mg F.base k nm (spFB F.C φ)) (ha : DOp F e S os) (hk : k ≤ F.k := by exact Nat.le_of_ble_eq_true rfl)
    (hg : ∀ i, Gl (F.X i) nm := by intro _; rfl) (hdb : (nm == ("__debug__" : Str)) = false := by decide)
    (he : ∀ i, starEach [e] (F.X i).env = (false, eval e (F.X i).env) :: starEach [] (F.X i).env := by intro _; rfl) (hpl : ∀ i, (backTo pos (starEach [] (F.X i).env)).any (·.1) = false := by intro _; rfl) : DEp F (.Call (.Name nm p) [e] [] pos) S (os.bind fun gs => (φ [] gs).bind fun r => .ok r.1) := fun d q => by
  obtain ⟨gs, h1, q⟩ := O.bind_eq q
  obtain ⟨⟨r, g'⟩, h2, q⟩ := O.bind_eq q
  cases q
  exact de_callNew cl (ha gs h1) h2 hk hg hdb he hpl
theorem p_callNewG {S : ST} {φ : List D → M D} (hG : ∀ i, (F.X i).A.guards = some []) (cl : CalG F.P F.w F.C F.mg F.base k nm (spFB F.C φ)) (ha : DOp F e S os) (hk : k ≤ F.k := by exact Nat.le_of_ble_eq_true rfl)
    (hg : ∀ i, Gl (F.X i) nm := by intro _; rfl) (hdb : (nm == ("__debug__" : Str)) = false := by decide)
    (he : ∀ i, starEach [e] (F.X i).env = (false, eval e (F.X i).env) :: starEach [] (F.X i).env := by intro _; rfl) (hpl : ∀ i, (backTo pos (starEach [] (F.X i).env)).any (·.1) = false := by intro _; rfl) : DEp F (.Call (.Name nm p) [e] [] pos) S (os.bind fun gs => (φ [] gs).bind fun r => .ok r.1) := fun d q => by
  obtain ⟨gs, h1, q⟩ := O.bind_eq q
  obtain ⟨⟨r, g'⟩, h2, q⟩ := O.bind_eq q
  cases q
  exact de_callNewG hG cl (ha gs h1) h2 hk hg hdb he hpl
theorem o_call {S : ST} {φ : List D → O (List D)} {os : O (List D)} (cl : Cal F.P F.w F.C F.mg F.base k nm (spFN F.C φ)) (ha : DAp F (e :: es) S os) (hk : k ≤ F.k := by exact Nat.le_of_ble_eq_true rfl)
    (hg : ∀ i, Gl (F.X i) nm := by intro _; rfl) (hdb : (nm == ("__debug__" : Str)) = false := by decide)
    (he : ∀ i, starEach (e :: es) (F.X i).env = (false, eval e (F.X i).env) :: starEach es (F.X i).env := by intro _; rfl) (hpl : ∀ i, (backTo pos (starEach es (F.X i).env)).any (·.1) = false := by intro _; rfl) : DOp F (.Call (.Name nm p) (e :: es) [] pos) S (os.bind φ) := fun d q => by
  obtain ⟨ds, h1, q⟩ := O.bind_eq q
  exact do_call cl (ha ds h1).1 q hk hg hdb he hpl
end
/-! ### what is walked -/
theorem im_val (h : DEm F bb iter s me) : DIm F bb tg iter s (me.bind fun x => M.up (itD x)) := fun g ds g' q => by
  obtain ⟨x, g1, h1, q⟩ := M.bind_eq q
  obtain ⟨q', e⟩ := M.up_eq q
  clear q
  subst e
  have q := q'
  unfold itD at q
  split at q
  · cases q; exact di_list (h _ _ _ h1)
  · cases q; exact di_tup (h _ _ _ h1)
  · cases q; exact di_str (h _ _ _ h1)
  · cases q
theorem im_range1 (hm : F.mg "range" = none) (h : DEm F bb e s me) (hg : ∀ l, Gl (F.X l) "range" := by intro _; rfl) (hs : ∀ l, starEach [e] (F.X l).env = [(false, eval e (F.X l).env)] := by intro _; rfl) : DIm F bb tg (.Call (.Name "range" p) [e] [] q1) s (me.bind fun x => M.up (rg1 x)) := fun g ds g' q => by
  obtain ⟨x, g1, h1, q⟩ := M.bind_eq q
  obtain ⟨q', e0⟩ := M.up_eq q
  clear q
  subst e0
  have q := q'
  obtain ⟨i, h2, qq⟩ := O.bind_eq (show O.bind _ _ = _ from q)
  split at qq
  · rename_i hb
    have e0 := asI_eq h2
    subst e0
    rw [← O.ok.inj qq]
    exact di_range1 hm (h _ _ _ h1) hb.1 hb.2 hg hs
  · cases qq
/-! ### comprehensions -/
def lcM (f : D → M (Option D)) : List D → M (List D)
  | [] => M.ret []
  | d :: ds => (f d).bind fun o => (lcM f ds).bind fun r => M.ret (o.toList ++ r)
def sizedM {α : Type} (n : Nat) (m : M α) : M α := fun g => if n ≤ 1000000 then m g else .bad
theorem sizedM_eq {α : Type} {n : Nat} {m : M α} {g : List D} {r : α × List D} (h : sizedM n m g = .ok r) : n ≤ 1000000 ∧ m g = .ok r := by
  unfold sizedM at h
  by_cases hn : n ≤ 1000000
  · rw [if_pos hn] at h; exact ⟨hn, h⟩
  · rw [if_neg hn] at h; cases h
theorem sizedM_ok {α : Type} {n : Nat} {m : M α} (h : n ≤ 1000000) : sizedM n m = m := funext fun _ => if_pos h
def mapM (f : D → M D) (ds : List D) : M (List D) := sizedM ds.length (lcM (fun d => (f d).bind fun x => M.ret (some x)) ds)
def filM (t : D → M Bool) (f : D → M D) (ds : List D) : M (List D) := sizedM ds.length (lcM (fun d => M.ite (t d) ((f d).bind fun x => M.ret (some x)) (M.ret none)) ds)
theorem lcM_take {f : D → M (Option D)} : ∀ {ds r : List D} {g g' : List D}, lcM f ds g = .ok (r, g') → ∀ i, ∃ r' g1, lcM f (ds.take i) g = .ok (r', g1)
  | ds, r, g, g', h, 0 => ⟨[], g, rfl⟩
  | [], r, g, g', h, i + 1 => ⟨[], g, rfl⟩
  | d :: ds, r, g, g', h, i + 1 => by
    obtain ⟨o, g1, h1, h⟩ := M.bind_eq (show M.bind _ _ g = _ from h)
    obtain ⟨r1, g2, h2, h⟩ := M.bind_eq h
    obtain ⟨r', g3, h3⟩ := lcM_take h2 i
    refine ⟨o.toList ++ r', g3, ?_⟩
    show M.bind (f d) _ g = _
    rw [M.bind_ap, h1]
    simp only [O.bind_ok, M.bind_ap, h3]
    rfl
theorem lcM_snoc {f : D → M (Option D)} {d : D} : ∀ {xs r : List D} {g g' : List D}, lcM f (xs ++ [d]) g = .ok (r, g') → ∀ {r1 g1}, lcM f xs g = .ok (r1, g1) → ∃ o, f d g1 = .ok (o, g') ∧ r = r1 ++ o.toList
  | [], r, g, g', h, r1, g1, h1 => by
    obtain ⟨o, g2, h2, h⟩ := M.bind_eq (show M.bind _ _ g = _ from h)
    obtain ⟨r2, g3, h3, h⟩ := M.bind_eq h
    obtain ⟨e1, e2⟩ := M.ret_eq (show M.ret [] g2 = _ from h3)
    obtain ⟨e3, e4⟩ := M.ret_eq h
    obtain ⟨e5, e6⟩ := M.ret_eq (show M.ret [] g = _ from h1)
    subst e1 e2 e3 e4 e5 e6
    exact ⟨o, h2, by simp⟩
  | x :: xs, r, g, g', h, r1, g1, h1 => by
    obtain ⟨o, g2, h2, h⟩ := M.bind_eq (show M.bind (f x) _ g = _ from h)
    obtain ⟨r2, g3, h3, h⟩ := M.bind_eq h
    obtain ⟨e3, e4⟩ := M.ret_eq h
    obtain ⟨o', g4, h4, h1⟩ := M.bind_eq (show M.bind (f x) _ g = _ from h1)
    rw [h2] at h4
    cases h4
    obtain ⟨r5, g5, h5, h1⟩ := M.bind_eq h1
    obtain ⟨e5, e6⟩ := M.ret_eq h1
    obtain ⟨o2, h6, e7⟩ := lcM_snoc h3 h5
    subst e3 e4 e5 e6 e7
    exact ⟨o2, h6, by simp⟩
theorem lcM_len {f : D → M (Option D)} : ∀ {xs r : List D} {g g' : List D}, lcM f xs g = .ok (r, g') → r.length ≤ xs.length
  | [], r, g, g', h => by obtain ⟨e1, e2⟩ := M.ret_eq (show M.ret [] g = _ from h); subst e1; exact Nat.le_refl _
  | d :: xs, r, g, g', h => by
    obtain ⟨o, g1, h1, h⟩ := M.bind_eq (show M.bind _ _ g = _ from h)
    obtain ⟨s, g2, h2, h⟩ := M.bind_eq h
    obtain ⟨e1, e2⟩ := M.ret_eq h
    have := lcM_len h2
    subst e1
    cases o <;> simp <;> omega
def LcM (F : Fam) (bb : Addr) (scope : Scope) (s : List (Option DV)) (elt tg iter : Expr) (ifs : List Expr) (own : List (Str × Nat)) (m : M (List D)) : Prop := ∀ g r g', m g = .ok (r, g') → EvO F.C (tLc (anyI F tg iter) (anyG (F.blk scope) tg) (anyTs (F.blk scope) ifs) (anyE (F.blk scope) elt) (own.map (·.2))) (gB s bb g) (gB s bb g') r
def DTsm (F : Fam) (bb : Addr) (ifs : List Expr) (s : List (Option DV)) (m : M Bool) : Prop := ∀ g d g', m g = .ok (d, g') → DTs F ifs (gB s bb g) (gB s bb g') d
theorem ev_lcMG {ifs : List Expr} {vs : List Nat} {j : Nat} {x : Str} {xp : Pos} {tt : D → M Bool} {el : D → M D} {ds r g g1 g' : List D} (hi : DI F (.Name x xp) iter (gB s bb g) (gB s bb g1) ds) (hn : noOwns s vs = true) (hj : j ∈ vs) (gn : ∀ (d : D) (S : ST), DG (F.blk scope) (.Name x xp) d S (S.set j d) [j])
    (ht : ∀ d, DTsm (F.blk scope) bb ifs ((hidS s vs).set j (some (.imm d))) (tt d)) (he : ∀ d, DEm (F.blk scope) bb elt ((hidS s vs).set j (some (.imm d))) (el d)) (hl : ds.length ≤ 1000000)
    (h : lcM (fun d => M.ite (tt d) ((el d).bind fun x => M.ret (some x)) (M.ret none)) ds g1 = .ok (r, g')) :
    EvO F.C (tLc (anyI F (.Name x xp) iter) (anyG (F.blk scope) (.Name x xp)) (anyTs (F.blk scope) ifs) (anyE (F.blk scope) elt) vs) (gB s bb g) (gB s bb g') r := by
  have key := lcM_take h
  obtain ⟨out, go, ho⟩ : ∃ (out go : Nat → List D), ∀ i, lcM (fun d => M.ite (tt d) ((el d).bind fun x => M.ret (some x)) (M.ret none)) (ds.take i) g1 = .ok (out i, go i) := ⟨fun i => (key i).choose, fun i => (key i).choose_spec.choose, fun i => (key i).choose_spec.choose_spec⟩
  have o0 : out 0 = [] ∧ go 0 = g1 := by
    have := ho 0
    rw [List.take_zero] at this
    obtain ⟨e1, e2⟩ := M.ret_eq (show M.ret [] g1 = _ from this)
    exact ⟨e1, e2⟩
  have oe : out ds.length = r ∧ go ds.length = g' := by
    have := ho ds.length
    rw [List.take_length, h] at this
    have := O.ok.inj this
    exact ⟨(Prod.mk.inj this).1.symm, (Prod.mk.inj this).2.symm⟩
  have := ev_lc (elt := elt) (ifs := ifs) (scope := scope) (vs0 := vs) hi (fun i => some (bb, .lst (go i))) out (by rw [o0.2]) o0.1 (fun _ => rfl) (fun i d hd => by
    have e1 := ho (i + 1)
    rw [take_one hd] at e1
    obtain ⟨o, e4, e3⟩ := lcM_snoc e1 (ho i)
    have hlt : i < ds.length := (List.getElem?_eq_some_iff.mp hd).1
    have hlen : (out i).length < sizeLine := Nat.lt_of_le_of_lt (lcM_len (ho i)) (by rw [List.length_take]; exact Nat.lt_of_le_of_lt (Nat.le_trans (Nat.min_le_left _ _) (Nat.le_trans (Nat.le_of_lt hlt) hl)) (by decide))
    obtain ⟨g2, ⟨z1, z2⟩ | ⟨z1, z2⟩⟩ := M.ite_eq e4
    · obtain ⟨y, g3, z3, z4⟩ := M.bind_eq z2
      obtain ⟨z5, z6⟩ := M.ret_eq z4
      subst z5 z6
      exact ⟨_, _, true, [j], gn d _, fun i z => by rw [List.mem_singleton.mp z]; exact hj, ht d _ _ _ z1, fun _ => ⟨_, y, he d _ _ _ z3, rfl, keep_name (S := gB s bb _) hn hj, e3, hlen⟩, fun z => nomatch z⟩
    · obtain ⟨z5, z6⟩ := M.ret_eq z2
      subst z5 z6
      exact ⟨_, _, false, [j], gn d _, fun i z => by rw [List.mem_singleton.mp z]; exact hj, ht d _ _ _ z1, fun z => (nomatch z), fun _ => ⟨rfl, keep_name (S := gB s bb _) hn hj, by rw [e3]; simp⟩⟩)
  rw [oe.1, oe.2] at this
  exact this
theorem lm_map {x : Str} {xp : Pos} {j : Nat} {own : List (Str × Nat)} {f : D → M D} (hi : DIm F bb (.Name x xp) iter s mi) (he : ∀ d, DEm (F.blk scope) bb elt ((hidS s (own.map (·.2))).set j (some (.imm d))) (f d)) (hn : noOwns s (own.map (·.2)) = true := by rfl) (hj : j ∈ own.map (·.2) := by decide)
    (gn : ∀ (d : D) (S : ST), DG (F.blk scope) (.Name x xp) d S (S.set j d) [j] := by intro _ _; exact dg_name) : LcM F bb scope s elt (.Name x xp) iter [] own (mi.bind (mapM f)) := fun g r g' q => by
  obtain ⟨ds, g1, h1, q⟩ := M.bind_eq q
  obtain ⟨h2, q⟩ := sizedM_eq q
  exact ev_lcMG (tt := fun _ => M.ret true) (hi _ _ _ h1) hn hj gn (fun d g d' g' z => by obtain ⟨e1, e2⟩ := M.ret_eq z; subst e1 e2; exact dts_nil) he h2 q
theorem lm_fil {x : Str} {xp : Pos} {j : Nat} {own : List (Str × Nat)} {k : D → M Bool} {f : D → M D} (hi : DIm F bb (.Name x xp) iter s mi) (ht : ∀ d, DTm (F.blk scope) bb c ((hidS s (own.map (·.2))).set j (some (.imm d))) (k d)) (he : ∀ d, DEm (F.blk scope) bb elt ((hidS s (own.map (·.2))).set j (some (.imm d))) (f d)) (hn : noOwns s (own.map (·.2)) = true := by rfl) (hj : j ∈ own.map (·.2) := by decide)
    (gn : ∀ (d : D) (S : ST), DG (F.blk scope) (.Name x xp) d S (S.set j d) [j] := by intro _ _; exact dg_name) : LcM F bb scope s elt (.Name x xp) iter [c] own (mi.bind (filM k f)) := fun g r g' q => by
  obtain ⟨ds, g1, h1, q⟩ := M.bind_eq q
  obtain ⟨h2, q⟩ := sizedM_eq q
  exact ev_lcMG (hi _ _ _ h1) hn hj gn (fun d g d' g' z => dts_one (ht d _ _ _ z)) he h2 q
theorem mo_lc {ifs : List Expr} {own : List (Str × Nat)} (ok : ∀ i, BlkOk (F.X i).N (F.X i).env.scope scope own) (h : LcM F bb scope s elt tg iter ifs own ms) (hs : ∀ i x, foldedSetIterable iter (F.X i).env x = pure x := by intro _ _; rfl) : DOm F bb (.ListComp elt [⟨tg, iter, ifs, 0⟩] scope pos) s ms := fun g r g' q =>
  do_of (fun i => pe_lc (F.calm i) (by rw [F.hN i]; exact F.nd) (anyI_ok i) (ok i) (fun s H C cl fp => anyG_ok (F := F.blk scope) (i, s, H, C, cl, fp)) (fun s H C cl fp => anyTs_ok (F := F.blk scope) (i, s, H, C, cl, fp)) (fun s H C cl fp => anyE_ok (F := F.blk scope) (i, s, H, C, cl, fp)) (hs i)) (h g r g' q)
/-! ### statements -/
def MF (bb : Addr) : D × List D → Po := fun r => { rt := fun d S => d = r.1 ∧ S.g = some (bb, .lst r.2), nx := fun S => r.1 = .non ∧ S.g = some (bb, .lst r.2) }
abbrev mkB (bb : Addr) (mk : T → List (Option DV)) : T × List D → ST := fun x => gB (mk x.1) bb x.2
def forM (f : T → D → M T) (ds : List D) (t : T) : M T := fun g => forO (fun x d => f x.1 d x.2) ds (t, g)
def loopM (f : T → D → M (Fl T R)) : List D → T → M (Fl T R)
  | [], t => M.ret (.nx t)
  | d :: ds, t => (f t d).bind fun
    | .nx t' => loopM f ds t'
    | .bk t' => M.ret (.bk t')
    | .rt r => M.ret (.rt r)
def thenM (m : M (Fl T R)) (k : T → M R) : M R := m.bind fun
  | .nx t => k t
  | .bk t => k t
  | .rt r => M.ret r
@[simp] theorem forM_nil (f : T → D → M T) (t : T) : forM f [] t = M.ret t := rfl
@[simp] theorem forM_cons (f : T → D → M T) (d : D) (ds : List D) (t : T) : forM f (d :: ds) t = (f t d).bind fun t' => forM f ds t' := rfl
theorem m_up {S' : List Stmt} {m : O R} (h : ∀ g, DSk F sts (gB s bb g) m (fun r => P (r, g))) : DSm F bb sts s (M.up m) P := fun g r q => by
  obtain ⟨r, g'⟩ := r
  obtain ⟨h1, e⟩ := M.up_eq q
  subst e
  exact h _ r h1
theorem m_fz {j : Nat} {mo : MO} {m : M R} (hj : s[j]? = some (some (.own mo))) (h : DSm F bb sts (s.set j (some (.imm (dOf mo)))) m P) : DSm F bb sts s m P := fun g => k_fz (S := gB s bb g) hj (h g)
theorem m_wk {s1 : List (Option DV)} {m : M R} (w : WkL s s1) (h : DSm F bb sts s1 m P) : DSm F bb sts s m P := fun g => k_wk (S1 := gB s1 bb g) ⟨w, rfl⟩ (h g)
theorem m_bad : DSm F bb sts s ((fun _ => .bad) : M R) P := fun g => k_bad
theorem m_retF (h : DEm F bb e s me) : DSm F bb (.Return (some e) pos :: rest) s me (MF bb) := fun g r q => by
  obtain ⟨d, g'⟩ := r
  exact ds_ret (h _ _ _ q) ⟨rfl, rfl⟩
theorem m_retA {P : D × List D → Po} (h : DEm F bb e s me) (hP : ∀ d g, (P (d, g)).rt d (gB s bb g) := by intro _ _; exact ⟨rfl, rfl⟩) : DSm F bb (.Return (some e) pos :: rest) s me P := fun g r q => by
  obtain ⟨d, g'⟩ := r
  exact ds_ret (h _ _ _ q) (hP _ _)
theorem m_contA {x : R} {P : R × List D → Po} (h : ∀ g, (P (x, g)).ct (gB s bb g)) : DSm F bb (.Continue pos :: rest) s (M.ret x) P := fun g r q => by
  obtain ⟨r, g'⟩ := r
  obtain ⟨e1, e2⟩ := M.ret_eq q
  subst e1 e2
  exact ds_cons (M := fun _ => False) (d1_cont (h _)) fun _ z => z.elim
theorem m_nilF : DSm F bb [] s (M.ret .non) (MF bb) := fun g r q => by
  obtain ⟨d, g'⟩ := r
  obtain ⟨e1, e2⟩ := M.ret_eq q
  subst e1 e2
  exact ds_nil ⟨rfl, rfl⟩
theorem m_ret {ret : D → R} (h : DEm F bb e s me) (hP : ∀ d g, (P (ret d, g)).rt d (gB s bb g)) : DSm F bb (.Return (some e) pos :: rest) s (me.bind fun d => M.ret (ret d)) P := fun g r q => by
  obtain ⟨r, g'⟩ := r
  obtain ⟨d, g1, h1, q⟩ := M.bind_eq q
  obtain ⟨e1, e2⟩ := M.ret_eq q
  subst e1 e2
  exact ds_ret (h _ _ _ h1) (hP d _)
theorem m_expr {mr : M R} (h : DEm F bb e s me) (hr : DSm F bb rest s mr P) (hs : ∀ i, swapsWith e none pos.line (F.X i).env = pure false := by intro _; rfl) : DSm F bb (.Expr e pos :: rest) s (me.bind fun _ => mr) P := fun g r q => by
  obtain ⟨d, g1, h1, q⟩ := M.bind_eq q
  exact ds_expr (h _ _ _ h1) (hr g1 r q) hs
theorem m_set {j : Nat} {x : Str} {pos' : Pos} {mr : D → M R} (he : DEm F bb e s me) (hr : ∀ d, DSm F bb rest (s.set j (some (.imm d))) (mr d) P) (hN : ∀ i, (F.X i).N[j]? = some x := by intro _; rfl) (hx : ∀ i, Loc (F.X i).env.scope x := by intro _; first | exact Or.inl rfl | exact Or.inr rfl)
    (hs : ∀ i, swapsWith e (some (.Name x pos')) pos.line (F.X i).env = pure false := by intro _; rfl) (hf : ∀ i, (F.X i).fn x = true ∨ (F.X i).env.scope.names.lookup x = some .local := by intro _; first | exact .inl rfl | exact .inr rfl) : DSm F bb (.Assign [.Name x pos'] e pos :: rest) s (me.bind mr) P := fun g r q => by
  obtain ⟨d, g1, h1, q⟩ := M.bind_eq q
  exact ds_set (he _ _ _ h1) (hr d g1 r q) hN hx hs hf
theorem m_setO {j : Nat} {x : Str} {pos' : Pos} {mr : List D → M R} (he : DOm F bb e s ms) (hr : ∀ ds, DSm F bb rest (s.set j (some (.own (.lst ds)))) (mr ds) P) (hj : j < s.length := by exact Nat.le_of_ble_eq_true rfl) (hN : ∀ i, (F.X i).N[j]? = some x := by intro _; rfl) (hx : ∀ i, Loc (F.X i).env.scope x := by intro _; first | exact Or.inl rfl | exact Or.inr rfl)
    (hs : ∀ i, swapsWith e (some (.Name x pos')) pos.line (F.X i).env = pure false := by intro _; rfl) (hf : ∀ i, (F.X i).fn x = true ∨ (F.X i).env.scope.names.lookup x = some .local := by intro _; first | exact .inl rfl | exact .inr rfl) : DSm F bb (.Assign [.Name x pos'] e pos :: rest) s (ms.bind mr) P := fun g r q => by
  obtain ⟨ds, g1, h1, q⟩ := M.bind_eq q
  exact ds_setO (he _ _ _ h1) (hr ds g1 r q) hj hN hx hs hf
theorem m_setLc {j : Nat} {yn : Str} {py : Pos} {ifs : List Expr} {own : List (Str × Nat)} {mr : D → M R} (ok : ∀ i, BlkOk (F.X i).N (F.X i).env.scope scope own) (h : LcM F bb scope s elt tg iter ifs own ms) (hr : ∀ d, DSm F bb rest (s.set j (some (.imm d))) (mr d) P)
    (hN : ∀ i, (F.X i).N[j]? = some yn := by intro _; rfl) (hl : ∀ i, (F.X i).env.scope.names.lookup yn = some .local := by intro _; rfl)
    (hsw : ∀ i, swapsWith (.ListComp elt [⟨tg, iter, ifs, 0⟩] scope p) (some (.Name yn py)) pos.line (F.X i).env = pure true := by intro _; exact sw_true rfl rfl rfl (by decide +kernel)) (hs : ∀ i x, foldedSetIterable iter (F.X i).env x = pure x := by intro _ _; rfl) :
    DSm F bb (.Assign [.Name yn py] (.ListComp elt [⟨tg, iter, ifs, 0⟩] scope p) pos :: rest) s ((ms.bind fun ds => M.ret (.lst ds)).bind mr) P := fun g r q => by
  obtain ⟨d, g1, q1, q⟩ := M.bind_eq q
  obtain ⟨ds, g2, q2, q1⟩ := M.bind_eq q1
  obtain ⟨e1, e2⟩ := M.ret_eq q1
  subst e1 e2
  exact ds_setDO (h _ _ _ q2) ok (hr _ _ r q) hN hl hsw hs
theorem m_append {j : Nat} {x : Str} {gs : List D} {mr : D → M R} (he : DEm F bb e s me) (hj : s[j]? = some (some (.own (.lst gs)))) (hr : ∀ d, DSm F bb rest (s.set j (some (.own (.lst (gs ++ [d]))))) (mr d) P)
    (hp : ∀ i, PE (F.X i) (.Call (.Attribute (.Name x q1) "append" apos) [e] [] cpos) (tBM (F.X i).K "list" rAppend (tVar j) (tCons (anyE F e) tNil)) := by
      intro i; exact pe_bm PySem.F.plainAttrs_list PySem.F.slot_list_append PySem.F.type_list_append mt_append (pv _) (pa_cons (anyE_ok i) pa_nil))
    (hs : ∀ i, swapsWith (.Call (.Attribute (.Name x q1) "append" apos) [e] [] cpos) none pos.line (F.X i).env = pure false := by intro _; rfl) : DSm F bb (.Expr (.Call (.Attribute (.Name x q1) "append" apos) [e] [] cpos) pos :: rest) s (me.bind fun d => sizedM gs.length (mr d)) P := fun g r q => by
  obtain ⟨d, g1, h1, q⟩ := M.bind_eq q
  obtain ⟨h2, q⟩ := sizedM_eq q
  exact ds_append (S := gB s bb g) (S1 := gB s bb g1) (he _ _ _ h1) ⟨gs, hj⟩ hj (hr d g1 r q) (Nat.lt_of_le_of_lt h2 (by decide)) hp hs
theorem m_ownSet {j : Nat} {x : Str} {gs : List D} {b : Expr} {ob : O D} {p : Pos} {mr : D → Nat → M R} (he : DEm F bb e s me) (hj : s[j]? = some (some (.own (.lst gs)))) (hb : ∀ g, DEp F b (gB s bb g) ob) (hr : ∀ d n, DSm F bb rest (s.set j (some (.own (.lst (gs.set n d))))) (mr d n) P)
    (hp : ∀ i, PS (F.X i) (.Assign [.Subscript (.Name x q1) b p] e pos) (tAsg (anyE F e) (gSub (tVar j) (anyE F b) rSetL)) := by
      intro i; exact ps_asg (anyE_ok i) (pg_sub (pv _) (anyE_ok i) set_list)) :
    DSm F bb (.Assign [.Subscript (.Name x q1) b p] e pos :: rest) s (me.bind fun d g => ob.bind fun y => (asI y).bind fun i => op2 (ixN gs.length i) fun n => mr d n g) P := fun g r q => by
  obtain ⟨d, g1, h1, q⟩ := M.bind_eq q
  obtain ⟨y, h2, q⟩ := O.bind_eq q
  obtain ⟨i, h3, q⟩ := O.bind_eq q
  obtain ⟨n, h4, q2⟩ := op2_eq q
  cases asI_eq h3
  exact ds_ownSet (S := gB s bb g) (S1 := gB s bb g1) (he _ _ _ h1) hj (hb g1 _ h2) h4 (hr d n g1 r q2) hp
theorem m_ifr {m1 m2 : M R} (ht : DTm F bb c s mt) (h1 : DSm F bb t s m1 (fun r => { P r with nx := fun _ => False })) (h2 : DSm F bb rest s m2 P) : DSm F bb (.If c t [] pos :: rest) s (M.ite mt m1 m2) P := fun g r q => by
  obtain ⟨r, g'⟩ := r
  obtain ⟨g1, ⟨h3, q⟩ | ⟨h3, q⟩⟩ := M.ite_eq q
  · exact ds_ifr (k := true) (ht _ _ _ h3) (fun _ => h1 g1 _ q) (fun z => nomatch z)
  · exact ds_ifr (k := false) (ht _ _ _ h3) (fun z => nomatch z) (fun _ => h2 g1 _ q)
theorem m_if2 {m1 m2 : M R} (ht : DTm F bb c s mt) (h1 : DSm F bb t s m1 (fun r => { P r with nx := fun _ => False })) (h2 : DSm F bb u s m2 (fun r => { P r with nx := fun _ => False })) : DSm F bb (.If c t u pos :: rest) s (M.ite mt m1 m2) P := fun g r q => by
  obtain ⟨r, g'⟩ := r
  obtain ⟨g1, ⟨h3, q⟩ | ⟨h3, q⟩⟩ := M.ite_eq q
  · exact ds_if (fun _ => False) (k := true) (ht _ _ _ h3) (fun _ => h1 g1 _ q) (fun z => nomatch z) (fun _ z => z.elim)
  · exact ds_if (fun _ => False) (k := false) (ht _ _ _ h3) (fun z => nomatch z) (fun _ => h2 g1 _ q) (fun _ z => z.elim)
theorem m_ifj (mk : T → List (Option DV)) {n1 n2 : M T} {mr : T → M R} (ht : DTm F bb c s mt) (h1 : DSm F bb t s n1 (PJ (mkB bb mk))) (h2 : DSm F bb u s n2 (PJ (mkB bb mk))) (hr : ∀ x, DSm F bb rest (mk x) (mr x) P) : DSm F bb (.If c t u pos :: rest) s ((M.ite mt n1 n2).bind mr) P := fun g r q => by
  obtain ⟨x, g2, q1, q⟩ := M.bind_eq (g' := r.2) (b := r.1) q
  obtain ⟨g1, ⟨h3, q1⟩ | ⟨h3, q1⟩⟩ := M.ite_eq q1
  · exact ds_if (fun S' => Wk S' (gB (mk x) bb g2)) (k := true) (ht _ _ _ h3) (fun _ => ds_mono (h1 g1 (x, g2) q1) (fun _ z => z) (fun _ _ z => z.elim) (fun _ z => z.elim) (fun _ z => z.elim) (fun _ _ z => z.elim)) (fun z => nomatch z) (fun _ z => ds_wk z (hr x g2 r q))
  · exact ds_if (fun S' => Wk S' (gB (mk x) bb g2)) (k := false) (ht _ _ _ h3) (fun z => nomatch z) (fun _ => ds_mono (h2 g1 (x, g2) q1) (fun _ z => z) (fun _ _ z => z.elim) (fun _ z => z.elim) (fun _ z => z.elim) (fun _ _ z => z.elim)) (fun _ z => ds_wk z (hr x g2 r q))
theorem m_nilJ {mk : T → List (Option DV)} {x : T} (w : WkL s (mk x)) : DSm F bb [] s (M.ret x) (PJ (mkB bb mk)) := fun g => k_nilJ (mk := mkB bb mk) (x := (x, g)) ⟨w, rfl⟩
theorem m_nilB {mk : T → List (Option DV)} {x : T} (w : WkL s (mk x)) : DSm F bb [] s (M.ret x) (PB (mkB bb mk)) := fun g => k_nilB (mk := mkB bb mk) (x := (x, g)) ⟨w, rfl⟩
/-- a loop that may return -/
def MLo (P : R × List D → Po) (bb : Addr) (mk : T → List (Option DV)) : Fl T R × List D → Po
  | (.nx t, g) => { nx := fun S' => Wk S' (gB (mk t) bb g), ct := fun S' => Wk S' (gB (mk t) bb g) }
  | (.bk t, g) => { bk := fun S' => Wk S' (gB (mk t) bb g) }
  | (.rt r, g) => { P (r, g) with nx := fun _ => False, bk := fun _ => False, ct := fun _ => False }
theorem m_nilL {mk : T → List (Option DV)} {x : T} (w : WkL s (mk x)) : DSm F bb [] s (M.ret (.nx x)) (MLo P bb mk) := fun g r q => by
  obtain ⟨r, g'⟩ := r
  obtain ⟨e1, e2⟩ := M.ret_eq q
  subst e1 e2
  exact ds_nil ⟨w, rfl⟩
theorem m_contL {mk : T → List (Option DV)} {x : T} (w : WkL s (mk x)) : DSm F bb (.Continue pos :: rest) s (M.ret (.nx x)) (MLo P bb mk) := fun g r q => by
  obtain ⟨r, g'⟩ := r
  obtain ⟨e1, e2⟩ := M.ret_eq q
  subst e1 e2
  exact ds_cons (M := fun _ => False) (d1_cont ⟨w, rfl⟩) fun _ z => z.elim
theorem m_retL {mk : T → List (Option DV)} (h : DEm F bb e s me) : DSm F bb (.Return (some e) pos :: rest) s (me.bind fun d => M.ret (.rt d)) (MLo (MF bb) bb mk) := m_ret h fun d g => ⟨rfl, rfl⟩
theorem loopM_take {f : T → D → M (Fl T R)} : ∀ {ds : List D} {t0 : T} {g g' : List D} {z : Fl T R}, loopM f ds t0 g = .ok (z, g') → ∀ {i : Nat} {d : D} {x : T} {g1 : List D}, ds[i]? = some d → loopM f (ds.take i) t0 g = .ok (.nx x, g1) → ∃ y g2, f x d g1 = .ok (y, g2) ∧ loopM f (ds.take (i + 1)) t0 g = .ok (y, g2) ∧ (∀ t', y = .bk t' → z = .bk t' ∧ g' = g2) ∧ ∀ r, y = .rt r → z = .rt r ∧ g' = g2
  | [], t0, g, g', z, h, i, d, x, g1, hd, hx => by simp at hd
  | e :: ds, t0, g, g', z, h, 0, d, x, g1, hd, hx => by
    have hd' : e = d := by simpa using hd
    subst hd'
    obtain ⟨e1, e2⟩ := M.ret_eq (show (M.ret (Fl.nx t0) : M (Fl T R)) g = _ from hx)
    have e1 : x = t0 := by cases e1; rfl
    subst e1
    subst e2
    obtain ⟨y, g2, h1, h2⟩ := M.bind_eq (show M.bind (f x e) _ _ = _ from h)
    refine ⟨y, g2, h1, ?_, ?_, ?_⟩
    · show M.bind (f x e) _ _ = _
      rw [M.bind_ap, h1]
      cases y <;> rfl
    · intro t' q; subst q
      obtain ⟨q1, q2⟩ := M.ret_eq h2
      exact ⟨q1, q2⟩
    · intro r q; subst q
      obtain ⟨q1, q2⟩ := M.ret_eq h2
      exact ⟨q1, q2⟩
  | e :: ds, t0, g, g', z, h, i + 1, d, x, g1, hd, hx => by
    obtain ⟨y, g2, h1, h2⟩ := M.bind_eq (show M.bind (f t0 e) _ _ = _ from h)
    obtain ⟨y', g3, h3, h4⟩ := M.bind_eq (show M.bind (f t0 e) _ _ = _ from hx)
    rw [h1] at h3
    cases h3
    cases y with
    | nx t1 =>
      obtain ⟨y2, g4, k1, k2, k3, k4⟩ := loopM_take (show loopM f ds t1 g2 = _ from h2) (i := i) (d := d) (by simpa using hd) (show loopM f (ds.take i) t1 g2 = _ from h4)
      refine ⟨y2, g4, k1, ?_, k3, k4⟩
      show M.bind (f t0 e) _ _ = _
      rw [M.bind_ap, h1]
      exact k2
    | bk t1 => obtain ⟨q1, _⟩ := M.ret_eq h4; cases q1
    | rt r => obtain ⟨q1, _⟩ := M.ret_eq h4; cases q1
theorem m_for1 (mk : T → List (Option DV)) {t0 : T} {x : Str} {xp : Pos} {j : Nat} {mo : T → D → M T} {mr : T → M R} (hi : DIm F bb (.Name x xp) iter s mi) (w : WkL s (mk t0)) (hb : ∀ t d, DSm F bb body ((mk t).set j (some (.imm d))) (mo t d) (PB (mkB bb mk))) (hr : ∀ t, DSm F bb rest (mk t) (mr t) P)
    (g1 : ∀ (d : D) (S : ST), DG F (.Name x xp) d S (S.set j d) [j] := by intro _ _; exact dg_name)
    (hp : ∀ i, PassesOwn (model (F.X i).prog (F.X i).w) (F.X i).A (F.X i).env (F.X i).xe := by intro _; exact PassesOwn.never)
    (hf : ∀ i, PS (F.X i) (.For (.Name x xp) iter body [] pos) (tFor (anyI F (.Name x xp) iter) (anyG F (.Name x xp)) (anyS F body)) := by intro i; exact ps_for PassesOwn.never (Fam.calm _ i) (anyI_ok i) (anyG_ok i) (anyS_ok i)) :
    DSm F bb (.For (.Name x xp) iter body [] pos :: rest) s (mi.bind fun ds => (forM mo ds t0).bind mr) P := fun g r q => by
  obtain ⟨ds, ga, h1, q⟩ := M.bind_eq (g' := r.2) (b := r.1) q
  obtain ⟨te, gb, h2, q⟩ := M.bind_eq q
  have h2' : forO (fun (x : T × List D) d => mo x.1 d x.2) ds (t0, ga) = .ok (te, gb) := h2
  refine ds_for (fun i S' => ∃ x, forO (fun (x : T × List D) d => mo x.1 d x.2) (ds.take i) (t0, ga) = .ok x ∧ Wk S' (gB (mk x.1) bb x.2)) (fun S' => Wk S' (gB (mk te) bb gb)) (hi _ _ _ h1) ⟨(t0, ga), rfl, ⟨w, rfl⟩⟩ (fun i S' d hd hI => ?_) (fun S' hI => ?_) (fun S' z => ds_wk z (hr te gb r q)) hp hf
  · obtain ⟨x, e1, wx⟩ := hI
    obtain ⟨x', e2⟩ := forO_take h2' (i + 1)
    have e3 := e2
    rw [take_one hd, forO_append, e1] at e3
    obtain ⟨x2, e4, e5⟩ := O.bind_eq (show (mo x.1 d x.2).bind (fun t' => forO _ [] t') = _ from e3)
    cases e5
    refine ⟨_, [j], dg_wk wx (g1 d _), ds_mono (hb x.1 d x.2 x' e4) (fun S2 z => ⟨_, e2, z⟩) (fun _ _ z => z.elim) (fun _ z => z.elim) (fun S2 z => ⟨_, e2, z⟩) (fun _ _ z => z.elim)⟩
  · obtain ⟨x, e1, wx⟩ := hI
    rw [List.take_length, h2'] at e1
    cases e1
    exact wx
theorem m_for1R (mk : T → List (Option DV)) {t0 : T} {x : Str} {xp : Pos} {j : Nat} {mo : T → D → M (Fl T R)} {mr : T → M R} (hi : DIm F bb (.Name x xp) iter s mi) (w : WkL s (mk t0)) (hb : ∀ t d, DSm F bb body ((mk t).set j (some (.imm d))) (mo t d) (MLo P bb mk)) (hr : ∀ t, DSm F bb rest (mk t) (mr t) P)
    (g1 : ∀ (d : D) (S : ST), DG F (.Name x xp) d S (S.set j d) [j] := by intro _ _; exact dg_name)
    (hp : ∀ i, PassesOwn (model (F.X i).prog (F.X i).w) (F.X i).A (F.X i).env (F.X i).xe := by intro _; exact PassesOwn.never)
    (hf : ∀ i, PS (F.X i) (.For (.Name x xp) iter body [] pos) (tFor (anyI F (.Name x xp) iter) (anyG F (.Name x xp)) (anyS F body)) := by intro i; exact ps_for PassesOwn.never (Fam.calm _ i) (anyI_ok i) (anyG_ok i) (anyS_ok i)) :
    DSm F bb (.For (.Name x xp) iter body [] pos :: rest) s (mi.bind fun ds => thenM (loopM mo ds t0) mr) P := fun g r q => by
  obtain ⟨r, gr⟩ := r
  obtain ⟨ds, ga, h1, q⟩ := M.bind_eq q
  obtain ⟨z, gb, h2, q⟩ := M.bind_eq (show M.bind _ _ _ = _ from q)
  refine ds_for (fun i S' => ∃ x gx, loopM mo (ds.take i) t0 ga = .ok (.nx x, gx) ∧ Wk S' (gB (mk x) bb gx)) (fun S' => ∃ x gx, mr x gx = .ok (r, gr) ∧ Wk S' (gB (mk x) bb gx)) (hi _ _ _ h1) ⟨t0, ga, rfl, ⟨w, rfl⟩⟩ (fun i S' d hd hI => ?_) (fun S' hI => ?_) (fun S' ⟨x, gx, e, z⟩ => ds_wk z (hr x gx (r, gr) e)) hp hf
  · obtain ⟨x, gx, e1, wx⟩ := hI
    obtain ⟨y, gy, e2, e3, e4, e5⟩ := loopM_take h2 hd e1
    refine ⟨_, [j], dg_wk wx (g1 d _), ?_⟩
    have := hb x d gx (y, gy) e2
    cases y with
    | nx t' => exact ds_mono this (fun S2 z => ⟨_, _, e3, z⟩) (fun _ _ z => z.elim) (fun _ z => z.elim) (fun S2 z => ⟨_, _, e3, z⟩) (fun _ _ z => z.elim)
    | bk t' =>
      obtain ⟨k1, k2⟩ := e4 t' rfl
      subst k1 k2
      exact ds_mono this (fun S2 z => z.elim) (fun _ _ z => z.elim) (fun S2 z => ⟨t', _, q, z⟩) (fun S2 z => z.elim) (fun _ _ z => z.elim)
    | rt r' =>
      obtain ⟨k1, k2⟩ := e5 r' rfl
      subst k1 k2
      obtain ⟨k3, k4⟩ := M.ret_eq q
      subst k3 k4
      exact ds_mono this (fun S2 z => z.elim) (fun _ _ z => z) (fun S2 z => z.elim) (fun S2 z => z.elim) (fun _ _ z => z)
  · obtain ⟨x, gx, e1, wx⟩ := hI
    rw [List.take_length, h2] at e1
    cases e1
    exact ⟨_, _, q, wx⟩
/-! ### the bag itself -/
def bagIx (ob : O D) : M D := fun g => (ob.bind fun y => ix (.lst g) y).bind fun d => .ok (d, g)
@[simp] theorem bagIx_ap (ob : O D) (g : List D) : bagIx ob g = (ob.bind fun y => ix (.lst g) y).bind fun d => .ok (d, g) := rfl
theorem e_bagIx {j : Nat} {x : Str} {ob : O D} (hj : s[j]? = some (some .bag)) (hb : ∀ g, DEp F b (gB s bb g) ob) (hs : PlainIx b := by intro _ _; rfl)
    (hN : ∀ i, (F.X i).N[j]? = some x := by intro _; rfl) (hv : ∀ i, Vis (F.X i).env.scope x := by intro _; first | exact Or.inl rfl | exact Or.inr (Or.inl rfl) | exact Or.inr (Or.inr rfl))
    (hd : (x == ("__debug__" : Str)) = false := by decide) (hcd : (x == ("__classdict__" : Str)) = false := by decide) : DEm F bb (.Subscript (.Name x p) b pos) s (bagIx ob) := fun g d g' q => by
  obtain ⟨z, q1, q⟩ := O.bind_eq (show O.bind _ _ = _ from q)
  cases q
  obtain ⟨y, h2, q1⟩ := O.bind_eq q1
  cases y with
  | int i =>
    obtain ⟨z, h3, q2⟩ := op2_eq (show op2 (atI g i) O.ok = _ from q1)
    cases q2
    exact de_bagIx (S := gB s bb g) (S1 := gB s bb g) hj (hb g _ h2) rfl rfl h3 hs hN hv hd hcd
  | _ => cases q1
theorem m_bagSet {j : Nat} {x : Str} {i : Int} {mr : M R} (he : DEm F bb e s me) (hj : s[j]? = some (some .bag)) (hb : ∀ g, DEp F b (gB s bb g) (.ok (.int i))) (hr : DSm F bb rest s mr P)
    (hN : ∀ i, (F.X i).N[j]? = some x := by intro _; rfl) (hv : ∀ i, Vis (F.X i).env.scope x := by intro _; first | exact Or.inl rfl | exact Or.inr (Or.inl rfl) | exact Or.inr (Or.inr rfl))
    (hd : (x == ("__debug__" : Str)) = false := by decide) (hcd : (x == ("__classdict__" : Str)) = false := by decide)
    (hp : ∀ i, PS (F.X i) (.Assign [.Subscript (.Name x q1) b p] e pos) (tAsg (anyE F e) (gSub (tVar j) (anyE F b) rSetL)) := by
      intro i; exact ps_asg (anyE_ok i) (pg_sub (pv _) (anyE_ok i) set_list)) :
    DSm F bb (.Assign [.Subscript (.Name x q1) b p] e pos :: rest) s (me.bind fun d g => op2 (ixN g.length i) fun n => mr (g.set n d)) P := fun g r q => by
  obtain ⟨d, g1, h1, q⟩ := M.bind_eq (g' := r.2) (b := r.1) q
  obtain ⟨n, h3, q⟩ := op2_eq q
  exact ds_bagSet (S1 := gB s bb g1) (he _ _ _ h1) hj (hb g1 _ rfl) rfl h3 (hr _ r q) hN hv hd hcd hp
/-! ### stores side by side -/
theorem vm_e (h : DEm F bb e s me) : DVm F bb e s kI me := fun g x g' q => evv_m (h _ _ _ q)
theorem vm_o (h : DOm F bb e s ms) : DVm F bb e s kL ms := fun g x g' q => evv_o (h _ _ _ q)
theorem v_up {κ : α → DV} {o : O α} (h : ∀ g, DVp F e (gB s bb g) κ o) : DVm F bb e s κ (M.up o) := fun g x g' q => by
  obtain ⟨h1, e1⟩ := M.up_eq q
  subst e1
  exact h _ x h1
theorem m_par2 {κ : α → DV} {κ' : β → DV} {m1 : M α} {m2 : M β} {i j : Nat} {n1 n2 : Str} {px py pt : Pos} {kt k2 : Nat} {pt2 : Pos} {mr : α → β → M R} (ha : DVm F bb a s κ m1) (hb : DVm F bb b s κ' m2) (hr : ∀ x y, DSm F bb rest ((s.set i (some (κ x))).set j (some (κ' y))) (mr x y) P)
    (hi : i < s.length := by exact Nat.le_of_ble_eq_true rfl) (hj : j < s.length := by exact Nat.le_of_ble_eq_true rfl) (h1 : ∀ l, (F.X l).N[i]? = some n1 := by intro _; rfl) (h2 : ∀ l, (F.X l).N[j]? = some n2 := by intro _; rfl) (hij : i ≠ j := by decide)
    (hx : ∀ l, (F.X l).env.scope.names.lookup n1 = some .local := by intro _; rfl) (hy : ∀ l, (F.X l).env.scope.names.lookup n2 = some .local := by intro _; rfl)
    (hw : ∀ l, swappedStores [.Tuple [.Name n1 px, .Name n2 py] kt pt] (.Tuple [a, b] k2 pt2) (F.X l).env = pure (some [n1, n2]) := by intro _; rfl)
    (hs : ∀ l, swapsWithSole [.Tuple [.Name n1 px, .Name n2 py] kt pt] (.Tuple [a, b] k2 pt2) pos.line (F.X l).env = pure false := by intro _; rfl)
    (hst : ∀ i, starEach [a, b] (F.X i).env = (false, eval a (F.X i).env) :: starEach [b] (F.X i).env := by intro _; rfl) (hst2 : ∀ i, starEach [b] (F.X i).env = (false, eval b (F.X i).env) :: starEach [] (F.X i).env := by intro _; rfl) :
    DSm F bb (.Assign [.Tuple [.Name n1 px, .Name n2 py] kt pt] (.Tuple [a, b] k2 pt2) pos :: rest) s (m1.bind fun x => m2.bind fun y => mr x y) P := fun g r q => by
  obtain ⟨x, ga, q1, q⟩ := M.bind_eq (g' := r.2) (b := r.1) q
  obtain ⟨y, gb, q2, q⟩ := M.bind_eq q
  refine ds_cons (M := fun S3 => S3 = gB ((s.set i (some (κ x))).set j (some (κ' y))) bb gb) (d1_of (te := tPar i j (tCons (anyE F a) (tCons (anyE F b) tNil))) (fun l => ps_par (F.calm l) (by rw [F.hN l]; exact F.nd) (h1 l) (h2 l) hij (hx l) (hy l) (pa_cons (anyE_ok l) (pa_cons (anyE_ok l) pa_nil (hst2 l)) (hst l)) (hw l) (hs l)) ?_) fun _ z => z ▸ hr x y gb r q
  intro σ G H c E m
  exact par2 c (ha _ _ _ q1) (hb _ _ _ q2) hi hj fun v w G2 H2 _ mw => ⟨v, w, rfl, m.nx _ _ _ _ mw rfl⟩
theorem m_parT2 {κ : α → DV} {κ' : β → DV} {m1 : M α} {m2 : M β} {i j : Nat} {n1 n2 : Str} {px py pt : Pos} {kt k2 : Nat} {pt2 : Pos} {mr : α → β → M R} (ha : DVm F bb a s κ m1) (hb : DVm F bb b s κ' m2) (hr : ∀ x y, DSm F bb rest ((s.set i (some (κ x))).set j (some (κ' y))) (mr x y) P)
    (hi : i < s.length := by exact Nat.le_of_ble_eq_true rfl) (hj : j < s.length := by exact Nat.le_of_ble_eq_true rfl)
    (hp : ∀ o, PS (F.X o) (.Assign [.Tuple [.Name n1 px, .Name n2 py] kt pt] (.Tuple [a, b] k2 pt2) pos) (tAsg (tTup (tCons (anyE F a) (tCons (anyE F b) tNil))) (gTup (F.X o).K 2 (gCons (gName i) (gCons (gName j) gNil)))) := by
      intro o; exact ps_asg (pe_tup (pa_cons (anyE_ok o) (pa_cons (anyE_ok o) pa_nil))) (pg_tup (Fam.calm _ o) (pgs_cons (pg_name (Fam.ndX _ o) rfl (by first | exact Or.inl rfl | exact Or.inr rfl)) (pgs_cons (pg_name (Fam.ndX _ o) rfl (by first | exact Or.inl rfl | exact Or.inr rfl)) pgs_nil)))) :
    DSm F bb (.Assign [.Tuple [.Name n1 px, .Name n2 py] kt pt] (.Tuple [a, b] k2 pt2) pos :: rest) s (m1.bind fun x => m2.bind fun y => mr x y) P := fun g r q => by
  obtain ⟨x, ga, q1, q⟩ := M.bind_eq (g' := r.2) (b := r.1) q
  obtain ⟨y, gb, q2, q⟩ := M.bind_eq q
  refine ds_cons (M := fun S3 => S3 = gB ((s.set i (some (κ x))).set j (some (κ' y))) bb gb) (d1_of (te := tAsg (tTup (tCons (anyE F a) (tCons (anyE F b) tNil))) (gTup F.C.K 2 (gCons (gName i) (gCons (gName j) gNil)))) (fun o => by have := hp o; rw [F.hK o] at this; exact this) ?_) fun _ z => z ▸ hr x y gb r q
  intro σ G H c E m
  exact par2 c (ha _ _ _ q1) (hb _ _ _ q2) hi hj fun v w G2 H2 _ mw => ⟨by show 2 ≤ sizeLine; decide, fun p hp => ⟨p, [v, w], rfl, SqT.of upd_same, rfl, v, [w], rfl, w, [], rfl, rfl, m.nx _ _ _ _ (mw.side hp) rfl⟩⟩
theorem m_par3 {κ : α → DV} {κ' : β → DV} {κ'' : γ → DV} {m1 : M α} {m2 : M β} {m3 : M γ} {i j l : Nat} {n1 n2 n3 : Str} {px py pz pt : Pos} {kt k2 : Nat} {pt2 : Pos} {mr : α → β → γ → M R} (ha : DVm F bb a s κ m1) (hb : DVm F bb b s κ' m2) (hc : DVm F bb c s κ'' m3) (hr : ∀ x y z, DSm F bb rest (((s.set i (some (κ x))).set j (some (κ' y))).set l (some (κ'' z))) (mr x y z) P)
    (hi : i < s.length := by exact Nat.le_of_ble_eq_true rfl) (hj : j < s.length := by exact Nat.le_of_ble_eq_true rfl) (hl : l < s.length := by exact Nat.le_of_ble_eq_true rfl)
    (hp : ∀ o, PS (F.X o) (.Assign [.Tuple [.Name n1 px, .Name n2 py, .Name n3 pz] kt pt] (.Tuple [a, b, c] k2 pt2) pos) (tPar3 i j l (tCons (anyE F a) (tCons (anyE F b) (tCons (anyE F c) tNil)))) := by
      intro o; exact ps_par3 (Fam.calm _ o) (Fam.ndX _ o) rfl rfl rfl (by decide) (by decide) (by decide) rfl rfl rfl (pa_cons (anyE_ok o) (pa_cons (anyE_ok o) (pa_cons (anyE_ok o) pa_nil))) rfl) :
    DSm F bb (.Assign [.Tuple [.Name n1 px, .Name n2 py, .Name n3 pz] kt pt] (.Tuple [a, b, c] k2 pt2) pos :: rest) s (m1.bind fun x => m2.bind fun y => m3.bind fun z => mr x y z) P := fun g r q => by
  obtain ⟨x, ga, q1, q⟩ := M.bind_eq (g' := r.2) (b := r.1) q
  obtain ⟨y, gb, q2, q⟩ := M.bind_eq q
  obtain ⟨z, gc, q3, q⟩ := M.bind_eq q
  refine ds_cons (M := fun S3 => S3 = gB (((s.set i (some (κ x))).set j (some (κ' y))).set l (some (κ'' z))) bb gc) (d1_of (te := tPar3 i j l (tCons (anyE F a) (tCons (anyE F b) (tCons (anyE F c) tNil)))) hp ?_) fun _ zz => zz ▸ hr x y z gc r q
  intro σ G H cx E m
  exact par3 cx (ha _ _ _ q1) (hb _ _ _ q2) (hc _ _ _ q3) hi hj hl fun u v w G2 H2 mw => ⟨u, v, w, rfl, m.nx _ _ _ _ mw rfl⟩
theorem m_parT3 {κ : α → DV} {κ' : β → DV} {κ'' : γ → DV} {m1 : M α} {m2 : M β} {m3 : M γ} {i j l : Nat} {n1 n2 n3 : Str} {px py pz pt : Pos} {kt k2 : Nat} {pt2 : Pos} {mr : α → β → γ → M R} (ha : DVm F bb a s κ m1) (hb : DVm F bb b s κ' m2) (hc : DVm F bb c s κ'' m3) (hr : ∀ x y z, DSm F bb rest (((s.set i (some (κ x))).set j (some (κ' y))).set l (some (κ'' z))) (mr x y z) P)
    (hi : i < s.length := by exact Nat.le_of_ble_eq_true rfl) (hj : j < s.length := by exact Nat.le_of_ble_eq_true rfl) (hl : l < s.length := by exact Nat.le_of_ble_eq_true rfl)
    (hp : ∀ o, PS (F.X o) (.Assign [.Tuple [.Name n1 px, .Name n2 py, .Name n3 pz] kt pt] (.Tuple [a, b, c] k2 pt2) pos) (tAsg (tTup (tCons (anyE F a) (tCons (anyE F b) (tCons (anyE F c) tNil)))) (gTup (F.X o).K 3 (gCons (gName i) (gCons (gName j) (gCons (gName l) gNil))))) := by
      intro o; exact ps_asg (pe_tup (pa_cons (anyE_ok o) (pa_cons (anyE_ok o) (pa_cons (anyE_ok o) pa_nil)))) (pg_tup (Fam.calm _ o) (pgs_cons (pg_name (Fam.ndX _ o) rfl (by first | exact Or.inl rfl | exact Or.inr rfl)) (pgs_cons (pg_name (Fam.ndX _ o) rfl (by first | exact Or.inl rfl | exact Or.inr rfl)) (pgs_cons (pg_name (Fam.ndX _ o) rfl (by first | exact Or.inl rfl | exact Or.inr rfl)) pgs_nil))))) :
    DSm F bb (.Assign [.Tuple [.Name n1 px, .Name n2 py, .Name n3 pz] kt pt] (.Tuple [a, b, c] k2 pt2) pos :: rest) s (m1.bind fun x => m2.bind fun y => m3.bind fun z => mr x y z) P := fun g r q => by
  obtain ⟨x, ga, q1, q⟩ := M.bind_eq (g' := r.2) (b := r.1) q
  obtain ⟨y, gb, q2, q⟩ := M.bind_eq q
  obtain ⟨z, gc, q3, q⟩ := M.bind_eq q
  refine ds_cons (M := fun S3 => S3 = gB (((s.set i (some (κ x))).set j (some (κ' y))).set l (some (κ'' z))) bb gc) (d1_of (te := tAsg (tTup (tCons (anyE F a) (tCons (anyE F b) (tCons (anyE F c) tNil)))) (gTup F.C.K 3 (gCons (gName i) (gCons (gName j) (gCons (gName l) gNil))))) (fun o => by have := hp o; rw [F.hK o] at this; exact this) ?_) fun _ zz => zz ▸ hr x y z gc r q
  intro σ G H cx E m
  exact par3 cx (ha _ _ _ q1) (hb _ _ _ q2) (hc _ _ _ q3) hi hj hl fun u v w G2 H2 mw => ⟨by show 3 ≤ sizeLine; decide, fun p hp => ⟨p, [u, v, w], rfl, SqT.of upd_same, rfl, u, [v, w], rfl, v, [w], rfl, w, [], rfl, rfl, m.nx _ _ _ _ (mw.side hp) rfl⟩⟩
theorem m_asg2 {i j k2 : Nat} {n1 n2 : Str} {px py pt : Pos} {mr : D → D → M R} (he : DEm F bb e s me) (hr : ∀ x y, DSm F bb rest ((s.set i (some (.imm x))).set j (some (.imm y))) (mr x y) P)
    (g1 : ∀ (d : D) (S : ST), DG F (.Name n1 px) d S (S.set i d) [i] := by intro _ _; exact dg_name) (g2 : ∀ (d : D) (S : ST), DG F (.Name n2 py) d S (S.set j d) [j] := by intro _ _; exact dg_name)
    (ho : ∀ o, PS (F.X o) (.Assign [.Tuple [.Name n1 px, .Name n2 py] k2 pt] e pos) (tAsg (anyE F e) (anyG F (.Tuple [.Name n1 px, .Name n2 py] k2 pt))) := by intro o; exact ps_asg (anyE_ok o) (anyG_ok o)) :
    DSm F bb (.Assign [.Tuple [.Name n1 px, .Name n2 py] k2 pt] e pos :: rest) s (me.bind fun d g => un2 d fun x y => mr x y g) P := fun g r q => by
  obtain ⟨d, ga, q1, q⟩ := M.bind_eq (g' := r.2) (b := r.1) q
  obtain ⟨x, y, hd, q⟩ := un2_eq q
  exact ds_asg (he _ _ _ q1) (dg_un2 (y := (x, y)) (by rcases hd with rfl | rfl <;> rfl) g1 g2) (hr x y ga r q) ho
theorem m_asg3 {i j l k2 : Nat} {n1 n2 n3 : Str} {px py pz pt : Pos} {mr : D → D → D → M R} (he : DEm F bb e s me) (hr : ∀ x y z, DSm F bb rest (((s.set i (some (.imm x))).set j (some (.imm y))).set l (some (.imm z))) (mr x y z) P)
    (g1 : ∀ (d : D) (S : ST), DG F (.Name n1 px) d S (S.set i d) [i] := by intro _ _; exact dg_name) (g2 : ∀ (d : D) (S : ST), DG F (.Name n2 py) d S (S.set j d) [j] := by intro _ _; exact dg_name) (g3 : ∀ (d : D) (S : ST), DG F (.Name n3 pz) d S (S.set l d) [l] := by intro _ _; exact dg_name)
    (ho : ∀ o, PS (F.X o) (.Assign [.Tuple [.Name n1 px, .Name n2 py, .Name n3 pz] k2 pt] e pos) (tAsg (anyE F e) (anyG F (.Tuple [.Name n1 px, .Name n2 py, .Name n3 pz] k2 pt))) := by intro o; exact ps_asg (anyE_ok o) (anyG_ok o)) :
    DSm F bb (.Assign [.Tuple [.Name n1 px, .Name n2 py, .Name n3 pz] k2 pt] e pos :: rest) s (me.bind fun d g => un3 d fun x y z => mr x y z g) P := fun g r q => by
  obtain ⟨d, ga, q1, q⟩ := M.bind_eq (g' := r.2) (b := r.1) q
  obtain ⟨x, y, z, hd, q⟩ := un3_eq q
  exact ds_asg (he _ _ _ q1) (dg_un3 (y := (x, y, z)) (by rcases hd with rfl | rfl <;> rfl) g1 g2 g3) (hr x y z ga r q) ho
end
/-! ### defs -/
section
variable {P : Program} {w : World} {C : Kc} {mg : Str → Option Value} {base : Heap} {x qual : Str} {st : Stmt} {f : Addr} {fd : FuncData} {N ps : List Str} {k : Nat} {n : Str} {φ : List D → M D}
theorem fxB (F : Fun C.K x qual st f fd) (Sc : FnScope (n :: N) ps (defScope st)) (len : ∀ ds g r, φ ds g = .ok r → ds.length + 1 = ps.length)
    (body : ∀ b cdv A outer s H E hr ds, DSm (famD C P w mg base (n :: N) Sc.nd qual (defScope st) f cdv A outer s H E k hr) b (defBody st) (DL.startB (n :: N) ds) (φ ds) (MF b)) : FnOk P w C.K mg base CX0 (k + 1) f fd ps (spFB C φ) :=
  fnB F Sc (fun ds gs d gs' h => len ds gs _ h) fun ds gs d gs' h b cdv A outer s H E hr => body b cdv A outer s H E hr ds gs (d, gs') h
theorem fxBG (F : Fun C.K x qual st f fd) (Sc : FnScope (n :: N) ps (defScope st)) (len : ∀ ds g r, φ ds g = .ok r → ds.length + 1 = ps.length)
    (body : ∀ b cdv A outer s H E hr, A.guards = some [] → ∀ ds, DSm (famD C P w mg base (n :: N) Sc.nd qual (defScope st) f cdv A outer s H E k hr) b (defBody st) (DL.startB (n :: N) ds) (φ ds) (MF b)) : FnG P w C.K mg base (k + 1) f fd ps (spFB C φ) :=
  fnBG F Sc (fun ds gs d gs' h => len ds gs _ h) fun ds gs d gs' h b cdv A outer s H E hr hA => body b cdv A outer s H E hr hA ds gs (d, gs') h
end
def m0 (f : M D) (ds : List D) : M D := fun g => match ds with
  | [] => f g
  | _ => .bad
def m1 (f : D → M D) (ds : List D) : M D := fun g => match ds with
  | [a] => f a g
  | _ => .bad
def m2 (f : D → D → M D) (ds : List D) : M D := fun g => match ds with
  | [a, b] => f a b g
  | _ => .bad
def m3 (f : D → D → D → M D) (ds : List D) : M D := fun g => match ds with
  | [a, b, c] => f a b c g
  | _ => .bad
def m4 (f : D → D → D → D → M D) (ds : List D) : M D := fun g => match ds with
  | [a, b, c, d] => f a b c d g
  | _ => .bad
@[simp] theorem m0_ap (f : M D) : m0 f [] = f := rfl
@[simp] theorem m1_ap (f : D → M D) (a : D) : m1 f [a] = f a := rfl
@[simp] theorem m2_ap (f : D → D → M D) (a b : D) : m2 f [a, b] = f a b := rfl
@[simp] theorem m3_ap (f : D → D → D → M D) (a b c : D) : m3 f [a, b, c] = f a b c := rfl
@[simp] theorem m4_ap (f : D → D → D → D → M D) (a b c d : D) : m4 f [a, b, c, d] = f a b c d := rfl
theorem m0_len {f : M D} {ds g : List D} {r : D × List D} (h : m0 f ds g = .ok r) : ds.length = 0 := by unfold m0 at h; split at h <;> first | rfl | cases h
theorem m1_len {f : D → M D} {ds g : List D} {r : D × List D} (h : m1 f ds g = .ok r) : ds.length = 1 := by unfold m1 at h; split at h <;> first | rfl | cases h
theorem m2_len {f : D → D → M D} {ds g : List D} {r : D × List D} (h : m2 f ds g = .ok r) : ds.length = 2 := by unfold m2 at h; split at h <;> first | rfl | cases h
theorem m3_len {f : D → D → D → M D} {ds g : List D} {r : D × List D} (h : m3 f ds g = .ok r) : ds.length = 3 := by unfold m3 at h; split at h <;> first | rfl | cases h
theorem m4_len {f : D → D → D → D → M D} {ds g : List D} {r : D × List D} (h : m4 f ds g = .ok r) : ds.length = 4 := by unfold m4 at h; split at h <;> first | rfl | cases h
section
variable {F : Fam} {bb : Addr} {sts : List Stmt} {P : D × List D → Po} {S : List D → List (Option DV)}
theorem am0 {f : M D} (h : DSm F bb sts (S []) f P) : ∀ ds, DSm F bb sts (S ds) (m0 f ds) P := fun ds g r q => by
  unfold m0 at q; split at q
  · exact h g r q
  · cases q
theorem am1 {f : D → M D} (h : ∀ a, DSm F bb sts (S [a]) (f a) P) : ∀ ds, DSm F bb sts (S ds) (m1 f ds) P := fun ds g r q => by
  unfold m1 at q; split at q
  · exact h _ g r q
  · cases q
theorem am2 {f : D → D → M D} (h : ∀ a b, DSm F bb sts (S [a, b]) (f a b) P) : ∀ ds, DSm F bb sts (S ds) (m2 f ds) P := fun ds g r q => by
  unfold m2 at q; split at q
  · exact h _ _ g r q
  · cases q
theorem am3 {f : D → D → D → M D} (h : ∀ a b c, DSm F bb sts (S [a, b, c]) (f a b c) P) : ∀ ds, DSm F bb sts (S ds) (m3 f ds) P := fun ds g r q => by
  unfold m3 at q; split at q
  · exact h _ _ _ g r q
  · cases q
theorem am4 {f : D → D → D → D → M D} (h : ∀ a b c d, DSm F bb sts (S [a, b, c, d]) (f a b c d) P) : ∀ ds, DSm F bb sts (S ds) (m4 f ds) P := fun ds g r q => by
  unfold m4 at q; split at q
  · exact h _ _ _ _ g r q
  · cases q
end
end SL
/-! SL8: what a law's text is known to say (Tx); classes, attributes, methods, operators of the program's own. -/
namespace SL
open PySem L2 DL
/-- the classes by number -/
def clsName : Nat → Str
  | 0 => "Ratio"
  | 1 => "Fold"
  | 2 => "Raisin"
  | 3 => "Way"
  | 4 => "Watch"
  | 5 => "Track"
  | 6 => "Console"
  | _ => "?"
def clsFields : Nat → List Str
  | 0 => ["top", "bottom"]
  | 1 => ["cells"]
  | 2 => ["place", "side"]
  | 3 => ["lead", "ring"]
  | 4 => ["letters", "moves", "good"]
  | 5 => ["cells", "is_odd", "begin"]
  | 6 => ["fold", "colours"]
  | _ => []
def tyNames : List String := ["NoneType", "bool", "int", "str", "tuple", "list", "dict"]
def isiNames : List String := ["int", "bool", "str", "tuple"]
def bltNames : List Str := ["isinstance", "len", "int", "bool", "str", "tuple", "list", "range", "enumerate", "abs", "max", "min", "all", "any", "sum", "repr", "sorted", "set", "dict", "zip"]
structure Tx (C : Kc) (mg : Str → Option Value) : Prop where
  nb : ∀ n ∈ bltNames, mg n = none
  cn : ∀ c, C.has c = true → mg (clsName c) = some (.ref (C.cl c))
  ins : ∀ c, C.has c = true → InsF C.K (C.cl c)
  na : ∀ c, C.has c = true → ∀ f ∈ clsFields c, NoAttr C.K (C.cl c) f
  kO : ∀ c, C.has c = true → ∀ T ∈ isiNames, PySem.W.kitOne C.K (.ref (C.cl c)) (.type T) = some false
  kB : ∀ c, C.has c = true → ∀ T ∈ tyNames, PySem.W.kitOne C.K (.type T) (.ref (C.cl c)) = some false
  kC : ∀ c c', C.has c = true → C.has c' = true → c ≠ c' → PySem.W.kitOne C.K (.ref (C.cl c)) (.ref (C.cl c')) = some false
  nf : ∀ c c', C.has c = true → C.has c' = true → PySem.W.notFirst C.K (C.cl c) (.ref (C.cl c')) = true
  nfT : ∀ c, C.has c = true → ∀ T ∈ tyNames, PySem.W.notFirst C.K (C.cl c) (.type T) = true
  ne : ∀ c, C.has c = true → PySem.W.findIn C.K (.ref (C.cl c)) "__ne__" = some (some (.builtin "object.__ne__"))
  opf : C.has 0 = true → OpF C.K (C.cl 0)
  iA : C.has 0 = true → IntF C.K .Add
  iS : C.has 0 = true → IntF C.K .Sub
  iM : C.has 0 = true → IntF C.K .Mult
section
variable {F : Fam} {S : ST} {e a b c : Expr} {pos p p2 q1 q2 apos : Pos} {oa ob oe : O D} {es : List Expr} {os : O (List D)} {R : Type} {P : R → Po} {rest : List Stmt}
theorem Tx.bl {C : Kc} {mg : Str → Option Value} (T : Tx C mg) (n : Str) (h : n ∈ bltNames := by decide) : mg n = none := T.nb n h
theorem Tx.fl {C : Kc} {mg : Str → Option Value} (T : Tx C mg) {cs : List Nat} {f : Str} (h : ∀ c ∈ cs, f ∈ clsFields c := by decide) : ∀ c ∈ cs, C.has c = true → Cls C.K (C.cl c) ∧ NoAttr C.K (C.cl c) f := fun c hc hh => ⟨(T.ins c hh).cl, T.na c hh f (h c hc)⟩
theorem x_isiB {T : String} {x : Str} {xp : Pos} (t : Tx F.C F.mg) (ha : DEp F a S oa) (hv : bootBuiltins x = some (.type T)) (hx : x ∈ bltNames := by decide) (hT : T ∈ isiNames := by decide) (hg : ∀ i, Gl (F.X i) x := by intro _; rfl) (hn : x ≠ "__name__" := by decide) (hb : (x == ("__debug__" : Str)) = false := by decide)
    (hgi : ∀ i, Gl (F.X i) "isinstance" := by intro _; rfl)
    (he : ∀ i, starEach [a, .Name x xp] (F.X i).env = (false, eval a (F.X i).env) :: starEach [.Name x xp] (F.X i).env := by intro _; rfl) (hpl : ∀ i, (backTo pos (starEach [.Name x xp] (F.X i).env)).any (·.1) = false := by intro _; rfl) : DEp F (.Call (.Name "isinstance" p) [a, .Name x xp] [] pos) S (tr (oa.bind (isiB T))) :=
  p_isi (t.bl "isinstance") (de_bltn (t.nb x hx) hv (v := .ty T) rfl hg hn hb) (fun y k h => isi_ok t.ins (fun c hc => t.kO c hc T hT) h) ha hgi he (fun _ => rfl) hpl
theorem x_isiC {cn : Nat} {x : Str} {xp : Pos} (t : Tx F.C F.mg) (hh : F.C.has cn = true) (ha : DEp F a S oa) (hx : clsName cn = x := by rfl) (hg : ∀ i, Gl (F.X i) x := by intro _; rfl) (hb : (x == ("__debug__" : Str)) = false := by decide)
    (hgi : ∀ i, Gl (F.X i) "isinstance" := by intro _; rfl)
    (he : ∀ i, starEach [a, .Name x xp] (F.X i).env = (false, eval a (F.X i).env) :: starEach [.Name x xp] (F.X i).env := by intro _; rfl) (hpl : ∀ i, (backTo pos (starEach [.Name x xp] (F.X i).env)).any (·.1) = false := by intro _; rfl) : DEp F (.Call (.Name "isinstance" p) [a, .Name x xp] [] pos) S (tr (oa.bind (isiC cn))) :=
  p_isi (t.bl "isinstance") (de_glob (by rw [← hx]; exact t.cn cn hh) (v := .ref (F.C.cl cn)) rfl (fun _ => .cst _) hg hb) (fun y k h => isi_own t.ins hh (fun c hc n => t.kC c cn hc hh n) (t.kB cn hh) h) ha hgi he (fun _ => rfl) hpl
/-! ### an instance that is being made -/
theorem putD_lt {f : Str} {d : D} : ∀ {fs : List (Str × D)} {n : Nat}, fs.length < n → (putD f d fs).length < n + 1
  | [], n, h => by show 1 < n + 1; have : 0 < n := h; omega
  | (g, x) :: r, n, h => by
    unfold putD
    split
    · show r.length + 1 < n + 1; have : r.length + 1 < n := h; omega
    · have h' : r.length + 1 < n := h
      show (putD f d r).length + 1 < n + 1
      have := putD_lt (f := f) (d := d) (fs := r) (n := n - 1) (by omega)
      omega
theorem lk_put {f : Str} {d : D} : ∀ {fs : List (Str × D)}, (putD f d fs).lookup f = some d
  | [] => by unfold putD; simp
  | (g, x) :: r => by
    unfold putD
    split
    · rename_i h; subst h; simp
    · rename_i h
      rw [List.lookup_cons, show (f == g) = false by simpa using fun e => h e.symm]
      exact lk_put
theorem lk_ne {f g : Str} {d : D} (n : f ≠ g) : ∀ {fs : List (Str × D)}, (putD g d fs).lookup f = fs.lookup f
  | [] => by unfold putD; rw [List.lookup_cons, show (f == g) = false by simpa using n]
  | (h, x) :: r => by
    unfold putD
    split
    · rename_i e; subst e; rw [List.lookup_cons, List.lookup_cons, show (f == h) = false by simpa using n]
    · rw [List.lookup_cons, List.lookup_cons, lk_ne n]
theorem k_fld {j : Nat} {x f : Str} {bb : Addr} {cn : Nat} {fs : List (Str × D)} {mr : D → O R} (hc : Cls F.C.K (F.C.cl cn) ∧ NoAttr F.C.K (F.C.cl cn) f) (he : DEp F e S oe) (hj : S.s[j]? = some (some .bag)) (hg : S.g = some (bb, .ins cn fs)) (hr : ∀ d, DSk F rest ⟨S.s, some (bb, .ins cn (putD f d fs))⟩ (mr d) P) (hl : fs.length < 1000 := by first | decide | exact putD_lt (n := 999) (by decide) | exact putD_lt (n := 999) (putD_lt (n := 998) (by decide)) | exact putD_lt (n := 999) (putD_lt (n := 998) (putD_lt (n := 997) (by decide))))
    (hN : ∀ i, (F.X i).N[j]? = some x := by intro _; rfl) (hv : ∀ i, Vis (F.X i).env.scope x := by intro _; first | exact Or.inl rfl | exact Or.inr (Or.inl rfl) | exact Or.inr (Or.inr rfl))
    (hd : (x == ("__debug__" : Str)) = false := by decide) (hcd : (x == ("__classdict__" : Str)) = false := by decide)
    (hs : ∀ i, swapsWith e (some (.Attribute (.Name x q1) f q2)) pos.line (F.X i).env = pure false := by intro _; rfl) : DSk F (.Assign [.Attribute (.Name x q1) f q2] e pos :: rest) S (oe.bind mr) P := fun r q => by
  obtain ⟨d, h1, q⟩ := O.bind_eq q
  exact ds_fld (he d h1) hj hg hc.1 hc.2 (hr d r q) hl hN hv hd hcd hs
theorem p_fldB {j : Nat} {x f : Str} {bb : Addr} {cn : Nat} {fs : List (Str × D)} {d : D} (hc : Cls F.C.K (F.C.cl cn) ∧ NoAttr F.C.K (F.C.cl cn) f) (hj : S.s[j]? = some (some .bag)) (hg : S.g = some (bb, .ins cn fs)) (hl : fs.lookup f = some d)
    (hN : ∀ i, (F.X i).N[j]? = some x := by intro _; rfl) (hv : ∀ i, Vis (F.X i).env.scope x := by intro _; first | exact Or.inl rfl | exact Or.inr (Or.inl rfl) | exact Or.inr (Or.inr rfl))
    (hd : (x == ("__debug__" : Str)) = false := by decide) (hcd : (x == ("__classdict__" : Str)) = false := by decide)
    (hb : ∀ i, attributeBase (.Name x q1) f (F.X i).env (eval (.Name x q1) (F.X i).env) = eval (.Name x q1) (F.X i).env := by intro _; rfl) : DEp F (.Attribute (.Name x q1) f pos) S (.ok d) := p_ok (de_fldB hj hg hc.1 hc.2 hl hN hv hd hcd hb)
theorem k_nilI {b : Addr} {cn : Nat} {fs : List (Str × D)} (hg : S.g = some (b, .ins cn fs)) : DSk F [] S (.ok fs) (PI b cn) := fun r q => by cases q; exact ds_nil hg
/-! ### lists repeated, ranges as lists -/
def repO (ds : List D) (d : D) : O (List D) := (asI d).bind fun k => if -1000000 ≤ k ∧ k ≤ 1000000 ∧ ds.length * k.toNat ≤ 1000000 then .ok (List.replicate k.toNat ds).flatten else .bad
theorem o_rep (ha : DOp F a S os) (hb : DEp F b S ob) : DOp F (.BinOp a .Mult b pos) S (os.bind fun ds => ob.bind fun y => repO ds y) := fun r q => by
  obtain ⟨ds, h1, q⟩ := O.bind_eq q
  obtain ⟨y, h2, q⟩ := O.bind_eq q
  obtain ⟨k, h3, qq⟩ := O.bind_eq (show O.bind _ _ = _ from q)
  split at qq
  · rename_i hk
    have e0 := asI_eq h3
    subst e0
    cases qq
    refine do_of (te := tOp rRep (anyE F a) (anyE F b)) (fun i => pe_op op_rep (anyE_ok i) (anyE_ok i)) fun σ G H c Q q => ?_
    refine ha ds h1 σ G H c _ fun p vs G1 H1 m1 z1 z2 z3 z4 => hb _ h2 σ G1 H1 m1.cx _ fun v G2 H2 m2 dv => ?_
    cases dv
    have n1 : ¬ OA F.C σ S p := fresh_oa c z1
    have z3' := m2.go.keep p _ (fun z => n1 (m1.oa p z)) z3
    refine ⟨p, k, vs, rfl, rfl, z3', by omega, by omega, by rw [z4.length]; exact sl6 hk.2.2, fun q' hq' => ?_⟩
    have sm : Same H2 (upd H2 q' (.lst (List.replicate k.toNat vs).flatten)) := fun x u h => by rw [upd_ne (ne_of_none h hq')]; exact h
    have m := m1.trans m2
    exact q q' _ G2 _ (m.trans (m.cx.mv sm (fun _ _ h => h) (m.cx.sub.trans sm) fun _ _ h => h)) (back_none m.go hq') (m.cx.sub.free hq') upd_same (flat_rep (z4.mono m2.go.gg) k.toNat)
  · cases qq
def rgL (a b : D) : O (List D) := (asI a).bind fun i => (asI b).bind fun j => if 0 ≤ i ∧ i ≤ j ∧ j ≤ 1000000 then .ok (rgD i j) else .bad
theorem o_listRg (T : Tx F.C F.mg) (ha : DEp F a S oa) (hb : DEp F b S ob)
    (hg : ∀ l, Gl (F.X l) "list" := by intro _; rfl) (hg2 : ∀ l, Gl (F.X l) "range" := by intro _; rfl)
    (n1 : ∀ l, starEach [.Call (.Name "range" p2) [a, b] [] q1] (F.X l).env = (false, eval (.Call (.Name "range" p2) [a, b] [] q1) (F.X l).env) :: starEach [] (F.X l).env := by intro _; rfl)
    (n2 : ∀ l, starEach [a, b] (F.X l).env = (false, eval a (F.X l).env) :: starEach [b] (F.X l).env := by intro _; rfl) (n3 : ∀ l, starEach [b] (F.X l).env = (false, eval b (F.X l).env) :: starEach [] (F.X l).env := by intro _; rfl)
    (n4 : ∀ l, (backTo q1 (starEach [b] (F.X l).env)).any (·.1) = false := by intro _; rfl) :
    DOp F (.Call (.Name "list" p) [.Call (.Name "range" p2) [a, b] [] q1] [] pos) S (oa.bind fun x => ob.bind fun y => rgL x y) := fun r q => by
  obtain ⟨x, h1, q⟩ := O.bind_eq q
  obtain ⟨y, h2, q⟩ := O.bind_eq q
  obtain ⟨i, h3, qq⟩ := O.bind_eq (show O.bind _ _ = _ from q)
  obtain ⟨j, h4, q2⟩ := O.bind_eq qq
  split at q2
  · rename_i hk
    have e0 := asI_eq h3
    have e1 := asI_eq h4
    subst e0 e1
    have e2 := O.ok.inj q2
    subst e2
    exact do_listRg (T.bl "list") (T.bl "range") (ha _ h1) (hb _ h2) (RgOk.of_le hk.1 (by omega) (by omega) (by omega)) hg hg2 n1 n2 n3 n4
  · cases q2
/-! ### methods -/
/-- which method of which class a call by this name is: by the receiver -/
def MtS (F : Fam) (m : Str) (φ : List D → O D) : Prop := ∀ x ds d, φ (x :: ds) = .ok d → ∃ cn fs k φ', x = .obj cn fs ∧ k ≤ F.k ∧ Met F.P F.w F.C F.mg F.base k cn m (spF F.C φ') ∧ fs.lookup m = none ∧ φ' (x :: ds) = .ok d
theorem p_meth {m : Str} {φ : List D → O D} (mt : MtS F m φ) (ho : DEp F a S oa) (ha : DAp F (e :: es) S os)
    (pl : F.I → Sem Bool) (he : ∀ i, starEach (e :: es) (F.X i).env = (false, eval e (F.X i).env) :: starEach es (F.X i).env := by intro _; rfl) (hpl : ∀ i, (backTo pos (starEach es (F.X i).env)).any (·.1) = false := by intro _; rfl)
    (ht : ∀ i, eval (.Call (.Attribute a m apos) (e :: es) [] pos) (F.X i).env = (do
      let ov ← eval a (F.X i).env
      standAt apos.atName
      let (f, first) ← holding [ov] (getMethod ov m (pl i))
      callWith pos f first (backTo pos (starEach (e :: es) (F.X i).env)) (backToKw pos (keywordEach [] (F.X i).env))) := by intro _; rfl) : DEp F (.Call (.Attribute a m apos) (e :: es) [] pos) S (oa.bind fun x => os.bind fun ds => φ (x :: ds)) := fun d q => by
  obtain ⟨x, h1, q⟩ := O.bind_eq q
  obtain ⟨ds, h2, q⟩ := O.bind_eq q
  obtain ⟨cn, fs, k, φ', e1, hk, hm, hn, hq⟩ := mt x ds d q
  subst e1
  exact de_meth hm (ho _ h1) (ha _ h2).1 hq hn hk pl he hpl ht
theorem p_meth0 {m : Str} {φ : List D → O D} (mt : MtS F m φ) (ho : DEp F a S oa)
    (pl : F.I → Sem Bool)
    (ht : ∀ i, eval (.Call (.Attribute a m apos) [] [] pos) (F.X i).env = (do
      let ov ← eval a (F.X i).env
      standAt apos.atName
      let (f, first) ← holding [ov] (getMethod ov m (pl i))
      callWith pos f first (backTo pos (starEach [] (F.X i).env)) (backToKw pos (keywordEach [] (F.X i).env))) := by intro _; rfl) : DEp F (.Call (.Attribute a m apos) [] [] pos) S (oa.bind fun x => φ [x]) := fun d q => by
  obtain ⟨x, h1, q⟩ := O.bind_eq q
  obtain ⟨cn, fs, k, φ', e1, hk, hm, hn, hq⟩ := mt x [] d q
  subst e1
  exact de_meth0 hm (ho _ h1) hq hn hk pl ht
/-! ### own operators -/
/-- a + b .. where a or b may be a Ratio -/
def r_op (base add radd : D → D → O D) (x y : D) : O D := match x, y with
  | .obj 0 _, .obj 0 _ => add x y
  | .obj 0 _, .int _ => add x y
  | .int _, .obj 0 _ => radd y x
  | x, y => base x y
theorem op_none {op : Operator} {x y z : D} (h : ∀ G u v, Den F.C G u x → Den F.C G v y → False) : OpD F (binaryOp op) x y z :=
  ⟨fun _ _ _ _ => False, fun _ => fun _ _ _ _ _ _ _ _ _ _ _ _ z => z.elim, fun G H u v s hu hv Q q => h G u v hu hv⟩
theorem cm_none {op : CmpOp} {x y z : D} (h : ∀ G u v, Den F.C G u x → Den F.C G v y → False) : OpD F (compareOp op) x y z :=
  ⟨fun _ _ _ _ => False, fun _ => fun _ _ _ _ _ _ _ _ _ _ _ _ z => z.elim, fun G H u v s hu hv Q q => h G u v hu hv⟩
theorem den_has {C : Kc} {G : Hp} {v : V} {c : Nat} {fs : List (Str × D)} (h : Den C G v (.obj c fs)) : C.has c = true := by
  cases h with
  | obj q _ _ => exact q
theorem s_rop {op : Operator} {base add radd : D → D → O D} {m m' : Str} {k k' : Nat} (hb : OpS F op base) (hF : F.C.has 0 = true → OpF F.C.K (F.C.cl 0)) (hI : F.C.has 0 = true → IntF F.C.K op)
    (mt : F.C.has 0 = true → Met F.P F.w F.C F.mg F.base k 0 m (spF F.C (l2 add))) (mt' : F.C.has 0 = true → Met F.P F.w F.C F.mg F.base k' 0 m' (spF F.C (l2 radd))) (hm : PySem.dunder op.info.2 = m) (hm' : dunderR op.info.2 = m') (hk : k ≤ F.k) (hk' : k' ≤ F.k)
    {id : String} {B : Builtin} (sl : Slot "int" (PySem.dunder op.info.2) id) (en : entryFor table id = some B) (ag : ∀ a b, argsOk id ⟨[a, b], []⟩)
    (hB : ∀ (M : Model) (i : Int) (t : Tok) (b C dx : Addr) (s : Shared) (A : Around) (E : Value → Shared → Prop) (Q : Fin → Shared → Prop), s.heap.get? b = some (PySem.W.instObj C dx) → Q (.done (.ret .notImplemented)) s → wpAny M A (B ⟨[.int i t, .ref b], []⟩) Q E s) : OpS F op (r_op base add radd) := fun x y z h => by
  by_cases hh : F.C.has 0 = true
  · unfold r_op at h
    split at h
    · exact od_binS (hF hh) (mt hh) hm hk h
    · exact od_binT (hF hh) (hI hh) (mt hh) hm (mt' hh) hm' hk h
    · exact od_binR (hF hh) (hI hh) (mt' hh) hm' (mt hh) hm hk' h sl en ag hB
    · exact hb x y z h
  · unfold r_op at h
    split at h
    · exact op_none fun G u v h1 h2 => hh (den_has h1)
    · exact op_none fun G u v h1 h2 => hh (den_has h1)
    · exact op_none fun G u v h1 h2 => hh (den_has h2)
    · exact hb x y z h
theorem s_radd {add radd : D → D → O D} {k k' : Nat} (T : Tx F.C F.mg) (mt : F.C.has 0 = true → Met F.P F.w F.C F.mg F.base k 0 "__add__" (spF F.C (l2 add))) (mt' : F.C.has 0 = true → Met F.P F.w F.C F.mg F.base k' 0 "__radd__" (spF F.C (l2 radd))) (hk : k ≤ F.k := by exact Nat.le_of_ble_eq_true rfl) (hk' : k' ≤ F.k := by exact Nat.le_of_ble_eq_true rfl) : OpS F .Add (r_op b_add add radd) :=
  s_rop s_add T.opf T.iA mt mt' (by decide +kernel) (by decide +kernel) hk hk' PySem.F.slot_int_add PySem.F.entry_int_add (fun _ _ => PySem.F.args_int_add_2 _ _) fun M i t b C dx s A E Q h q => DLO.int_add_ref h q
theorem s_rsub {add radd : D → D → O D} {k k' : Nat} (T : Tx F.C F.mg) (mt : F.C.has 0 = true → Met F.P F.w F.C F.mg F.base k 0 "__sub__" (spF F.C (l2 add))) (mt' : F.C.has 0 = true → Met F.P F.w F.C F.mg F.base k' 0 "__rsub__" (spF F.C (l2 radd))) (hk : k ≤ F.k := by exact Nat.le_of_ble_eq_true rfl) (hk' : k' ≤ F.k := by exact Nat.le_of_ble_eq_true rfl) : OpS F .Sub (r_op b_sub add radd) :=
  s_rop s_sub T.opf T.iS mt mt' (by decide +kernel) (by decide +kernel) hk hk' PySem.F.slot_int_sub PySem.F.entry_int_sub (fun _ _ => PySem.F.args_int_sub_2 _ _) fun M i t b C dx s A E Q h q => DLO.int_sub_ref h q
theorem s_rmul {add radd : D → D → O D} {k k' : Nat} (T : Tx F.C F.mg) (mt : F.C.has 0 = true → Met F.P F.w F.C F.mg F.base k 0 "__mul__" (spF F.C (l2 add))) (mt' : F.C.has 0 = true → Met F.P F.w F.C F.mg F.base k' 0 "__rmul__" (spF F.C (l2 radd))) (hk : k ≤ F.k := by exact Nat.le_of_ble_eq_true rfl) (hk' : k' ≤ F.k := by exact Nat.le_of_ble_eq_true rfl) : OpS F .Mult (r_op b_mul add radd) :=
  s_rop s_mul T.opf T.iM mt mt' (by decide +kernel) (by decide +kernel) hk hk' PySem.F.slot_int_mul PySem.F.entry_int_mul (fun _ _ => PySem.F.args_int_mul_2 _ _) fun M i t b C dx s A E Q h q => DLO.int_mul_ref h q
/-- only where both are Ratios -/
def q_op (base add : D → D → O D) (x y : D) : O D := match x, y with
  | .obj 0 _, .obj 0 _ => add x y
  | x, y => base x y
theorem s_qop {op : Operator} {base add : D → D → O D} {m : Str} {k : Nat} (hb : OpS F op base) (T : Tx F.C F.mg) (mt : F.C.has 0 = true → Met F.P F.w F.C F.mg F.base k 0 m (spF F.C (l2 add))) (hm : PySem.dunder op.info.2 = m := by decide +kernel) (hk : k ≤ F.k := by exact Nat.le_of_ble_eq_true rfl) : OpS F op (q_op base add) := fun x y z h => by
  by_cases hh : F.C.has 0 = true
  · unfold q_op at h
    split at h
    · exact od_binS (T.opf hh) (mt hh) hm hk h
    · exact hb x y z h
  · unfold q_op at h
    split at h
    · exact op_none fun G u v h1 h2 => hh (den_has h1)
    · exact hb x y z h
/-- -a, a Ratio or an integer -/
def r_neg (neg : D → O D) (x : D) : O D := match x with
  | .obj 0 _ => neg x
  | x => b_neg x
theorem s_rneg {neg : D → O D} {k : Nat} (mt : F.C.has 0 = true → Met F.P F.w F.C F.mg F.base k 0 "__neg__" (spF F.C (l1 neg))) (hk : k ≤ F.k := by exact Nat.le_of_ble_eq_true rfl) : UnS F .USub (r_neg neg) := fun x z h => by
  unfold r_neg at h
  split at h
  · by_cases hh : F.C.has 0 = true
    · exact ud_own (mt hh) hk h
    · exact ⟨fun _ _ _ => False, fun _ => fun _ _ _ _ _ _ _ _ _ z => z.elim, fun G H u s hu Q q => hh (den_has hu)⟩
  · exact s_neg x z h
/-! ### own equality: eqs: the == of each class -/
def ownEq (eqs : Nat → Option (D → D → O D)) (x y : D) : O Bool := match x with
  | .obj c _ => if isCst y then .bad else op2 (eqs c) fun f => (f x y).bind asB
  | x => match x, y with
    | .int _, .obj 0 _ => op2 (eqs 0) fun f => (f y x).bind asB
    | x, y => c_eq x y
def ownNe (eqs : Nat → Option (D → D → O D)) (x y : D) : O Bool := match x with
  | .obj c _ => if isCst y then .bad else op2 (eqs c) fun f => ((f x y).bind asB).bind fun b => .ok (!b)
  | x => c_ne x y
theorem tyD_in {C : Kc} {y : D} (hc : isCst y = false) : (∃ c fs, y = .obj c fs ∧ tyD C y = .ref (C.cl c)) ∨ ∃ T ∈ tyNames, tyD C y = .type T := by
  cases y <;> first | exact .inl ⟨_, _, rfl, rfl⟩ | exact .inr ⟨_, by decide, rfl⟩ | cases hc
theorem nf_of {C : Kc} {mg : Str → Option Value} (T : Tx C mg) {c : Nat} {y : D} (hh : C.has c = true) (hy : ∀ c' fs, y = .obj c' fs → C.has c' = true) (hc : isCst y = false) : PySem.W.notFirst C.K (C.cl c) (tyD C y) = true := by
  rcases tyD_in (C := C) hc with ⟨c', fs, e, q⟩ | ⟨t, ht, q⟩
  · rw [q]; exact T.nf c c' hh (hy c' fs e)
  · rw [q]; exact T.nfT c hh t ht
def EqF (F : Fam) (eqs : Nat → Option (D → D → O D)) : Prop := ∀ c f, eqs c = some f → F.C.has c = true → ∃ k, k + 1 ≤ F.k ∧ Met F.P F.w F.C F.mg F.base k c "__eq__" (spF F.C (l2 f))
theorem s_oeq {eqs : Nat → Option (D → D → O D)} (T : Tx F.C F.mg) (E : EqF F eqs) : CmS F .Eq (ownEq eqs) := fun x y z h => by
  have hO : ∀ c fs (y : D) z, isCst y = false → (op2 (eqs c) fun f => (f (.obj c fs) y).bind asB) = .ok z → OpD F (compareOp .Eq) (.obj c fs) y (.bl z) := fun c fs y z hcst q => by
    obtain ⟨f, hf, q⟩ := op2_eq q
    obtain ⟨d, q1, q2⟩ := O.bind_eq q
    have e0 := asB_eq q2
    subst e0
    by_cases hh : F.C.has c = true
    · by_cases hy : ∀ c' fs, y = .obj c' fs → F.C.has c' = true
      · obtain ⟨k, hk, mt⟩ := E c f hf hh
        exact od_eqO mt (Nat.le_of_succ_le hk) (fun c' fs' e q => T.ins c' q) (fun v e => by rw [e] at hcst; cases hcst) (nf_of T hh hy hcst) q1
      · refine cm_none fun G u v h1 h2 => hy fun c' fs' e => ?_
        subst e
        exact den_has h2
    · exact cm_none fun G u v h1 h2 => hh (den_has h1)
  unfold ownEq at h
  split at h
  · split at h
    · cases h
    · rename_i hcst
      exact hO _ _ _ _ (by simpa using hcst) h
  · split at h
    · obtain ⟨f, hf, h⟩ := op2_eq h
      obtain ⟨d, q1, q2⟩ := O.bind_eq h
      have e0 := asB_eq q2
      subst e0
      by_cases hh : F.C.has 0 = true
      · obtain ⟨k, hk, mt⟩ := E 0 f hf hh
        exact od_eqR2 mt (Nat.le_of_succ_le hk) (T.opf hh) q1
      · exact cm_none fun G u v h1 h2 => hh (den_has h2)
    · exact s_eq _ _ _ h
theorem s_one {eqs : Nat → Option (D → D → O D)} (T : Tx F.C F.mg) (E : EqF F eqs) : CmS F .NotEq (ownNe eqs) := fun x y z h => by
  unfold ownNe at h
  split at h
  · split at h
    · cases h
    · rename_i c fs hcst
      have hcst : isCst y = false := by simpa using hcst
      obtain ⟨f, hf, h⟩ := op2_eq h
      obtain ⟨b, q, e⟩ := O.bind_eq h
      have e1 := O.ok.inj e
      subst e1
      obtain ⟨d, q1, q2⟩ := O.bind_eq q
      have e0 := asB_eq q2
      subst e0
      by_cases hh : F.C.has c = true
      · by_cases hy : ∀ c' fs, y = .obj c' fs → F.C.has c' = true
        · obtain ⟨k, hk, mt⟩ := E c f hf hh
          exact od_neO mt hk (fun c' fs' e q => T.ins c' q) (fun v e => by rw [e] at hcst; cases hcst) (nf_of T hh hy hcst) (T.ins c hh) (T.ne c hh) q1
        · refine cm_none fun G u v h1 h2 => hy fun c' fs' e => ?_
          subst e
          exact den_has h2
      · exact cm_none fun G u v h1 h2 => hh (den_has h1)
  · exact s_ne _ _ _ h
/-! ### len(x), str(x) by own methods -/
def ownLen (lens : Nat → Option (D → O D)) : List D → O D
  | [.obj c fs] => op2 (lens c) fun f => (f (.obj c fs)).bind fun d => (asI d).bind fun i => if 0 ≤ i ∧ i < 2 ^ 63 then .ok (.int i) else .bad
  | ds => bi_len ds
def ownStr (sts : Nat → Option (D → O D)) : List D → O D
  | [.obj c fs] => op2 (sts c) fun f => (f (.obj c fs)).bind fun d => match d with
    | .str t => .ok (.str t)
    | _ => .bad
  | ds => bi_str ds
def LenF (F : Fam) (m : Str) (n : Nat) (lens : Nat → Option (D → O D)) : Prop := ∀ c f, lens c = some f → F.C.has c = true → ∃ k, k + n ≤ F.k ∧ Met F.P F.w F.C F.mg F.base k c m (spF F.C (l1 f))
theorem ca_none {f : Value} {c : Nat} {fs : List (Str × D)} {ds : List D} {z : D} (h : ¬ F.C.has c = true) : CaD F f (.obj c fs :: ds) z :=
  ⟨fun _ _ _ => False, fun _ => fun _ _ _ _ _ _ _ _ _ z => z.elim, fun G H us s hu Q q => by
    cases hu with
    | cons h0 _ => exact h (den_has h0)⟩
theorem s_olen {lens : Nat → Option (D → O D)} (L : LenF F "__len__" 1 lens) : CaS F (.builtin "len") (ownLen lens) := fun ds z h => by
  unfold ownLen at h
  split at h
  · obtain ⟨f, h1, h⟩ := op2_eq h
    obtain ⟨d, h2, h⟩ := O.bind_eq h
    obtain ⟨i, h3, h4⟩ := O.bind_eq h
    have e0 := asI_eq h3
    subst e0
    split at h4
    · rename_i hi
      have e1 := O.ok.inj h4
      subst e1
      rename_i c fs _ _
      by_cases hh : F.C.has c = true
      · obtain ⟨k, hk, mt⟩ := L c f h1 hh
        exact ca_lenO mt hk h2 hi.1 hi.2
      · exact ca_none hh
    · cases h4
  · exact s_len _ _ h
theorem s_ostr {sts : Nat → Option (D → O D)} (L : LenF F "__str__" 2 sts) : CaS F (.type "str") (ownStr sts) := fun ds z h => by
  unfold ownStr at h
  split at h
  · obtain ⟨f, h1, h⟩ := op2_eq h
    obtain ⟨d, h2, h3⟩ := O.bind_eq h
    split at h3
    · have e1 := O.ok.inj h3
      subst e1
      rename_i c fs _ _ _
      by_cases hh : F.C.has c = true
      · obtain ⟨k, hk, mt⟩ := L c f h1 hh
        exact ca_strO mt hk h2
      · exact ca_none hh
    · cases h3
  · exact s_str _ _ h
end
end SL
namespace SL
open PySem L2 DL
def clF (c0 c1 c2 c3 c4 c5 c6 : Addr) : Nat → Addr
  | 0 => c0
  | 1 => c1
  | 2 => c2
  | 3 => c3
  | 4 => c4
  | 5 => c5
  | _ => c6
def hasF (b0 b1 b2 b3 b4 b5 b6 : Bool) : Nat → Bool
  | 0 => b0
  | 1 => b1
  | 2 => b2
  | 3 => b3
  | 4 => b4
  | 5 => b5
  | 6 => b6
  | _ => false
end SL
/-! SL9: x[::-1], methods of texts, f-strings, try that no exception leaves. -/
namespace SLR
open PySem PyProof.Rows
section
variable {prog : Program} {w : World} {A : Around} {E : Value → Shared → Prop} {s : Shared}
theorem sliceApplied_rev {sl : Addr} {vl vu vs : Value} {n : Nat} {Q : Int × Int × Nat → Shared → Prop} (hs : s.heap.IsSliceOf sl vl vu vs) (pl : IsPart vl none) (pu : IsPart vu none) (ps : IsPart vs (some (-1)))
    (h : Q ((n : Int) - 1, -1, n) s) : wpAny (model prog w) A (Builtin.Slice.sliceApplied (.ref sl) (pure (n : Int))) Q E s := by
  obtain ⟨os, hos, hcs, hds⟩ := id hs
  unfold Builtin.Slice.sliceApplied Builtin.Slice.sliceFields
  refine wpAny_bind (wpAny_bind (wpAny_field hos hds (x := vl) rfl (wpAny_bind (wpAny_field hos hds (x := vu) rfl (wpAny_bind (wpAny_field hos hds (x := vs) rfl (wpAny_pure ?_)))))))
  refine wpAny_bind (HT.slicePart_ ps ?_)
  show wpAny _ _ (if ((-1 : Int) == 0) = true then _ else _) _ _ s
  rw [if_neg (by decide)]
  refine wpAny_bind (HT.slicePart_ pl (wpAny_bind (HT.slicePart_ pu (wpAny_bind (wpAny_pure ?_)))))
  show wpAny _ _ (match Builtin.Slice.sliceAdjust none none (-1) (n : Int) with | (lo, hi) => pure (lo, (-1 : Int), Builtin.Slice.slicePlaces lo hi (-1))) _ _ s
  have e1 : Builtin.Slice.sliceAdjust none none (-1) (n : Int) = ((n : Int) - 1, -1) := rfl
  rw [e1]
  show wpAny _ _ (pure ((n : Int) - 1, (-1 : Int), Builtin.Slice.slicePlaces ((n : Int) - 1) (-1) (-1))) _ _ s
  have e2 : Builtin.Slice.slicePlaces ((n : Int) - 1) (-1) (-1) = n := by
    unfold Builtin.Slice.slicePlaces
    rw [if_neg (by decide)]
    by_cases h : (n : Int) - 1 > -1
    · rw [if_pos h, show (- -1 : Int) = 1 by decide, Int.ediv_one]; omega
    · rw [if_neg h]; omega
  rw [e2]
  exact wpAny_pure h
theorem fm_congr {α β : Type} {f g : α → Option β} : ∀ {l : List α}, (∀ a ∈ l, f a = g a) → l.filterMap f = l.filterMap g
  | [], _ => rfl
  | a :: l, h => by rw [List.filterMap_cons, List.filterMap_cons, h a List.mem_cons_self, fm_congr fun x hx => h x (List.mem_cons_of_mem _ hx)]
theorem pick_rev (xs : Array Value) : ((List.range xs.size).filterMap fun (m : Nat) => xs[(((xs.size : Int) - 1) + (m : Int) * (-1)).toNat]?).toArray = xs.toList.reverse.toArray := by
  congr 1
  have e : (List.range xs.size).filterMap (fun (m : Nat) => xs[(((xs.size : Int) - 1) + (m : Int) * (-1)).toNat]?) = ((List.range xs.size).map (fun k => xs.size - 1 - k)).filterMap (xs[·]?) := by
    rw [List.filterMap_map]
    refine fm_congr fun m hm => ?_
    have := List.mem_range.mp hm
    show xs[(((xs.size : Int) - 1) + (m : Int) * (-1)).toNat]? = xs[xs.size - 1 - m]?
    rw [show (((xs.size : Int) - 1) + (m : Int) * (-1)).toNat = xs.size - 1 - m by omega]
  rw [e, PySem.W.krv_range, List.filterMap_reverse, PySem.W.krv_all]
theorem getItem_tuple_rev {t sl : Addr} {items : Array Value} {vl vu vs : Value} {Q : Value → Shared → Prop} (ht : IsTup s.heap t items) (hs : s.heap.IsSliceOf sl vl vu vs) (pl : IsPart vl none) (pu : IsPart vu none) (ps : IsPart vs (some (-1)))
    (h : Q (.ref s.heap.objs.size) { s with heap := s.heap.push { cls := .type "tuple", data := .seq items.toList.reverse.toArray } })
    (hsz : items.size ≤ sizeLine) : wpAny (model prog w) A (getItem (.ref t) (.ref sl)) Q E s := by
  have htake : sizeOk (.seq items.toList.reverse.toArray) := by
    show items.toList.reverse.toArray.size ≤ sizeLine
    rw [List.size_toArray, List.length_reverse, Array.length_toList]
    exact hsz
  obtain ⟨os, hos, hcs, hds⟩ := id hs
  have hTs : s.TypeIs (.ref sl) "slice" := ⟨os, hos, hcs⟩
  unfold getItem
  try with_reducible refine wpAny_holding ?_
  first | refine wpAny_bind (wpAny_pure ?_) | skip
  refine wpAny_bind (wpAny_sequenceKey ht.typeIs (by decide) ?_)
  refine wpAny_bind (wpAny_callSpecial?_slot (name := Str.ofString "__getitem__") ht.typeIs PyProof.Rows.slot_tuple_getitem
    (wpAny_call_entry PyProof.Rows.slot_tuple_getitem ht.typeIs entry_tuple_getitem ?_ (args_tuple_getitem _ _)))
  show wpAny _ _ (Builtin.Tuple.tupleItemsOf (.ref t) >>= _) _ _ s
  refine wpAny_bind (tupleItemsOf_ ht ?_)
  refine wpAny_bind (wpAny_typeOf hTs ?_)
  rw [if_pos (by decide)]
  refine wpAny_bind (sliceApplied_rev hs pl pu ps ?_)
  have hno : ¬ ((((items.size : Int) - 1) == 0 && (-1 : Int) == 1 && items.size == items.size) = true) := by
    intro q
    rw [Bool.and_eq_true, Bool.and_eq_true] at q
    exact absurd q.1.2 (by decide)
  show wpAny _ _ (if (((items.size : Int) - 1) == 0 && (-1 : Int) == 1 && items.size == items.size) = true then _ else _) _ _ s
  rw [if_neg hno, pick_rev]
  first
    | exact wpAny_bind (m := Builtin.Tuple.tupleExact _) (wpAny_newObj_type (wpAny_pure ⟨_, rfl, wpAny_pure h⟩) htake)
    | exact wpAny_bind (m := Builtin.Tuple.tupleExact _) (wpAny_newObj_type (wpAny_bind (wpAny_pure (wpAny_pure ⟨_, rfl, wpAny_pure h⟩))) htake)
    | exact wpAny_bind (wpAny_bind (m := Builtin.Tuple.tupleExact _) (wpAny_newObj_type (wpAny_pure (wpAny_pure ⟨_, rfl, wpAny_pure h⟩)) htake))
    | exact wpAny_bind (wpAny_bind (m := Builtin.Tuple.tupleExact _) (wpAny_newObj_type (wpAny_pure ⟨_, rfl, wpAny_pure h⟩) htake))
end
end SLR
namespace L2
open PySem PySem.Spec PyProof.Rows
section
variable {X : Cx}
def tRevT (K : PySem.W.Frag) (te : TE) : TE := fun σ H Q => te σ H fun x H1 => ∃ a xs, x = .ref a ∧ ((SqL K H1 a xs ∧ ∀ p, H1 p = none → Q (.ref p) (upd H1 p (.lst xs.reverse))) ∨ (SqT K H1 a xs ∧ ∀ p, H1 p = none → Q (.ref p) (upd H1 p (.tup xs.reverse))))
theorem pe_revT {e : Expr} {te : TE} {k : Nat} {p1 p2 p3 pos : Pos} (he : PE X e te) : PE X (.Subscript e (.Slice none none (some (.UnaryOp .USub (.Constant (.int 1) k p1) p2)) p3) pos) (tRevT X.K te) := by
  refine ⟨fun pins s σ H Q I h => ?_⟩
  refine Subscript_ (thn (he.run pins s σ H _ I h) fun v s1 ⟨x, H1, I1, r1, q1⟩ => ?_)
  obtain ⟨a, xs, ex, q1⟩ := q1
  subst ex
  cases r1
  have hst : PO X (some (.UnaryOp .USub (.Constant (.int 1) k p1) p2)) (tPart (tUn (rU fun i => .int (-i)) (tC (.int 1)))) := po_some (pe_un un_neg pe_int)
  refine wpAny_Slice (thn (po_none.run pins s1 σ H1 (fun o H2 => o = none ∧ H2 = H1) I1 ⟨rfl, rfl⟩) fun vl s2 ⟨l, H2, I2, pl, el, e2⟩ => ?_)
  subst el e2
  refine thn (po_none.run pins s2 σ H2 (fun o H3 => o = none ∧ H3 = H2) I2 ⟨rfl, rfl⟩) fun vu s3 ⟨u, H3, I3, pu, eu, e3⟩ => ?_
  subst eu e3
  refine thn (hst.run pins s3 σ H3 (fun o H4 => o = some (-1) ∧ H4 = H3) I3 ⟨1, rfl, -1, rfl, rfl, rfl⟩) fun vs s4 ⟨o, H4, I4, ps, eo, e4⟩ => ?_
  subst eo e4
  have I5 : Inv X pins σ H4 { s4 with heap := s4.heap.push { cls := .type "slice", data := .fields #[vl, vu, vs] } } := I4.kept (t' := s4.toks) fun b ob q => Heap.get?_push_of_some _ q
  show wpAny (model X.prog X.w) X.A (subscriptTail e (.Slice none none (some (.UnaryOp .USub (.Constant (.int 1) k p1) p2)) p3) (.ref a) (.ref s4.heap.objs.size)) (EP X pins σ Q) X.xe { s4 with heap := s4.heap.push { cls := .type "slice", data := .fields #[vl, vu, vs] } }
  rcases q1 with ⟨hx, q⟩ | ⟨hx, q⟩
  · obtain ⟨its, r, ht, hz⟩ := I5.list hx
    have hlen := r.length
    refine tail_any (ops := [.ref a, .ref s4.heap.objs.size]) ht.isList.typeIs (PySem.slot_list_getitem.lookup) ?_ (by with_unfolding_all rfl)
    refine wpAny_getItem_list_slice ht.isList (Heap.IsSliceOf.new _ vl vu vs) pl pu ps (by decide) ?_ (by rw [List.size_toArray]; omega)
    rw [PySem.W.krv_pick]
    refine ⟨.ref _, _, I5.laid (t' := s4.toks) (o := .lst xs.reverse) (fun b ob q => Heap.get?_push_of_some _ q) (Nat.le_refl _) ?_, rfl, q _ (I5.hok.fresh (Nat.le_refl _))⟩
    exact ⟨by rw [List.length_reverse]; exact hz, _, 0, r.reverse, Heap.get?_push_size _ rfl⟩
  · obtain ⟨its, r, ht, hz⟩ := I5.tuple hx
    have hlen : its.toArray.size = xs.length := by rw [List.size_toArray]; exact r.length.symm
    refine tail_any (ops := [.ref a, .ref s4.heap.objs.size]) ht.typeIs (PyProof.Rows.slot_tuple_getitem.lookup) ?_ (by with_unfolding_all rfl)
    refine SLR.getItem_tuple_rev ht (Heap.IsSliceOf.new _ vl vu vs) pl pu ps ?_ (by rw [hlen]; exact hz)
    refine ⟨.ref _, _, I5.laid (t' := s4.toks) (o := .tup xs.reverse) (fun b ob q => Heap.get?_push_of_some _ q) (Nat.le_refl _) ?_, rfl, q _ (I5.hok.fresh (Nat.le_refl _))⟩
    exact ⟨by rw [List.length_reverse]; exact hz, _, r.reverse, IsTup.new _ _⟩
end
end L2
namespace SL
open PySem L2 DL
section
variable {F : Fam} {S : ST} {e : Expr} {pos p1 p2 p3 : Pos} {oa : O D} {k : Nat}
def revO : D → O D
  | .lst ds => .ok (.lst ds.reverse)
  | .tup ds => .ok (.tup ds.reverse)
  | _ => .bad
theorem DenL.rev {C : Kc} {G : Hp} : ∀ {vs : List V} {ds : List D}, DenL C G vs ds → DenL C G vs.reverse ds.reverse
  | _, _, .nil => .nil
  | _, _, .cons h t => by
    rw [List.reverse_cons, List.reverse_cons]
    exact (DenL.rev t).append (.cons h .nil)
theorem p_rev (he : DEp F e S oa) : DEp F (.Subscript e (.Slice none none (some (.UnaryOp .USub (.Constant (.int 1) k p1) p2)) p3) pos) S (oa.bind revO) := fun d h => by
  obtain ⟨x, h1, h2⟩ := O.bind_eq h
  refine de_of (te := tRevT F.C.K (anyE F e)) (fun i => by have := pe_revT (X := F.X i) (k := k) (p1 := p1) (p2 := p2) (p3 := p3) (pos := pos) (anyE_ok (e := e) i); rw [F.hK i] at this; exact this) fun σ G H c Q q => (he x h1) σ G H c _ fun v G1 H1 m dv => ?_
  unfold revO at h2
  split at h2
  · cases h2
    cases dv with
    | lst hs hl => exact ⟨_, _, rfl, .inl ⟨m.cx.sub.seq hs, fun p hp => q _ _ _ (m.pu (Pu.new m.cx.sub hp)) (.lst (SqL.of upd_same) ((DenL.rev hl).mono (Pu.new m.cx.sub hp).gg))⟩⟩
  · cases h2
    cases dv with
    | tup hs hl => exact ⟨_, _, rfl, .inr ⟨same_t m.cx.sub hs, fun p hp => q _ _ _ (m.pu (Pu.new m.cx.sub hp)) (.tup (SqT.of upd_same) ((DenL.rev hl).mono (Pu.new m.cx.sub hp).gg))⟩⟩
  · cases h2
end
end SL
/-! SLA: methods of texts, f-strings, static methods, try that no exception leaves. -/
namespace SL
open PySem L2 DL
section
variable {F : Fam} {S : ST} {o e : Expr} {pos apos : Pos} {oa ob : O D}
theorem p_tm1 {id : String} {name : Str} {r : V → List V → Hp → VK → Prop} {φ : D → D → O D} (slot : Slot "str" name id) (ty : typeOf (.builtin id) = pure (.type "method_descriptor")) (rule : ∀ i, MtR (F.X i) id r)
    (hr : ∀ x y z, φ x y = .ok z → (∃ a, x = .str a) ∧ ∀ G H u v, Same G H → Den F.C G u x → Den F.C G v y → ∀ Q : VK, (∀ w G2 H2, Pu G H G2 H2 → Den F.C G2 w z → Q w H2) → r u [v] H Q)
    (ho : DEp F o S oa) (he : DEp F e S ob)
    (hs : ∀ i, starEach [e] (F.X i).env = [(false, eval e (F.X i).env)]) (hbase : ∀ i, attributeBase o name (F.X i).env (eval o (F.X i).env) = eval o (F.X i).env) (hline : (apos.endLine == pos.line) = true) :
    DEp F (.Call (.Attribute o name apos) [e] [] pos) S (oa.bind fun x => ob.bind fun y => φ x y) := fun d q => by
  obtain ⟨x, h1, q⟩ := O.bind_eq q
  obtain ⟨y, h2, q⟩ := O.bind_eq q
  obtain ⟨⟨a, ea⟩, h3⟩ := hr x y d q
  subst ea
  refine de_of (te := tM1 r (anyE F o) (anyE F e)) (fun i => pe_m1 slot ty (rule i) (anyE_ok i) (anyE_ok i) (hs i) (hbase i) hline) fun σ G H c Q q => ?_
  refine (ho _ h1) σ G H c _ fun u G1 H1 m1 d1 => ⟨?_, (he _ h2) σ G1 H1 m1.cx _ fun v G2 H2 m2 d2 => ?_⟩
  · cases d1; exact ⟨_, rfl⟩
  · exact h3 G2 H2 u v m2.cx.sub (d1.mono m2.go.gg) d2 Q fun w G3 H3 p d3 => q w G3 H3 ((m1.trans m2).pu p) d3
theorem p_tm0 {id : String} {name : Str} {r : V → List V → Hp → VK → Prop} {φ : D → O D} (slot : Slot "str" name id) (ty : typeOf (.builtin id) = pure (.type "method_descriptor")) (rule : ∀ i, MtR (F.X i) id r)
    (hr : ∀ x z, φ x = .ok z → (∃ a, x = .str a) ∧ ∀ G H u, Same G H → Den F.C G u x → ∀ Q : VK, (∀ w G2 H2, Pu G H G2 H2 → Den F.C G2 w z → Q w H2) → r u [] H Q)
    (ho : DEp F o S oa) (hbase : ∀ i, attributeBase o name (F.X i).env (eval o (F.X i).env) = eval o (F.X i).env) (hline : (apos.endLine == pos.line) = true) :
    DEp F (.Call (.Attribute o name apos) [] [] pos) S (oa.bind φ) := fun d q => by
  obtain ⟨x, h1, q⟩ := O.bind_eq q
  obtain ⟨⟨a, ea⟩, h3⟩ := hr x d q
  subst ea
  refine de_of (te := tM0 r (anyE F o)) (fun i => pe_m0 slot ty (rule i) (anyE_ok i) (hbase i) hline) fun σ G H c Q q => ?_
  refine (ho _ h1) σ G H c _ fun u G1 H1 m1 d1 => ⟨?_, ?_⟩
  · cases d1; exact ⟨_, rfl⟩
  · exact h3 G1 H1 u m1.cx.sub d1 Q fun w G3 H3 p d3 => q w G3 H3 (m1.pu p) d3
theorem denL_strs {C : Kc} {G : Hp} : ∀ (ys : List Str), DenL C G (ys.map V.str) (ys.map D.str)
  | [] => .nil
  | y :: ys => .cons (.str y) (denL_strs ys)
def t_split : D → D → O D
  | .str a, .str b => if (b.length == 0) = false ∧ a.length + 2 ≤ 1000000 then .ok (.lst ((Txt.split a b).map D.str)) else .bad
  | _, _ => .bad
def t_part : D → D → O D
  | .str a, .str b => if (b.length == 0) = false ∧ a.length ≤ 1000000 then .ok (.tup [.str (Txt.partition a b).1, .str (Txt.partition a b).2.1, .str (Txt.partition a b).2.2]) else .bad
  | _, _ => .bad
def joinOk (a : Str) (ys : List Str) : Bool := decide ((ys.map (·.length)).sum + ys.length * a.length ≤ 1000000)
def t_join : D → D → O D
  | .str a, .lst ds => op2 (strs? ds) fun ys => if joinOk a ys then .ok (.str (Txt.join a ys)) else .bad
  | .str a, .tup ds => op2 (strs? ds) fun ys => if joinOk a ys then .ok (.str (Txt.join a ys)) else .bad
  | _, _ => .bad
def t_upper : D → O D
  | .str a => if a.length ≤ 1000000 then .ok (.str (Txt.upper a)) else .bad
  | _ => .bad
def t_index : D → D → O D
  | .str a, .str b => match Builtin.Str.occurrences a b 0 a.length 1 with
    | i :: _ => .ok (.int (i : Nat))
    | [] => .bad
  | _, _ => .bad
theorem p_split (ho : DEp F o S oa) (he : DEp F e S ob)
    (hs : ∀ i, starEach [e] (F.X i).env = [(false, eval e (F.X i).env)] := by intro _; rfl) (hbase : ∀ i, attributeBase o "split" (F.X i).env (eval o (F.X i).env) = eval o (F.X i).env := by intro _; rfl) (hline : (apos.endLine == pos.line) = true := by rfl) :
    DEp F (.Call (.Attribute o "split" apos) [e] [] pos) S (oa.bind fun x => ob.bind fun y => t_split x y) :=
  p_tm1 PySem.F.slot_str_split PySem.F.type_str_split (fun i => mt_split) (fun x y z h => by
    unfold t_split at h
    split at h
    · split at h
      · rename_i a b c
        cases h
        exact ⟨⟨a, rfl⟩, fun G H u v s hu hv Q q => by
          cases hu; cases hv
          exact ⟨a, b, rfl, rfl, c.1, sl6 c.2, fun p hp => q _ _ _ (Pu.new s hp) (.lst (SqL.of upd_same) (denL_strs _))⟩⟩
      · cases h
    · cases h) ho he hs hbase hline
theorem p_part (ho : DEp F o S oa) (he : DEp F e S ob)
    (hs : ∀ i, starEach [e] (F.X i).env = [(false, eval e (F.X i).env)] := by intro _; rfl) (hbase : ∀ i, attributeBase o "partition" (F.X i).env (eval o (F.X i).env) = eval o (F.X i).env := by intro _; rfl) (hline : (apos.endLine == pos.line) = true := by rfl) :
    DEp F (.Call (.Attribute o "partition" apos) [e] [] pos) S (oa.bind fun x => ob.bind fun y => t_part x y) :=
  p_tm1 PySem.F.slot_str_partition PySem.F.type_str_partition (fun i => mt_partition) (fun x y z h => by
    unfold t_part at h
    split at h
    · split at h
      · rename_i a b c
        cases h
        exact ⟨⟨a, rfl⟩, fun G H u v s hu hv Q q => by
          cases hu; cases hv
          exact ⟨a, b, rfl, rfl, c.1, sl6 c.2, fun p hp => q _ _ _ (Pu.new s hp) (.tup (SqT.of upd_same) (.cons (.str _) (.cons (.str _) (.cons (.str _) .nil))))⟩⟩
      · cases h
    · cases h) ho he hs hbase hline
theorem p_upper (ho : DEp F o S oa) (hbase : ∀ i, attributeBase o "upper" (F.X i).env (eval o (F.X i).env) = eval o (F.X i).env := by intro _; rfl) (hline : (apos.endLine == pos.line) = true := by rfl) :
    DEp F (.Call (.Attribute o "upper" apos) [] [] pos) S (oa.bind t_upper) :=
  p_tm0 PySem.F.slot_str_upper PySem.F.type_str_upper (fun i => mt_upper) (fun x z h => by
    unfold t_upper at h
    split at h
    · split at h
      · rename_i a c
        cases h
        exact ⟨⟨a, rfl⟩, fun G H u s hu Q q => by
          cases hu
          exact ⟨a, rfl, rfl, by omega, q _ _ _ (.refl s) (.str _)⟩⟩
      · cases h
    · cases h) ho hbase hline
theorem p_sindex (ho : DEp F o S oa) (he : DEp F e S ob)
    (hs : ∀ i, starEach [e] (F.X i).env = [(false, eval e (F.X i).env)] := by intro _; rfl) (hbase : ∀ i, attributeBase o "index" (F.X i).env (eval o (F.X i).env) = eval o (F.X i).env := by intro _; rfl) (hline : (apos.endLine == pos.line) = true := by rfl) :
    DEp F (.Call (.Attribute o "index" apos) [e] [] pos) S (oa.bind fun x => ob.bind fun y => t_index x y) :=
  p_tm1 PySem.F.slot_str_index PySem.F.type_str_index (fun i => mt_sindex) (fun x y z h => by
    unfold t_index at h
    split at h
    · rename_i a b
      split at h
      · rename_i i r c
        cases h
        exact ⟨⟨a, rfl⟩, fun G H u v s hu hv Q q => by
          cases hu; cases hv
          exact ⟨a, b, _, _, rfl, rfl, c, q _ _ _ (.refl s) (.int _)⟩⟩
      · cases h
    · cases h) ho he hs hbase hline
theorem denL_strs_eq {C : Kc} {G : Hp} : ∀ {vs : List V} {ys : List Str}, DenL C G vs (ys.map D.str) → vs = ys.map V.str
  | _, [], .nil => rfl
  | _, y :: ys, .cons h t => by cases h; rw [denL_strs_eq t]; rfl
theorem p_join (ho : DEp F o S oa) (he : DEp F e S ob)
    (hs : ∀ i, starEach [e] (F.X i).env = [(false, eval e (F.X i).env)] := by intro _; rfl) (hbase : ∀ i, attributeBase o "join" (F.X i).env (eval o (F.X i).env) = eval o (F.X i).env := by intro _; rfl) (hline : (apos.endLine == pos.line) = true := by rfl) :
    DEp F (.Call (.Attribute o "join" apos) [e] [] pos) S (oa.bind fun x => ob.bind fun y => t_join x y) :=
  p_tm1 (r := fun x xs H Q => ∃ a p, ∃ ys : List Str, x = .str a ∧ xs = [.ref p] ∧ (SqL F.C.K H p (ys.map V.str) ∨ SqT F.C.K H p (ys.map V.str)) ∧ (ys.map (·.length)).sum + ys.length * a.length ≤ 16777216 ∧ Q (.str (Txt.join a ys)) H)
    PySem.F.slot_str_join PySem.F.type_str_join (fun i => by have := mt_join (X := F.X i); rw [F.hK i] at this; exact this) (fun x y z h => by
    unfold t_join at h
    split at h
    · rename_i a ds
      obtain ⟨ys, h1, h⟩ := op2_eq h
      split at h
      · rename_i c
        cases h
        have e := strs?_eq h1
        subst e
        have c := of_decide_eq_true c
        exact ⟨⟨a, rfl⟩, fun G H u v s hu hv Q q => by
          cases hu
          cases hv with
          | lst h1 h2 =>
            have := denL_strs_eq h2
            subst this
            exact ⟨a, _, ys, rfl, rfl, .inl (s.seq h1), by omega, q _ _ _ (.refl s) (.str _)⟩⟩
      · cases h
    · rename_i a ds
      obtain ⟨ys, h1, h⟩ := op2_eq h
      split at h
      · rename_i c
        cases h
        have e := strs?_eq h1
        subst e
        have c := of_decide_eq_true c
        exact ⟨⟨a, rfl⟩, fun G H u v s hu hv Q q => by
          cases hu
          cases hv with
          | tup h1 h2 =>
            have := denL_strs_eq h2
            subst this
            exact ⟨a, _, ys, rfl, rfl, .inr (same_t s h1), by omega, q _ _ _ (.refl s) (.str _)⟩⟩
      · cases h
    · cases h) ho he hs hbase hline
/-! ### f-strings -/
def fmtO : D → O D
  | .int i => if i.natAbs.log2 < 1920 then .ok (.str (toString i)) else .bad
  | .str t => if t.length ≤ 1000000 then .ok (.str t) else .bad
  | _ => .bad
theorem p_fmt (he : DEp F e S oa) : DEp F (.FormattedValue e (-1) none pos) S (oa.bind fmtO) := fun d q => by
  obtain ⟨x, h1, q⟩ := O.bind_eq q
  unfold fmtO at q
  split at q
  · split at q
    · cases q; exact de_fmtI (he _ h1) (by assumption)
    · cases q
  · split at q
    · cases q; exact de_fmtS (he _ h1) (sl6 (by assumption))
    · cases q
  · cases q
theorem p_js1 (he : DEp F e S oa) : DEp F (.JoinedStr [e] pos) S oa := fun d q => de_join1 (he d q)
def jO : List (O D) → Str → O D
  | [], acc => .ok (.str acc)
  | o :: os, acc => o.bind fun d => match d with
    | .str t => if (acc ++ t).length ≤ 1000000 then jO os (acc ++ t) else .bad
    | _ => .bad
def DJp (F : Fam) (es : List Expr) (S : ST) (os : List (O D)) : Prop := ∀ acc d, jO os acc = .ok d → ∃ out, d = .str out ∧ DJ F es acc S S out
theorem j_nil : DJp F [] S [] := fun acc d q => by cases q; exact ⟨acc, rfl, dj_nil⟩
theorem j_cons {es : List Expr} {os : List (O D)} (he : DEp F e S oa) (h : DJp F es S os) : DJp F (e :: es) S (oa :: os) := fun acc d q => by
  obtain ⟨x, h1, q⟩ := O.bind_eq q
  cases x with
  | str t =>
    have q : (if (acc ++ t).length ≤ 1000000 then jO os (acc ++ t) else .bad) = .ok d := q
    split at q
    · obtain ⟨out, e1, e2⟩ := h _ _ q
      exact ⟨out, e1, dj_cons (he _ h1) (sl6 (by assumption)) e2⟩
    · cases q
  | _ => cases q
theorem p_js {v1 v2 : Expr} {es : List Expr} {os : List (O D)} (h : DJp F (v1 :: v2 :: es) S os) : DEp F (.JoinedStr (v1 :: v2 :: es) pos) S (jO os Str.empty) := fun d q => by
  obtain ⟨out, e1, e2⟩ := h _ _ q
  subst e1
  exact de_join e2
end
/-! ### static methods -/
structure SMet (K : PySem.W.Frag) (C : Addr) (m : Str) (f : Addr) : Prop where
  rd : ClX.CRead K C (.type "type")
  at_ : ∃ p rest, PySem.W.findCls K (.ref C) (.type "type") m = some (.get (.builtin "staticmethod.__get__") (.ref p) .none (.ref C)) ∧ PySem.W.recIn K p "staticmethod" = some (.ref f :: rest)
  kp : PySem.W.keepIn K (.ref f) = true
def tSMeth (C : Addr) (sp : Sp) (E : XK) (ta : TE) (t : TA) : TE := fun σ H Q => ta σ H fun x H1 => x = .ref C ∧ t σ H1 fun vs H2 => sp vs H2 Q E
theorem pe_smeth {X : Cx} {CX : CXT} {k : Nat} {C f : Addr} {fd : FuncData} {ps : List Str} {sp : Sp} {E : XK} {o e : Expr} {es : List Expr} {m : Str} {pos apos : Pos} {ta : TE} {t : TA} {pl : Sem Bool}
    (he : PE X o ta) (c : SMet X.K C m f) (F : FnOk X.prog X.w X.K X.mg X.base CX k f fd ps sp) (hr : Room k X.A) (hb : Binds X.K fd ps []) (hx : Passes CX X E) (ha : PA X (e :: es) t)
    (hst : starEach (e :: es) X.env = (false, eval e X.env) :: starEach es X.env) (hpl : (backTo pos (starEach es X.env)).any (·.1) = false)
    (ht : eval (.Call (.Attribute o m apos) (e :: es) [] pos) X.env = (do
      let ov ← eval o X.env
      standAt apos.atName
      let (f, first) ← holding [ov] (getMethod ov m pl)
      callWith pos f first (backTo pos (starEach (e :: es) X.env)) (backToKw pos (keywordEach [] X.env)))) :
    PE X (.Call (.Attribute o m apos) (e :: es) [] pos) (tSMeth C sp E ta t) := by
  refine ⟨fun pins s σ H Q I h => ?_⟩
  refine PySem.W.methodCall_KW (pl := pl) (thn (he.run pins s σ H _ I h) fun u s1 ⟨x, H1, I1, rx, ex, q⟩ => ?_) ht
  subst ex
  obtain rfl : u = Value.ref C := rx
  obtain ⟨p, rest, h1, h2⟩ := c.at_
  refine PySem.W.method_cls I1.kIn c.rd.ga (PySem.W.cls_bind I1.kIn c.rd.rd h1 (wpAny_call (PySem.W.sm_get (s := { s1 with toks := s1.toks + 1 }) I1.kIn h2 (PySem.W.handed_on rfl ?_))))
  have I2 := I1.tok (s1.toks + 1)
  refine PySem.W.callWith_K (h₀ := X.base) I2.ok.mod.kin c.kp (thn (ha.run pos pins _ σ H1 _ I2 q) fun us s3 ⟨vs, H2, I3, r, q⟩ => ⟨I3.kIn, ?_⟩) hst hpl
  have hq : sp (vs ++ []) H2 Q E := by rw [List.append_nil]; exact q
  exact run_fn F hr hb .nil hx I3 r hq
def Sta (P : Program) (w : World) (C : Kc) (mg : Str → Option Value) (base : Heap) (k c : Nat) (m : Str) (sp : Sp) : Prop := ∃ f fd ps, FnOk P w C.K mg base CX0 k f fd ps sp ∧ mg (clsName c) = some (.ref (C.cl c)) ∧ SMet C.K (C.cl c) m f ∧ Binds C.K fd ps []
theorem p_static {F : Fam} {S : ST} {e : Expr} {es : List Expr} {pos apos p : Pos} {os : O (List D)} {k c : Nat} {m nm : Str} {φ : List D → O D} {pl : F.I → Sem Bool} (cl : Sta F.P F.w F.C F.mg F.base k c m (spF F.C φ)) (ha : DAp F (e :: es) S os) (hn : nm = clsName c := by rfl) (hk : k ≤ F.k := by exact Nat.le_of_ble_eq_true rfl)
    (hg : ∀ i, Gl (F.X i) nm := by intro _; rfl) (hdb : (nm == ("__debug__" : Str)) = false := by decide)
    (he : ∀ i, starEach (e :: es) (F.X i).env = (false, eval e (F.X i).env) :: starEach es (F.X i).env := by intro _; rfl) (hpl : ∀ i, (backTo pos (starEach es (F.X i).env)).any (·.1) = false := by intro _; rfl)
    (ht : ∀ i, eval (.Call (.Attribute (.Name nm p) m apos) (e :: es) [] pos) (F.X i).env = (do
      let ov ← eval (.Name nm p) (F.X i).env
      standAt apos.atName
      let (f, first) ← holding [ov] (getMethod ov m (pl i))
      callWith pos f first (backTo pos (starEach (e :: es) (F.X i).env)) (backToKw pos (keywordEach [] (F.X i).env))) := by intro _; rfl) :
    DEp F (.Call (.Attribute (.Name nm p) m apos) (e :: es) [] pos) S (os.bind φ) := fun d q => by
  obtain ⟨ds, h1, q⟩ := O.bind_eq q
  obtain ⟨f, fd, ps, G, hm, sm, hb⟩ := cl
  subst hn
  have dn : DE F (.Name (clsName c) p) S S (.cst (.ref (F.C.cl c))) := de_glob hm (v := .ref (F.C.cl c)) rfl (fun _ => .cst _) hg hdb
  refine de_of (te := tSMeth (F.C.cl c) (spF F.C φ) E0 (anyE F (.Name (clsName c) p)) (anyA F (e :: es))) (fun i => pe_smeth (pl := pl i) (anyE_ok i) (by rw [F.hK i]; exact sm) (fn_at G) ((F.room i).mono hk) (by rw [F.hK i]; exact hb) pass0 (anyA_ok i) (he i) (hpl i) (ht i)) fun σ G H cx Q q' => ?_
  refine dn σ G H cx _ fun v G1 H1 m1 dv => ?_
  cases dv
  refine ⟨rfl, (ha ds h1).1 σ G1 H1 m1.cx _ fun vs G2 H2 m2 dl => ?_⟩
  exact ⟨G2, ds, d, q, m2.cx.sub, dl, fun v G3 H3 p dv => q' v G3 H3 ((m1.trans m2).pu p) dv⟩
/-! ### try that no exception leaves -/
def noxF (F : Fam) : Fam where
  I := F.I
  X := fun i => (F.X i).nox
  P := F.P
  w := F.w
  C := F.C
  mg := F.mg
  base := F.base
  N := F.N
  k := F.k
  hP := F.hP
  hw := F.hw
  hK := F.hK
  hmg := F.hmg
  hbase := F.hbase
  hN := F.hN
  nd := F.nd
  room := F.room
  calm := F.calm
theorem k_try {R : Type} {F : Fam} {body rest : List Stmt} {h₀ : ExceptHandler} {hs : List ExceptHandler} {S : ST} {m : O R} {P : R → Po} {pos : Pos} (h : DSk (noxF F) body S m (fun r => { P r with nx := fun S' => DS F rest S' (P r) })) : DSk F (.Try body (h₀ :: hs) [] [] pos :: rest) S m P := fun r q =>
  ds_cons (M := fun S' => DS F rest S' (P r)) (d1_of (te := anyS (noxF F) body) (fun i => ps_try_thru0 (anyS_ok (F := noxF F) i)) (h r q)) fun _ z => z
theorem k_nilT {R : Type} {F : Fam} {rest : List Stmt} {S : ST} {m : O R} {P : R → Po} (h : DSk F rest S m P) : DSk (noxF F) [] S m (fun r => { P r with nx := fun S' => DS F rest S' (P r) }) := fun r q => ds_nil (h r q)
end SL
/-! SLB: methods of own objects by tables; static methods with keywords. -/
namespace SL
open PySem L2 DL
/-- a method's call whose receiver never comes -/
theorem pe_never {X : Cx} {o : Expr} {ta : TE} {m : Str} {es : List Expr} {kws : List Keyword} {pos apos : Pos} {pl : Sem Bool} (he : PE X o ta)
    (ht : eval (.Call (.Attribute o m apos) es kws pos) X.env = (do
      let ov ← eval o X.env
      standAt apos.atName
      let (f, first) ← holding [ov] (getMethod ov m pl)
      callWith pos f first (backTo pos (starEach es X.env)) (backToKw pos (keywordEach kws X.env)))) : PE X (.Call (.Attribute o m apos) es kws pos) (fun σ H Q => ta σ H fun _ _ => False) :=
  ⟨fun pins s σ H Q I h => PySem.W.methodCall_KW (pl := pl) (thn (he.run pins s σ H _ I h) fun u s1 ⟨_, _, _, _, z⟩ => z.elim) ht⟩
section
variable {F : Fam} {S S1 S2 : ST} {a e : Expr} {es : List Expr} {kws : List Keyword} {pos apos : Pos} {m : Str} {c : Nat} {fs : List (Str × D)} {d : D} {oa : O D} {os : O (List D)} {φ : List D → O D}
theorem de_never (ho : DE F a S S1 (.obj c fs)) (hh : ¬ F.C.has c = true) (pl : F.I → Sem Bool)
    (ht : ∀ i, eval (.Call (.Attribute a m apos) es kws pos) (F.X i).env = (do
      let ov ← eval a (F.X i).env
      standAt apos.atName
      let (f, first) ← holding [ov] (getMethod ov m (pl i))
      callWith pos f first (backTo pos (starEach es (F.X i).env)) (backToKw pos (keywordEach kws (F.X i).env)))) : DE F (.Call (.Attribute a m apos) es kws pos) S S2 d :=
  de_of (te := fun σ H Q => anyE F a σ H fun _ _ => False) (fun i => pe_never (pl := pl i) (anyE_ok i) (ht i)) fun σ G H cx Q q => ho σ G H cx _ fun v G1 H1 m1 dv => hh (den_has dv)
def MtH (F : Fam) (m : Str) (φ : List D → O D) : Prop := ∀ x ds d, φ (x :: ds) = .ok d → ∃ cn fs, x = .obj cn fs ∧ (F.C.has cn = true → ∃ k φ', k ≤ F.k ∧ Met F.P F.w F.C F.mg F.base k cn m (spF F.C φ') ∧ fs.lookup m = none ∧ φ' (x :: ds) = .ok d)
def MtHK (F : Fam) (m : Str) (φ : List D → O D) (ks : List Str) (ix : List Nat) : Prop := ∀ x ds d, φ (x :: perm ix ds) = .ok d → ∃ cn fs, x = .obj cn fs ∧ (F.C.has cn = true → ∃ k φ', k ≤ F.k ∧ MetK F.P F.w F.C F.mg F.base k cn m (spF F.C φ') ks ix ∧ fs.lookup m = none ∧ φ' (x :: perm ix ds) = .ok d)
theorem q_meth (mt : MtH F m φ) (ho : DEp F a S oa) (ha : DAp F (e :: es) S os)
    (pl : F.I → Sem Bool) (he : ∀ i, starEach (e :: es) (F.X i).env = (false, eval e (F.X i).env) :: starEach es (F.X i).env := by intro _; rfl) (hpl : ∀ i, (backTo pos (starEach es (F.X i).env)).any (·.1) = false := by intro _; rfl)
    (ht : ∀ i, eval (.Call (.Attribute a m apos) (e :: es) [] pos) (F.X i).env = (do
      let ov ← eval a (F.X i).env
      standAt apos.atName
      let (f, first) ← holding [ov] (getMethod ov m (pl i))
      callWith pos f first (backTo pos (starEach (e :: es) (F.X i).env)) (backToKw pos (keywordEach [] (F.X i).env))) := by intro _; rfl) : DEp F (.Call (.Attribute a m apos) (e :: es) [] pos) S (oa.bind fun x => os.bind fun ds => φ (x :: ds)) := fun d q => by
  obtain ⟨x, h1, q⟩ := O.bind_eq q
  obtain ⟨ds, h2, q⟩ := O.bind_eq q
  obtain ⟨cn, fs, e1, hh⟩ := mt x ds d q
  subst e1
  by_cases hc : F.C.has cn = true
  · obtain ⟨k, φ', hk, hm, hn, hq⟩ := hh hc
    exact de_meth hm (ho _ h1) (ha _ h2).1 hq hn hk pl he hpl ht
  · exact de_never (ho _ h1) hc pl ht
theorem q_meth0 (mt : MtH F m φ) (ho : DEp F a S oa)
    (pl : F.I → Sem Bool)
    (ht : ∀ i, eval (.Call (.Attribute a m apos) [] [] pos) (F.X i).env = (do
      let ov ← eval a (F.X i).env
      standAt apos.atName
      let (f, first) ← holding [ov] (getMethod ov m (pl i))
      callWith pos f first (backTo pos (starEach [] (F.X i).env)) (backToKw pos (keywordEach [] (F.X i).env))) := by intro _; rfl) : DEp F (.Call (.Attribute a m apos) [] [] pos) S (oa.bind fun x => φ [x]) := fun d q => by
  obtain ⟨x, h1, q⟩ := O.bind_eq q
  obtain ⟨cn, fs, e1, hh⟩ := mt x [] d q
  subst e1
  by_cases hc : F.C.has cn = true
  · obtain ⟨k, φ', hk, hm, hn, hq⟩ := hh hc
    exact de_meth0 hm (ho _ h1) hq hn hk pl ht
  · exact de_never (ho _ h1) hc pl ht
theorem q_methK {ks : List Str} {ix : List Nat} (mt : MtHK F m φ ks ix) (ho : DEp F a S oa) (ha : DKp F kws S os) (hl : kws.length = ks.length := by rfl)
    (pl : F.I → Sem Bool) (hall : ∀ i, (backToKw pos (keywordEach kws (F.X i).env)).all (·.1.isSome) = true := by intro _; rfl)
    (hks : ∀ i, (backToKw pos (keywordEach kws (F.X i).env)).filterMap (·.1) = ks := by intro _; rfl) (hpl : ∀ i, ((backTo pos (starEach [] (F.X i).env)).any (·.1) || (backToKw pos (keywordEach kws (F.X i).env)).any (·.1.isNone)) = false := by intro _; rfl)
    (ht : ∀ i, eval (.Call (.Attribute a m apos) [] kws pos) (F.X i).env = (do
      let ov ← eval a (F.X i).env
      standAt apos.atName
      let (f, first) ← holding [ov] (getMethod ov m (pl i))
      callWith pos f first (backTo pos (starEach [] (F.X i).env)) (backToKw pos (keywordEach kws (F.X i).env))) := by intro _; rfl) : DEp F (.Call (.Attribute a m apos) [] kws pos) S (oa.bind fun x => os.bind fun ds => φ (x :: perm ix ds)) := fun d q => by
  obtain ⟨x, h1, q⟩ := O.bind_eq q
  obtain ⟨ds, h2, q⟩ := O.bind_eq q
  obtain ⟨cn, fs, e1, hh⟩ := mt x ds d q
  subst e1
  by_cases hc : F.C.has cn = true
  · obtain ⟨k, φ', hk, hm, hn, hq⟩ := hh hc
    obtain ⟨h3, h4⟩ := ha ds h2
    exact de_methK hm (ho _ h1) h3 hq hn (h4.trans hl) hk pl hall hks hpl ht
  · exact de_never (ho _ h1) hc pl ht
end
/-! ### static methods, by keywords -/
def tSMethN (C : Addr) (n : Nat) (sp : Sp) (gV : List V → List V → List V) (E : XK) (ta : TE) (tk : TA) : TE := fun σ H Q => ta σ H fun x H1 => x = .ref C ∧ tk σ H1 fun zs H2 => zs.length = n ∧ sp (gV [] zs) H2 Q E
theorem pe_smethK {X : Cx} {CX : CXT} {k : Nat} {C f : Addr} {fd : FuncData} {ps ks : List Str} {sp : Sp} {E : XK} {o : Expr} {kws : List Keyword} {m : Str} {pos apos : Pos} {ta : TE} {tk : TA} {pl : Sem Bool} {g : List Value → List Value → List Value} {gV : List V → List V → List V}
    (he : PE X o ta) (c : SMet X.K C m f) (G : FnOk X.prog X.w X.K X.mg X.base CX k f fd ps sp) (hr : Room k X.A) (hb : KBn X.K fd ps 0 ks g gV) (hx : Passes CX X E) (hkw : PK X kws tk)
    (hall : (backToKw pos (keywordEach kws X.env)).all (·.1.isSome) = true) (hks : (backToKw pos (keywordEach kws X.env)).filterMap (·.1) = ks)
    (hpl : ((backTo pos (starEach [] X.env)).any (·.1) || (backToKw pos (keywordEach kws X.env)).any (·.1.isNone)) = false)
    (ht : eval (.Call (.Attribute o m apos) [] kws pos) X.env = (do
      let ov ← eval o X.env
      standAt apos.atName
      let (f, first) ← holding [ov] (getMethod ov m pl)
      callWith pos f first (backTo pos (starEach [] X.env)) (backToKw pos (keywordEach kws X.env)))) :
    PE X (.Call (.Attribute o m apos) [] kws pos) (tSMethN C ks.length sp gV E ta tk) := by
  refine ⟨fun pins s σ H Q I h => ?_⟩
  refine PySem.W.methodCall_KW (pl := pl) (thn (he.run pins s σ H _ I h) fun u s1 ⟨x, H1, I1, rx, ex, q⟩ => ?_) ht
  subst ex
  obtain rfl : u = Value.ref C := rx
  obtain ⟨p, rest, h1, h2⟩ := c.at_
  refine PySem.W.method_cls I1.kIn c.rd.ga (PySem.W.cls_bind I1.kIn c.rd.rd h1 (wpAny_call (PySem.W.sm_get (s := { s1 with toks := s1.toks + 1 }) I1.kIn h2 (PySem.W.handed_on rfl ?_))))
  have I2 := I1.tok (s1.toks + 1)
  refine PySem.W.callWith_KW0 (first := []) (h₀ := X.base) I.ok.mod.kin c.kp hall ?_ hpl
  refine thn (hkw.run pos pins _ σ H1 _ I2 q) fun ws s2 ⟨zs, H2, I3, rz, l2, q2⟩ => ⟨I3.kIn, ?_⟩
  rw [hks]
  exact run_fnN (us := []) (vs := []) G hr hb hx I3 .nil rz rfl l2 q2
def StaK (P : Program) (w : World) (C : Kc) (mg : Str → Option Value) (base : Heap) (k c : Nat) (m : Str) (sp : Sp) (ks : List Str) (ix : List Nat) : Prop := ∃ f fd ps, FnOk P w C.K mg base CX0 k f fd ps sp ∧ mg (clsName c) = some (.ref (C.cl c)) ∧ SMet C.K (C.cl c) m f ∧ KBn C.K fd ps 0 ks (fun us ws => us ++ perm ix ws) (fun vs zs => vs ++ perm ix zs)
theorem p_staticK {F : Fam} {S : ST} {kws : List Keyword} {pos apos p : Pos} {os : O (List D)} {k c : Nat} {m nm : Str} {φ : List D → O D} {ks : List Str} {ix : List Nat} {pl : F.I → Sem Bool} (cl : StaK F.P F.w F.C F.mg F.base k c m (spF F.C φ) ks ix) (ha : DKp F kws S os) (hl : kws.length = ks.length := by rfl) (hn : nm = clsName c := by rfl) (hk : k ≤ F.k := by exact Nat.le_of_ble_eq_true rfl)
    (hg : ∀ i, Gl (F.X i) nm := by intro _; rfl) (hdb : (nm == ("__debug__" : Str)) = false := by decide)
    (hall : ∀ i, (backToKw pos (keywordEach kws (F.X i).env)).all (·.1.isSome) = true := by intro _; rfl)
    (hks : ∀ i, (backToKw pos (keywordEach kws (F.X i).env)).filterMap (·.1) = ks := by intro _; rfl) (hpl : ∀ i, ((backTo pos (starEach [] (F.X i).env)).any (·.1) || (backToKw pos (keywordEach kws (F.X i).env)).any (·.1.isNone)) = false := by intro _; rfl)
    (ht : ∀ i, eval (.Call (.Attribute (.Name nm p) m apos) [] kws pos) (F.X i).env = (do
      let ov ← eval (.Name nm p) (F.X i).env
      standAt apos.atName
      let (f, first) ← holding [ov] (getMethod ov m (pl i))
      callWith pos f first (backTo pos (starEach [] (F.X i).env)) (backToKw pos (keywordEach kws (F.X i).env))) := by intro _; rfl) :
    DEp F (.Call (.Attribute (.Name nm p) m apos) [] kws pos) S (os.bind fun ds => φ (perm ix ds)) := fun d q => by
  obtain ⟨ds, h1, q⟩ := O.bind_eq q
  obtain ⟨f, fd, ps, G, hm, sm, hb⟩ := cl
  subst hn
  obtain ⟨h3, h4⟩ := ha ds h1
  have dn : DE F (.Name (clsName c) p) S S (.cst (.ref (F.C.cl c))) := de_glob hm (v := .ref (F.C.cl c)) rfl (fun _ => .cst _) hg hdb
  refine de_of (te := tSMethN (F.C.cl c) ks.length (spF F.C φ) (fun vs zs => vs ++ perm ix zs) E0 (anyE F (.Name (clsName c) p)) (anyK F kws)) (fun i => pe_smethK (pl := pl i) (anyE_ok i) (by rw [F.hK i]; exact sm) (fn_at G) ((F.room i).mono hk) (by rw [F.hK i]; exact hb) pass0 (anyK_ok i) (hall i) (hks i) (hpl i) (ht i)) fun σ G H cx Q q' => ?_
  refine dn σ G H cx _ fun v G1 H1 m1 dv => ?_
  cases dv
  refine ⟨rfl, h3 σ G1 H1 m1.cx _ fun vs G2 H2 m2 dl => ⟨by rw [dl.length]; exact h4.trans hl, ?_⟩⟩
  exact ⟨G2, _, d, q, m2.cx.sub, dl.perm ix, fun v G3 H3 p dv => q' v G3 H3 ((m1.trans m2).pu p) dv⟩
end SL
/-! SLC: sorted(set(xs)) of whole numbers, xs.extend(new list), join of drawn texts. -/
namespace SetL
open PySem PySem.Spec PyProof.Rows L2
/-! ### sorted without duplicates -/
def insU (k : Int) : List Int → List Int
  | [] => [k]
  | x :: l => if k < x then k :: x :: l else if k = x then x :: l else x :: insU k l
def sortU : List Int → List Int
  | [] => []
  | k :: l => insU k (sortU l)
theorem mem_insU (k : Int) : ∀ (l : List Int) (j : Int), j ∈ insU k l ↔ j = k ∨ j ∈ l
  | [], j => by simp [insU]
  | x :: l, j => by
    unfold insU
    by_cases h1 : k < x
    · rw [if_pos h1]; simp
    · rw [if_neg h1]
      by_cases h2 : k = x
      · rw [if_pos h2]; subst h2; simp
      · rw [if_neg h2, List.mem_cons, mem_insU k l j, List.mem_cons]
        constructor
        · rintro (h | h | h)
          · exact .inr (.inl h)
          · exact .inl h
          · exact .inr (.inr h)
        · rintro (h | h | h)
          · exact .inr (.inl h)
          · exact .inl h
          · exact .inr (.inr h)
theorem mem_sortU : ∀ (l : List Int) (j : Int), j ∈ sortU l ↔ j ∈ l
  | [], j => by simp [sortU]
  | k :: l, j => by
    unfold sortU
    rw [mem_insU, mem_sortU l j, List.mem_cons]
theorem rise_insU (k : Int) : ∀ (l : List Int), l.Pairwise (· < ·) → (insU k l).Pairwise (· < ·)
  | [], _ => by simp [insU]
  | x :: l, h => by
    obtain ⟨h1, h2⟩ := List.pairwise_cons.mp h
    unfold insU
    by_cases c1 : k < x
    · rw [if_pos c1]
      refine List.pairwise_cons.mpr ⟨fun y hy => ?_, h⟩
      rcases List.mem_cons.mp hy with e | e
      · rw [e]; exact c1
      · have := h1 y e; omega
    · rw [if_neg c1]
      by_cases c2 : k = x
      · rw [if_pos c2]; exact h
      · rw [if_neg c2]
        refine List.pairwise_cons.mpr ⟨fun y hy => ?_, rise_insU k l h2⟩
        rcases (mem_insU k l y).mp hy with e | e
        · omega
        · exact h1 y e
theorem rise_sortU : ∀ l : List Int, (sortU l).Pairwise (· < ·)
  | [] => List.Pairwise.nil
  | k :: l => rise_insU k _ (rise_sortU l)
/-- rising lists with the same members are one -/
theorem rise_ext : ∀ (l m : List Int), l.Pairwise (· < ·) → m.Pairwise (· < ·) → (∀ j, j ∈ l ↔ j ∈ m) → l = m
  | [], [], _, _, _ => rfl
  | [], x :: m, _, _, h => absurd ((h x).mpr List.mem_cons_self) (by simp)
  | x :: l, [], _, _, h => absurd ((h x).mp List.mem_cons_self) (by simp)
  | x :: l, y :: m, hl, hm, h => by
    obtain ⟨l1, l2⟩ := List.pairwise_cons.mp hl
    obtain ⟨m1, m2⟩ := List.pairwise_cons.mp hm
    have exy : x = y := by
      rcases List.mem_cons.mp ((h x).mp List.mem_cons_self) with e | e
      · exact e
      · rcases List.mem_cons.mp ((h y).mpr List.mem_cons_self) with e2 | e2
        · exact e2.symm
        · have := m1 x e; have := l1 y e2; omega
    subst exy
    rw [rise_ext l m l2 m2 fun j => ?_]
    constructor
    · intro hj
      rcases List.mem_cons.mp ((h j).mp (List.mem_cons_of_mem _ hj)) with e | e
      · have := l1 j hj; omega
      · exact e
    · intro hj
      rcases List.mem_cons.mp ((h j).mpr (List.mem_cons_of_mem _ hj)) with e | e
      · have := m1 j hj; omega
      · exact e
theorem rise_nodup {l : List Int} (h : l.Pairwise (· < ·)) : l.Nodup := List.Pairwise.imp (fun h e => by omega) h

/-! ### set(xs), xs a list of whole numbers -/
abbrev nS (w : World) : Obj := { cls := .type "set", dict := none, data := .set #[] 0 (.fresh 0 0 (!w.params.followText "set-order")) }
section
variable {P : Program} {w : World} {A : Around} {E : Value → Shared → Prop} {s : Shared}
theorem set_of_list {l : Addr} {its : Array Value} (ns : List Int) {Q : Value → Shared → Prop} (hh : A.handled = none) (hl : s.heap.IsList l its) (hi : IntsAre its.toList ns) (hb : ns.length + 1 < scanBound)
    (h : ∀ (h' : Heap) (tk c : Nat), SetR w h' s.heap.objs.size (fun j => decide (j ∈ ns)) c → (∀ b o, s.heap.get? b = some o → h'.get? b = some o) → Q (.ref s.heap.objs.size) { s with heap := h', toks := tk }) :
    wpAny (model P w) A (call (.type "set") [.ref l]) Q E s := by
  have sz : its.size = ns.length := by rw [← IntsAre.length hi, Array.length_toList]
  obtain ⟨c0, t0, mro⟩ := F.called_set.mro
  have made := F.called_set.made
  have sub := F.called_set.sub
  refine wpAny_call (codeAny_of_tree (show wpAny _ _ (callAny (.type "set") _) _ _ _ from wpAny_pure ⟨Code.quiet_builtin _ (by decide +kernel), codeAny_builtin F.entry_type_call ?_⟩))
  rw [Around.under_plain (weight_type_call_type "set" [.ref l] []) rfl]
  have k1 := F.called_set.notType
  have k2 := F.called_set.canCreate
  have k3 := F.typeCall_set_1 (.ref l)
  (repeat (any_goals (first | assumption | wp_step))); refine codeAny_mono (code_set_led1 (.ref l) (E := E) (Q₁ := fun ob s₁ => ob = .ref s.heap.objs.size ∧ s₁ = { s with heap := s.heap.push (nS w) }) ⟨rfl, rfl⟩) fun r s₁ hr => ?_
  cases r with
  | error e => exact hr
  | ok fl =>
    cases fl with
    | ret ob =>
      obtain ⟨rfl, rfl⟩ := hr
      have gS : (s.heap.push (nS w)).get? s.heap.objs.size = some (nS w) := Heap.get?_push_size _ rfl
      have tS : Shared.TypeIs { s with heap := s.heap.push (nS w) } (.ref s.heap.objs.size) "set" := ⟨_, gS, rfl⟩
      have li := F.called_set.init.lookup
      have bi := F.called_set.init.bind (.ref s.heap.objs.size)
      (repeat (any_goals (first | assumption | wp_step))); refine codeAny_mono (codeAny_call_builtin (R := wants (fun r s₂ => r = .none ∧ ∃ h' tk c, s₂ = { s with heap := h', toks := tk } ∧ SetR w h' s.heap.objs.size (fun j => decide (j ∈ ns)) c ∧ (∀ b o, s.heap.get? b = some o → h'.get? b = some o)) E) F.called_set.init.plain F.entry_set_init (check_set_init_1 tS ?_)) fun r₂ s₂ hr₂ => ?_
      · obtain ⟨ol, hol, hcl, nl, hdl⟩ := hl
        obtain ⟨ocls, odict, odata, oslots⟩ := ol
        simp only at hcl hdl
        subst hcl; subst hdl
        have hol' : (s.heap.push (nS w)).get? l = some { cls := .type "list", dict := odict, data := .seq its nl, slots := oslots } := Heap.get?_push_of_some _ hol
        have f1 := F.sub_list_set
        have f2 := F.sub_list_frozenset
        have f3 : (Value.type "list" == Value.type "dict") = false := by decide
        have l1 : (s.heap.push (nS w)).IsList l its := ⟨_, hol', rfl, nl, rfl⟩
        unfold Builtin.«set.__init__» noKeywords Builtin.Frozenset.updateFrom
        generalize hPI : pyIter = PI
        wp_walk
        subst hPI
        refine wpAny_pyIter_list l1 (wpAny_bind (wpAny_runValue ?_))
        have lS : l < s.heap.objs.size := Heap.lt_size hol
        have neI : l ≠ (s.heap.push (nS w)).objs.size := by rw [Heap.size_push]; exact Nat.ne_of_lt (Nat.lt_succ_of_lt lS)
        have nf : s.heap.objs.size ∉ [(s.heap.push (nS w)).objs.size, l] := by
          rw [Heap.size_push]
          simp only [List.mem_cons, List.not_mem_nil, or_false, not_or]
          exact ⟨Nat.ne_of_lt (Nat.lt_succ_self _), Nat.ne_of_gt lS⟩
        refine set_update_ints ((Walks.list (show A.in1.in1.in1.handled = none by simp [hh]) _ l neI its).toS) s.heap.objs.size nf ns sz hb (fun i v hv => ?_) (its.size - 0) 0 _ (by omega) (Nat.zero_le _) ⟨⟨_, Heap.get?_push_size _ rfl, rfl, rfl⟩, (l1.push _)⟩ ?hS0 ?hR
        · have hin : i < ns.length := by rw [← sz]; exact (Array.getElem?_eq_some_iff.mp hv).1
          obtain ⟨t, e⟩ := PyProof.Rows.IntsAre.int_at hi i v (by rw [Array.getElem?_toList]; exact hv)
          exact ⟨ns[i], t, List.getElem?_eq_getElem hin, by rw [e, List.getD_eq_getElem?_getD, List.getElem?_eq_getElem hin] <;> rfl⟩
        case hS0 => exact ⟨0, Nat.le_refl 0, setR_new_at (Heap.get?_push_of_some _ gS)⟩
        case hR =>
          intro s' c' hm hc' hS'
          obtain ⟨h', g2, d', tk', os'⟩ := s'
          obtain rfl : g2 = s.gens := hm.gens
          obtain rfl : d' = s.drawn := hm.drawn
          obtain rfl : os' = s.os := hm.os
          show wpAny _ _ _ _ _ _
          refine wpAny_pure (show wpAny _ _ (ret Value.none) _ _ _ from wpAny_pure ⟨rfl, h', tk', c', rfl, hS', fun b o e => ?_⟩)
          have b0 : b < s.heap.objs.size := Heap.lt_size e
          have b2 : b ≠ (s.heap.push (nS w)).objs.size := by rw [Heap.size_push]; exact Nat.ne_of_lt (Nat.lt_succ_of_lt b0)
          exact hm.heap b o (by simp only [List.mem_cons, List.not_mem_nil, or_false, not_or]; exact ⟨Nat.ne_of_lt b0, b2⟩) (Heap.get?_push_of_some _ (Heap.get?_push_of_some _ e))
      · cases r₂ with
        | error e => exact hr₂
        | ok fl₂ =>
          cases fl₂ with
          | ret r =>
            obtain ⟨rfl, h', tk, c', rfl, hS', hk'⟩ := hr₂
            (repeat (any_goals (first | assumption | wp_step))); exact h _ _ _ hS' hk'
          | _ => exact hr₂.elim
    | _ => exact hr.elim
end
/-- how many a set has -/
theorem setR_many {w : World} {h : Heap} {a : Addr} {ns : List Int} {c : Nat} (R : SetR w h a (fun j => decide (j ∈ ns)) c) : c = (sortU ns).length := by
  obtain ⟨o, es, ep, t, ho, hex, hd, g, nd, hm, hb, hf, hn, hr, hl⟩ := R
  have p : (es.toList.map keyOf).Perm (sortU ns) := (List.perm_ext_iff_of_nodup nd (rise_nodup (rise_sortU ns))).mpr fun k => by rw [mem_sortU, ← show _ ↔ k ∈ ns from decide_eq_true_iff]; first | exact hm k | exact (hm k).symm
  have := p.length_eq
  rw [List.length_map, Array.length_toList] at this
  omega
/-- sorted(set(xs)) -/
def tSS (K : PySem.W.Frag) (ta : TE) : TE := fun σ H Q => ta σ H fun x H1 => ∃ (l : Addr) (ns : List Int), x = .ref l ∧ SqL K H1 l (ns.map V.int) ∧ ns.length ≤ 4000 ∧ (sortU ns).length < 64 ∧ ∀ p, H1 p = none → Q (.ref p) (upd H1 p (.lst ((sortU ns).map V.int)))
theorem pe_sortSet {X : Cx} {a : Expr} {ta : TE} {p p2 q pos : Pos} (hg : Gl X "sorted") (hm : X.mg "sorted" = none) (hg2 : Gl X "set") (hm2 : X.mg "set" = none) (ha : PE X a ta) (hc : X.calm = true)
    (na : starEach [a] X.env = (false, eval a X.env) :: starEach [] X.env := by rfl) : PE X (.Call (.Name "sorted" p) [.Call (.Name "set" p2) [a] [] q] [] pos) (tSS X.K ta) := by
  refine ⟨fun pins s σ H Q I h => ?_⟩
  refine Call_ (ld_blt I hg hm (by decide +kernel : bootBuiltins "sorted" = some (.builtin "sorted")) (PyProof.Rows.callWith_builtin1 (PyProof.Rows.args_cons ?_ rfl) rfl rfl))
  refine Call_ (ld_blt I hg2 hm2 (by decide +kernel : bootBuiltins "set" = some (.type "set")) (PyProof.Rows.callWith_type1 (PyProof.Rows.args_cons (thn (ha.run pins s σ H _ I h) fun v s1 ⟨x, H1, I1, r1, q1⟩ => PyProof.Rows.args_nil ?_) na) na rfl))
  obtain ⟨l, ns, rfl, hq, hl, h64, q1⟩ := q1
  cases r1
  obtain ⟨its, r, pl, hz⟩ := I1.list hq
  refine set_of_list ns (I1.ok.hd hc) pl.isList (by simpa using RZ.intsAre_vals r) (by unfold scanBound; omega) fun h' tk c R hk => PyProof.Rows.args_nil ?_
  have en := setR_many R
  have I2 : Inv X pins σ H1 { s1 with heap := h', toks := tk } := I1.kept fun b o e => hk b o e
  refine sorted_set (s := { s1 with heap := h', toks := tk }) R (I1.ok.hd hc) (by rw [en]; exact h64) fun s' p out c' ns' k g o hp hg' hi' hs' hm' hl' => ?_
  have e2 : ns' = sortU ns := rise_ext ns' _ hs' (rise_sortU ns) fun j => by rw [hm' j, mem_sortU]; simp
  subst e2
  have hn : H1 p = none := I2.hok.fresh hp
  have J : Inv X pins σ (upd H1 p (.lst ((sortU ns).map V.int))) { ({ s1 with heap := h', toks := tk } : Shared) with heap := s'.heap, gens := s'.gens, drawn := s'.drawn, toks := s'.toks } :=
    I2.call (ch := []) (Un.laid k hp hn) (I2.hok.laid k hp ⟨by rw [List.length_map, sizeLine_eq]; omega, out.toList, c', vals_of_ints hi', hg'⟩) (by rw [g]; exact I2.bare) (fun _ z => nomatch z)
  have e : s' = { s1 with heap := s'.heap, gens := s'.gens, drawn := s'.drawn, toks := s'.toks } := by
    cases s'; cases s1; cases o; rfl
  rw [e]
  exact ⟨.ref p, _, J, rfl, q1 p hn⟩
end SetL
/-! SLD: SLC's rules by outcomes. -/
namespace DL
open PySem L2
section
variable {F : Fam} {S S1 : ST} {e : Expr} {pos p p2 q1 cpos apos : Pos} {rest : List Stmt} {P : Po}
theorem do_sortSet {ns : List Int} (hm : F.mg "sorted" = none) (hm2 : F.mg "set" = none) (h : DE F e S S1 (.lst (ns.map D.int))) (hl : ns.length ≤ 4000) (h64 : (SetL.sortU ns).length < 64)
    (hg : ∀ i, Gl (F.X i) "sorted" := by intro _; rfl) (hg2 : ∀ i, Gl (F.X i) "set" := by intro _; rfl) (na : ∀ i, starEach [e] (F.X i).env = (false, eval e (F.X i).env) :: starEach [] (F.X i).env := by intro _; rfl) :
    DO F (.Call (.Name "sorted" p) [.Call (.Name "set" p2) [e] [] cpos] [] pos) S S1 ((SetL.sortU ns).map D.int) :=
  do_of (te := SetL.tSS F.C.K (anyE F e)) (fun i => by
    have := SetL.pe_sortSet (p := p) (p2 := p2) (q := cpos) (pos := pos) (hg i) (by rw [F.hmg i]; exact hm) (hg2 i) (by rw [F.hmg i]; exact hm2) (anyE_ok (e := e) i) (F.calm i) (na i)
    rw [F.hK i] at this; exact this) fun σ G H c Q q => h σ G H c _ fun v G1 H1 m dv => by
    cases dv with
    | lst h1 h2 =>
      have e := denL_int h2
      subst e
      refine ⟨_, ns, rfl, m.cx.sub.seq h1, hl, h64, fun p hp => ?_⟩
      have gp : G1 p = none := m.cx.sub.free hp
      refine q p _ G1 (upd H1 p (.lst ((SetL.sortU ns).map V.int))) (m.trans (m.cx.mv (fun a o h => by rw [upd_ne (ne_of_none h hp)]; exact h) (fun _ _ h => h) (fun a o h => by rw [upd_ne (ne_of_none h gp)]; exact m.cx.sub _ _ h) fun _ _ h => h)) ?_ gp upd_same (denL_ints _)
      cases r : H p with
      | none => rfl
      | some o => exact absurd hp (m.go.dom p (by rw [r]; simp))
theorem do_listRg1 {a : Expr} {j : Int} (hl : F.mg "list" = none) (hm : F.mg "range" = none) (ha : DE F a S S1 (.int j)) (ok : RgOk 0 j)
    (hg : ∀ l, Gl (F.X l) "list" := by intro _; rfl) (hg2 : ∀ l, Gl (F.X l) "range" := by intro _; rfl)
    (n1 : ∀ l, starEach [.Call (.Name "range" p2) [a] [] q1] (F.X l).env = (false, eval (.Call (.Name "range" p2) [a] [] q1) (F.X l).env) :: starEach [] (F.X l).env := by intro _; rfl)
    (n2 : ∀ l, starEach [a] (F.X l).env = (false, eval a (F.X l).env) :: starEach [] (F.X l).env := by intro _; rfl) :
    DO F (.Call (.Name "list" p) [.Call (.Name "range" p2) [a] [] q1] [] pos) S S1 (rgD 0 j) :=
  do_of (te := tLstRg (tRg1 (anyE F a))) (fun l => pe_listRg (F.calm l) (hg l) (by rw [F.hmg]; exact hl) (prg_1 (hg2 l) (by rw [F.hmg]; exact hm) (anyE_ok l) (n2 l)) (n1 l)) fun σ G H c Q q =>
    ha σ G H c _ fun v G1 H1 m d1 => by
      cases d1
      refine ⟨j, rfl, ok, fun p hp => ?_⟩
      have sm : Same H1 (upd H1 p (.lst (rgV 0 j))) := fun a u hh => by rw [upd_ne (ne_of_none hh hp)]; exact hh
      exact q p _ G1 _ (m.trans (m.cx.mv sm (fun _ _ h => h) (m.cx.sub.trans sm) fun _ _ h => h)) (back_none m.go hp) (m.cx.sub.free hp) upd_same (den_rg 0 j)
/-- x.extend(e), x an own list, e a new list -/
theorem ds_extend {j : Nat} {x : Str} {gs es : List D} (he : DO F e S S1 es) (hj0 : ∃ es, S.s[j]? = some (some (.own (.lst es)))) (hj : S1.s[j]? = some (some (.own (.lst gs)))) (q : DS F rest (S1.setO j (gs ++ es)) P) (hl : gs.length + es.length ≤ sizeLine)
    (hp : ∀ i, PE (F.X i) (.Call (.Attribute (.Name x q1) "extend" apos) [e] [] cpos) (tBM (F.X i).K "list" rExtend (tVar j) (tCons (anyE F e) tNil)) := by
      intro i; exact pe_bm PySem.F.plainAttrs_list PySem.F.slot_list_extend PySem.F.type_list_extend mt_extend (pv _) (pa_cons (anyE_ok i) pa_nil))
    (hs : ∀ i, swapsWith (.Call (.Attribute (.Name x q1) "extend" apos) [e] [] cpos) none pos.line (F.X i).env = pure false := by intro _; rfl) : DS F (.Expr (.Call (.Attribute (.Name x q1) "extend" apos) [e] [] cpos) pos :: rest) S P := by
  refine ds_cons (M := fun S3 => S3 = S1.setO j (gs ++ es)) (d1_of (te := tDrop (tBM F.C.K "list" rExtend (tVar j) (tCons (anyE F e) tNil))) (fun i => ps_expr (by have := hp i; rw [F.hK i] at this; exact this) (hs i)) ?_) fun _ z => z ▸ q
  intro σ G H c E m
  obtain ⟨es0, hj0⟩ := hj0
  obtain ⟨a0, _, s1, _, s3, s4⟩ := c.ow j _ hj0
  obtain ⟨vs0, rfl, _⟩ := s4.isL
  refine ⟨.ref a0, s1, .inl ⟨rfl, vs0, SqL.of s3⟩, ?_⟩
  refine he σ G H c _ fun p ev G1 H1 m1 p0 p1 p2 dl => ?_
  obtain ⟨a, _, h1, h2, h3, h4⟩ := m1.cx.ow j _ hj
  rw [s1] at h1; cases h1
  obtain ⟨vs, e4, h5⟩ := h4.isL
  subst e4
  refine ⟨a0, p, vs, ev, rfl, rfl, h3, p2, by rw [h5.length, dl.length]; exact hl, ?_⟩
  exact m.nx _ _ _ _ (m1.mw.trans (m1.cx.putO hj s1 h2 (.lst (h5.append dl))).mw) rfl
end
end DL
namespace SL
open PySem L2 DL
def sortSet : D → O (List D)
  | .lst ds => op2 (ints? ds) fun ns => if ns.length ≤ 4000 ∧ (SetL.sortU ns).length < 64 then .ok ((SetL.sortU ns).map D.int) else .bad
  | _ => .bad
section
variable {F : Fam} {S : ST} {o e : Expr} {pos p p2 q1 cpos apos : Pos} {oa oe : O D} {os : O (List D)} {rest : List Stmt} {R : Type} {P : R → Po}
theorem o_sortSet (hm : F.mg "sorted" = none) (hm2 : F.mg "set" = none) (h : DEp F e S oe)
    (hg : ∀ i, Gl (F.X i) "sorted" := by intro _; rfl) (hg2 : ∀ i, Gl (F.X i) "set" := by intro _; rfl) (na : ∀ i, starEach [e] (F.X i).env = (false, eval e (F.X i).env) :: starEach [] (F.X i).env := by intro _; rfl) :
    DOp F (.Call (.Name "sorted" p) [.Call (.Name "set" p2) [e] [] cpos] [] pos) S (oe.bind sortSet) := fun ds q => by
  obtain ⟨x, h1, q⟩ := O.bind_eq q
  cases x with
  | lst xs =>
    obtain ⟨ns, h2, q⟩ := op2_eq (show op2 (ints? xs) _ = _ from q)
    split at q
    · rename_i c
      cases q
      have e := ints?_eq h2
      subst e
      exact do_sortSet hm hm2 (h _ h1) c.1 c.2 hg hg2 na
    · cases q
  | _ => cases q
theorem o_listRg1 {a : Expr} (hl : F.mg "list" = none) (hm : F.mg "range" = none) (ha : DEp F a S oa)
    (hg : ∀ l, Gl (F.X l) "list" := by intro _; rfl) (hg2 : ∀ l, Gl (F.X l) "range" := by intro _; rfl)
    (n1 : ∀ l, starEach [.Call (.Name "range" p2) [a] [] q1] (F.X l).env = (false, eval (.Call (.Name "range" p2) [a] [] q1) (F.X l).env) :: starEach [] (F.X l).env := by intro _; rfl)
    (n2 : ∀ l, starEach [a] (F.X l).env = (false, eval a (F.X l).env) :: starEach [] (F.X l).env := by intro _; rfl) :
    DOp F (.Call (.Name "list" p) [.Call (.Name "range" p2) [a] [] q1] [] pos) S (oa.bind fun y => rgL (.int 0) y) := fun r q => by
  obtain ⟨y, h2, q⟩ := O.bind_eq q
  obtain ⟨i, h3, qq⟩ := O.bind_eq (show O.bind _ _ = _ from q)
  obtain ⟨j, h4, q2⟩ := O.bind_eq qq
  cases h3
  split at q2
  · rename_i hk
    have e1 := asI_eq h4
    subst e1
    cases q2
    exact do_listRg1 hl hm (ha _ h2) (RgOk.of_le (by omega) (by omega) (by omega) (by omega)) hg hg2 n1 n2
  · cases q2
theorem k_extend {j : Nat} {x : Str} {gs : List D} {mr : List D → O R} (he : DOp F e S os) (hj : S.s[j]? = some (some (.own (.lst gs)))) (hr : ∀ es, DSk F rest (S.setO j (gs ++ es)) (mr es) P)
    (hp : ∀ i, PE (F.X i) (.Call (.Attribute (.Name x q1) "extend" apos) [e] [] cpos) (tBM (F.X i).K "list" rExtend (tVar j) (tCons (anyE F e) tNil)) := by
      intro i; exact pe_bm PySem.F.plainAttrs_list PySem.F.slot_list_extend PySem.F.type_list_extend mt_extend (pv _) (pa_cons (anyE_ok i) pa_nil))
    (hs : ∀ i, swapsWith (.Call (.Attribute (.Name x q1) "extend" apos) [e] [] cpos) none pos.line (F.X i).env = pure false := by intro _; rfl) : DSk F (.Expr (.Call (.Attribute (.Name x q1) "extend" apos) [e] [] cpos) pos :: rest) S (os.bind fun es => sized (gs.length + es.length) (mr es)) P := fun r q => by
  obtain ⟨es, h1, q⟩ := O.bind_eq q
  obtain ⟨h2, q⟩ := sized_eq q
  exact ds_extend (he es h1) ⟨gs, hj⟩ hj (hr es r q) (Nat.le_trans h2 (by decide)) hp hs
end
section
variable {F : Fam} {bb : Addr} {s : List (Option DV)} {o e : Expr} {pos apos : Pos} {ma mb : M D}
theorem me_join (ho : DEm F bb o s ma) (he : DEm F bb e s mb)
    (hs : ∀ i, starEach [e] (F.X i).env = [(false, eval e (F.X i).env)] := by intro _; rfl) (hbase : ∀ i, attributeBase o "join" (F.X i).env (eval o (F.X i).env) = eval o (F.X i).env := by intro _; rfl) (hline : (apos.endLine == pos.line) = true := by rfl) :
    DEm F bb (.Call (.Attribute o "join" apos) [e] [] pos) s (ma.bind fun x => mb.bind fun y => M.up (t_join x y)) := fun g d g' h => by
  obtain ⟨x, g1, h1, h⟩ := M.bind_eq h
  obtain ⟨y, g2, h2, h⟩ := M.bind_eq h
  obtain ⟨h', e⟩ := M.up_eq h
  subst e
  clear h
  have ht : ∃ (a : Str) (ys : List Str), x = .str a ∧ (y = .lst (ys.map D.str) ∨ y = .tup (ys.map D.str)) ∧ (ys.map (·.length)).sum + ys.length * a.length ≤ 16777216 ∧ d = .str (Txt.join a ys) := by
    unfold t_join at h'
    split at h'
    · rename_i a ds
      obtain ⟨ys, k1, k⟩ := op2_eq h'
      split at k
      · rename_i c
        cases k
        cases strs?_eq k1
        have c := of_decide_eq_true c
        exact ⟨a, ys, rfl, .inl rfl, by omega, rfl⟩
      · cases k
    · rename_i a ds
      obtain ⟨ys, k1, k⟩ := op2_eq h'
      split at k
      · rename_i c
        cases k
        cases strs?_eq k1
        have c := of_decide_eq_true c
        exact ⟨a, ys, rfl, .inr rfl, by omega, rfl⟩
      · cases k
    · cases h'
  obtain ⟨a, ys, rfl, hy, hc, rfl⟩ := ht
  refine de_of (te := tM1 (fun x xs H Q => ∃ a p, ∃ ys : List Str, x = .str a ∧ xs = [.ref p] ∧ (SqL F.C.K H p (ys.map V.str) ∨ SqT F.C.K H p (ys.map V.str)) ∧ (ys.map (·.length)).sum + ys.length * a.length ≤ 16777216 ∧ Q (.str (Txt.join a ys)) H) (anyE F o) (anyE F e))
    (fun i => pe_m1 PySem.F.slot_str_join PySem.F.type_str_join (by have := mt_join (X := F.X i); rw [F.hK i] at this; exact this) (anyE_ok i) (anyE_ok i) (hs i) (hbase i) hline) fun σ G H c Q q => ?_
  refine (ho _ _ _ h1) σ G H c _ fun u G1 H1 m1 d1 => ⟨by cases d1; exact ⟨_, rfl⟩, (he _ _ _ h2) σ G1 H1 m1.cx _ fun v G2 H2 m2 d2 => ?_⟩
  cases d1
  rcases hy with rfl | rfl
  · cases d2 with
    | lst k1 k2 =>
      cases denL_strs_eq k2
      exact ⟨a, _, ys, rfl, rfl, .inl (m2.cx.sub.seq k1), hc, q _ _ _ (m1.trans m2) (.str _)⟩
  · cases d2 with
    | tup k1 k2 =>
      cases denL_strs_eq k2
      exact ⟨a, _, ys, rfl, rfl, .inr (same_t m2.cx.sub k1), hc, q _ _ _ (m1.trans m2) (.str _)⟩
end
end SL
namespace SL
open PySem L2 DL
section
variable {F : Fam} {S : ST} {iter elt : Expr} {oi : O (List D)} {scope : Scope}
theorem lc_map3 {n1 n2 n3 : Str} {px py pz pt : Pos} {i j l k2 : Nat} {own : List (Str × Nat)} {f : D → D → D → O D} (hi : DIp F (.Tuple [.Name n1 px, .Name n2 py, .Name n3 pz] k2 pt) iter S oi) (he : ∀ x y z, DEp (F.blk scope) elt ((((⟨hidS S.s (own.map (·.2)), S.g⟩ : ST).set i x).set j y).set l z) (f x y z)) (hn : noOwns S.s (own.map (·.2)) = true := by rfl) (hii : i ∈ own.map (·.2) := by decide) (hj : j ∈ own.map (·.2) := by decide) (hl : l ∈ own.map (·.2) := by decide)
    (g1 : ∀ (d : D) (S : ST), DG (F.blk scope) (.Name n1 px) d S (S.set i d) [i] := by intro _ _; exact dg_name) (g2 : ∀ (d : D) (S : ST), DG (F.blk scope) (.Name n2 py) d S (S.set j d) [j] := by intro _ _; exact dg_name) (g3 : ∀ (d : D) (S : ST), DG (F.blk scope) (.Name n3 pz) d S (S.set l d) [l] := by intro _ _; exact dg_name) : LcE F scope S elt (.Tuple [.Name n1 px, .Name n2 py, .Name n3 pz] k2 pt) iter [] own (oi.bind (mapO fun d => un3 d f)) := fun r q => by
  obtain ⟨ds, h1, q⟩ := O.bind_eq q
  obtain ⟨h2, q⟩ := sized_eq q
  refine ev_lcG (β := fun d => un3 d fun a b c => .ok (a, b, c)) (st := fun y => (((⟨hidS S.s (own.map (·.2)), S.g⟩ : ST).set i y.1).set j y.2.1).set l y.2.2) (tt := fun _ => .ok true) (js := [i, j, l]) (hi ds h1) (fun d y z => dg_un3 z g1 g2 g3) (fun m z => by
    rcases List.mem_cons.mp z with rfl | z
    · exact hii
    · rcases List.mem_cons.mp z with rfl | z
      · exact hj
      · rw [List.mem_singleton.mp z]; exact hl) (fun y => keep_name3 hn hii hj hl) (fun y => rfl) (fun y => ts_nil) (fun y => he y.1 y.2.1 y.2.2) h2 ?_
  rw [← q]
  congr 1
  funext d
  rw [un3_bind, un3_bind]
  rfl
end
end SL
/-! PF: the program's functions by outcomes; printed by slend.py. -/
namespace SL
open PySem L2 DL
def natOf : D → Nat
  | .int i => i.natAbs
  | _ => 0
def f_is_integer (v_value : D) : O D :=
  (tr (O.ite ((tr ((O.ok v_value).bind (isiB "int"))).bind asB) ((tr (((tr ((O.ok v_value).bind (isiB "bool"))).bind asB).bind fun k => O.ok (!k))).bind asB) (O.ok false)))
def f_is_between (v_value v_least v_most : D) : O D :=
  (tr (O.ite (((O.cons (O.ok v_value) (O.ok [])).bind (l1 f_is_integer)).bind asB) ((tr (chainO (O.ok v_least) (O.ok v_value) (O.ok v_most) c_le c_le)).bind asB) (O.ok false)))
def f_are_small (v_value v_least v_most : D) : O D :=
  (O.ite (O.ite (((tr ((O.ok v_value).bind (isiB "str"))).bind asB).bind fun k => O.ok (!k)) (O.ok true) ((chainO (O.ok v_least) ((O.cons (O.ok v_value) (O.ok [])).bind bi_len) (O.ok v_most) c_le c_le).bind fun k => O.ok (!k))) (O.ok (D.bl false)) ((O.cons ((((O.ok v_value).bind itD).bind (mapO (fun v_sign => (tr (chainO (O.ok (D.str "a")) (O.ok v_sign) (O.ok (D.str "z")) c_le c_le))))).bind fun ds => O.ok (D.lst ds)) (O.ok [])).bind bi_all))
def f_is_in_order (v_value : D) : O D :=
  ((O.cons ((((O.ok (D.int 1)).bind fun x => ((O.cons (O.ok v_value) (O.ok [])).bind bi_len).bind fun y => rg2 x y).bind (mapO (fun v_at => (tr (((O.ok v_value).bind fun x => ((O.ok v_at).bind fun x => (O.ok (D.int 1)).bind fun y => b_sub x y).bind fun y => ix x y).bind fun x => ((O.ok v_value).bind fun x => (O.ok v_at).bind fun y => ix x y).bind fun y => c_lt x y))))).bind fun ds => O.ok (D.lst ds)) (O.ok [])).bind bi_all)
def f_are_figures (v_text : D) : O D :=
  (O.ite (O.ite ((O.ok v_text).bind fun x => (O.ok (D.str "")).bind fun y => c_eq x y) (O.ok true) ((((O.cons ((((O.ok v_text).bind itD).bind (mapO (fun v_sign => (tr ((O.ok v_sign).bind fun x => (O.ok (D.str "0123456789")).bind fun y => c_in x y))))).bind fun ds => O.ok (D.lst ds)) (O.ok [])).bind bi_all).bind asB).bind fun k => O.ok (!k))) (O.ok (D.bl false)) (tr (O.ite ((tr ((O.ok v_text).bind fun x => (O.ok (D.str "0")).bind fun y => c_eq x y)).bind asB) (O.ok true) ((tr (((O.ok v_text).bind fun x => (O.ok (D.int 0)).bind fun y => ix x y).bind fun x => (O.ok (D.str "0")).bind fun y => c_ne x y)).bind asB))))
def f_shared_factor (v_one v_two : D) : O D :=
  (((O.cons (O.ok v_one) (O.ok [])).bind bi_abs).bind fun v_high_1 => (((O.cons (O.ok v_two) (O.ok [])).bind bi_abs).bind fun v_low_2 => ((whileO (fun (s3 : D × D) => ((O.ok s3.2).bind fun x => (O.ok (D.int 0)).bind fun y => c_gt x y)) (fun s3 => ((O.ok s3.2).bind fun v_high_4 => (((O.ok s3.1).bind fun x => (O.ok s3.2).bind fun y => b_mod x y).bind fun v_low_5 => (O.ok (v_high_4, v_low_5))))) (natOf (v_two) + 1) (v_high_1, v_low_2)).bind fun (s3 : D × D) => (O.ok s3.1))))
def f_is_fraction (v_value : D) : O D :=
  (tr (O.ite (((O.cons (O.ok v_value) (O.ok [])).bind (l1 f_is_integer)).bind asB) (O.ok true) ((tr ((O.ok v_value).bind (isiC 0))).bind asB)))
def Ratio_init (v_top v_bottom : D) : O (List (Str × D)) :=
  (O.ite ((((O.cons (O.ok v_top) (O.ok [])).bind (l1 f_is_integer)).bind asB).bind fun k => O.ok (!k)) ((O.cons (O.ok v_top) (O.ok [])).bind fun ds => O.exc 100 ds) (O.ite (O.ite ((((O.cons (O.ok v_bottom) (O.ok [])).bind (l1 f_is_integer)).bind asB).bind fun k => O.ok (!k)) (O.ok true) ((O.ok v_bottom).bind fun x => (O.ok (D.int 1)).bind fun y => c_lt x y)) ((O.cons (O.ok v_bottom) (O.ok [])).bind fun ds => O.exc 100 ds) (((O.cons (O.ok v_top) (O.cons (O.ok v_bottom) (O.ok []))).bind (l2 f_shared_factor)).bind fun v_factor_1 => (((O.ok v_top).bind fun x => (O.ok v_factor_1).bind fun y => b_fdiv x y).bind fun f2 => (((O.ok v_bottom).bind fun x => (O.ok v_factor_1).bind fun y => b_fdiv x y).bind fun f3 => (O.ok (putD "bottom" f3 (putD "top" f2 ([])))))))))
def f_as_ratio (v_value : D) : O D :=
  (O.ite ((tr ((O.ok v_value).bind (isiC 0))).bind asB) (O.ok v_value) ((O.cons (O.ok v_value) (O.ok [])).bind fun ds => ((l2 Ratio_init) (ds ++ [D.int 1])).bind fun fs => O.ok (D.obj 0 fs)))
def f_order_of (v_one v_two : D) : O D :=
  (((O.cons (O.ok v_one) (O.ok [])).bind (l1 f_as_ratio)).bind fun v_here_1 => (((O.cons (O.ok v_two) (O.ok [])).bind (l1 f_as_ratio)).bind fun v_there_2 => ((((O.ok v_here_1).bind (fld "top" [0])).bind fun x => ((O.ok v_there_2).bind (fld "bottom" [0])).bind fun y => b_mul x y).bind fun v_left_3 => ((((O.ok v_there_2).bind (fld "top" [0])).bind fun x => ((O.ok v_here_1).bind (fld "bottom" [0])).bind fun y => b_mul x y).bind fun v_right_4 => (O.ite ((O.ok v_left_3).bind fun x => (O.ok v_right_4).bind fun y => c_eq x y) (O.ok (D.int 0)) (O.ite ((O.ok v_left_3).bind fun x => (O.ok v_right_4).bind fun y => c_lt x y) ((O.ok (D.int 1)).bind b_neg) (O.ok (D.int 1))))))))
def f_ratio_in (v_text : D) : O D :=
  (O.ite (((O.cons (O.ok v_text) (O.ok [])).bind bi_len).bind fun x => (O.ok (D.int 4000)).bind fun y => c_gt x y) (O.ok (D.non)) ((O.ite (((O.ok v_text).bind fun x => (O.ok none).bind fun l => ((O.ok (D.int 1)).bind fun x => (asI x).bind fun i => O.ok (some i)).bind fun h => cut x l h).bind fun x => (O.ok (D.str "-")).bind fun y => c_eq x y) ((O.ok (D.int 1)).bind b_neg) (O.ok (D.int 1))).bind fun v_sign_1 => ((O.ite ((O.ok v_sign_1).bind fun x => (O.ok (D.int 0)).bind fun y => c_lt x y) (((O.ok v_text).bind fun x => ((O.ok (D.int 1)).bind fun x => (asI x).bind fun i => O.ok (some i)).bind fun l => (O.ok none).bind fun h => cut x l h).bind fun x => (O.ok (D.str "/")).bind fun y => t_part x y) ((O.ok v_text).bind fun x => (O.ok (D.str "/")).bind fun y => t_part x y)).bind fun d => un3 d fun v_first_2 v_line_3 v_second_4 => (O.ite (O.ite ((((O.cons (O.ok v_first_2) (O.ok [])).bind (l1 f_are_figures)).bind asB).bind fun k => O.ok (!k)) (O.ok true) (O.ite ((O.ok v_line_3).bind fun x => (O.ok (D.str "")).bind fun y => c_ne x y) ((((O.cons (O.ok v_second_4) (O.ok [])).bind (l1 f_are_figures)).bind asB).bind fun k => O.ok (!k)) (O.ok false))) (O.ok (D.non)) ((O.ite ((O.ok v_line_3).bind fun x => (O.ok (D.str "")).bind fun y => c_ne x y) ((O.cons (O.ok v_second_4) (O.ok [])).bind bi_int) (O.ok (D.int 1))).bind fun v_bottom_5 => (O.ite ((O.ok v_bottom_5).bind fun x => (O.ok (D.int 0)).bind fun y => c_gt x y) ((O.cons ((O.ok v_sign_1).bind fun x => ((O.cons (O.ok v_first_2) (O.ok [])).bind bi_int).bind fun y => b_mul x y) (O.cons (O.ok v_bottom_5) (O.ok []))).bind fun ds => ((l2 Ratio_init) (ds ++ [])).bind fun fs => O.ok (D.obj 0 fs)) (O.ok (D.non))))))))
def Ratio_str (v_self : D) : O D :=
  (O.ite (((O.ok v_self).bind (fld "bottom" [0])).bind fun x => (O.ok (D.int 1)).bind fun y => c_eq x y) (((O.ok v_self).bind (fld "top" [0])).bind fmtO) (jO [(((O.ok v_self).bind (fld "top" [0])).bind fmtO), (O.ok (D.str "/")), (((O.ok v_self).bind (fld "bottom" [0])).bind fmtO)] Str.empty))
def f_cell_text (v_cell : D) : O D :=
  ((O.ok v_cell).bind fun d => un3 d fun v_first_1 v_last_2 v_is_turned_3 => (O.ite ((O.ok v_is_turned_3).bind asB) (jO [((O.ok v_first_1).bind fmtO), (O.ok (D.str "-")), ((O.ok v_last_2).bind fmtO), (O.ok (D.str "~"))] Str.empty) (jO [((O.ok v_first_1).bind fmtO), (O.ok (D.str "-")), ((O.ok v_last_2).bind fmtO)] Str.empty)))
def Fold_str (v_self : D) : O D :=
  ((O.ok (D.str " ")).bind fun x => (((((O.ok v_self).bind (fld "cells" [1, 5])).bind itD).bind (mapO (fun v_cell => ((O.cons (O.ok v_cell) (O.ok [])).bind (l1 f_cell_text))))).bind fun ds => O.ok (D.lst ds)).bind fun y => t_join x y)
def txts0 : Nat → Option (D → O D)
  | 0 => some Ratio_str
  | _ => none
def Raisin_str (v_self : D) : O D :=
  (jO [(((O.cons ((O.ok v_self).bind (fld "place" [2])) (O.ok [])).bind (ownStr txts0)).bind fmtO), (((O.ok v_self).bind (fld "side" [2])).bind fmtO)] Str.empty)
def txts : Nat → Option (D → O D)
  | 0 => some Ratio_str
  | 1 => some Fold_str
  | 2 => some Raisin_str
  | _ => none
def Ratio_read (v_text : D) : O D :=
  ((O.ite ((tr ((O.ok v_text).bind (isiB "str"))).bind asB) ((O.cons (O.ok v_text) (O.ok [])).bind (l1 f_ratio_in)) (O.ok (D.non))).bind fun v_found_1 => (O.ite (O.ite ((O.ok v_found_1).bind fun x => (O.ok (D.non)).bind fun y => c_is x y) (O.ok true) (((O.cons (O.ok v_found_1) (O.ok [])).bind (ownStr txts)).bind fun x => (O.ok v_text).bind fun y => c_ne x y)) ((O.cons (O.ok v_text) (O.ok [])).bind fun ds => O.exc 101 ds) (O.ok v_found_1)))
def Ratio_compared (v_self v_value : D) : O D :=
  (O.ite ((((O.cons (O.ok v_value) (O.ok [])).bind (l1 f_is_fraction)).bind asB).bind fun k => O.ok (!k)) ((O.cons (O.ok v_value) (O.ok [])).bind fun ds => O.exc 100 ds) ((O.cons (O.ok v_self) (O.cons (O.ok v_value) (O.ok []))).bind (l2 f_order_of)))
def Ratio_add (v_self v_other : D) : O D :=
  (O.ite ((((O.cons (O.ok v_other) (O.ok [])).bind (l1 f_is_fraction)).bind asB).bind fun k => O.ok (!k)) O.bad (((O.cons (O.ok v_other) (O.ok [])).bind (l1 f_as_ratio)).bind fun v_by_1 => ((O.cons ((((O.ok v_self).bind (fld "top" [0])).bind fun x => ((O.ok v_by_1).bind (fld "bottom" [0])).bind fun y => b_mul x y).bind fun x => (((O.ok v_by_1).bind (fld "top" [0])).bind fun x => ((O.ok v_self).bind (fld "bottom" [0])).bind fun y => b_mul x y).bind fun y => b_add x y) (O.cons (((O.ok v_self).bind (fld "bottom" [0])).bind fun x => ((O.ok v_by_1).bind (fld "bottom" [0])).bind fun y => b_mul x y) (O.ok []))).bind fun ds => ((l2 Ratio_init) (ds ++ [])).bind fun fs => O.ok (D.obj 0 fs))))
def Ratio_radd (v_self v_other : D) : O D :=
  (O.ite ((((O.cons (O.ok v_other) (O.ok [])).bind (l1 f_is_fraction)).bind asB).bind fun k => O.ok (!k)) O.bad (((O.cons (O.ok v_other) (O.ok [])).bind (l1 f_as_ratio)).bind fun x => (O.ok v_self).bind fun y => (q_op b_add Ratio_add) x y))
def Ratio_sub (v_self v_other : D) : O D :=
  (O.ite ((((O.cons (O.ok v_other) (O.ok [])).bind (l1 f_is_fraction)).bind asB).bind fun k => O.ok (!k)) O.bad (((O.cons (O.ok v_other) (O.ok [])).bind (l1 f_as_ratio)).bind fun v_by_1 => ((O.cons ((((O.ok v_self).bind (fld "top" [0])).bind fun x => ((O.ok v_by_1).bind (fld "bottom" [0])).bind fun y => b_mul x y).bind fun x => (((O.ok v_by_1).bind (fld "top" [0])).bind fun x => ((O.ok v_self).bind (fld "bottom" [0])).bind fun y => b_mul x y).bind fun y => b_sub x y) (O.cons (((O.ok v_self).bind (fld "bottom" [0])).bind fun x => ((O.ok v_by_1).bind (fld "bottom" [0])).bind fun y => b_mul x y) (O.ok []))).bind fun ds => ((l2 Ratio_init) (ds ++ [])).bind fun fs => O.ok (D.obj 0 fs))))
def Ratio_rsub (v_self v_other : D) : O D :=
  (O.ite ((((O.cons (O.ok v_other) (O.ok [])).bind (l1 f_is_fraction)).bind asB).bind fun k => O.ok (!k)) O.bad (((O.cons (O.ok v_other) (O.ok [])).bind (l1 f_as_ratio)).bind fun x => (O.ok v_self).bind fun y => (q_op b_sub Ratio_sub) x y))
def Ratio_mul (v_self v_other : D) : O D :=
  (O.ite ((((O.cons (O.ok v_other) (O.ok [])).bind (l1 f_is_fraction)).bind asB).bind fun k => O.ok (!k)) O.bad (((O.cons (O.ok v_other) (O.ok [])).bind (l1 f_as_ratio)).bind fun v_by_1 => ((O.cons (((O.ok v_self).bind (fld "top" [0])).bind fun x => ((O.ok v_by_1).bind (fld "top" [0])).bind fun y => b_mul x y) (O.cons (((O.ok v_self).bind (fld "bottom" [0])).bind fun x => ((O.ok v_by_1).bind (fld "bottom" [0])).bind fun y => b_mul x y) (O.ok []))).bind fun ds => ((l2 Ratio_init) (ds ++ [])).bind fun fs => O.ok (D.obj 0 fs))))
def Ratio_rmul (v_self v_other : D) : O D :=
  (O.ite ((((O.cons (O.ok v_other) (O.ok [])).bind (l1 f_is_fraction)).bind asB).bind fun k => O.ok (!k)) O.bad (((O.cons (O.ok v_other) (O.ok [])).bind (l1 f_as_ratio)).bind fun x => (O.ok v_self).bind fun y => (q_op b_mul Ratio_mul) x y))
def Ratio_neg (v_self : D) : O D :=
  ((O.cons (((O.ok v_self).bind (fld "top" [0])).bind b_neg) (O.cons ((O.ok v_self).bind (fld "bottom" [0])) (O.ok []))).bind fun ds => ((l2 Ratio_init) (ds ++ [])).bind fun fs => O.ok (D.obj 0 fs))
def Ratio_eq (v_self v_other : D) : O D :=
  (O.ite ((((O.cons (O.ok v_other) (O.ok [])).bind (l1 f_is_fraction)).bind asB).bind fun k => O.ok (!k)) (O.ok (D.bl false)) (((O.cons (O.ok v_other) (O.ok [])).bind (l1 f_as_ratio)).bind fun v_by_1 => (tr (O.ite ((tr (((O.ok v_self).bind (fld "top" [0])).bind fun x => ((O.ok v_by_1).bind (fld "top" [0])).bind fun y => c_eq x y)).bind asB) ((tr (((O.ok v_self).bind (fld "bottom" [0])).bind fun x => ((O.ok v_by_1).bind (fld "bottom" [0])).bind fun y => c_eq x y)).bind asB) (O.ok false)))))
def f_divided (v_value v_number : D) : O D :=
  (O.ite ((O.ok v_number).bind fun x => (O.ok (D.int 0)).bind fun y => c_gt x y) ((O.cons ((O.ok v_value).bind (fld "top" [0])) (O.cons (((O.ok v_value).bind (fld "bottom" [0])).bind fun x => (O.ok v_number).bind fun y => b_mul x y) (O.ok []))).bind fun ds => ((l2 Ratio_init) (ds ++ [])).bind fun fs => O.ok (D.obj 0 fs)) ((O.cons (((O.ok v_value).bind (fld "top" [0])).bind b_neg) (O.cons (((O.ok v_value).bind (fld "bottom" [0])).bind fun x => ((O.ok v_number).bind b_neg).bind fun y => b_mul x y) (O.ok []))).bind fun ds => ((l2 Ratio_init) (ds ++ [])).bind fun fs => O.ok (D.obj 0 fs)))
def f_is_cell (v_many v_value : D) : O D :=
  (O.ite (O.ite (((tr ((O.ok v_value).bind (isiB "tuple"))).bind asB).bind fun k => O.ok (!k)) (O.ok true) (O.ite (((O.cons (O.ok v_value) (O.ok [])).bind bi_len).bind fun x => (O.ok (D.int 3)).bind fun y => c_ne x y) (O.ok true) (((tr (((O.ok v_value).bind fun x => (O.ok (D.int 2)).bind fun y => ix x y).bind (isiB "bool"))).bind asB).bind fun k => O.ok (!k)))) (O.ok (D.bl false)) (tr (O.ite (((O.cons ((O.ok v_value).bind fun x => (O.ok (D.int 0)).bind fun y => ix x y) (O.cons (O.ok (D.int 0)) (O.cons ((O.ok v_many).bind fun x => (O.ok (D.int 1)).bind fun y => b_sub x y) (O.ok [])))).bind (l3 f_is_between)).bind asB) (((O.cons ((O.ok v_value).bind fun x => (O.ok (D.int 1)).bind fun y => ix x y) (O.cons ((O.ok v_value).bind fun x => (O.ok (D.int 0)).bind fun y => ix x y) (O.cons ((O.ok v_many).bind fun x => (O.ok (D.int 1)).bind fun y => b_sub x y) (O.ok [])))).bind (l3 f_is_between)).bind asB) (O.ok false))))
def f_check_cells (v_cells : D) : O D :=
  (O.ite (O.ite (((tr ((O.ok v_cells).bind (isiB "tuple"))).bind asB).bind fun k => O.ok (!k)) (O.ok true) ((chainO (O.ok (D.int 2)) ((O.cons (O.ok v_cells) (O.ok [])).bind bi_len) (O.ok (D.int 8)) c_le c_le).bind fun k => O.ok (!k))) ((O.cons (O.ok (D.non)) (O.ok [])).bind fun ds => O.exc 102 ds) (((O.ok v_cells).bind enT).bind fun ds => (forO (fun (s1 : Unit) d => un2 d fun v_index_2 v_cell_3 => (O.ite ((((O.cons ((O.cons (O.ok v_cells) (O.ok [])).bind bi_len) (O.cons (O.ok v_cell_3) (O.ok []))).bind (l2 f_is_cell)).bind asB).bind fun k => O.ok (!k)) ((O.cons (O.ok v_index_2) (O.ok [])).bind fun ds => O.exc 102 ds) (O.ok ()))) ds ()).bind fun (s1 : Unit) => (O.ok D.non)))
def f_cell_in (v_word : D) : O D :=
  (((O.ok v_word).bind fun x => (O.ok (D.str "-")).bind fun y => t_part x y).bind fun d => un3 d fun v_first_1 v_line_2 v_rest_3 => ((O.ite (((O.ok v_rest_3).bind fun x => (((O.ok (D.int 1)).bind b_neg).bind fun x => (asI x).bind fun i => O.ok (some i)).bind fun l => (O.ok none).bind fun h => cut x l h).bind fun x => (O.ok (D.str "~")).bind fun y => c_eq x y) ((O.ok v_rest_3).bind fun x => (O.ok none).bind fun l => (((O.ok (D.int 1)).bind b_neg).bind fun x => (asI x).bind fun i => O.ok (some i)).bind fun h => cut x l h) (O.ok v_rest_3)).bind fun v_last_4 => (O.ite (O.ite (((O.cons (O.ok v_word) (O.ok [])).bind bi_len).bind fun x => (O.ok (D.int 4)).bind fun y => c_gt x y) (O.ok true) (O.ite ((((O.cons (O.ok v_first_1) (O.ok [])).bind (l1 f_are_figures)).bind asB).bind fun k => O.ok (!k)) (O.ok true) ((((O.cons (O.ok v_last_4) (O.ok [])).bind (l1 f_are_figures)).bind asB).bind fun k => O.ok (!k)))) (O.ok (D.non)) ((O.cons ((O.cons (O.ok v_first_1) (O.ok [])).bind bi_int) (O.cons ((O.cons (O.ok v_last_4) (O.ok [])).bind bi_int) (O.cons (tr ((O.ok v_rest_3).bind fun x => (O.ok v_last_4).bind fun y => c_ne x y)) (O.ok [])))).bind fun ds => O.ok (D.tup ds)))))
def Fold_init (v_cells : D) : O (List (Str × D)) :=
  (((O.cons (O.ok v_cells) (O.ok [])).bind (l1 f_check_cells)).bind fun _ => ((O.ok v_cells).bind fun f1 => (O.ok (putD "cells" f1 ([])))))
def Fold_read (v_text : D) : O D :=
  ((O.ite ((tr ((O.ok v_text).bind (isiB "str"))).bind asB) ((O.cons (((((O.ok v_text).bind fun x => (O.ok (D.str " ")).bind fun y => t_split x y).bind itD).bind (mapO (fun v_word => ((O.cons (O.ok v_word) (O.ok [])).bind (l1 f_cell_in))))).bind fun ds => O.ok (D.lst ds)) (O.ok [])).bind bi_tuple) ((O.ok []).bind fun ds => O.ok (D.tup ds))).bind fun v_cells_1 => (((O.cons (O.ok v_cells_1) (O.ok [])).bind fun ds => ((l1 Fold_init) (ds ++ [])).bind fun fs => O.ok (D.obj 1 fs)).bind fun v_found_2 => (O.ite (((O.cons (O.ok v_found_2) (O.ok [])).bind (ownStr txts)).bind fun x => (O.ok v_text).bind fun y => c_ne x y) ((O.cons (O.ok v_text) (O.ok [])).bind fun ds => O.exc 101 ds) (O.ok v_found_2))))
def Fold_len (v_self : D) : O D :=
  ((O.cons ((O.ok v_self).bind (fld "cells" [1, 5])) (O.ok [])).bind bi_len)
def Watch_len (v_self : D) : O D :=
  ((O.cons ((O.ok v_self).bind (fld "moves" [4])) (O.ok [])).bind bi_len)
def lens : Nat → Option (D → O D)
  | 1 => some Fold_len
  | 4 => some Watch_len
  | _ => none
def f_check_cell (v_fold v_cell : D) : O D :=
  (O.ite ((((O.cons (O.ok v_cell) (O.cons (O.ok (D.int 0)) (O.cons (((O.cons (O.ok v_fold) (O.ok [])).bind (ownLen lens)).bind fun x => (O.ok (D.int 1)).bind fun y => b_sub x y) (O.ok [])))).bind (l3 f_is_between)).bind asB).bind fun k => O.ok (!k)) ((O.cons (O.ok v_cell) (O.ok [])).bind fun ds => O.exc 100 ds) (O.ok D.non))
def f_run_of (v_fold v_cell : D) : O (List D) :=
  (((((O.ok v_fold).bind (fld "cells" [1, 5])).bind fun x => (O.ok v_cell).bind fun y => ix x y).bind fun x => (O.ok (D.int 0)).bind fun y => ix x y).bind fun x => (((((O.ok v_fold).bind (fld "cells" [1, 5])).bind fun x => (O.ok v_cell).bind fun y => ix x y).bind fun x => (O.ok (D.int 1)).bind fun y => ix x y).bind fun x => (O.ok (D.int 1)).bind fun y => b_add x y).bind fun y => rgL x y)
def Fold_run (v_self v_cell : D) : O D :=
  (((O.cons (O.ok v_self) (O.cons (O.ok v_cell) (O.ok []))).bind (l2 f_check_cell)).bind fun _ => ((O.cons (((O.cons (O.ok v_self) (O.cons (O.ok v_cell) (O.ok []))).bind (l2 f_run_of)).bind fun ds => O.ok (D.lst ds)) (O.ok [])).bind bi_tuple))
def f_factor_of (v_fold v_cell : D) : O D :=
  ((((((O.ok v_fold).bind (fld "cells" [1, 5])).bind fun x => (O.ok v_cell).bind fun y => ix x y).bind fun x => (O.ok (D.int 1)).bind fun y => ix x y).bind fun x => ((((O.ok v_fold).bind (fld "cells" [1, 5])).bind fun x => (O.ok v_cell).bind fun y => ix x y).bind fun x => (O.ok (D.int 0)).bind fun y => ix x y).bind fun y => b_sub x y).bind fun x => (O.ok (D.int 1)).bind fun y => b_add x y)
def Fold_factor (v_self v_cell : D) : O D :=
  (((O.cons (O.ok v_self) (O.cons (O.ok v_cell) (O.ok []))).bind (l2 f_check_cell)).bind fun _ => ((O.cons (O.ok v_self) (O.cons (O.ok v_cell) (O.ok []))).bind (l2 f_factor_of)))
def Fold_eq (v_self v_other : D) : O D :=
  (tr (O.ite ((tr ((O.ok v_other).bind (isiC 1))).bind asB) ((tr (((O.ok v_self).bind (fld "cells" [1, 5])).bind fun x => ((O.ok v_other).bind (fld "cells" [1, 5])).bind fun y => c_eq x y)).bind asB) (O.ok false)))
def f_is_turned (v_fold v_cell : D) : O D :=
  ((((O.ok v_fold).bind (fld "cells" [1, 5])).bind fun x => (O.ok v_cell).bind fun y => ix x y).bind fun x => (O.ok (D.int 2)).bind fun y => ix x y)
def f_check_fold (v_fold : D) : O D :=
  (O.ite (((tr ((O.ok v_fold).bind (isiC 1))).bind asB).bind fun k => O.ok (!k)) ((O.cons (O.ok v_fold) (O.ok [])).bind fun ds => O.exc 115 ds) (O.ok D.non))
def f_are_cells (v_fold v_row v_least v_most : D) : O D :=
  (O.ite (O.ite (((tr ((O.ok v_row).bind (isiB "tuple"))).bind asB).bind fun k => O.ok (!k)) (O.ok true) ((chainO (O.ok v_least) ((O.cons (O.ok v_row) (O.ok [])).bind (ownLen lens)) (O.ok v_most) c_le c_le).bind fun k => O.ok (!k))) (O.ok (D.bl false)) ((O.cons ((((O.ok v_row).bind itD).bind (mapO (fun v_cell => ((O.cons (O.ok v_cell) (O.cons (O.ok (D.int 0)) (O.cons (((O.cons (O.ok v_fold) (O.ok [])).bind (ownLen lens)).bind fun x => (O.ok (D.int 1)).bind fun y => b_sub x y) (O.ok [])))).bind (l3 f_is_between))))).bind fun ds => O.ok (D.lst ds)) (O.ok [])).bind bi_all))
def f_is_let (v_fold v_row : D) : O D :=
  ((O.cons ((((O.ok (D.int 1)).bind fun x => ((O.cons (O.ok v_row) (O.ok [])).bind (ownLen lens)).bind fun y => rg2 x y).bind (mapO (fun v_at => (tr (((O.ok v_row).bind fun x => (O.ok v_at).bind fun y => ix x y).bind fun x => (((O.cons (O.ok v_fold) (O.cons ((O.ok v_row).bind fun x => ((O.ok v_at).bind fun x => (O.ok (D.int 1)).bind fun y => b_sub x y).bind fun y => ix x y) (O.ok []))).bind (l2 f_run_of)).bind fun ds => O.ok (D.lst ds)).bind fun y => c_in x y))))).bind fun ds => O.ok (D.lst ds)) (O.ok [])).bind bi_all)
def Raisin_init (v_place v_side : D) : O (List (Str × D)) :=
  (O.ite (O.ite ((((O.cons (O.ok v_place) (O.ok [])).bind (l1 f_is_fraction)).bind asB).bind fun k => O.ok (!k)) (O.ok true) ((((O.cons (O.ok v_place) (O.ok [])).bind (l1 f_as_ratio)).bind (fld "top" [0])).bind fun x => (O.ok (D.int 0)).bind fun y => c_lt x y)) ((O.cons (O.ok v_place) (O.ok [])).bind fun ds => O.exc 103 ds) (((O.cons (O.ok v_place) (O.ok [])).bind (l1 f_as_ratio)).bind fun f1 => (O.ite (O.ite (((tr ((O.ok v_side).bind (isiB "str"))).bind asB).bind fun k => O.ok (!k)) (O.ok true) (O.ite ((O.ok v_side).bind fun x => (O.ok (D.tup [D.str "-", D.str "+"])).bind fun y => c_nin x y) (O.ok true) (O.ite ((O.ok v_side).bind fun x => (O.ok (D.str "-")).bind fun y => c_eq x y) (((O.ok f1).bind (fld "top" [0])).bind fun x => (O.ok (D.int 0)).bind fun y => c_eq x y) (O.ok false)))) ((O.cons (O.ok v_side) (O.ok [])).bind fun ds => O.exc 104 ds) ((O.ok v_side).bind fun f2 => (O.ok (putD "side" f2 (putD "place" f1 ([]))))))))
def f_raisin_in (v_text : D) : O D :=
  (((O.cons ((O.ok v_text).bind fun x => (O.ok none).bind fun l => (((O.ok (D.int 1)).bind b_neg).bind fun x => (asI x).bind fun i => O.ok (some i)).bind fun h => cut x l h) (O.ok [])).bind (l1 f_ratio_in)).bind fun v_place_1 => (O.ite (O.ite ((O.ok v_place_1).bind fun x => (O.ok (D.non)).bind fun y => c_is x y) (O.ok true) (((O.ok v_text).bind fun x => (((O.ok (D.int 1)).bind b_neg).bind fun x => (asI x).bind fun i => O.ok (some i)).bind fun l => (O.ok none).bind fun h => cut x l h).bind fun x => (O.ok (D.tup [D.str "-", D.str "+"])).bind fun y => c_nin x y)) (O.ok (D.non)) ((O.cons (O.ok v_place_1) (O.cons ((O.ok v_text).bind fun x => (((O.ok (D.int 1)).bind b_neg).bind fun x => (asI x).bind fun i => O.ok (some i)).bind fun l => (O.ok none).bind fun h => cut x l h) (O.ok []))).bind fun ds => ((l2 Raisin_init) (ds ++ [])).bind fun fs => O.ok (D.obj 2 fs))))
def Raisin_read (v_text : D) : O D :=
  ((O.ite ((tr ((O.ok v_text).bind (isiB "str"))).bind asB) ((O.cons (O.ok v_text) (O.ok [])).bind (l1 f_raisin_in)) (O.ok (D.non))).bind fun v_found_1 => (O.ite (O.ite ((O.ok v_found_1).bind fun x => (O.ok (D.non)).bind fun y => c_is x y) (O.ok true) (((O.cons (O.ok v_found_1) (O.ok [])).bind (ownStr txts)).bind fun x => (O.ok v_text).bind fun y => c_ne x y)) ((O.cons (O.ok v_text) (O.ok [])).bind fun ds => O.exc 101 ds) (O.ok v_found_1)))
def f_raisin_order (v_one v_two : D) : O D :=
  (((O.cons ((O.ok v_one).bind (fld "place" [2])) (O.cons ((O.ok v_two).bind (fld "place" [2])) (O.ok []))).bind (l2 f_order_of)).bind fun v_places_1 => (O.ite (O.ite ((O.ok v_places_1).bind fun x => (O.ok (D.int 0)).bind fun y => c_ne x y) (O.ok true) (((O.ok v_one).bind (fld "side" [2])).bind fun x => ((O.ok v_two).bind (fld "side" [2])).bind fun y => c_eq x y)) (O.ok v_places_1) (O.ite (((O.ok v_one).bind (fld "side" [2])).bind fun x => (O.ok (D.str "-")).bind fun y => c_eq x y) ((O.ok (D.int 1)).bind b_neg) (O.ok (D.int 1)))))
def Raisin_compared (v_self v_value : D) : O D :=
  (O.ite (((tr ((O.ok v_value).bind (isiC 2))).bind asB).bind fun k => O.ok (!k)) ((O.cons (O.ok v_value) (O.ok [])).bind fun ds => O.exc 116 ds) ((O.cons (O.ok v_self) (O.cons (O.ok v_value) (O.ok []))).bind (l2 f_raisin_order)))
def eqs0 : Nat → Option (D → D → O D)
  | 0 => some Ratio_eq
  | _ => none
def Raisin_eq (v_self v_other : D) : O D :=
  (tr (O.ite ((tr ((O.ok v_other).bind (isiC 2))).bind asB) ((tr (O.ite ((tr (((O.ok v_self).bind (fld "place" [2])).bind fun x => ((O.ok v_other).bind (fld "place" [2])).bind fun y => (ownEq eqs0) x y)).bind asB) ((tr (((O.ok v_self).bind (fld "side" [2])).bind fun x => ((O.ok v_other).bind (fld "side" [2])).bind fun y => (ownEq eqs0) x y)).bind asB) (O.ok false))).bind asB) (O.ok false)))
def f_is_inside (v_fold v_raisin : D) : O D :=
  (((O.cons ((O.ok v_raisin).bind (fld "place" [2])) (O.cons ((O.cons (O.ok v_fold) (O.ok [])).bind (ownLen lens)) (O.ok []))).bind (l2 f_order_of)).bind fun v_order_1 => (tr (O.ite ((tr ((O.ok v_order_1).bind fun x => (O.ok (D.int 0)).bind fun y => c_lt x y)).bind asB) (O.ok true) ((tr (O.ite ((tr ((O.ok v_order_1).bind fun x => (O.ok (D.int 0)).bind fun y => c_eq x y)).bind asB) ((tr (((O.ok v_raisin).bind (fld "side" [2])).bind fun x => (O.ok (D.str "-")).bind fun y => c_eq x y)).bind asB) (O.ok false))).bind asB))))
def f_check_raisin (v_fold v_raisin : D) : O D :=
  (O.ite (((tr ((O.ok v_raisin).bind (isiC 2))).bind asB).bind fun k => O.ok (!k)) ((O.cons (O.ok v_raisin) (O.ok [])).bind fun ds => O.exc 116 ds) (O.ite ((((O.cons (O.ok v_fold) (O.cons (O.ok v_raisin) (O.ok []))).bind (l2 f_is_inside)).bind asB).bind fun k => O.ok (!k)) ((O.cons (O.ok v_raisin) (O.ok [])).bind fun ds => O.exc 118 ds) (O.ok D.non)))
def f_cell_under (v_raisin : D) : O D :=
  (((((O.ok v_raisin).bind (fld "place" [2])).bind (fld "top" [0])).bind fun x => (((O.ok v_raisin).bind (fld "place" [2])).bind (fld "bottom" [0])).bind fun y => b_fdiv x y).bind fun v_cell_1 => (O.ite (O.ite ((((O.ok v_raisin).bind (fld "place" [2])).bind (fld "bottom" [0])).bind fun x => (O.ok (D.int 1)).bind fun y => c_eq x y) (((O.ok v_raisin).bind (fld "side" [2])).bind fun x => (O.ok (D.str "-")).bind fun y => c_eq x y) (O.ok false)) ((O.ok v_cell_1).bind fun x => (O.ok (D.int 1)).bind fun y => b_sub x y) (O.ok v_cell_1)))
def f_other_side (v_side : D) : O D :=
  (O.ite ((O.ok v_side).bind fun x => (O.ok (D.str "-")).bind fun y => c_eq x y) (O.ok (D.str "+")) (O.ok (D.str "-")))
def f_key_of (v_raisin : D) : O D :=
  ((O.cons (((O.ok v_raisin).bind (fld "place" [2])).bind (fld "top" [0])) (O.cons (((O.ok v_raisin).bind (fld "place" [2])).bind (fld "bottom" [0])) (O.cons ((O.ok v_raisin).bind (fld "side" [2])) (O.ok [])))).bind fun ds => O.ok (D.tup ds))
def f_turned_once (v_fold v_raisin : D) : O D :=
  (((O.cons (O.ok v_raisin) (O.ok [])).bind (l1 f_cell_under)).bind fun v_cell_1 => ((((O.ok v_fold).bind (fld "cells" [1, 5])).bind fun x => (O.ok v_cell_1).bind fun y => ix x y).bind fun d => un3 d fun v_first_2 v_last_3 v_is_turned_4 => (((((O.ok v_raisin).bind (fld "place" [2])).bind fun x => (O.ok v_cell_1).bind fun y => (r_op b_sub Ratio_sub Ratio_rsub) x y).bind fun x => ((O.cons (O.ok v_fold) (O.cons (O.ok v_cell_1) (O.ok []))).bind (l2 f_factor_of)).bind fun y => (r_op b_mul Ratio_mul Ratio_rmul) x y).bind fun v_along_5 => (O.ite ((O.ok v_is_turned_4).bind asB) ((O.cons (((O.ok v_last_3).bind fun x => (O.ok (D.int 1)).bind fun y => (r_op b_add Ratio_add Ratio_radd) x y).bind fun x => (O.ok v_along_5).bind fun y => (r_op b_sub Ratio_sub Ratio_rsub) x y) (O.cons ((O.cons ((O.ok v_raisin).bind (fld "side" [2])) (O.ok [])).bind (l1 f_other_side)) (O.ok []))).bind fun ds => ((l2 Raisin_init) (ds ++ [])).bind fun fs => O.ok (D.obj 2 fs)) ((O.cons ((O.ok v_first_2).bind fun x => (O.ok v_along_5).bind fun y => (r_op b_add Ratio_add Ratio_radd) x y) (O.cons ((O.ok v_raisin).bind (fld "side" [2])) (O.ok []))).bind fun ds => ((l2 Raisin_init) (ds ++ [])).bind fun fs => O.ok (D.obj 2 fs))))))
def Way_init (v_lead v_ring : D) : O (List (Str × D)) :=
  ((O.ok v_lead).bind fun f1 => ((O.ok v_ring).bind fun f2 => (O.ok (putD "ring" f2 (putD "lead" f1 ([]))))))
def f_raisin_at (v_way v_turn : D) : O D :=
  (O.ite ((O.ok v_turn).bind fun x => ((O.cons ((O.ok v_way).bind (fld "lead" [3])) (O.ok [])).bind (ownLen lens)).bind fun y => c_lt x y) (((O.ok v_way).bind (fld "lead" [3])).bind fun x => (O.ok v_turn).bind fun y => ix x y) (((O.ok v_way).bind (fld "ring" [3])).bind fun x => (((O.ok v_turn).bind fun x => ((O.cons ((O.ok v_way).bind (fld "lead" [3])) (O.ok [])).bind (ownLen lens)).bind fun y => b_sub x y).bind fun x => ((O.cons ((O.ok v_way).bind (fld "ring" [3])) (O.ok [])).bind (ownLen lens)).bind fun y => b_mod x y).bind fun y => ix x y))
def f_cells_shown (v_fold v_raisin v_many : D) : O D :=
  ((O.ok []).bind fun v_found_1 => ((O.ok v_raisin).bind fun v_here_2 => (((O.ok v_many).bind rg1).bind fun ds => (forO (fun (s3 : List D × D) v_turn_4 => (((O.cons (O.ok s3.2) (O.ok [])).bind (l1 f_cell_under)).bind fun a5 => sized s3.1.length (((O.cons (O.ok v_fold) (O.cons (O.ok s3.2) (O.ok []))).bind (l2 f_turned_once)).bind fun v_here_6 => (O.ok ((s3.1 ++ [a5]), v_here_6))))) ds (v_found_1, v_here_2)).bind fun (s3 : List D × D) => ((O.cons (O.ok (D.lst s3.1)) (O.ok [])).bind bi_tuple))))
def f_check_on (v_fold v_raisin : D) : O D :=
  (((O.cons (O.ok v_fold) (O.ok [])).bind (l1 f_check_fold)).bind fun _ => (((O.cons (O.ok v_fold) (O.cons (O.ok v_raisin) (O.ok []))).bind (l2 f_check_raisin)).bind fun _ => (O.ok D.non)))
def f_cell_of (v_fold v_raisin : D) : O D :=
  (((O.cons (O.ok v_fold) (O.cons (O.ok v_raisin) (O.ok []))).bind (l2 f_check_on)).bind fun _ => ((O.cons (O.ok v_raisin) (O.ok [])).bind (l1 f_cell_under)))
def f_next_of (v_fold v_raisin : D) : O D :=
  (((O.cons (O.ok v_fold) (O.cons (O.ok v_raisin) (O.ok []))).bind (l2 f_check_on)).bind fun _ => ((O.cons (O.ok v_fold) (O.cons (O.ok v_raisin) (O.ok []))).bind (l2 f_turned_once)))
def f_shown (v_fold v_raisin v_many : D) : O D :=
  (((O.cons (O.ok v_fold) (O.cons (O.ok v_raisin) (O.ok []))).bind (l2 f_check_on)).bind fun _ => (O.ite ((((O.cons (O.ok v_many) (O.cons (O.ok (D.int 0)) (O.cons (O.ok (D.int 200)) (O.ok [])))).bind (l3 f_is_between)).bind asB).bind fun k => O.ok (!k)) ((O.cons (O.ok v_many) (O.ok [])).bind fun ds => O.exc 100 ds) ((O.cons (O.ok v_fold) (O.cons (O.ok v_raisin) (O.cons (O.ok v_many) (O.ok [])))).bind (l3 f_cells_shown))))
def f_place_ahead (v_fold v_cell v_place : D) : O D :=
  ((((O.ok v_fold).bind (fld "cells" [1, 5])).bind fun x => (O.ok v_cell).bind fun y => ix x y).bind fun d => un3 d fun v_first_1 v_last_2 v_is_over_3 => ((O.ite ((O.ok v_is_over_3).bind asB) (((O.ok v_last_2).bind fun x => (O.ok (D.int 1)).bind fun y => (r_op b_add Ratio_add Ratio_radd) x y).bind fun x => (O.ok v_place).bind fun y => (r_op b_sub Ratio_sub Ratio_rsub) x y) ((O.ok v_place).bind fun x => (O.ok v_first_1).bind fun y => (r_op b_sub Ratio_sub Ratio_rsub) x y)).bind fun v_along_4 => (((O.cons (O.ok v_along_4) (O.cons ((O.cons (O.ok v_fold) (O.cons (O.ok v_cell) (O.ok []))).bind (l2 f_factor_of)) (O.ok []))).bind (l2 f_divided)).bind fun x => (O.ok v_cell).bind fun y => (r_op b_add Ratio_add Ratio_radd) x y)))
def f_pulled_back (v_fold v_row v_place : D) : O D :=
  ((((O.ok v_row).bind revO).bind itD).bind fun ds => (forO (fun (s1 : D) v_cell_2 => (((O.cons (O.ok v_fold) (O.cons (O.ok v_cell_2) (O.cons (O.ok s1) (O.ok [])))).bind (l3 f_place_ahead)).bind fun v_place_3 => (O.ok v_place_3))) ds v_place).bind fun (s1 : D) => (O.ok s1))
def f_ends_of (v_fold v_row : D) : O D :=
  (((O.ok v_row).bind fun x => ((O.ok (D.int 1)).bind b_neg).bind fun y => ix x y).bind fun v_cell_1 => ((((((O.cons (O.ok (D.int 0)) (O.cons (O.ok (D.int 1)) (O.ok []))).bind fun ds => O.ok (D.tup ds)).bind itD).bind (mapO (fun v_more => ((O.cons (O.ok v_fold) (O.cons ((O.ok v_row).bind fun x => (O.ok none).bind fun l => (((O.ok (D.int 1)).bind b_neg).bind fun x => (asI x).bind fun i => O.ok (some i)).bind fun h => cut x l h) (O.cons ((O.cons ((O.ok v_cell_1).bind fun x => (O.ok v_more).bind fun y => b_add x y) (O.ok [])).bind fun ds => ((l2 Ratio_init) (ds ++ [D.int 1])).bind fun fs => O.ok (D.obj 0 fs)) (O.ok [])))).bind (l3 f_pulled_back))))).bind fun ds => O.ok (D.lst ds)).bind fun v_ends_2 => ((O.ite ((((O.cons (((((O.ok v_row).bind fun x => (O.ok none).bind fun l => (((O.ok (D.int 1)).bind b_neg).bind fun x => (asI x).bind fun i => O.ok (some i)).bind fun h => cut x l h).bind itD).bind (filO (fun v_before => (((O.cons (O.ok v_fold) (O.cons (O.ok v_before) (O.ok []))).bind (l2 f_is_turned)).bind asB)) (fun v_before => (O.ok v_before)))).bind fun ds => O.ok (D.lst ds)) (O.ok [])).bind (ownLen lens)).bind fun x => (O.ok (D.int 2)).bind fun y => b_mod x y).bind fun x => (O.ok (D.int 1)).bind fun y => c_eq x y) (((O.ok v_ends_2).bind revO).bind fun v_ends_3 => (O.ok v_ends_3)) (O.ok v_ends_2)).bind fun (j4 : D) => ((O.cons ((O.cons ((O.ok j4).bind fun x => (O.ok (D.int 0)).bind fun y => ix x y) (O.cons (O.ok (D.str "+")) (O.ok []))).bind fun ds => ((l2 Raisin_init) (ds ++ [])).bind fun fs => O.ok (D.obj 2 fs)) (O.cons ((O.cons ((O.ok j4).bind fun x => (O.ok (D.int 1)).bind fun y => ix x y) (O.cons (O.ok (D.str "-")) (O.ok []))).bind fun ds => ((l2 Raisin_init) (ds ++ [])).bind fun fs => O.ok (D.obj 2 fs)) (O.ok []))).bind fun ds => O.ok (D.tup ds)))))
def f_stretch (v_fold v_row : D) : O D :=
  (((O.cons (O.ok v_fold) (O.ok [])).bind (l1 f_check_fold)).bind fun _ => (O.ite ((((O.cons (O.ok v_fold) (O.cons (O.ok v_row) (O.cons (O.ok (D.int 1)) (O.cons (O.ok (D.int 200)) (O.ok []))))).bind (l4 f_are_cells)).bind asB).bind fun k => O.ok (!k)) ((O.cons (O.ok v_row) (O.ok [])).bind fun ds => O.exc 105 ds) (O.ite (((O.cons (O.ok v_fold) (O.cons (O.ok v_row) (O.ok []))).bind (l2 f_is_let)).bind asB) ((O.cons (O.ok v_fold) (O.cons (O.ok v_row) (O.ok []))).bind (l2 f_ends_of)) (O.ok (D.non)))))
def f_slope_of (v_fold v_row : D) : O D :=
  ((O.ok (D.int 1)).bind fun v_found_1 => (((O.ok v_row).bind itD).bind fun ds => (forO (fun (s2 : D) v_cell_3 => (((O.ok s2).bind fun x => (O.ite (((O.cons (O.ok v_fold) (O.cons (O.ok v_cell_3) (O.ok []))).bind (l2 f_is_turned)).bind asB) (((O.cons (O.ok v_fold) (O.cons (O.ok v_cell_3) (O.ok []))).bind (l2 f_factor_of)).bind (r_neg Ratio_neg)) ((O.cons (O.ok v_fold) (O.cons (O.ok v_cell_3) (O.ok []))).bind (l2 f_factor_of))).bind fun y => (r_op b_mul Ratio_mul Ratio_rmul) x y).bind fun v_found_4 => (O.ok v_found_4))) ds v_found_1).bind fun (s2 : D) => (O.ok s2)))
def f_moved_along (v_fold v_row v_place : D) : O D :=
  (((O.ok v_row).bind itD).bind fun ds => (forO (fun (s1 : D) v_cell_2 => ((((O.ok v_fold).bind (fld "cells" [1, 5])).bind fun x => (O.ok v_cell_2).bind fun y => ix x y).bind fun d => un3 d fun v_first_3 v_last_4 v_is_over_5 => ((((O.ok s1).bind fun x => (O.ok v_cell_2).bind fun y => (r_op b_sub Ratio_sub Ratio_rsub) x y).bind fun x => ((O.cons (O.ok v_fold) (O.cons (O.ok v_cell_2) (O.ok []))).bind (l2 f_factor_of)).bind fun y => (r_op b_mul Ratio_mul Ratio_rmul) x y).bind fun v_along_6 => ((O.ite ((O.ok v_is_over_5).bind asB) (((O.ok v_last_4).bind fun x => (O.ok (D.int 1)).bind fun y => (r_op b_add Ratio_add Ratio_radd) x y).bind fun x => (O.ok v_along_6).bind fun y => (r_op b_sub Ratio_sub Ratio_rsub) x y) ((O.ok v_first_3).bind fun x => (O.ok v_along_6).bind fun y => (r_op b_add Ratio_add Ratio_radd) x y)).bind fun v_place_7 => (O.ok v_place_7))))) ds v_place).bind fun (s1 : D) => (O.ok s1))
def f_fixed_place (v_fold v_ring v_slope : D) : O D :=
  (((O.cons (O.ok v_fold) (O.cons (O.ok v_ring) (O.cons ((O.cons (O.ok (D.int 0)) (O.ok [])).bind fun ds => ((l2 Ratio_init) (ds ++ [D.int 1])).bind fun fs => O.ok (D.obj 0 fs)) (O.ok [])))).bind (l3 f_moved_along)).bind fun v_moved_1 => ((O.cons (O.ok v_moved_1) (O.cons ((O.ok (D.int 1)).bind fun x => (O.ok v_slope).bind fun y => (r_op b_sub Ratio_sub Ratio_rsub) x y) (O.ok []))).bind (l2 f_divided)))
def f_least_raisin (v_fold v_lead v_ring : D) : O D :=
  (((O.cons (O.ok v_fold) (O.cons (O.ok v_ring) (O.ok []))).bind (l2 f_slope_of)).bind fun v_slope_1 => (O.ite (((O.cons (O.ok v_slope_1) (O.ok [])).bind bi_abs).bind fun x => (O.ok (D.int 1)).bind fun y => c_eq x y) (((O.cons (O.ok v_fold) (O.cons ((O.ok v_lead).bind fun x => (O.ok v_ring).bind fun y => b_add x y) (O.ok []))).bind (l2 f_ends_of)).bind fun x => (O.ok (D.int 0)).bind fun y => ix x y) (((O.cons (O.ok v_fold) (O.cons (O.ok v_lead) (O.cons ((O.cons (O.ok v_fold) (O.cons (O.ok v_ring) (O.cons (O.ok v_slope_1) (O.ok [])))).bind (l3 f_fixed_place)) (O.ok [])))).bind (l3 f_pulled_back)).bind fun v_place_2 => ((((O.ok v_lead).bind fun x => (O.ok v_ring).bind fun y => b_add x y).bind fun x => (O.ok v_ring).bind fun y => b_add x y).bind fun v_row_3 => (O.ite (O.ite (((O.ok v_place_2).bind (fld "top" [0])).bind fun x => (O.ok (D.int 0)).bind fun y => c_gt x y) (((O.cons (O.ok v_fold) (O.cons ((O.cons (O.ok v_place_2) (O.cons (O.ok (D.str "-")) (O.ok []))).bind fun ds => ((l2 Raisin_init) (ds ++ [])).bind fun fs => O.ok (D.obj 2 fs)) (O.cons ((O.cons (O.ok v_row_3) (O.ok [])).bind (ownLen lens)) (O.ok [])))).bind (l3 f_cells_shown)).bind fun x => (O.ok v_row_3).bind fun y => c_eq x y) (O.ok false)) ((O.cons (O.ok v_place_2) (O.cons (O.ok (D.str "-")) (O.ok []))).bind fun ds => ((l2 Raisin_init) (ds ++ [])).bind fun fs => O.ok (D.obj 2 fs)) ((O.cons (O.ok v_place_2) (O.cons (O.ok (D.str "+")) (O.ok []))).bind fun ds => ((l2 Raisin_init) (ds ++ [])).bind fun fs => O.ok (D.obj 2 fs)))))))
def f_is_endless (v_fold v_lead v_ring : D) : O D :=
  ((O.cons (O.ok v_fold) (O.cons (((O.ok v_lead).bind fun x => (O.ok v_ring).bind fun y => b_add x y).bind fun x => ((O.ok v_ring).bind fun x => (O.ok none).bind fun l => ((O.ok (D.int 1)).bind fun x => (asI x).bind fun i => O.ok (some i)).bind fun h => cut x l h).bind fun y => b_add x y) (O.ok []))).bind (l2 f_is_let))
def f_for_ever (v_fold v_lead v_ring : D) : O D :=
  (((O.cons (O.ok v_fold) (O.ok [])).bind (l1 f_check_fold)).bind fun _ => (O.ite ((((O.cons (O.ok v_fold) (O.cons (O.ok v_lead) (O.cons (O.ok (D.int 0)) (O.cons (O.ok (D.int 200)) (O.ok []))))).bind (l4 f_are_cells)).bind asB).bind fun k => O.ok (!k)) ((O.cons (O.ok v_lead) (O.ok [])).bind fun ds => O.exc 105 ds) (O.ite ((((O.cons (O.ok v_fold) (O.cons (O.ok v_ring) (O.cons (O.ok (D.int 1)) (O.cons (O.ok (D.int 200)) (O.ok []))))).bind (l4 f_are_cells)).bind asB).bind fun k => O.ok (!k)) ((O.cons (O.ok v_ring) (O.ok [])).bind fun ds => O.exc 105 ds) (O.ite (((O.cons (O.ok v_fold) (O.cons (O.ok v_lead) (O.cons (O.ok v_ring) (O.ok [])))).bind (l3 f_is_endless)).bind asB) ((O.cons (O.ok v_fold) (O.cons (O.ok v_lead) (O.cons (O.ok v_ring) (O.ok [])))).bind (l3 f_least_raisin)) (O.ok (D.non))))))
def f_check_moves (v_letters v_moves : D) : O D :=
  (O.ite (O.ite (((tr ((O.ok v_moves).bind (isiB "tuple"))).bind asB).bind fun k => O.ok (!k)) (O.ok true) ((chainO (O.ok (D.int 1)) ((O.cons (O.ok v_moves) (O.ok [])).bind bi_len) (O.ok (D.int 6)) c_le c_le).bind fun k => O.ok (!k))) ((O.cons (O.ok (D.non)) (O.ok [])).bind fun ds => O.exc 108 ds) (((O.ok v_moves).bind enT).bind fun ds => (forO (fun (s1 : Unit) d => un2 d fun v_index_2 v_line_3 => (O.ite (O.ite (((tr ((O.ok v_line_3).bind (isiB "tuple"))).bind asB).bind fun k => O.ok (!k)) (O.ok true) (((O.cons (O.ok v_line_3) (O.ok [])).bind bi_len).bind fun x => ((O.cons (O.ok v_letters) (O.ok [])).bind bi_len).bind fun y => c_ne x y)) ((O.cons (O.ok v_index_2) (O.ok [])).bind fun ds => O.exc 108 ds) (O.ite ((((O.cons ((((O.ok v_line_3).bind itD).bind (mapO (fun v_stand => ((O.cons (O.ok v_stand) (O.cons (O.ok (D.int 0)) (O.cons (((O.cons (O.ok v_moves) (O.ok [])).bind bi_len).bind fun x => (O.ok (D.int 1)).bind fun y => b_sub x y) (O.ok [])))).bind (l3 f_is_between))))).bind fun ds => O.ok (D.lst ds)) (O.ok [])).bind bi_all).bind asB).bind fun k => O.ok (!k)) ((O.cons (O.ok v_index_2) (O.ok [])).bind fun ds => O.exc 108 ds) (O.ok ())))) ds ()).bind fun (s1 : Unit) => (O.ok D.non)))
def f_are_good (v_many v_good : D) : O D :=
  (O.ite (O.ite (((tr ((O.ok v_good).bind (isiB "tuple"))).bind asB).bind fun k => O.ok (!k)) (O.ok true) ((((O.cons ((((O.ok v_good).bind itD).bind (mapO (fun v_stand => ((O.cons (O.ok v_stand) (O.cons (O.ok (D.int 0)) (O.cons ((O.ok v_many).bind fun x => (O.ok (D.int 1)).bind fun y => b_sub x y) (O.ok [])))).bind (l3 f_is_between))))).bind fun ds => O.ok (D.lst ds)) (O.ok [])).bind bi_all).bind asB).bind fun k => O.ok (!k))) (O.ok (D.bl false)) ((O.cons (O.ok v_good) (O.ok [])).bind (l1 f_is_in_order)))
def Watch_init (v_letters v_moves v_good : D) : O (List (Str × D)) :=
  (O.ite (O.ite ((((O.cons (O.ok v_letters) (O.cons (O.ok (D.int 1)) (O.cons (O.ok (D.int 8)) (O.ok [])))).bind (l3 f_are_small)).bind asB).bind fun k => O.ok (!k)) (O.ok true) ((((O.cons (O.ok v_letters) (O.ok [])).bind (l1 f_is_in_order)).bind asB).bind fun k => O.ok (!k))) ((O.cons (O.ok v_letters) (O.ok [])).bind fun ds => O.exc 107 ds) (((O.cons (O.ok v_letters) (O.cons (O.ok v_moves) (O.ok []))).bind (l2 f_check_moves)).bind fun _ => (O.ite ((((O.cons ((O.cons (O.ok v_moves) (O.ok [])).bind (ownLen lens)) (O.cons (O.ok v_good) (O.ok []))).bind (l2 f_are_good)).bind asB).bind fun k => O.ok (!k)) ((O.cons (O.ok v_good) (O.ok [])).bind fun ds => O.exc 109 ds) ((O.ok v_letters).bind fun f1 => ((O.ok v_moves).bind fun f2 => ((O.ok v_good).bind fun f3 => (O.ok (putD "good" f3 (putD "moves" f2 (putD "letters" f1 ([])))))))))))
def f_stand_behind (v_watch v_stand v_sign : D) : O D :=
  ((((O.ok v_watch).bind (fld "moves" [4])).bind fun x => (O.ok v_stand).bind fun y => ix x y).bind fun x => (((O.ok v_watch).bind (fld "letters" [4])).bind fun x => (O.ok v_sign).bind fun y => t_index x y).bind fun y => ix x y)
def Watch_stand (v_self v_word : D) : O D :=
  (O.ite (O.ite ((((O.cons (O.ok v_word) (O.cons (O.ok (D.int 0)) (O.cons (O.ok (D.int 200)) (O.ok [])))).bind (l3 f_are_small)).bind asB).bind fun k => O.ok (!k)) (O.ok true) ((((O.cons ((((O.ok v_word).bind itD).bind (mapO (fun v_sign => (tr ((O.ok v_sign).bind fun x => ((O.ok v_self).bind (fld "letters" [4])).bind fun y => c_in x y))))).bind fun ds => O.ok (D.lst ds)) (O.ok [])).bind bi_all).bind asB).bind fun k => O.ok (!k))) ((O.cons (O.ok v_word) (O.ok [])).bind fun ds => O.exc 105 ds) ((O.ok (D.int 0)).bind fun v_here_1 => (((O.ok v_word).bind itD).bind fun ds => (forO (fun (s2 : D) v_sign_3 => (((O.cons (O.ok v_self) (O.cons (O.ok s2) (O.cons (O.ok v_sign_3) (O.ok [])))).bind (l3 f_stand_behind)).bind fun v_here_4 => (O.ok v_here_4))) ds v_here_1).bind fun (s2 : D) => (O.ok s2))))
def Watch_denied (v_self : D) : O D :=
  ((O.cons ((O.ok v_self).bind (fld "letters" [4])) (O.cons ((O.ok v_self).bind (fld "moves" [4])) (O.cons ((O.cons (((((O.cons ((O.ok v_self).bind (fld "moves" [4])) (O.ok [])).bind (ownLen lens)).bind rg1).bind (filO (fun v_k => ((O.ok v_k).bind fun x => ((O.ok v_self).bind (fld "good" [4])).bind fun y => c_nin x y)) (fun v_k => (O.ok v_k)))).bind fun ds => O.ok (D.lst ds)) (O.ok [])).bind bi_tuple) (O.ok [])))).bind fun ds => ((l3 Watch_init) (ds ++ [])).bind fun fs => O.ok (D.obj 4 fs))
def f_form_of (v_watch : D) : O D :=
  ((O.cons ((O.ok v_watch).bind (fld "letters" [4])) (O.cons ((O.ok v_watch).bind (fld "moves" [4])) (O.cons ((O.ok v_watch).bind (fld "good" [4])) (O.ok [])))).bind fun ds => O.ok (D.tup ds))
def Watch_eq (v_self v_other : D) : O D :=
  (tr (O.ite ((tr ((O.ok v_other).bind (isiC 4))).bind asB) ((tr (((O.cons (O.ok v_self) (O.ok [])).bind (l1 f_form_of)).bind fun x => ((O.cons (O.ok v_other) (O.ok [])).bind (l1 f_form_of)).bind fun y => c_eq x y)).bind asB) (O.ok false)))
def f_check_colours (v_fold v_colours : D) : O D :=
  (O.ite ((((O.cons (O.ok v_colours) (O.cons ((O.cons (O.ok v_fold) (O.ok [])).bind (ownLen lens)) (O.cons ((O.cons (O.ok v_fold) (O.ok [])).bind (ownLen lens)) (O.ok [])))).bind (l3 f_are_small)).bind asB).bind fun k => O.ok (!k)) ((O.cons (O.ok v_colours) (O.ok [])).bind fun ds => O.exc 106 ds) (O.ok D.non))
def f_goes_with (v_watch v_colours : D) : O D :=
  ((O.cons ((((O.ok v_colours).bind itD).bind (mapO (fun v_sign => (tr ((O.ok v_sign).bind fun x => ((O.ok v_watch).bind (fld "letters" [4])).bind fun y => c_in x y))))).bind fun ds => O.ok (D.lst ds)) (O.ok [])).bind bi_all)
def f_check_watch (v_colours v_watch : D) : O D :=
  (O.ite (((tr ((O.ok v_watch).bind (isiC 4))).bind asB).bind fun k => O.ok (!k)) ((O.cons (O.ok v_watch) (O.ok [])).bind fun ds => O.exc 117 ds) (O.ite ((((O.cons (O.ok v_watch) (O.cons (O.ok v_colours) (O.ok []))).bind (l2 f_goes_with)).bind asB).bind fun k => O.ok (!k)) ((O.cons (O.ok v_colours) (O.ok [])).bind fun ds => O.exc 119 ds) (O.ok D.non)))
def f_cells_of_colour (v_colours v_cells v_sign : D) : O D :=
  ((O.cons ((((((O.ok v_cells).bind sortSet).bind fun ds => O.ok (D.lst ds)).bind itD).bind (filO (fun v_cell => (((O.ok v_colours).bind fun x => (O.ok v_cell).bind fun y => ix x y).bind fun x => (O.ok v_sign).bind fun y => c_eq x y)) (fun v_cell => (O.ok v_cell)))).bind fun ds => O.ok (D.lst ds)) (O.ok [])).bind bi_tuple)
def f_opened (v_fold v_colours v_sign : D) : O D :=
  ((O.cons (O.ok v_colours) (O.cons ((((O.cons (O.ok v_fold) (O.ok [])).bind (ownLen lens)).bind fun y => rgL (D.int 0) y).bind fun ds => O.ok (D.lst ds)) (O.cons (O.ok v_sign) (O.ok [])))).bind (l3 f_cells_of_colour))
def f_led_to (v_fold v_colours v_cells v_sign : D) : O D :=
  ((O.ok []).bind fun v_found_1 => (((O.ok v_cells).bind itD).bind fun ds => (forO (fun (s2 : List D) v_cell_3 => (((O.cons (O.ok v_fold) (O.cons (O.ok v_cell_3) (O.ok []))).bind (l2 f_run_of)).bind fun a4 => sized (s2.length + a4.length) (O.ok (s2 ++ a4)))) ds v_found_1).bind fun (s2 : List D) => ((O.cons (O.ok v_colours) (O.cons (O.ok (D.lst s2)) (O.cons (O.ok v_sign) (O.ok [])))).bind (l3 f_cells_of_colour))))
def f_cells_behind (v_fold v_colours v_word : D) : O D :=
  (((O.cons (O.ok v_fold) (O.cons (O.ok v_colours) (O.cons ((O.ok v_word).bind fun x => (O.ok (D.int 0)).bind fun y => ix x y) (O.ok [])))).bind (l3 f_opened)).bind fun v_found_1 => ((((O.ok v_word).bind fun x => ((O.ok (D.int 1)).bind fun x => (asI x).bind fun i => O.ok (some i)).bind fun l => (O.ok none).bind fun h => cut x l h).bind itD).bind fun ds => (forO (fun (s2 : D) v_sign_3 => (((O.cons (O.ok v_fold) (O.cons (O.ok v_colours) (O.cons (O.ok s2) (O.cons (O.ok v_sign_3) (O.ok []))))).bind (l4 f_led_to)).bind fun v_found_4 => (O.ok v_found_4))) ds v_found_1).bind fun (s2 : D) => (O.ok s2)))
def f_check_shown (v_fold v_colours : D) : O D :=
  (((O.cons (O.ok v_fold) (O.ok [])).bind (l1 f_check_fold)).bind fun _ => (((O.cons (O.ok v_fold) (O.cons (O.ok v_colours) (O.ok []))).bind (l2 f_check_colours)).bind fun _ => (O.ok D.non)))
def f_is_shown (v_fold v_colours v_word : D) : O D :=
  (((O.cons (O.ok v_fold) (O.cons (O.ok v_colours) (O.ok []))).bind (l2 f_check_shown)).bind fun _ => (O.ite ((((O.cons (O.ok v_word) (O.cons (O.ok (D.int 1)) (O.cons (O.ok (D.int 200)) (O.ok [])))).bind (l3 f_are_small)).bind asB).bind fun k => O.ok (!k)) ((O.cons (O.ok v_word) (O.ok [])).bind fun ds => O.exc 105 ds) (tr (((O.cons (O.ok v_fold) (O.cons (O.ok v_colours) (O.cons (O.ok v_word) (O.ok [])))).bind (l3 f_cells_behind)).bind fun x => ((O.ok []).bind fun ds => O.ok (D.tup ds)).bind fun y => c_ne x y))))
def f_check_length (v_length v_most : D) : O D :=
  (O.ite ((((O.cons (O.ok v_length) (O.cons (O.ok (D.int 1)) (O.cons (O.ok v_most) (O.ok [])))).bind (l3 f_is_between)).bind asB).bind fun k => O.ok (!k)) ((O.cons (O.ok v_length) (O.ok [])).bind fun ds => O.exc 100 ds) (O.ok D.non))
def f_check_two (v_fold v_colours v_other v_other_colours : D) : O D :=
  (((O.cons (O.ok v_fold) (O.cons (O.ok v_colours) (O.ok []))).bind (l2 f_check_shown)).bind fun _ => (((O.cons (O.ok v_other) (O.ok [])).bind (l1 f_check_fold)).bind fun _ => (O.ite ((((O.cons (O.ok v_other_colours) (O.cons ((O.cons (O.ok v_other) (O.ok [])).bind (ownLen lens)) (O.cons ((O.cons (O.ok v_other) (O.ok [])).bind (ownLen lens)) (O.ok [])))).bind (l3 f_are_small)).bind asB).bind fun k => O.ok (!k)) ((O.cons (O.ok v_other_colours) (O.ok [])).bind fun ds => O.exc 106 ds) (O.ok D.non))))
def f_first_nodes (v_fold v_colours v_watch : D) : O D :=
  (((((O.cons (O.ok v_fold) (O.ok [])).bind (ownLen lens)).bind rg1).bind (mapO (fun v_cell => ((O.cons (O.ok v_cell) (O.cons ((O.cons (O.ok v_watch) (O.cons (O.ok (D.int 0)) (O.cons ((O.ok v_colours).bind fun x => (O.ok v_cell).bind fun y => ix x y) (O.ok [])))).bind (l3 f_stand_behind)) (O.ok []))).bind fun ds => O.ok (D.tup ds))))).bind fun ds => O.ok (D.lst ds))
def f_nodes_behind (v_fold v_colours v_watch v_node : D) : O D :=
  ((((((O.cons (O.ok v_fold) (O.cons ((O.ok v_node).bind fun x => (O.ok (D.int 0)).bind fun y => ix x y) (O.ok []))).bind (l2 f_run_of)).bind fun ds => O.ok (D.lst ds)).bind itD).bind (mapO (fun v_cell => ((O.cons (O.ok v_cell) (O.cons ((O.cons (O.ok v_watch) (O.cons ((O.ok v_node).bind fun x => (O.ok (D.int 1)).bind fun y => ix x y) (O.cons ((O.ok v_colours).bind fun x => (O.ok v_cell).bind fun y => ix x y) (O.ok [])))).bind (l3 f_stand_behind)) (O.ok []))).bind fun ds => O.ok (D.tup ds))))).bind fun ds => O.ok (D.lst ds))
def f_check_asked (v_fold v_colours v_watch : D) : O D :=
  (((O.cons (O.ok v_fold) (O.ok [])).bind (l1 f_check_fold)).bind fun _ => (((O.cons (O.ok v_fold) (O.cons (O.ok v_colours) (O.ok []))).bind (l2 f_check_colours)).bind fun _ => (((O.cons (O.ok v_colours) (O.cons (O.ok v_watch) (O.ok []))).bind (l2 f_check_watch)).bind fun _ => (O.ok D.non))))
def f_check_kind (v_kind : D) : O D :=
  (O.ite (O.ite (((tr ((O.ok v_kind).bind (isiB "str"))).bind asB).bind fun k => O.ok (!k)) (O.ok true) ((O.ok v_kind).bind fun x => (O.ok (D.tup [D.str "reaches", D.str "stays", D.str "returns", D.str "settles"])).bind fun y => c_nin x y)) ((O.cons (O.ok v_kind) (O.ok [])).bind fun ds => O.exc 110 ds) (O.ok D.non))
def f_row_pair (v_found : D) : O D :=
  (O.ite ((O.ok v_found).bind fun x => (O.ok (D.non)).bind fun y => c_is x y) (O.ok (D.non)) ((O.cons ((O.cons (((((O.ok v_found).bind fun x => (O.ok (D.int 0)).bind fun y => ix x y).bind itD).bind (mapO (fun v_state => ((O.ok v_state).bind fun x => (O.ok (D.int 0)).bind fun y => ix x y)))).bind fun ds => O.ok (D.lst ds)) (O.ok [])).bind bi_tuple) (O.cons ((O.cons (((((O.ok v_found).bind fun x => (O.ok (D.int 1)).bind fun y => ix x y).bind itD).bind (mapO (fun v_state => ((O.ok v_state).bind fun x => (O.ok (D.int 0)).bind fun y => ix x y)))).bind fun ds => O.ok (D.lst ds)) (O.ok [])).bind bi_tuple) (O.ok []))).bind fun ds => O.ok (D.tup ds)))
def f_check_wish (v_fold v_colours v_watch v_kind : D) : O D :=
  (((O.cons (O.ok v_fold) (O.cons (O.ok v_colours) (O.cons (O.ok v_watch) (O.ok [])))).bind (l3 f_check_asked)).bind fun _ => (((O.cons (O.ok v_kind) (O.ok [])).bind (l1 f_check_kind)).bind fun _ => (O.ok D.non)))
def Track_later (v_self v_place : D) : O D :=
  (O.ite (((O.ok v_place).bind fun x => (O.ok (D.int 1)).bind fun y => b_add x y).bind fun x => ((O.cons ((O.ok v_self).bind (fld "cells" [1, 5])) (O.ok [])).bind (ownLen lens)).bind fun y => c_lt x y) ((O.ok v_place).bind fun x => (O.ok (D.int 1)).bind fun y => b_add x y) ((O.ok v_self).bind (fld "begin" [5])))
def f_kept_to (v_track v_place v_cell v_sign : D) : O D :=
  ((((O.ok v_cell).bind fun x => (((O.ok v_track).bind (fld "cells" [1, 5])).bind fun x => (O.ok v_place).bind fun y => ix x y).bind fun y => b_sub x y).bind fun x => (O.ok v_sign).bind fun y => b_mul x y).bind fun v_gap_1 => ((O.ite ((((O.ok v_track).bind (fld "is_odd" [5])).bind fun x => (O.ok v_place).bind fun y => ix x y).bind asB) (((O.ok v_gap_1).bind b_neg).bind fun v_gap_2 => (O.ok v_gap_2)) (O.ok v_gap_1)).bind fun (j3 : D) => (O.ite ((O.ok j3).bind fun x => (O.ok (D.int 0)).bind fun y => c_eq x y) (O.ok v_place) (O.ite ((O.ok j3).bind fun x => (O.ok (D.int 0)).bind fun y => c_gt x y) ((O.ok (D.int 1)).bind b_neg) (O.ok (D.non))))))
def f_greatest_raisin (v_fold v_lead v_ring : D) : O D :=
  (O.ite (((O.cons ((O.cons (O.ok v_fold) (O.cons (O.ok v_ring) (O.ok []))).bind (l2 f_slope_of)) (O.ok [])).bind bi_abs).bind fun x => (O.ok (D.int 1)).bind fun y => c_eq x y) (((O.cons (O.ok v_fold) (O.cons ((O.ok v_lead).bind fun x => (O.ok v_ring).bind fun y => b_add x y) (O.ok []))).bind (l2 f_ends_of)).bind fun x => (O.ok (D.int 1)).bind fun y => ix x y) (((O.cons (O.ok v_fold) (O.cons (O.ok v_lead) (O.cons (O.ok v_ring) (O.ok [])))).bind (l3 f_least_raisin)).bind fun v_least_1 => (O.ite (O.ite (((O.ok v_least_1).bind (fld "side" [2])).bind fun x => (O.ok (D.str "+")).bind fun y => c_eq x y) (O.ok true) (((O.ok v_least_1).bind (fld "place" [2])).bind fun x => ((O.cons (O.ok v_fold) (O.ok [])).bind (ownLen lens)).bind fun y => c_eq x y)) (O.ok v_least_1) (((O.cons ((O.ok v_least_1).bind (fld "place" [2])) (O.cons (O.ok (D.str "+")) (O.ok []))).bind fun ds => ((l2 Raisin_init) (ds ++ [])).bind fun fs => O.ok (D.obj 2 fs)).bind fun v_other_2 => ((((O.ok v_lead).bind fun x => (O.ok v_ring).bind fun y => b_add x y).bind fun x => (O.ok v_ring).bind fun y => b_add x y).bind fun v_row_3 => (O.ite (((O.cons (O.ok v_fold) (O.cons (O.ok v_other_2) (O.cons ((O.cons (O.ok v_row_3) (O.ok [])).bind (ownLen lens)) (O.ok [])))).bind (l3 f_cells_shown)).bind fun x => (O.ok v_row_3).bind fun y => c_eq x y) (O.ok v_other_2) (O.ok v_least_1)))))))
def f_table_of (v_fold : D) : O D :=
  (((((O.cons (O.ok v_fold) (O.ok [])).bind (ownLen lens)).bind rg1).bind (mapO (fun v_cell => (((((O.cons (O.ok v_fold) (O.ok [])).bind (ownLen lens)).bind rg1).bind (mapO (fun v_later => ((O.cons (tr ((O.ok v_later).bind fun x => (((O.cons (O.ok v_fold) (O.cons (O.ok v_cell) (O.ok []))).bind (l2 f_run_of)).bind fun ds => O.ok (D.lst ds)).bind fun y => c_in x y)) (O.ok [])).bind bi_int)))).bind fun ds => O.ok (D.lst ds))))).bind fun ds => O.ok (D.lst ds))
def f_trace (v_table : D) : O D :=
  ((O.cons (((((O.cons (O.ok v_table) (O.ok [])).bind (ownLen lens)).bind rg1).bind (mapO (fun v_index => (((O.ok v_table).bind fun x => (O.ok v_index).bind fun y => ix x y).bind fun x => (O.ok v_index).bind fun y => ix x y)))).bind fun ds => O.ok (D.lst ds)) (O.ok [])).bind bi_sum)
def f_rows (v_fold v_length : D) : O D :=
  (((O.cons (O.ok v_fold) (O.ok [])).bind (l1 f_check_fold)).bind fun _ => (((O.cons (O.ok v_length) (O.cons (O.ok (D.int 200)) (O.ok []))).bind (l2 f_check_length)).bind fun _ => ((((O.cons (O.ok (D.int 1)) (O.ok [])).bind fun ds => ((O.cons (O.ok v_fold) (O.ok [])).bind (ownLen lens)).bind fun y => repO ds y).bind fun ds => O.ok (D.lst ds)).bind fun v_here_1 => ((((O.ok v_length).bind fun x => (O.ok (D.int 1)).bind fun y => b_sub x y).bind rg1).bind fun ds => (forO (fun (s2 : D) v_turn_3 => ((((((O.cons (O.ok v_fold) (O.ok [])).bind (ownLen lens)).bind rg1).bind (mapO (fun v_cell => ((O.cons ((((((O.cons (O.ok v_fold) (O.cons (O.ok v_cell) (O.ok []))).bind (l2 f_run_of)).bind fun ds => O.ok (D.lst ds)).bind itD).bind (mapO (fun v_later => ((O.ok s2).bind fun x => (O.ok v_later).bind fun y => ix x y)))).bind fun ds => O.ok (D.lst ds)) (O.ok [])).bind bi_sum)))).bind fun ds => O.ok (D.lst ds)).bind fun v_here_4 => (O.ok v_here_4))) ds v_here_1).bind fun (s2 : D) => ((O.cons (O.ok s2) (O.ok [])).bind bi_sum)))))
def f_are_amounts (v_fold v_amounts : D) : O D :=
  (O.ite (O.ite (((tr ((O.ok v_amounts).bind (isiB "tuple"))).bind asB).bind fun k => O.ok (!k)) (O.ok true) (((O.cons (O.ok v_amounts) (O.ok [])).bind (ownLen lens)).bind fun x => ((O.cons (O.ok v_fold) (O.ok [])).bind (ownLen lens)).bind fun y => c_ne x y)) (O.ok (D.bl false)) ((O.cons ((((O.ok v_amounts).bind itD).bind (mapO (fun v_amount => (tr (O.ite (((O.cons (O.ok v_amount) (O.ok [])).bind (l1 f_is_fraction)).bind asB) ((tr ((((O.cons (O.ok v_amount) (O.ok [])).bind (l1 f_as_ratio)).bind (fld "top" [0])).bind fun x => (O.ok (D.int 0)).bind fun y => c_ge x y)).bind asB) (O.ok false)))))).bind fun ds => O.ok (D.lst ds)) (O.ok [])).bind bi_all))
def f_spread_once (v_fold v_amounts : D) : O D :=
  (((O.cons ((O.cons (O.ok (D.int 0)) (O.ok [])).bind fun ds => ((l2 Ratio_init) (ds ++ [D.int 1])).bind fun fs => O.ok (D.obj 0 fs)) (O.ok [])).bind fun ds => ((O.cons (O.ok v_fold) (O.ok [])).bind (ownLen lens)).bind fun y => repO ds y).bind fun v_found_1 => (((O.ok v_amounts).bind enT).bind fun ds => (forO (fun (s2 : List D) d => un2 d fun v_cell_3 v_amount_4 => (((O.ok v_amount_4).bind fun x => ((O.cons (O.ok (D.int 1)) (O.cons ((O.cons (O.ok v_fold) (O.cons (O.ok v_cell_3) (O.ok []))).bind (l2 f_factor_of)) (O.ok []))).bind fun ds => ((l2 Ratio_init) (ds ++ [])).bind fun fs => O.ok (D.obj 0 fs)).bind fun y => (r_op b_mul Ratio_mul Ratio_rmul) x y).bind fun v_share_5 => (((((O.cons (O.ok v_fold) (O.cons (O.ok v_cell_3) (O.ok []))).bind (l2 f_run_of)).bind fun ds => O.ok (D.lst ds)).bind itD).bind fun ds => (forO (fun (s6 : List D) v_later_7 => ((((O.ok v_later_7).bind fun y => ix (D.lst s6) y).bind fun x => (O.ok v_share_5).bind fun y => (r_op b_add Ratio_add Ratio_radd) x y).bind fun a8 => (O.ok v_later_7).bind fun y => (asI y).bind fun i => op2 (ixN s6.length i) fun n9 => (O.ok (s6.set n9 a8)))) ds s2).bind fun (s6 : List D) => (O.ok s6)))) ds v_found_1).bind fun (s2 : List D) => (O.ok (D.lst s2))))
def f_dye_after (v_fold v_amounts v_turns : D) : O D :=
  (((O.cons (O.ok v_fold) (O.ok [])).bind (l1 f_check_fold)).bind fun _ => (O.ite ((((O.cons (O.ok v_fold) (O.cons (O.ok v_amounts) (O.ok []))).bind (l2 f_are_amounts)).bind asB).bind fun k => O.ok (!k)) ((O.cons (O.ok v_amounts) (O.ok [])).bind fun ds => O.exc 111 ds) (O.ite ((((O.cons (O.ok v_turns) (O.cons (O.ok (D.int 0)) (O.cons (O.ok (D.int 200)) (O.ok [])))).bind (l3 f_is_between)).bind asB).bind fun k => O.ok (!k)) ((O.cons (O.ok v_turns) (O.ok [])).bind fun ds => O.exc 100 ds) (((((O.ok v_amounts).bind itD).bind (mapO (fun v_amount => ((O.cons (O.ok v_amount) (O.ok [])).bind (l1 f_as_ratio))))).bind fun ds => O.ok (D.lst ds)).bind fun v_here_1 => (((O.ok v_turns).bind rg1).bind fun ds => (forO (fun (s2 : D) v_turn_3 => (((O.cons (O.ok v_fold) (O.cons (O.ok s2) (O.ok []))).bind (l2 f_spread_once)).bind fun v_here_4 => (O.ok v_here_4))) ds v_here_1).bind fun (s2 : D) => ((O.cons (O.ok s2) (O.ok [])).bind bi_tuple))))))
def f_common_multiple (v_numbers : D) : O D :=
  ((O.ok (D.int 1)).bind fun v_found_1 => (((O.ok v_numbers).bind itD).bind fun ds => (forO (fun (s2 : D) v_number_3 => ((((O.ok s2).bind fun x => (O.ok v_number_3).bind fun y => b_mul x y).bind fun x => ((O.cons (O.ok s2) (O.cons (O.ok v_number_3) (O.ok []))).bind (l2 f_shared_factor)).bind fun y => b_fdiv x y).bind fun v_found_4 => (O.ok v_found_4))) ds v_found_1).bind fun (s2 : D) => (O.ok s2)))
def f_quotient (v_one v_two : D) : O D :=
  ((O.cons ((O.ok v_one).bind fun x => ((O.ok v_two).bind (fld "bottom" [0])).bind fun y => b_mul x y) (O.cons ((O.ok v_two).bind (fld "top" [0])) (O.ok []))).bind (l2 f_divided))
def f_fold_in (v_value : D) : O D :=
  ((O.cons (O.ok v_value) (O.ok [])).bind fun ds => ((l1 Fold_init) (ds ++ [])).bind fun fs => O.ok (D.obj 1 fs))
def f_watch_in (v_value : D) : O D :=
  (O.ite (O.ite (((tr ((O.ok v_value).bind (isiB "tuple"))).bind asB).bind fun k => O.ok (!k)) (O.ok true) (((O.cons (O.ok v_value) (O.ok [])).bind (ownLen lens)).bind fun x => (O.ok (D.int 3)).bind fun y => c_ne x y)) (O.ok (D.non)) ((O.cons ((O.ok v_value).bind fun x => (O.ok (D.int 0)).bind fun y => ix x y) (O.cons ((O.ok v_value).bind fun x => (O.ok (D.int 1)).bind fun y => ix x y) (O.cons ((O.ok v_value).bind fun x => (O.ok (D.int 2)).bind fun y => ix x y) (O.ok [])))).bind fun ds => ((l3 Watch_init) (ds ++ [])).bind fun fs => O.ok (D.obj 4 fs)))
def f_is_triple (v_fold v_watch v_value : D) : O D :=
  (O.ite (O.ite (((tr ((O.ok v_value).bind (isiB "tuple"))).bind asB).bind fun k => O.ok (!k)) (O.ok true) (O.ite (((O.cons (O.ok v_value) (O.ok [])).bind (ownLen lens)).bind fun x => (O.ok (D.int 3)).bind fun y => c_ne x y) (O.ok true) (O.ite ((((O.cons ((O.ok v_value).bind fun x => (O.ok (D.int 2)).bind fun y => ix x y) (O.ok [])).bind (l1 f_is_integer)).bind asB).bind fun k => O.ok (!k)) (O.ok true) (((O.ok v_value).bind fun x => (O.ok (D.int 2)).bind fun y => ix x y).bind fun x => (O.ok (D.int 0)).bind fun y => c_lt x y)))) (O.ok (D.bl false)) (tr (O.ite (((O.cons ((O.ok v_value).bind fun x => (O.ok (D.int 0)).bind fun y => ix x y) (O.cons (O.ok (D.int 0)) (O.cons (((O.cons (O.ok v_fold) (O.ok [])).bind (ownLen lens)).bind fun x => (O.ok (D.int 1)).bind fun y => b_sub x y) (O.ok [])))).bind (l3 f_is_between)).bind asB) (((O.cons ((O.ok v_value).bind fun x => (O.ok (D.int 1)).bind fun y => ix x y) (O.cons (O.ok (D.int 0)) (O.cons (((O.cons (O.ok v_watch) (O.ok [])).bind (ownLen lens)).bind fun x => (O.ok (D.int 1)).bind fun y => b_sub x y) (O.ok [])))).bind (l3 f_is_between)).bind asB) (O.ok false))))
def f_is_step_right (v_kind v_ranks v_node v_later v_is_good : D) : O D :=
  (O.ite ((O.ok v_kind).bind fun x => (O.ok (D.str "reaches")).bind fun y => c_eq x y) (tr (O.ite ((O.ok v_is_good).bind asB) (O.ok true) ((tr (O.ite ((tr ((O.ok v_later).bind fun x => (O.ok v_ranks).bind fun y => c_in x y)).bind asB) ((tr (((O.ok v_ranks).bind fun x => (O.ok v_later).bind fun y => ix x y).bind fun x => ((O.ok v_ranks).bind fun x => (O.ok v_node).bind fun y => ix x y).bind fun y => c_lt x y)).bind asB) (O.ok false))).bind asB))) (O.ite ((O.ok v_later).bind fun x => (O.ok v_ranks).bind fun y => c_nin x y) (O.ok (D.bl false)) (O.ite (O.ite ((O.ok v_kind).bind fun x => (O.ok (D.str "stays")).bind fun y => c_eq x y) (O.ok true) (O.ite ((O.ok v_kind).bind fun x => (O.ok (D.str "returns")).bind fun y => c_eq x y) ((O.ok v_is_good).bind asB) (O.ok false))) (O.ok (D.bl true)) (O.ite ((O.ok v_is_good).bind asB) (tr (((O.ok v_ranks).bind fun x => (O.ok v_later).bind fun y => ix x y).bind fun x => ((O.ok v_ranks).bind fun x => (O.ok v_node).bind fun y => ix x y).bind fun y => c_le x y)) (tr (((O.ok v_ranks).bind fun x => (O.ok v_later).bind fun y => ix x y).bind fun x => ((O.ok v_ranks).bind fun x => (O.ok v_node).bind fun y => ix x y).bind fun y => c_lt x y))))))
def f_is_always (v_fold v_colours v_watch v_kind v_ranks : D) : O D :=
  (((O.cons (O.ok v_fold) (O.cons (O.ok v_colours) (O.cons (O.ok v_watch) (O.ok [])))).bind (l3 f_first_nodes)).bind fun v_begins_1 => ((O.ite ((O.ok v_kind).bind fun x => (O.ok (D.str "reaches")).bind fun y => c_eq x y) (((((O.ok v_begins_1).bind itD).bind (filO (fun v_node => (((O.ok v_node).bind fun x => (O.ok (D.int 1)).bind fun y => ix x y).bind fun x => ((O.ok v_watch).bind (fld "good" [4])).bind fun y => c_nin x y)) (fun v_node => (O.ok v_node)))).bind fun ds => O.ok (D.lst ds)).bind fun v_begins_2 => (O.ok v_begins_2)) (O.ok v_begins_1)).bind fun (j3 : D) => (O.ite ((((O.cons ((((O.ok j3).bind itD).bind (mapO (fun v_node => (tr ((O.ok v_node).bind fun x => (O.ok v_ranks).bind fun y => c_in x y))))).bind fun ds => O.ok (D.lst ds)) (O.ok [])).bind bi_all).bind asB).bind fun k => O.ok (!k)) (O.ok (D.bl false)) (((O.ok v_ranks).bind itD).bind fun ds => thenO (loopO (fun (s4 : Unit) v_node_5 => (O.ite (O.ite (O.ite ((O.ok v_kind).bind fun x => (O.ok (D.str "stays")).bind fun y => c_eq x y) (((O.ok v_node_5).bind fun x => (O.ok (D.int 1)).bind fun y => ix x y).bind fun x => ((O.ok v_watch).bind (fld "good" [4])).bind fun y => c_nin x y) (O.ok false)) (O.ok true) (O.ite ((O.ok v_kind).bind fun x => (O.ok (D.str "reaches")).bind fun y => c_eq x y) (((O.ok v_node_5).bind fun x => (O.ok (D.int 1)).bind fun y => ix x y).bind fun x => ((O.ok v_watch).bind (fld "good" [4])).bind fun y => c_in x y) (O.ok false))) ((O.ok (D.bl false)).bind fun d => O.ok (Fl.rt (d))) ((((O.cons (O.ok v_fold) (O.cons (O.ok v_colours) (O.cons (O.ok v_watch) (O.cons (O.ok v_node_5) (O.ok []))))).bind (l4 f_nodes_behind)).bind itD).bind fun ds => thenO (loopO (fun (s6 : Unit) v_later_7 => (O.ite ((((O.cons (O.ok v_kind) (O.cons (O.ok v_ranks) (O.cons (O.ok v_node_5) (O.cons (O.ok v_later_7) (O.cons (tr (((O.ok v_later_7).bind fun x => (O.ok (D.int 1)).bind fun y => ix x y).bind fun x => ((O.ok v_watch).bind (fld "good" [4])).bind fun y => c_in x y)) (O.ok [])))))).bind (l5 f_is_step_right)).bind asB).bind fun k => O.ok (!k)) ((O.ok (D.bl false)).bind fun d => O.ok (Fl.rt (Fl.rt (d)))) (O.ok (Fl.nx ())))) ds ()) fun (s6 : Unit) => (O.ok (Fl.nx ()))))) ds ()) fun (s4 : Unit) => (O.ok (D.bl true))))))
def f_are_all_cells (v_fold v_value : D) : O D :=
  (tr (O.ite ((tr ((O.ok v_value).bind (isiB "tuple"))).bind asB) (((O.cons ((((O.ok v_value).bind itD).bind (mapO (fun v_cell => ((O.cons (O.ok v_cell) (O.cons (O.ok (D.int 0)) (O.cons (((O.cons (O.ok v_fold) (O.ok [])).bind (ownLen lens)).bind fun x => (O.ok (D.int 1)).bind fun y => b_sub x y) (O.ok [])))).bind (l3 f_is_between))))).bind fun ds => O.ok (D.lst ds)) (O.ok [])).bind bi_all).bind asB) (O.ok false)))
def f_stands_along (v_colours v_watch v_stand v_cells : D) : O D :=
  ((O.ok []).bind fun v_found_1 => (((O.ok v_cells).bind itD).bind fun ds => (forO (fun (s2 : D × List D) v_cell_3 => (((O.cons (O.ok v_watch) (O.cons (O.ok s2.1) (O.cons ((O.ok v_colours).bind fun x => (O.ok v_cell_3).bind fun y => ix x y) (O.ok [])))).bind (l3 f_stand_behind)).bind fun v_stand_4 => ((O.ok v_stand_4).bind fun a5 => sized s2.2.length (O.ok (v_stand_4, (s2.2 ++ [a5])))))) ds (v_stand, v_found_1)).bind fun (s2 : D × List D) => (O.ok (D.lst s2.2))))
def f_is_pair (v_fold v_other v_value : D) : O D :=
  (O.ite (O.ite (((tr ((O.ok v_value).bind (isiB "tuple"))).bind asB).bind fun k => O.ok (!k)) (O.ok true) (O.ite (((O.cons (O.ok v_value) (O.ok [])).bind (ownLen lens)).bind fun x => (O.ok (D.int 2)).bind fun y => c_ne x y) (O.ok true) ((((O.cons (O.ok v_fold) (O.cons ((O.ok v_value).bind fun x => (O.ok (D.int 0)).bind fun y => ix x y) (O.ok []))).bind (l2 f_are_all_cells)).bind asB).bind fun k => O.ok (!k)))) (O.ok (D.bl false)) (O.ite (O.ite ((((O.cons (O.ok v_other) (O.cons ((O.ok v_value).bind fun x => (O.ok (D.int 1)).bind fun y => ix x y) (O.ok []))).bind (l2 f_are_all_cells)).bind asB).bind fun k => O.ok (!k)) (O.ok true) (O.ite (((O.ok v_value).bind fun x => (O.ok (D.int 0)).bind fun y => ix x y).bind fun x => ((O.ok []).bind fun ds => O.ok (D.tup ds)).bind fun y => c_eq x y) (O.ok true) (((O.ok v_value).bind fun x => (O.ok (D.int 1)).bind fun y => ix x y).bind fun x => ((O.ok []).bind fun ds => O.ok (D.tup ds)).bind fun y => c_eq x y))) (O.ok (D.bl false)) (tr (O.ite (((O.cons ((O.ok v_value).bind fun x => (O.ok (D.int 0)).bind fun y => ix x y) (O.ok [])).bind (l1 f_is_in_order)).bind asB) (((O.cons ((O.ok v_value).bind fun x => (O.ok (D.int 1)).bind fun y => ix x y) (O.ok [])).bind (l1 f_is_in_order)).bind asB) (O.ok false)))))
def f_number_in (v_word v_least v_most : D) : O D :=
  (O.ite (O.ite (((O.cons (O.ok v_word) (O.ok [])).bind (ownLen lens)).bind fun x => (O.ok (D.int 50)).bind fun y => c_gt x y) (O.ok true) ((((O.cons (O.ok v_word) (O.ok [])).bind (l1 f_are_figures)).bind asB).bind fun k => O.ok (!k))) (O.ok (D.non)) (O.ite (((O.cons ((O.cons (O.ok v_word) (O.ok [])).bind bi_int) (O.cons (O.ok v_least) (O.cons (O.ok v_most) (O.ok [])))).bind (l3 f_is_between)).bind asB) ((O.cons (O.ok v_word) (O.ok [])).bind bi_int) (O.ok (D.non))))
def f_raisin_on (v_fold v_word : D) : O D :=
  (((O.cons (O.ok v_word) (O.ok [])).bind (l1 Raisin_read)).bind fun v_found_1 => (O.ite (((O.cons (O.ok v_fold) (O.cons (O.ok v_found_1) (O.ok []))).bind (l2 f_is_inside)).bind asB) (O.ok v_found_1) (O.ok (D.non))))
def f_gap_in (v_word : D) : O D :=
  (((O.cons (O.ok v_word) (O.ok [])).bind (l1 Ratio_read)).bind fun v_found_1 => (O.ite (((O.ok v_found_1).bind (fld "top" [0])).bind fun x => (O.ok (D.int 0)).bind fun y => c_gt x y) (O.ok v_found_1) (O.ok (D.non))))
def f_or_none (v_value : D) : O D :=
  (O.ite ((O.ok v_value).bind fun x => (O.ok (D.non)).bind fun y => c_is x y) (O.ok (D.str "none")) ((O.cons (O.ok v_value) (O.ok [])).bind (ownStr txts)))
def Console_init (v_fold v_colours : D) : O (List (Str × D)) :=
  (((O.cons (O.ok v_fold) (O.cons (O.ok v_colours) (O.ok []))).bind (l2 f_check_shown)).bind fun _ => ((O.ok v_fold).bind fun f1 => ((O.ok v_colours).bind fun f2 => (O.ok (putD "colours" f2 (putD "fold" f1 ([])))))))
def Console_about_stretch (v_self v_words : D) : O D :=
  (((O.cons ((((O.ok v_words).bind itD).bind (mapO (fun v_word => ((O.cons (O.ok v_word) (O.cons (O.ok (D.int 0)) (O.cons (((O.cons ((O.ok v_self).bind (fld "fold" [6])) (O.ok [])).bind (ownLen lens)).bind fun x => (O.ok (D.int 1)).bind fun y => b_sub x y) (O.ok [])))).bind (l3 f_number_in))))).bind fun ds => O.ok (D.lst ds)) (O.ok [])).bind bi_tuple).bind fun v_row_1 => (O.ite ((O.ok (D.non)).bind fun x => (O.ok v_row_1).bind fun y => c_in x y) (O.ok (D.non)) (((O.cons ((O.ok v_self).bind (fld "fold" [6])) (O.cons (O.ok v_row_1) (O.ok []))).bind (l2 f_stretch)).bind fun v_found_2 => (O.ite ((O.ok v_found_2).bind fun x => (O.ok (D.non)).bind fun y => c_is x y) (O.ok (D.str "none")) (jO [(((O.cons ((O.ok v_found_2).bind fun x => (O.ok (D.int 0)).bind fun y => ix x y) (O.ok [])).bind (ownStr txts)).bind fmtO), (O.ok (D.str " ")), (((O.cons ((O.ok v_found_2).bind fun x => (O.ok (D.int 1)).bind fun y => ix x y) (O.ok [])).bind (ownStr txts)).bind fmtO)] Str.empty)))))
def f_is_guard (v_fold v_value : D) : O D :=
  (O.ite (O.ite (((tr ((O.ok v_value).bind (isiB "tuple"))).bind asB).bind fun k => O.ok (!k)) (O.ok true) (((O.cons (O.ok v_value) (O.ok [])).bind (ownLen lens)).bind fun x => (O.ok (D.int 3)).bind fun y => c_ne x y)) (O.ok (D.bl false)) ((O.ok v_value).bind fun d => un3 d fun v_colours_1 v_watch_2 v_kind_3 => (O.ite (O.ite ((((O.cons (O.ok v_colours_1) (O.cons ((O.cons (O.ok v_fold) (O.ok [])).bind (ownLen lens)) (O.cons ((O.cons (O.ok v_fold) (O.ok [])).bind (ownLen lens)) (O.ok [])))).bind (l3 f_are_small)).bind asB).bind fun k => O.ok (!k)) (O.ok true) (((tr ((O.ok v_watch_2).bind (isiC 4))).bind asB).bind fun k => O.ok (!k))) (O.ok (D.bl false)) (tr (O.ite (((O.cons (O.ok v_watch_2) (O.cons (O.ok v_colours_1) (O.ok []))).bind (l2 f_goes_with)).bind asB) ((tr (O.ite ((tr ((O.ok v_kind_3).bind (isiB "str"))).bind asB) ((tr ((O.ok v_kind_3).bind fun x => (O.ok (D.tup [D.str "reaches", D.str "stays", D.str "returns", D.str "settles"])).bind fun y => c_in x y)).bind asB) (O.ok false))).bind asB) (O.ok false))))))
def f_check_guards (v_fold v_guards : D) : O D :=
  (O.ite (O.ite (((tr ((O.ok v_guards).bind (isiB "tuple"))).bind asB).bind fun k => O.ok (!k)) (O.ok true) (((O.cons (O.ok v_guards) (O.ok [])).bind (ownLen lens)).bind fun x => (O.ok (D.int 4)).bind fun y => c_gt x y)) ((O.cons (O.ok (D.non)) (O.ok [])).bind fun ds => O.exc 112 ds) (((O.ok v_guards).bind enT).bind fun ds => (forO (fun (s1 : Unit) d => un2 d fun v_index_2 v_guard_3 => (O.ite ((((O.cons (O.ok v_fold) (O.cons (O.ok v_guard_3) (O.ok []))).bind (l2 f_is_guard)).bind asB).bind fun k => O.ok (!k)) ((O.cons (O.ok v_index_2) (O.ok [])).bind fun ds => O.exc 112 ds) (O.ok ()))) ds ()).bind fun (s1 : Unit) => (O.ok D.non)))
def f_baker : O D :=
  ((O.cons (O.ok (D.str "0-1 0-1")) (O.ok [])).bind (l1 Fold_read))
def f_tent : O D :=
  ((O.cons (O.ok (D.str "0-1 0-1~")) (O.ok [])).bind (l1 Fold_read))
def f_golden : O D :=
  ((O.cons (O.ok (D.str "0-1 0-0")) (O.ok [])).bind (l1 Fold_read))
def f_roller : O D :=
  ((O.cons (O.ok (D.str "1-2 0-2~ 0-0")) (O.ok [])).bind (l1 Fold_read))
def mt_compared : List D → O D
  | .obj 0 fs :: ds => if (fs.lookup ("compared" : Str)).isNone then l2 Ratio_compared (.obj 0 fs :: ds) else .bad
  | .obj 2 fs :: ds => if (fs.lookup ("compared" : Str)).isNone then l2 Raisin_compared (.obj 2 fs :: ds) else .bad
  | _ => .bad
def mt_run : List D → O D
  | .obj 1 fs :: ds => if (fs.lookup ("run" : Str)).isNone then l2 Fold_run (.obj 1 fs :: ds) else .bad
  | _ => .bad
def mt_factor : List D → O D
  | .obj 1 fs :: ds => if (fs.lookup ("factor" : Str)).isNone then l2 Fold_factor (.obj 1 fs :: ds) else .bad
  | _ => .bad
def mt_stand : List D → O D
  | .obj 4 fs :: ds => if (fs.lookup ("stand" : Str)).isNone then l2 Watch_stand (.obj 4 fs :: ds) else .bad
  | _ => .bad
def mt_denied : List D → O D
  | .obj 4 fs :: ds => if (fs.lookup ("denied" : Str)).isNone then l1 Watch_denied (.obj 4 fs :: ds) else .bad
  | _ => .bad
def mt_later : List D → O D
  | .obj 5 fs :: ds => if (fs.lookup ("later" : Str)).isNone then l2 Track_later (.obj 5 fs :: ds) else .bad
  | _ => .bad
def eqs : Nat → Option (D → D → O D)
  | 0 => some Ratio_eq
  | 1 => some Fold_eq
  | 2 => some Raisin_eq
  | 4 => some Watch_eq
  | _ => none
theorem mtH_compared {F : Fam} {k0 k2 : Nat} (m0 : F.C.has 0 = true → Met F.P F.w F.C F.mg F.base k0 0 "compared" (spF F.C (l2 Ratio_compared))) (m2 : F.C.has 2 = true → Met F.P F.w F.C F.mg F.base k2 2 "compared" (spF F.C (l2 Raisin_compared))) (h0 : k0 ≤ F.k := by exact Nat.le_of_ble_eq_true rfl) (h2 : k2 ≤ F.k := by exact Nat.le_of_ble_eq_true rfl) : MtH F "compared" mt_compared := fun x ds d h => by
  unfold mt_compared at h; split at h
  · rename_i fs ds' e; cases e; split at h
    · exact ⟨0, fs, rfl, fun hh => ⟨k0, _, h0, m0 hh, by rename_i z; exact Option.isNone_iff_eq_none.mp z, h⟩⟩
    · cases h
  · rename_i fs ds' e; cases e; split at h
    · exact ⟨2, fs, rfl, fun hh => ⟨k2, _, h2, m2 hh, by rename_i z; exact Option.isNone_iff_eq_none.mp z, h⟩⟩
    · cases h
  · cases h
theorem mtHK_compared {F : Fam} {k0 k2 : Nat} {ks : List Str} {ix : List Nat} (m0 : F.C.has 0 = true → MetK F.P F.w F.C F.mg F.base k0 0 "compared" (spF F.C (l2 Ratio_compared)) ks ix) (m2 : F.C.has 2 = true → MetK F.P F.w F.C F.mg F.base k2 2 "compared" (spF F.C (l2 Raisin_compared)) ks ix) (h0 : k0 ≤ F.k := by exact Nat.le_of_ble_eq_true rfl) (h2 : k2 ≤ F.k := by exact Nat.le_of_ble_eq_true rfl) : MtHK F "compared" mt_compared ks ix := fun x ds d h => by
  unfold mt_compared at h; split at h
  · rename_i fs ds' e; cases e; split at h
    · exact ⟨0, fs, rfl, fun hh => ⟨k0, _, h0, m0 hh, by rename_i z; exact Option.isNone_iff_eq_none.mp z, h⟩⟩
    · cases h
  · rename_i fs ds' e; cases e; split at h
    · exact ⟨2, fs, rfl, fun hh => ⟨k2, _, h2, m2 hh, by rename_i z; exact Option.isNone_iff_eq_none.mp z, h⟩⟩
    · cases h
  · cases h
theorem mtH_run {F : Fam} {k1 : Nat} (m1 : F.C.has 1 = true → Met F.P F.w F.C F.mg F.base k1 1 "run" (spF F.C (l2 Fold_run))) (h1 : k1 ≤ F.k := by exact Nat.le_of_ble_eq_true rfl) : MtH F "run" mt_run := fun x ds d h => by
  unfold mt_run at h; split at h
  · rename_i fs ds' e; cases e; split at h
    · exact ⟨1, fs, rfl, fun hh => ⟨k1, _, h1, m1 hh, by rename_i z; exact Option.isNone_iff_eq_none.mp z, h⟩⟩
    · cases h
  · cases h
theorem mtHK_run {F : Fam} {k1 : Nat} {ks : List Str} {ix : List Nat} (m1 : F.C.has 1 = true → MetK F.P F.w F.C F.mg F.base k1 1 "run" (spF F.C (l2 Fold_run)) ks ix) (h1 : k1 ≤ F.k := by exact Nat.le_of_ble_eq_true rfl) : MtHK F "run" mt_run ks ix := fun x ds d h => by
  unfold mt_run at h; split at h
  · rename_i fs ds' e; cases e; split at h
    · exact ⟨1, fs, rfl, fun hh => ⟨k1, _, h1, m1 hh, by rename_i z; exact Option.isNone_iff_eq_none.mp z, h⟩⟩
    · cases h
  · cases h
theorem mtH_factor {F : Fam} {k1 : Nat} (m1 : F.C.has 1 = true → Met F.P F.w F.C F.mg F.base k1 1 "factor" (spF F.C (l2 Fold_factor))) (h1 : k1 ≤ F.k := by exact Nat.le_of_ble_eq_true rfl) : MtH F "factor" mt_factor := fun x ds d h => by
  unfold mt_factor at h; split at h
  · rename_i fs ds' e; cases e; split at h
    · exact ⟨1, fs, rfl, fun hh => ⟨k1, _, h1, m1 hh, by rename_i z; exact Option.isNone_iff_eq_none.mp z, h⟩⟩
    · cases h
  · cases h
theorem mtHK_factor {F : Fam} {k1 : Nat} {ks : List Str} {ix : List Nat} (m1 : F.C.has 1 = true → MetK F.P F.w F.C F.mg F.base k1 1 "factor" (spF F.C (l2 Fold_factor)) ks ix) (h1 : k1 ≤ F.k := by exact Nat.le_of_ble_eq_true rfl) : MtHK F "factor" mt_factor ks ix := fun x ds d h => by
  unfold mt_factor at h; split at h
  · rename_i fs ds' e; cases e; split at h
    · exact ⟨1, fs, rfl, fun hh => ⟨k1, _, h1, m1 hh, by rename_i z; exact Option.isNone_iff_eq_none.mp z, h⟩⟩
    · cases h
  · cases h
theorem mtH_stand {F : Fam} {k4 : Nat} (m4 : F.C.has 4 = true → Met F.P F.w F.C F.mg F.base k4 4 "stand" (spF F.C (l2 Watch_stand))) (h4 : k4 ≤ F.k := by exact Nat.le_of_ble_eq_true rfl) : MtH F "stand" mt_stand := fun x ds d h => by
  unfold mt_stand at h; split at h
  · rename_i fs ds' e; cases e; split at h
    · exact ⟨4, fs, rfl, fun hh => ⟨k4, _, h4, m4 hh, by rename_i z; exact Option.isNone_iff_eq_none.mp z, h⟩⟩
    · cases h
  · cases h
theorem mtHK_stand {F : Fam} {k4 : Nat} {ks : List Str} {ix : List Nat} (m4 : F.C.has 4 = true → MetK F.P F.w F.C F.mg F.base k4 4 "stand" (spF F.C (l2 Watch_stand)) ks ix) (h4 : k4 ≤ F.k := by exact Nat.le_of_ble_eq_true rfl) : MtHK F "stand" mt_stand ks ix := fun x ds d h => by
  unfold mt_stand at h; split at h
  · rename_i fs ds' e; cases e; split at h
    · exact ⟨4, fs, rfl, fun hh => ⟨k4, _, h4, m4 hh, by rename_i z; exact Option.isNone_iff_eq_none.mp z, h⟩⟩
    · cases h
  · cases h
theorem mtH_denied {F : Fam} {k4 : Nat} (m4 : F.C.has 4 = true → Met F.P F.w F.C F.mg F.base k4 4 "denied" (spF F.C (l1 Watch_denied))) (h4 : k4 ≤ F.k := by exact Nat.le_of_ble_eq_true rfl) : MtH F "denied" mt_denied := fun x ds d h => by
  unfold mt_denied at h; split at h
  · rename_i fs ds' e; cases e; split at h
    · exact ⟨4, fs, rfl, fun hh => ⟨k4, _, h4, m4 hh, by rename_i z; exact Option.isNone_iff_eq_none.mp z, h⟩⟩
    · cases h
  · cases h
theorem mtHK_denied {F : Fam} {k4 : Nat} {ks : List Str} {ix : List Nat} (m4 : F.C.has 4 = true → MetK F.P F.w F.C F.mg F.base k4 4 "denied" (spF F.C (l1 Watch_denied)) ks ix) (h4 : k4 ≤ F.k := by exact Nat.le_of_ble_eq_true rfl) : MtHK F "denied" mt_denied ks ix := fun x ds d h => by
  unfold mt_denied at h; split at h
  · rename_i fs ds' e; cases e; split at h
    · exact ⟨4, fs, rfl, fun hh => ⟨k4, _, h4, m4 hh, by rename_i z; exact Option.isNone_iff_eq_none.mp z, h⟩⟩
    · cases h
  · cases h
theorem mtH_later {F : Fam} {k5 : Nat} (m5 : F.C.has 5 = true → Met F.P F.w F.C F.mg F.base k5 5 "later" (spF F.C (l2 Track_later))) (h5 : k5 ≤ F.k := by exact Nat.le_of_ble_eq_true rfl) : MtH F "later" mt_later := fun x ds d h => by
  unfold mt_later at h; split at h
  · rename_i fs ds' e; cases e; split at h
    · exact ⟨5, fs, rfl, fun hh => ⟨k5, _, h5, m5 hh, by rename_i z; exact Option.isNone_iff_eq_none.mp z, h⟩⟩
    · cases h
  · cases h
theorem mtHK_later {F : Fam} {k5 : Nat} {ks : List Str} {ix : List Nat} (m5 : F.C.has 5 = true → MetK F.P F.w F.C F.mg F.base k5 5 "later" (spF F.C (l2 Track_later)) ks ix) (h5 : k5 ≤ F.k := by exact Nat.le_of_ble_eq_true rfl) : MtHK F "later" mt_later ks ix := fun x ds d h => by
  unfold mt_later at h; split at h
  · rename_i fs ds' e; cases e; split at h
    · exact ⟨5, fs, rfl, fun hh => ⟨k5, _, h5, m5 hh, by rename_i z; exact Option.isNone_iff_eq_none.mp z, h⟩⟩
    · cases h
  · cases h
theorem lenF_lens {F : Fam} {k1 k4 : Nat} (m1 : F.C.has 1 = true → Met F.P F.w F.C F.mg F.base k1 1 "__len__" (spF F.C (l1 Fold_len))) (m4 : F.C.has 4 = true → Met F.P F.w F.C F.mg F.base k4 4 "__len__" (spF F.C (l1 Watch_len))) (h1 : k1 + 1 ≤ F.k := by exact Nat.le_of_ble_eq_true rfl) (h4 : k4 + 1 ≤ F.k := by exact Nat.le_of_ble_eq_true rfl) : LenF F "__len__" 1 lens := fun c f h hh => by
  unfold lens at h; split at h
  · cases h; exact ⟨k1, h1, m1 hh⟩
  · cases h; exact ⟨k4, h4, m4 hh⟩
  · cases h
theorem eqF_eqs0 {F : Fam} {k0 : Nat} (m0 : F.C.has 0 = true → Met F.P F.w F.C F.mg F.base k0 0 "__eq__" (spF F.C (l2 Ratio_eq))) (h0 : k0 + 1 ≤ F.k := by exact Nat.le_of_ble_eq_true rfl) : EqF F eqs0 := fun c f h hh => by
  unfold eqs0 at h; split at h
  · cases h; exact ⟨k0, h0, m0 hh⟩
  · cases h
theorem eqF_eqs {F : Fam} {k0 k1 k2 k4 : Nat} (m0 : F.C.has 0 = true → Met F.P F.w F.C F.mg F.base k0 0 "__eq__" (spF F.C (l2 Ratio_eq))) (m1 : F.C.has 1 = true → Met F.P F.w F.C F.mg F.base k1 1 "__eq__" (spF F.C (l2 Fold_eq))) (m2 : F.C.has 2 = true → Met F.P F.w F.C F.mg F.base k2 2 "__eq__" (spF F.C (l2 Raisin_eq))) (m4 : F.C.has 4 = true → Met F.P F.w F.C F.mg F.base k4 4 "__eq__" (spF F.C (l2 Watch_eq))) (h0 : k0 + 1 ≤ F.k := by exact Nat.le_of_ble_eq_true rfl) (h1 : k1 + 1 ≤ F.k := by exact Nat.le_of_ble_eq_true rfl) (h2 : k2 + 1 ≤ F.k := by exact Nat.le_of_ble_eq_true rfl) (h4 : k4 + 1 ≤ F.k := by exact Nat.le_of_ble_eq_true rfl) : EqF F eqs := fun c f h hh => by
  unfold eqs at h; split at h
  · cases h; exact ⟨k0, h0, m0 hh⟩
  · cases h; exact ⟨k1, h1, m1 hh⟩
  · cases h; exact ⟨k2, h2, m2 hh⟩
  · cases h; exact ⟨k4, h4, m4 hh⟩
  · cases h
theorem strF_txts0 {F : Fam} {k0 : Nat} (m0 : F.C.has 0 = true → Met F.P F.w F.C F.mg F.base k0 0 "__str__" (spF F.C (l1 Ratio_str))) (h0 : k0 + 2 ≤ F.k := by exact Nat.le_of_ble_eq_true rfl) : LenF F "__str__" 2 txts0 := fun c f h hh => by
  unfold txts0 at h; split at h
  · cases h; exact ⟨k0, h0, m0 hh⟩
  · cases h
theorem strF_txts {F : Fam} {k0 k1 k2 : Nat} (m0 : F.C.has 0 = true → Met F.P F.w F.C F.mg F.base k0 0 "__str__" (spF F.C (l1 Ratio_str))) (m1 : F.C.has 1 = true → Met F.P F.w F.C F.mg F.base k1 1 "__str__" (spF F.C (l1 Fold_str))) (m2 : F.C.has 2 = true → Met F.P F.w F.C F.mg F.base k2 2 "__str__" (spF F.C (l1 Raisin_str))) (h0 : k0 + 2 ≤ F.k := by exact Nat.le_of_ble_eq_true rfl) (h1 : k1 + 2 ≤ F.k := by exact Nat.le_of_ble_eq_true rfl) (h2 : k2 + 2 ≤ F.k := by exact Nat.le_of_ble_eq_true rfl) : LenF F "__str__" 2 txts := fun c f h hh => by
  unfold txts at h; split at h
  · cases h; exact ⟨k0, h0, m0 hh⟩
  · cases h; exact ⟨k1, h1, m1 hh⟩
  · cases h; exact ⟨k2, h2, m2 hh⟩
  · cases h
theorem x_MOST_CELLS {F : Fam} {S : DL.ST} {pos : Pos} (h : ∃ t, F.mg "MOST_CELLS" = some (.int 8 t)) (hg : ∀ i, Gl (F.X i) "MOST_CELLS" := by intro _; rfl) : DEp F (.Name "MOST_CELLS" pos) S (.ok (.int 8)) := by
  obtain ⟨t, h1⟩ := h
  exact p_glob h1 (v := .int 8) ⟨t, rfl⟩ (fun _ => .int _) hg
theorem x_MOST_STANDS {F : Fam} {S : DL.ST} {pos : Pos} (h : ∃ t, F.mg "MOST_STANDS" = some (.int 6 t)) (hg : ∀ i, Gl (F.X i) "MOST_STANDS" := by intro _; rfl) : DEp F (.Name "MOST_STANDS" pos) S (.ok (.int 6)) := by
  obtain ⟨t, h1⟩ := h
  exact p_glob h1 (v := .int 6) ⟨t, rfl⟩ (fun _ => .int _) hg
theorem x_MOST_PLACES {F : Fam} {S : DL.ST} {pos : Pos} (h : ∃ t, F.mg "MOST_PLACES" = some (.int 1000 t)) (hg : ∀ i, Gl (F.X i) "MOST_PLACES" := by intro _; rfl) : DEp F (.Name "MOST_PLACES" pos) S (.ok (.int 1000)) := by
  obtain ⟨t, h1⟩ := h
  exact p_glob h1 (v := .int 1000) ⟨t, rfl⟩ (fun _ => .int _) hg
theorem x_MOST_ROW {F : Fam} {S : DL.ST} {pos : Pos} (h : ∃ t, F.mg "MOST_ROW" = some (.int 200 t)) (hg : ∀ i, Gl (F.X i) "MOST_ROW" := by intro _; rfl) : DEp F (.Name "MOST_ROW" pos) S (.ok (.int 200)) := by
  obtain ⟨t, h1⟩ := h
  exact p_glob h1 (v := .int 200) ⟨t, rfl⟩ (fun _ => .int _) hg
theorem x_MOST_TURNS {F : Fam} {S : DL.ST} {pos : Pos} (h : ∃ t, F.mg "MOST_TURNS" = some (.int 10000000000000000000000000000000000000000 t)) (hg : ∀ i, Gl (F.X i) "MOST_TURNS" := by intro _; rfl) : DEp F (.Name "MOST_TURNS" pos) S (.ok (.int 10000000000000000000000000000000000000000)) := by
  obtain ⟨t, h1⟩ := h
  exact p_glob h1 (v := .int 10000000000000000000000000000000000000000) ⟨t, rfl⟩ (fun _ => .int _) hg
theorem x_MOST_REST {F : Fam} {S : DL.ST} {pos : Pos} (h : ∃ t, F.mg "MOST_REST" = some (.int 1000000000 t)) (hg : ∀ i, Gl (F.X i) "MOST_REST" := by intro _; rfl) : DEp F (.Name "MOST_REST" pos) S (.ok (.int 1000000000)) := by
  obtain ⟨t, h1⟩ := h
  exact p_glob h1 (v := .int 1000000000) ⟨t, rfl⟩ (fun _ => .int _) hg
theorem x_MOST_LISTED {F : Fam} {S : DL.ST} {pos : Pos} (h : ∃ t, F.mg "MOST_LISTED" = some (.int 500 t)) (hg : ∀ i, Gl (F.X i) "MOST_LISTED" := by intro _; rfl) : DEp F (.Name "MOST_LISTED" pos) S (.ok (.int 500)) := by
  obtain ⟨t, h1⟩ := h
  exact p_glob h1 (v := .int 500) ⟨t, rfl⟩ (fun _ => .int _) hg
theorem x_MOST_GUARDS {F : Fam} {S : DL.ST} {pos : Pos} (h : ∃ t, F.mg "MOST_GUARDS" = some (.int 4 t)) (hg : ∀ i, Gl (F.X i) "MOST_GUARDS" := by intro _; rfl) : DEp F (.Name "MOST_GUARDS" pos) S (.ok (.int 4)) := by
  obtain ⟨t, h1⟩ := h
  exact p_glob h1 (v := .int 4) ⟨t, rfl⟩ (fun _ => .int _) hg
theorem x_MOST_DEEDS {F : Fam} {S : DL.ST} {pos : Pos} (h : ∃ t, F.mg "MOST_DEEDS" = some (.int 100 t)) (hg : ∀ i, Gl (F.X i) "MOST_DEEDS" := by intro _; rfl) : DEp F (.Name "MOST_DEEDS" pos) S (.ok (.int 100)) := by
  obtain ⟨t, h1⟩ := h
  exact p_glob h1 (v := .int 100) ⟨t, rfl⟩ (fun _ => .int _) hg
theorem x_LONGEST {F : Fam} {S : DL.ST} {pos : Pos} (h : ∃ t, F.mg "LONGEST" = some (.int 4000 t)) (hg : ∀ i, Gl (F.X i) "LONGEST" := by intro _; rfl) : DEp F (.Name "LONGEST" pos) S (.ok (.int 4000)) := by
  obtain ⟨t, h1⟩ := h
  exact p_glob h1 (v := .int 4000) ⟨t, rfl⟩ (fun _ => .int _) hg
theorem x_SIDES {F : Fam} {S : DL.ST} {pos : Pos} (h : ∃ a, F.mg "SIDES" = some (.ref a) ∧ ∀ G, Den F.C G (.ref a) (.tup [.str "-", .str "+"])) (hg : ∀ i, Gl (F.X i) "SIDES" := by intro _; rfl) : DEp F (.Name "SIDES" pos) S (.ok (.tup [.str "-", .str "+"])) := by
  obtain ⟨a, h1, h2⟩ := h
  exact p_glob h1 (v := .ref a) rfl h2 hg
theorem x_KINDS {F : Fam} {S : DL.ST} {pos : Pos} (h : ∃ a, F.mg "KINDS" = some (.ref a) ∧ ∀ G, Den F.C G (.ref a) (.tup [.str "reaches", .str "stays", .str "returns", .str "settles"])) (hg : ∀ i, Gl (F.X i) "KINDS" := by intro _; rfl) : DEp F (.Name "KINDS" pos) S (.ok (.tup [.str "reaches", .str "stays", .str "returns", .str "settles"])) := by
  obtain ⟨a, h1, h2⟩ := h
  exact p_glob h1 (v := .ref a) rfl h2 hg
theorem x_WORDS {F : Fam} {S : DL.ST} {pos : Pos} (h : ∃ a, F.mg "WORDS" = some (.ref a) ∧ ∀ G, Den F.C G (.ref a) (.tup [.str "always", .str "breach", .str "alike", .str "unlike"])) (hg : ∀ i, Gl (F.X i) "WORDS" := by intro _; rfl) : DEp F (.Name "WORDS" pos) S (.ok (.tup [.str "always", .str "breach", .str "alike", .str "unlike"])) := by
  obtain ⟨a, h1, h2⟩ := h
  exact p_glob h1 (v := .ref a) rfl h2 hg
theorem x_SORTS {F : Fam} {S : DL.ST} {pos : Pos} (h : ∃ a, F.mg "SORTS" = some (.ref a) ∧ ∀ G, Den F.C G (.ref a) (.tup [.str "reaches", .str "stays", .str "returns", .str "settles"])) (hg : ∀ i, Gl (F.X i) "SORTS" := by intro _; rfl) : DEp F (.Name "SORTS" pos) S (.ok (.tup [.str "reaches", .str "stays", .str "returns", .str "settles"])) := by
  obtain ⟨a, h1, h2⟩ := h
  exact p_glob h1 (v := .ref a) rfl h2 hg
theorem x_MOST_FIGURES {F : Fam} {S : DL.ST} {pos : Pos} (h : ∃ t, F.mg "MOST_FIGURES" = some (.int 50 t)) (hg : ∀ i, Gl (F.X i) "MOST_FIGURES" := by intro _; rfl) : DEp F (.Name "MOST_FIGURES" pos) S (.ok (.int 50)) := by
  obtain ⟨t, h1⟩ := h
  exact p_glob h1 (v := .int 50) ⟨t, rfl⟩ (fun _ => .int _) hg
theorem x_MOST_SAID {F : Fam} {S : DL.ST} {pos : Pos} (h : ∃ t, F.mg "MOST_SAID" = some (.int 20 t)) (hg : ∀ i, Gl (F.X i) "MOST_SAID" := by intro _; rfl) : DEp F (.Name "MOST_SAID" pos) S (.ok (.int 20)) := by
  obtain ⟨t, h1⟩ := h
  exact p_glob h1 (v := .int 20) ⟨t, rfl⟩ (fun _ => .int _) hg
end SL
namespace M1
theorem pos_of {g q : Int} (hg : 0 < g) (h : 0 < g * q) : 0 < q := by
  rcases Int.lt_or_le 0 q with z | z
  · exact z
  · have := Int.mul_le_mul_of_nonneg_left z (Int.le_of_lt hg)
    rw [Int.mul_zero] at this
    omega
theorem dvd_of {k m n : Int} (h1 : Int.gcd k m = 1) (h2 : k ∣ m * n) : k ∣ n := by
  have h3 : k.natAbs ∣ m.natAbs * n.natAbs := by
    rw [← Int.natAbs_mul]
    exact Int.natAbs_dvd_natAbs.mpr h2
  have h4 : Nat.Coprime k.natAbs m.natAbs := h1
  exact Int.natAbs_dvd_natAbs.mp (h4.dvd_of_dvd_mul_left h3)
/-- lowest terms are one for equal fractions -/
theorem low_eq {a b c d : Int} (hb : 0 < b) (hd : 0 < d) (h : a * d = c * b) : a / (Int.gcd a b : Int) = c / (Int.gcd c d : Int) ∧ b / (Int.gcd a b : Int) = d / (Int.gcd c d : Int) := by
  have g0 : 0 < Int.gcd a b := Nat.pos_of_ne_zero fun e => by have := (Int.gcd_eq_zero_iff.mp e).2; omega
  have k0 : 0 < Int.gcd c d := Nat.pos_of_ne_zero fun e => by have := (Int.gcd_eq_zero_iff.mp e).2; omega
  obtain ⟨p, hp⟩ : (Int.gcd a b : Int) ∣ a := Int.gcd_dvd_left ..
  obtain ⟨q, hq⟩ : (Int.gcd a b : Int) ∣ b := Int.gcd_dvd_right ..
  obtain ⟨r, hr⟩ : (Int.gcd c d : Int) ∣ c := Int.gcd_dvd_left ..
  obtain ⟨t, ht⟩ : (Int.gcd c d : Int) ∣ d := Int.gcd_dvd_right ..
  have c1 : Int.gcd p q = 1 := by
    have e := Int.gcd_mul_left (Int.gcd a b : Int) p q
    rw [← hp, ← hq] at e
    have e2 : Int.gcd a b * Int.gcd p q = Int.gcd a b * 1 := by rw [Nat.mul_one]; simpa using e.symm
    exact Nat.eq_of_mul_eq_mul_left g0 e2
  have c2 : Int.gcd r t = 1 := by
    have e := Int.gcd_mul_left (Int.gcd c d : Int) r t
    rw [← hr, ← ht] at e
    have e2 : Int.gcd c d * Int.gcd r t = Int.gcd c d * 1 := by rw [Nat.mul_one]; simpa using e.symm
    exact Nat.eq_of_mul_eq_mul_left k0 e2
  have gp : (0 : Int) < (Int.gcd a b : Int) := by omega
  have kp : (0 : Int) < (Int.gcd c d : Int) := by omega
  have e1 : a / (Int.gcd a b : Int) = p := by
    have : a = (Int.gcd a b : Int) * p := hp
    exact Int.ediv_eq_of_eq_mul_right (by omega) this
  have e2 : b / (Int.gcd a b : Int) = q := Int.ediv_eq_of_eq_mul_right (by omega) hq
  have e3 : c / (Int.gcd c d : Int) = r := Int.ediv_eq_of_eq_mul_right (by omega) hr
  have e4 : d / (Int.gcd c d : Int) = t := Int.ediv_eq_of_eq_mul_right (by omega) ht
  rw [e1, e2, e3, e4]
  have q0 : 0 < q := by
    have : 0 < (Int.gcd a b : Int) * q := by rw [← hq]; exact hb
    exact pos_of (by omega) this
  have t0 : 0 < t := by
    have : 0 < (Int.gcd c d : Int) * t := by rw [← ht]; exact hd
    exact pos_of (by omega) this
  have hx : p * t = r * q := by
    have : ((Int.gcd a b : Int) * (Int.gcd c d : Int)) * (p * t) = ((Int.gcd a b : Int) * (Int.gcd c d : Int)) * (r * q) := by
      have h' : ((Int.gcd a b : Int) * p) * ((Int.gcd c d : Int) * t) = ((Int.gcd c d : Int) * r) * ((Int.gcd a b : Int) * q) := by
        rw [← hp, ← ht, ← hr, ← hq]; exact h
      grind
    have nz : (Int.gcd a b : Int) * (Int.gcd c d : Int) ≠ 0 := Int.mul_ne_zero (by omega) (by omega)
    exact Int.eq_of_mul_eq_mul_left nz this
  have d1 : q ∣ t := by
    have : q ∣ p * t := ⟨r, by rw [hx, Int.mul_comm]⟩
    exact dvd_of (by rw [Int.gcd_comm]; exact c1) this
  have d2 : t ∣ q := by
    have : t ∣ r * q := ⟨p, by rw [← hx, Int.mul_comm]⟩
    exact dvd_of (by rw [Int.gcd_comm]; exact c2) this
  have qt : q = t := by
    have h1 := Int.le_of_dvd t0 d1
    have h2 := Int.le_of_dvd q0 d2
    omega
  subst qt
  exact ⟨Int.eq_of_mul_eq_mul_right (by omega) hx, rfl⟩
/-- a fraction and its lowest terms -/
theorem low_val {a b : Int} (hb : 0 < b) : ∃ g : Int, 0 < g ∧ a = (a / (Int.gcd a b : Int)) * g ∧ b = (b / (Int.gcd a b : Int)) * g ∧ 0 < b / (Int.gcd a b : Int) ∧ b / (Int.gcd a b : Int) ≤ b := by
  have g0 : 0 < Int.gcd a b := Nat.pos_of_ne_zero fun e => by have := (Int.gcd_eq_zero_iff.mp e).2; omega
  have gp : (0 : Int) < (Int.gcd a b : Int) := by omega
  have e1 := Int.ediv_mul_cancel (Int.gcd_dvd_left a b)
  have e2 := Int.ediv_mul_cancel (Int.gcd_dvd_right a b)
  refine ⟨Int.gcd a b, gp, e1.symm, e2.symm, ?_, ?_⟩
  · have : 0 < b / (Int.gcd a b : Int) * (Int.gcd a b : Int) := by rw [e2]; exact hb
    exact pos_of gp (by rw [Int.mul_comm]; exact this)
  · exact Int.ediv_le_self _ (by omega)
end M1
/-! HP1: what the shallow functions of the program compute: numbers, Ratio, Raisin, Fold. -/
namespace SL
open PySem L2 DL
theorem nrfl {α : Sort _} {a b : α} (h : a = b) (_ : True) : a = b := h
theorem bk {α β : Type} (a : α) (f : α → O β) : (O.ok a).bind f = f a := nrfl rfl trivial
theorem ck (a : D) (as : List D) : O.cons (.ok a) (.ok as) = .ok (a :: as) := nrfl rfl trivial
theorem asBk (b : Bool) : asB (.bl b) = .ok b := nrfl rfl trivial
theorem trk (b : Bool) : tr (.ok b) = .ok (.bl b) := nrfl rfl trivial
theorem ite1 {α : Type} (x y : O α) : O.ite (.ok true) x y = x := nrfl rfl trivial
theorem ite0 {α : Type} (x y : O α) : O.ite (.ok false) x y = y := nrfl rfl trivial
theorem ap1 {α : Type} (f : D → O α) (a : D) : l1 f [a] = f a := nrfl rfl trivial
theorem ap2 {α : Type} (f : D → D → O α) (a b : D) : l2 f [a, b] = f a b := nrfl rfl trivial
theorem ap3 {α : Type} (f : D → D → D → O α) (a b c : D) : l3 f [a, b, c] = f a b c := nrfl rfl trivial
theorem ap4 {α : Type} (f : D → D → D → D → O α) (a b c d : D) : l4 f [a, b, c, d] = f a b c d := nrfl rfl trivial
theorem ap5 {α : Type} (f : D → D → D → D → D → O α) (a b c d e : D) : l5 f [a, b, c, d, e] = f a b c d e := nrfl rfl trivial
theorem ap6 {α : Type} (f : D → D → D → D → D → D → O α) (a b c d e g : D) : l6 f [a, b, c, d, e, g] = f a b c d e g := nrfl rfl trivial
theorem u2t {α : Type} (a b : D) (f : D → D → O α) : un2 (.tup [a, b]) f = f a b := nrfl rfl trivial
theorem u3t {α : Type} (a b c : D) (f : D → D → D → O α) : un3 (.tup [a, b, c]) f = f a b c := nrfl rfl trivial
theorem u2l {α : Type} (a b : D) (f : D → D → O α) : un2 (.lst [a, b]) f = f a b := nrfl rfl trivial
theorem u3l {α : Type} (a b c : D) (f : D → D → D → O α) : un3 (.lst [a, b, c]) f = f a b c := nrfl rfl trivial
theorem chk (x y z : D) (q r : D → D → O Bool) : chainO (.ok x) (.ok y) (.ok z) q r = O.ite (q x y) (r y z) (.ok false) := nrfl rfl trivial
theorem aik (i : Int) : asI (.int i) = .ok i := nrfl rfl trivial
theorem apn (a : D) (xs : List D) : [a] ++ xs = a :: xs := nrfl rfl trivial
theorem mret {α : Type} (a : α) (g : List D) : M.ret a g = .ok (a, g) := nrfl rfl trivial
theorem mup {α : Type} (a : α) : M.up (.ok a) = M.ret a := nrfl rfl trivial
theorem mupa {α : Type} (o : O α) (g : List D) : M.up o g = o.bind fun a => .ok (a, g) := nrfl rfl trivial
theorem mbind {α β : Type} (m : M α) (f : α → M β) (g : List D) : M.bind m f g = (m g).bind fun r => f r.1 r.2 := nrfl rfl trivial
theorem mrb {α β : Type} (a : α) (f : α → M β) : M.bind (M.ret a) f = f a := nrfl rfl trivial
theorem mite {α : Type} (b : Bool) (x y : M α) : M.ite (M.ret b) x y = bif b then x else y := nrfl rfl trivial
theorem mcons (a : D) (as : List D) : M.cons (M.ret a) (M.ret as) = M.ret (a :: as) := nrfl rfl trivial
theorem mtr (b : Bool) : M.tr (M.ret b) = M.ret (.bl b) := nrfl rfl trivial
theorem bagx (ob : O D) (g : List D) : bagIx ob g = (ob.bind fun y => ix (.lst g) y).bind fun d => .ok (d, g) := nrfl rfl trivial
theorem mp0 (f : M D) : m0 f [] = f := nrfl rfl trivial
theorem mp1 (f : D → M D) (a : D) : m1 f [a] = f a := nrfl rfl trivial
theorem mp2 (f : D → D → M D) (a b : D) : m2 f [a, b] = f a b := nrfl rfl trivial
theorem mp3 (f : D → D → D → M D) (a b c : D) : m3 f [a, b, c] = f a b c := nrfl rfl trivial
theorem mp4 (f : D → D → D → D → M D) (a b c d : D) : m4 f [a, b, c, d] = f a b c d := nrfl rfl trivial
@[simp] theorem b_add_i (i j : Int) : b_add (.int i) (.int j) = .ok (.int (i + j)) := nrfl rfl trivial
@[simp] theorem b_sub_i (i j : Int) : b_sub (.int i) (.int j) = .ok (.int (i - j)) := nrfl rfl trivial
@[simp] theorem b_neg_i (i : Int) : b_neg (.int i) = .ok (.int (-i)) := nrfl rfl trivial
@[simp] theorem c_lt_i (i j : Int) : c_lt (.int i) (.int j) = .ok (decide (i < j)) := nrfl rfl trivial
@[simp] theorem c_le_i (i j : Int) : c_le (.int i) (.int j) = .ok (decide (i ≤ j)) := nrfl rfl trivial
@[simp] theorem c_gt_i (i j : Int) : c_gt (.int i) (.int j) = .ok (decide (j < i)) := nrfl rfl trivial
@[simp] theorem c_ge_i (i j : Int) : c_ge (.int i) (.int j) = .ok (decide (j ≤ i)) := nrfl rfl trivial
@[simp] theorem c_eq_i (i j : Int) : c_eq (.int i) (.int j) = .ok (decide (i = j)) := nrfl rfl trivial
@[simp] theorem c_eq_s (i j : Str) : c_eq (.str i) (.str j) = .ok (decide (i = j)) := nrfl rfl trivial
@[simp] theorem c_eq_b (i j : Bool) : c_eq (.bl i) (.bl j) = .ok (decide (i = j)) := nrfl rfl trivial
@[simp] theorem c_ne_i (i j : Int) : c_ne (.int i) (.int j) = .ok (!decide (i = j)) := nrfl rfl trivial
@[simp] theorem c_ne_s (i j : Str) : c_ne (.str i) (.str j) = .ok (!decide (i = j)) := nrfl rfl trivial
@[simp] theorem bi_int_i (i : Int) : bi_int [.int i] = .ok (.int i) := nrfl rfl trivial
@[simp] theorem bi_abs_i (i : Int) : bi_abs [.int i] = .ok (.int (if i < 0 then -i else i)) := nrfl rfl trivial
@[simp] theorem bi_tuple_l (ds : List D) : bi_tuple [.lst ds] = .ok (.tup ds) := nrfl rfl trivial
@[simp] theorem bi_tuple_t (ds : List D) : bi_tuple [.tup ds] = .ok (.tup ds) := nrfl rfl trivial
@[simp] theorem bi_len_l (ds : List D) : bi_len [.lst ds] = .ok (.int ds.length) := nrfl rfl trivial
@[simp] theorem bi_len_t (ds : List D) : bi_len [.tup ds] = .ok (.int ds.length) := nrfl rfl trivial
@[simp] theorem bi_max_i (i j : Int) : bi_max [.int i, .int j] = .ok (.int (if j > i then j else i)) := nrfl rfl trivial
@[simp] theorem bi_min_i (i j : Int) : bi_min [.int i, .int j] = .ok (.int (if j < i then j else i)) := nrfl rfl trivial
@[simp] theorem bi_max_2 (i j : Int) : bi_max [.lst [.int i, .int j]] = .ok (.int (if j > i then j else i)) := nrfl rfl trivial
@[simp] theorem bi_min_2 (i j : Int) : bi_min [.lst [.int i, .int j]] = .ok (.int (if j < i then j else i)) := nrfl rfl trivial
@[simp] theorem ownLen_l (t : Nat → Option (D → O D)) (ds : List D) : ownLen t [.lst ds] = .ok (.int ds.length) := nrfl rfl trivial
@[simp] theorem ownLen_t (t : Nat → Option (D → O D)) (ds : List D) : ownLen t [.tup ds] = .ok (.int ds.length) := nrfl rfl trivial
theorem mulOk_l {i j : Int} (h1 : -(2 ^ 64) < i) (h2 : i < 2 ^ 64) : mulOk i j = true := decide_eq_true (.inl (.inl ⟨h1, h2⟩))
theorem mulOk_r {i j : Int} (h1 : -(2 ^ 64) < j) (h2 : j < 2 ^ 64) : mulOk i j = true := decide_eq_true (.inl (.inr ⟨h1, h2⟩))
theorem b_mul_l {i j : Int} (h1 : -(2 ^ 64) < i) (h2 : i < 2 ^ 64) : b_mul (.int i) (.int j) = .ok (.int (i * j)) := if_pos (mulOk_l h1 h2)
theorem b_mul_r {i j : Int} (h1 : -(2 ^ 64) < j) (h2 : j < 2 ^ 64) : b_mul (.int i) (.int j) = .ok (.int (i * j)) := if_pos (mulOk_r h1 h2)
theorem b_mod_i {i j : Int} (h : 0 < j) : b_mod (.int i) (.int j) = .ok (.int (i % j)) := if_pos h
theorem b_fdiv_i {i j : Int} (h : 0 < j) (h2 : j < 2 ^ 64) : b_fdiv (.int i) (.int j) = .ok (.int (i / j)) := by
  refine if_pos ⟨h, ?_⟩
  have := (Nat.log2_lt (n := j.natAbs) (k := 64) (by omega)).mpr (by omega)
  omega
theorem atI_ok {α : Type} {xs : List α} {i : Int} {d : α} (h0 : 0 ≤ i) (h : xs[i.toNat]? = some d) : atI xs i = some d := by
  have hl : i.toNat < xs.length := (List.getElem?_eq_some_iff.mp h).1
  unfold atI ixN
  rw [if_pos h0, if_pos (by omega)]
  exact h
theorem ix_t {ds : List D} {i : Int} {d : D} (h0 : 0 ≤ i) (h : ds[i.toNat]? = some d) : ix (.tup ds) (.int i) = .ok d := by
  show op2 (atI ds i) .ok = _
  rw [atI_ok h0 h]; rfl
theorem ix_l {ds : List D} {i : Int} {d : D} (h0 : 0 ≤ i) (h : ds[i.toNat]? = some d) : ix (.lst ds) (.int i) = .ok d := by
  show op2 (atI ds i) .ok = _
  rw [atI_ok h0 h]; rfl
@[simp] theorem ix_t2_0 (a b : D) : ix (.tup [a, b]) (.int 0) = .ok a := nrfl rfl trivial
@[simp] theorem ix_t2_1 (a b : D) : ix (.tup [a, b]) (.int 1) = .ok b := nrfl rfl trivial
@[simp] theorem ix_l2_0 (a b : D) : ix (.lst [a, b]) (.int 0) = .ok a := nrfl rfl trivial
@[simp] theorem ix_l2_1 (a b : D) : ix (.lst [a, b]) (.int 1) = .ok b := nrfl rfl trivial
@[simp] theorem ix_t3_0 (a b c : D) : ix (.tup [a, b, c]) (.int 0) = .ok a := nrfl rfl trivial
@[simp] theorem ix_t3_1 (a b c : D) : ix (.tup [a, b, c]) (.int 1) = .ok b := nrfl rfl trivial
@[simp] theorem ix_t3_2 (a b c : D) : ix (.tup [a, b, c]) (.int 2) = .ok c := nrfl rfl trivial
@[simp] theorem ix_l3_0 (a b c : D) : ix (.lst [a, b, c]) (.int 0) = .ok a := nrfl rfl trivial
@[simp] theorem ix_l3_1 (a b c : D) : ix (.lst [a, b, c]) (.int 1) = .ok b := nrfl rfl trivial
@[simp] theorem ix_l3_2 (a b c : D) : ix (.lst [a, b, c]) (.int 2) = .ok c := nrfl rfl trivial
theorem rg1_i {i : Int} (h : -(2 ^ 62) ≤ i) (h2 : i < 2 ^ 62) : rg1 (.int i) = .ok (rangeD 0 i.toNat) := if_pos ⟨h, h2⟩
theorem rg2_i {i j : Int} (h : -(2 ^ 62) ≤ i) (h2 : i < 2 ^ 62) (h3 : -(2 ^ 62) ≤ j) (h4 : j < 2 ^ 62) : rg2 (.int i) (.int j) = .ok (rangeD i (j - i).toNat) := if_pos ⟨h, h2, h3, h4⟩
/-! ### greatest common factor -/
theorem gcd_loop {c : D × D → O Bool} {f : D × D → O (D × D)} (hc : ∀ x y : Int, c (.int x, .int y) = .ok (decide (0 < y))) (hf : ∀ x y : Int, 0 < y → f (.int x, .int y) = .ok (.int y, .int (x % y))) : ∀ (n : Nat) (x y : Int), 0 ≤ x → 0 ≤ y → y.natAbs < n → whileO c f n (.int x, .int y) = .ok (.int (Int.gcd x y), .int 0)
  | 0, x, y, _, _, h => by omega
  | n + 1, x, y, hx, hy, hn => by
    unfold whileO
    rw [hc]
    by_cases z : 0 < y
    · rw [decide_eq_true z, ite1, hf _ _ z, bk]
      have h1 := Int.emod_nonneg x (b := y) (by omega)
      have h2 := Int.emod_lt_of_pos x z
      rw [gcd_loop hc hf n y (x % y) hy h1 (by omega)]
      have e : Int.gcd y (x % y) = Int.gcd x y := by
        obtain ⟨m, rfl⟩ := Int.eq_ofNat_of_zero_le hx
        obtain ⟨k, rfl⟩ := Int.eq_ofNat_of_zero_le hy
        show Nat.gcd k ((m : Int) % (k : Int)).natAbs = Nat.gcd m k
        rw [← Int.natCast_emod, Int.natAbs_natCast, Nat.gcd_comm m k, Nat.gcd_rec k m, Nat.gcd_comm]
      rw [e]
    · have : y = 0 := by omega
      subst this
      rw [decide_eq_false z, ite0]
      have e : ((Int.gcd x 0 : Nat) : Int) = x := by rw [Int.gcd_zero_right]; omega
      rw [e]
theorem abs_if (i : Int) : (if i < 0 then -i else i) = (i.natAbs : Int) := by split <;> omega
theorem shared_factor_i (a b : Int) : f_shared_factor (.int a) (.int b) = .ok (.int (Int.gcd a b)) := by
  unfold f_shared_factor
  simp only [bk, ck, bi_abs_i, abs_if, natOf]
  rw [gcd_loop (by intro x y; rfl) (by intro x y h; simp only [bk, b_mod_i h]) (b.natAbs + 1) _ _ (by omega) (by omega) (by omega)]
  rw [bk]
  show O.ok (D.int _) = _
  rw [show Int.gcd (a.natAbs : Int) (b.natAbs : Int) = Int.gcd a b by unfold Int.gcd; rw [Int.natAbs_natCast, Int.natAbs_natCast]]
@[simp] theorem is_integer_i (i : Int) : f_is_integer (.int i) = .ok (.bl true) := by
  unfold f_is_integer
  with_unfolding_all rfl
@[simp] theorem is_between_i (i l m : Int) : f_is_between (.int i) (.int l) (.int m) = .ok (.bl (decide (l ≤ i) && decide (i ≤ m))) := by
  unfold f_is_between
  simp only [bk, ck, ap1, is_integer_i, asBk, ite1, chk, c_le_i]
  by_cases h : l ≤ i
  · simp only [decide_eq_true h, ite1, trk, bk, asBk, Bool.true_and]
  · simp only [decide_eq_false h, ite0, trk, bk, asBk, Bool.false_and]
/-! ### Ratio -/
def ratD (p q : Int) : D := .obj 0 [("top", .int p), ("bottom", .int q)]
def lowF (a b : Int) : List (Str × D) := [("top", .int (a / (Int.gcd a b : Int))), ("bottom", .int (b / (Int.gcd a b : Int)))]
theorem gcd_pos {a b : Int} (h : 0 < b) : (0 : Int) < (Int.gcd a b : Int) := by
  have : 0 < Int.gcd a b := Nat.pos_of_ne_zero fun e => by have := (Int.gcd_eq_zero_iff.mp e).2; omega
  omega
theorem gcd_le {a b : Int} (h : 0 < b) : (Int.gcd a b : Int) ≤ b := Int.le_of_dvd h (Int.gcd_dvd_right ..)
theorem Ratio_init_i {a b : Int} (h : 0 < b) (h2 : b < 2 ^ 64) : Ratio_init (.int a) (.int b) = .ok (lowF a b) := by
  unfold Ratio_init
  have g1 := gcd_pos (a := a) h
  have g2 := gcd_le (a := a) h
  simp only [bk, ck, ap1, ap2, is_integer_i, asBk, Bool.not_true, ite0, c_lt_i, decide_eq_false (show ¬ b < 1 by omega), shared_factor_i, b_fdiv_i g1 (show (Int.gcd a b : Int) < 2 ^ 64 by omega)]
  rfl
def mkR (a b : Int) : D := ratD (a / (Int.gcd a b : Int)) (b / (Int.gcd a b : Int))
theorem mkR_one (a : Int) : mkR a 1 = ratD a 1 := by
  unfold mkR
  rw [show Int.gcd a 1 = 1 by simp]
  simp
@[simp] theorem isiC_r (p q : Int) : isiC 0 (ratD p q) = .ok true := nrfl rfl trivial
@[simp] theorem isiC_i (c : Nat) (i : Int) : isiC c (.int i) = .ok false := nrfl rfl trivial
@[simp] theorem is_fraction_i (i : Int) : f_is_fraction (.int i) = .ok (.bl true) := by
  unfold f_is_fraction
  simp only [bk, ck, ap1, is_integer_i, asBk, ite1, trk]
theorem is_integer_o (c : Nat) (fs : List (Str × D)) : f_is_integer (.obj c fs) = .ok (.bl false) := rfl
@[simp] theorem is_fraction_r (p q : Int) : f_is_fraction (ratD p q) = .ok (.bl true) := by
  unfold f_is_fraction
  rw [show f_is_integer = f_is_integer from rfl]
  simp only [bk, ck, ap1, show f_is_integer (ratD p q) = .ok (.bl false) from rfl, asBk, ite0, isiC_r, trk]
@[simp] theorem as_ratio_i (i : Int) : f_as_ratio (.int i) = .ok (ratD i 1) := by
  unfold f_as_ratio
  simp only [bk, ck, isiC_i, trk, asBk, ite0, List.cons_append, List.nil_append, ap2, Ratio_init_i (a := i) (b := 1) (by decide) (by decide)]
  exact congrArg O.ok (mkR_one i)
@[simp] theorem as_ratio_r (p q : Int) : f_as_ratio (ratD p q) = .ok (ratD p q) := nrfl rfl trivial
@[simp] theorem fld_top (p q : Int) : fld "top" [0] (ratD p q) = .ok (.int p) := nrfl rfl trivial
@[simp] theorem fld_bottom (p q : Int) : fld "bottom" [0] (ratD p q) = .ok (.int q) := nrfl rfl trivial
theorem mk_ratio {a b : Int} (h : 0 < b) (h2 : b < 2 ^ 64) : ((l2 Ratio_init) ([D.int a, D.int b] ++ [])).bind (fun fs => O.ok (D.obj 0 fs)) = .ok (mkR a b) := by
  rw [List.append_nil, ap2, Ratio_init_i h h2]; rfl
def sm (i : Int) : Prop := -(2 ^ 30) < i ∧ i < 2 ^ 30
theorem sub_rr {p q r t : Int} (hp : sm p) (hq : sm q) (hr : sm r) (ht : sm t) (q0 : 0 < q) (t0 : 0 < t) : Ratio_sub (ratD p q) (ratD r t) = .ok (mkR (p * t - r * q) (q * t)) := by
  unfold Ratio_sub
  unfold sm at *
  have h0 : 0 < q * t := Int.mul_pos q0 t0
  have h1 : q * t < 2 ^ 64 := by
    have := Int.mul_le_mul (a := q) (b := t) (c := 2 ^ 30) (d := 2 ^ 30) (by omega) (by omega) (by omega) (by omega)
    omega
  simp only [bk, ck, ap1, is_fraction_r, asBk, Bool.not_true, ite0, as_ratio_r, fld_top, fld_bottom, b_mul_l (i := p) (j := t) (by omega) (by omega), b_mul_l (i := r) (j := q) (by omega) (by omega), b_mul_l (i := q) (j := t) (by omega) (by omega), b_sub_i, mk_ratio h0 h1]
theorem add_rr {p q r t : Int} (hp : sm p) (hq : sm q) (hr : sm r) (ht : sm t) (q0 : 0 < q) (t0 : 0 < t) : Ratio_add (ratD p q) (ratD r t) = .ok (mkR (p * t + r * q) (q * t)) := by
  unfold Ratio_add
  unfold sm at *
  have h0 : 0 < q * t := Int.mul_pos q0 t0
  have h1 : q * t < 2 ^ 64 := by
    have := Int.mul_le_mul (a := q) (b := t) (c := 2 ^ 30) (d := 2 ^ 30) (by omega) (by omega) (by omega) (by omega)
    omega
  simp only [bk, ck, ap1, is_fraction_r, asBk, Bool.not_true, ite0, as_ratio_r, fld_top, fld_bottom, b_mul_l (i := p) (j := t) (by omega) (by omega), b_mul_l (i := r) (j := q) (by omega) (by omega), b_mul_l (i := q) (j := t) (by omega) (by omega), b_add_i, mk_ratio h0 h1]
theorem sub_ri {p q c : Int} (hp : sm p) (hq : sm q) (hc : sm c) (q0 : 0 < q) : r_op b_sub Ratio_sub Ratio_rsub (ratD p q) (.int c) = .ok (mkR (p - c * q) q) := by
  show Ratio_sub (ratD p q) (.int c) = _
  unfold Ratio_sub
  unfold sm at *
  simp only [bk, ck, ap1, is_fraction_i, asBk, Bool.not_true, ite0, as_ratio_i, fld_top, fld_bottom, b_mul_l (i := p) (j := 1) (by omega) (by omega), b_mul_l (i := c) (j := q) (by omega) (by omega), b_mul_l (i := q) (j := 1) (by omega) (by omega), b_sub_i, Int.mul_one, mk_ratio q0 (show q < 2 ^ 64 by omega)]
theorem mul_ri {p q c : Int} (hp : sm p) (hq : sm q) (hc : sm c) (q0 : 0 < q) : r_op b_mul Ratio_mul Ratio_rmul (ratD p q) (.int c) = .ok (mkR (p * c) q) := by
  show Ratio_mul (ratD p q) (.int c) = _
  unfold Ratio_mul
  unfold sm at *
  simp only [bk, ck, ap1, is_fraction_i, asBk, Bool.not_true, ite0, as_ratio_i, fld_top, fld_bottom, b_mul_l (i := p) (j := c) (by omega) (by omega), b_mul_l (i := q) (j := 1) (by omega) (by omega), Int.mul_one, mk_ratio q0 (show q < 2 ^ 64 by omega)]
theorem rsub_ir {p q c : Int} (hp : sm p) (hq : sm q) (hc : sm c) (q0 : 0 < q) : r_op b_sub Ratio_sub Ratio_rsub (.int c) (ratD p q) = .ok (mkR (c * q - p) q) := by
  show Ratio_rsub (ratD p q) (.int c) = _
  unfold Ratio_rsub
  simp only [bk, ck, ap1, is_fraction_i, asBk, Bool.not_true, ite0, as_ratio_i]
  show Ratio_sub (ratD c 1) (ratD p q) = _
  rw [sub_rr hc (by unfold sm; omega) hp hq (by decide) q0, Int.mul_one, Int.one_mul]
theorem radd_ir {p q c : Int} (hp : sm p) (hq : sm q) (hc : sm c) (q0 : 0 < q) : r_op b_add Ratio_add Ratio_radd (.int c) (ratD p q) = .ok (mkR (c * q + p) q) := by
  show Ratio_radd (ratD p q) (.int c) = _
  unfold Ratio_radd
  simp only [bk, ck, ap1, is_fraction_i, asBk, Bool.not_true, ite0, as_ratio_i]
  show Ratio_add (ratD c 1) (ratD p q) = _
  rw [add_rr hc (by unfold sm; omega) hp hq (by decide) q0, Int.mul_one, Int.one_mul]
end SL
/-! HP2: Raisin, Fold: one turn. -/
namespace SL
open PySem L2 DL
def raiD (p q : Int) (s : Str) : D := .obj 2 [("place", ratD p q), ("side", .str s)]
def Side (s : Str) : Prop := s = "+" ∨ s = "-"
theorem pm_ne : ¬ (("+" : Str) = "-") := by decide +kernel
theorem mp_ne : ¬ (("-" : Str) = "+") := by decide +kernel
@[simp] theorem isiB_str (s : Str) : isiB "str" (.str s) = .ok true := by with_unfolding_all rfl
@[simp] theorem isiB_tup (s : List D) : isiB "tuple" (.tup s) = .ok true := by with_unfolding_all rfl
@[simp] theorem isiB_bl (s : Bool) : isiB "bool" (.bl s) = .ok true := by with_unfolding_all rfl
theorem nin_p : c_nin (.str "+") (.tup [.str "-", .str "+"]) = .ok false := by
  show O.ok (!decide (("+" : Str) ∈ [("-" : Str), "+"])) = _
  rw [decide_eq_true (by simp)]; rfl
theorem nin_m : c_nin (.str "-") (.tup [.str "-", .str "+"]) = .ok false := by
  show O.ok (!decide (("-" : Str) ∈ [("-" : Str), "+"])) = _
  rw [decide_eq_true (by simp)]; rfl
theorem put_rs (a b : D) : putD "side" b (putD "place" a []) = [(("place" : Str), a), (("side" : Str), b)] := by
  show (if ("place" : Str) = "side" then [(("place" : Str), b)] else (("place" : Str), a) :: [(("side" : Str), b)]) = _
  rw [if_neg (by decide +kernel)]
theorem Raisin_init_of {d : D} {p q : Int} {s : Str} (hf : f_is_fraction d = .ok (.bl true)) (hr : f_as_ratio d = .ok (ratD p q)) (hp : 0 ≤ p) (hs : Side s) (h0 : p = 0 → s = "+") : Raisin_init d (.str s) = .ok [("place", ratD p q), ("side", .str s)] := by
  unfold Raisin_init
  simp only [bk, ck, ap1, hf, hr, asBk, Bool.not_true, ite0, fld_top, c_lt_i, decide_eq_false (show ¬ p < 0 by omega), isiB_str, trk, c_eq_s, c_eq_i]
  rcases hs with rfl | rfl
  · simp only [nin_p, bk, ite0, decide_eq_false pm_ne, put_rs]
  · have : ¬ p = 0 := fun e => mp_ne (h0 e)
    simp only [nin_m, bk, ite0, ite1, decide_true, decide_eq_false this, put_rs]
theorem mk_raisin {p q : Int} {s : Str} (hp : 0 ≤ p) (hs : Side s) (h0 : p = 0 → s = "+") : ((l2 Raisin_init) ([ratD p q, D.str s] ++ [])).bind (fun fs => O.ok (D.obj 2 fs)) = .ok (raiD p q s) := by
  rw [List.append_nil, ap2, Raisin_init_of (is_fraction_r p q) (as_ratio_r p q) hp hs h0]; rfl
theorem mk_raisin_i {p : Int} {s : Str} (hp : 0 ≤ p) (hs : Side s) (h0 : p = 0 → s = "+") : ((l2 Raisin_init) ([D.int p, D.str s] ++ [])).bind (fun fs => O.ok (D.obj 2 fs)) = .ok (raiD p 1 s) := by
  rw [List.append_nil, ap2, Raisin_init_of (is_fraction_i p) (as_ratio_i p) hp hs h0]; rfl
@[simp] theorem fld_place (p q : Int) (s : Str) : fld "place" [2] (raiD p q s) = .ok (ratD p q) := nrfl rfl trivial
@[simp] theorem fld_side (p q : Int) (s : Str) : fld "side" [2] (raiD p q s) = .ok (.str s) := by with_unfolding_all rfl
def under (p q : Int) (s : Str) : Int := if q = 1 ∧ s = "-" then p / q - 1 else p / q
theorem cell_under_r {p q : Int} {s : Str} (h : 0 < q) (h2 : q < 2 ^ 64) : f_cell_under (raiD p q s) = .ok (.int (under p q s)) := by
  unfold f_cell_under under
  simp only [bk, fld_place, fld_top, fld_bottom, b_fdiv_i h h2, fld_side, c_eq_i, c_eq_s, b_sub_i]
  by_cases h1 : q = 1
  · by_cases h3 : s = "-"
    · rw [decide_eq_true h1, decide_eq_true h3, ite1, ite1, if_pos ⟨h1, h3⟩]
    · rw [decide_eq_true h1, decide_eq_false h3, ite1, ite0, if_neg fun z => h3 z.2]
  · rw [decide_eq_false h1, ite0, ite0, if_neg fun z => h1 z.1]
def flip (s : Str) : Str := if s = "-" then "+" else "-"
theorem flip_side (s : Str) : Side (flip s) := by
  unfold flip Side
  split
  · exact .inl rfl
  · exact .inr rfl
@[simp] theorem other_side_s (s : Str) : f_other_side (.str s) = .ok (.str (flip s)) := by
  unfold f_other_side flip
  simp only [bk, c_eq_s]
  by_cases h : s = "-"
  · rw [decide_eq_true h, ite1, if_pos h]
  · rw [decide_eq_false h, ite0, if_neg h]
/-! ### Fold -/
abbrev Cell := Int × Int × Bool
def celD (c : Cell) : D := .tup [.int c.1, .int c.2.1, .bl c.2.2]
def cellsD (L : List Cell) : D := .tup (L.map celD)
def folD (L : List Cell) : D := .obj 1 [("cells", cellsD L)]
@[simp] theorem fld_cells (L : List Cell) : fld "cells" [1, 5] (folD L) = .ok (cellsD L) := nrfl rfl trivial
theorem ix_cell {L : List Cell} {w : Int} {c : Cell} (h0 : 0 ≤ w) (h : L[w.toNat]? = some c) : ix (cellsD L) (.int w) = .ok (celD c) := ix_t h0 (by rw [List.getElem?_map, h]; rfl)
theorem factor_of_i {L : List Cell} {w : Int} {a b : Int} {f : Bool} (h0 : 0 ≤ w) (h : L[w.toNat]? = some (a, b, f)) : f_factor_of (folD L) (.int w) = .ok (.int (b - a + 1)) := by
  unfold f_factor_of
  simp only [bk, fld_cells, ix_cell h0 h, celD, ix_t3_0, ix_t3_1, b_sub_i, b_add_i]
/-- where a place of cell w = (a, b, f) goes, over q -/
def goes (c : Cell) (p q w : Int) : Int := if c.2.2 then (c.2.1 + 1) * q - (c.2.1 - c.1 + 1) * (p - w * q) else c.1 * q + (c.2.1 - c.1 + 1) * (p - w * q)
def lows (t q : Int) : Int × Int := (t / (Int.gcd t q : Int), q / (Int.gcd t q : Int))
theorem mkR_eq {a b c d : Int} (hb : 0 < b) (hd : 0 < d) (h : a * d = c * b) : mkR a b = mkR c d := by
  unfold mkR
  rw [(M1.low_eq hb hd h).1, (M1.low_eq hb hd h).2]
theorem mkR_val {a b : Int} (hb : 0 < b) : ∃ p q g : Int, mkR a b = ratD p q ∧ 0 < g ∧ a = p * g ∧ b = q * g ∧ 0 < q ∧ q ≤ b := by
  obtain ⟨g, h1, h2, h3, h4, h5⟩ := M1.low_val (a := a) hb
  exact ⟨_, _, g, rfl, h1, h2, h3, h4, h5⟩
theorem le_mul_pos {p g : Int} (hg : 0 < g) (hp : 0 ≤ p) : p ≤ p * g := by
  have := Int.mul_le_mul_of_nonneg_left (show 1 ≤ g by omega) hp
  omega
theorem nonneg_of_mul {p g : Int} (hg : 0 < g) (h : 0 ≤ p * g) : 0 ≤ p := by
  rcases Int.lt_or_le p 0 with z | z
  · have := Int.mul_neg_of_neg_of_pos z hg
    omega
  · exact z
theorem goes_bounds {a b n p q w : Int} {f : Bool} (ha : 0 ≤ a) (hab : a ≤ b) (hq : 0 < q) (h1 : 0 ≤ p - w * q) (h2 : p - w * q ≤ q) : a * q ≤ goes (a, b, f) p q w ∧ goes (a, b, f) p q w ≤ (b + 1) * q := by
  have h3 : 0 ≤ (b - a + 1) * (p - w * q) := Int.mul_nonneg (by omega) h1
  have h4 : (b - a + 1) * (p - w * q) ≤ (b - a + 1) * q := Int.mul_le_mul_of_nonneg_left h2 (by omega)
  have e : (b - a + 1) * q = (b + 1) * q - a * q := by rw [show b - a + 1 = (b + 1) - a by omega, Int.sub_mul]
  unfold goes
  cases f <;> simp <;> omega
theorem turned_once_r {L : List Cell} {p q w a b : Int} {f : Bool} {s : Str} (hw : w = under p q s) (h0 : 0 ≤ w) (hL : L[w.toNat]? = some (a, b, f)) (hw1 : w < 1000) (hq : 0 < q) (hq2 : q < 1000) (ha : 0 ≤ a) (hab : a ≤ b) (hb : b < 1000)
    (h1 : 0 ≤ p - w * q) (h2 : p - w * q ≤ q) (hs : Side s) (hz : goes (a, b, f) p q w = 0 → (if f then flip s else s) = "+") :
    f_turned_once (folD L) (raiD p q s) = .ok (raiD (lows (goes (a, b, f) p q w) q).1 (lows (goes (a, b, f) p q w) q).2 (if f then flip s else s)) := by
  have hgb := goes_bounds (n := 0) (f := f) ha hab hq h1 h2
  have wq0 : 0 ≤ w * q := Int.mul_nonneg h0 (by omega)
  have wq1 : w * q ≤ 1000 * 1000 := Int.mul_le_mul (by omega) (by omega) (by omega) (by omega)
  have aq0 : 0 ≤ a * q := Int.mul_nonneg ha (by omega)
  obtain ⟨p1, q1, g1, e1, k1, k2, k3, k4, k5⟩ := mkR_val (a := p - w * q) hq
  have p10 : 0 ≤ p1 := nonneg_of_mul k1 (by omega)
  have p11 : p1 ≤ p1 * g1 := le_mul_pos k1 p10
  have c0 : 0 ≤ p1 * (b - a + 1) := Int.mul_nonneg p10 (by omega)
  have c1 : p1 * (b - a + 1) ≤ 1000 * 1000 := Int.mul_le_mul (by omega) (by omega) (by omega) (by omega)
  obtain ⟨p2, q2, g2, e2, m1, m2, m3, m4, m5⟩ := mkR_val (a := p1 * (b - a + 1)) (b := q1) k4
  have p20 : 0 ≤ p2 := nonneg_of_mul m1 (by omega)
  have p21 : p2 ≤ p2 * g2 := le_mul_pos m1 p20
  have hlow : ∀ t : Int, 0 ≤ t → 0 ≤ (lows t q).1 := fun t ht => Int.ediv_nonneg ht (by have := gcd_pos (a := t) hq; omega)
  have hlow0 : ∀ t : Int, (lows t q).1 = 0 → t = 0 := fun t ht => by
    have e := Int.ediv_mul_cancel (Int.gcd_dvd_left t q)
    have : (lows t q).1 * (Int.gcd t q : Int) = t := e
    rw [ht, Int.zero_mul] at this
    exact this.symm
  have key : (p2 * g2) * g1 = (b - a + 1) * (p - w * q) := by rw [← m2, k2, Int.mul_assoc, Int.mul_comm p1, Int.mul_assoc]; congr 1; rw [Int.mul_comm]
  unfold f_turned_once
  simp only [bk, ck, ap1, ap2, cell_under_r (s := s) (p := p) hq (show q < 2 ^ 64 by omega), ← hw, fld_cells, ix_cell h0 hL, celD, u3t, fld_place, sub_ri (p := p) (q := q) (c := w) (by unfold sm; omega) (by unfold sm; omega) (by unfold sm; omega) hq, e1, factor_of_i h0 hL, mul_ri (p := p1) (q := q1) (c := b - a + 1) (by unfold sm; omega) (by unfold sm; omega) (by unfold sm; omega) k4, e2, asBk, fld_side, other_side_s]
  cases f with
  | true =>
    have e3 : r_op b_add Ratio_add Ratio_radd (.int b) (.int 1) = .ok (.int (b + 1)) := rfl
    simp only [ite1, e3, bk, rsub_ir (p := p2) (q := q2) (c := b + 1) (by unfold sm; omega) (by unfold sm; omega) (by unfold sm; omega) m4, ck]
    have e4 : mkR ((b + 1) * q2 - p2) q2 = mkR (goes (a, b, true) p q w) q := by
      refine mkR_eq m4 hq ?_
      show ((b + 1) * q2 - p2) * q = ((b + 1) * q - (b - a + 1) * (p - w * q)) * q2
      rw [← key, k3, m3]
      grind
    rw [e4]
    exact mk_raisin (hlow _ (by omega)) (flip_side s) fun e => hz (hlow0 _ e)
  | false =>
    simp only [ite0, bk, radd_ir (p := p2) (q := q2) (c := a) (by unfold sm; omega) (by unfold sm; omega) (by unfold sm; omega) m4, ck]
    have e4 : mkR (a * q2 + p2) q2 = mkR (goes (a, b, false) p q w) q := by
      refine mkR_eq m4 hq ?_
      show (a * q2 + p2) * q = (a * q + (b - a + 1) * (p - w * q)) * q2
      rw [← key, k3, m3]
      grind
    rw [e4]
    exact mk_raisin (hlow _ (by omega)) hs fun e => hz (hlow0 _ e)
end SL
/-! HP3: spots of the dough, and how they go; shown. -/
namespace SL
open PySem L2 DL
structure Spot where
  p : Int
  q : Int
  s : Str
def Spot.rai (x : Spot) : D := raiD x.p x.q x.s
def undr (x : Spot) : Int := under x.p x.q x.s
structure Vd (lo hi : Int) (x : Spot) : Prop where
  q0 : 0 < x.q
  g1 : Int.gcd x.p x.q = 1
  l : lo * x.q ≤ x.p
  h : x.p ≤ hi * x.q
  ls : x.p = lo * x.q → x.s = "+"
  hs : x.p = hi * x.q → x.s = "-"
  sd : Side x.s
theorem gcd_mul_self {k q : Int} (h : 0 < q) (hg : Int.gcd (k * q) q = 1) : q = 1 := by
  have h1 : q.natAbs ∣ Int.gcd (k * q) q := Int.dvd_gcd (Int.natAbs_dvd.mpr ⟨k, Int.mul_comm ..⟩) (Int.natAbs_dvd.mpr (Int.dvd_refl q))
  rw [hg] at h1
  have := Nat.dvd_one.mp h1
  omega
theorem undr_in {lo hi : Int} {x : Spot} (v : Vd lo hi x) : lo ≤ undr x ∧ undr x < hi ∧ 0 ≤ x.p - undr x * x.q ∧ x.p - undr x * x.q ≤ x.q ∧ (x.p - undr x * x.q = 0 → x.s = "+") ∧ (x.p - undr x * x.q = x.q → x.s = "-") := by
  obtain ⟨p, q, s⟩ := x
  obtain ⟨q0, g1, l, h, ls, hs, sd⟩ := v
  simp only at q0 g1 l h ls hs sd
  show lo ≤ under p q s ∧ under p q s < hi ∧ 0 ≤ p - under p q s * q ∧ p - under p q s * q ≤ q ∧ (p - under p q s * q = 0 → s = "+") ∧ (p - under p q s * q = q → s = "-")
  unfold under
  by_cases z : q = 1 ∧ s = "-"
  · rw [if_pos z]
    obtain ⟨z1, z2⟩ := z
    subst z1 z2
    have : p ≠ lo * 1 := fun e => mp_ne (ls e)
    simp only [Int.ediv_one, Int.mul_one] at *
    exact ⟨by omega, by omega, by omega, by omega, fun e => by omega, fun _ => trivial⟩
  · rw [if_neg z]
    have e := Int.mul_ediv_add_emod p q
    have r0 := Int.emod_nonneg p (b := q) (by omega)
    have r1 := Int.emod_lt_of_pos p q0
    have e2 : p - p / q * q = p % q := by rw [Int.mul_comm]; omega
    have hne : p ≠ hi * q := fun e => by
      have h1 := hs e
      rw [e] at g1
      exact z ⟨gcd_mul_self q0 g1, h1⟩
    refine ⟨Int.le_ediv_of_mul_le q0 l, Int.ediv_lt_of_lt_mul q0 (by omega), by omega, by omega, fun k => ?_, fun k => by omega⟩
    have h1 : p = p / q * q := by omega
    rw [h1] at g1
    rcases sd with h2 | h2
    · exact h2
    · exact absurd ⟨gcd_mul_self q0 g1, h2⟩ z
theorem low_gcd {t q : Int} (hq : 0 < q) : Int.gcd (lows t q).1 (lows t q).2 = 1 := by
  obtain ⟨p, hp⟩ : (Int.gcd t q : Int) ∣ t := Int.gcd_dvd_left ..
  obtain ⟨r, hr⟩ : (Int.gcd t q : Int) ∣ q := Int.gcd_dvd_right ..
  have g0 := gcd_pos (a := t) hq
  have e1 : (lows t q).1 = p := Int.ediv_eq_of_eq_mul_right (by omega) hp
  have e2 : (lows t q).2 = r := Int.ediv_eq_of_eq_mul_right (by omega) hr
  rw [e1, e2]
  have e := Int.gcd_mul_left (Int.gcd t q : Int) p r
  rw [← hp, ← hr] at e
  have e2 : Int.gcd t q * Int.gcd p r = Int.gcd t q * 1 := by rw [Nat.mul_one]; simpa using e.symm
  exact Nat.eq_of_mul_eq_mul_left (by omega) e2
theorem low_vd {lo hi t q : Int} {s : Str} (hq : 0 < q) (h1 : lo * q ≤ t) (h2 : t ≤ hi * q) (h3 : t = lo * q → s = "+") (h4 : t = hi * q → s = "-") (hs : Side s) : Vd lo hi ⟨(lows t q).1, (lows t q).2, s⟩ ∧ (lows t q).2 ≤ q := by
  obtain ⟨g, g0, e1, e2, e3, e4⟩ := M1.low_val (a := t) hq
  have e1 : t = (lows t q).1 * g := e1
  have e2 : q = (lows t q).2 * g := e2
  have f1 : lo * q = lo * (lows t q).2 * g := by rw [Int.mul_assoc, ← e2]
  have f2 : hi * q = hi * (lows t q).2 * g := by rw [Int.mul_assoc, ← e2]
  refine ⟨⟨e3, low_gcd hq, ?_, ?_, fun k => h3 ?_, fun k => h4 ?_, hs⟩, e4⟩
  · refine Int.le_of_mul_le_mul_right (a := g) ?_ g0
    show lo * (lows t q).2 * g ≤ (lows t q).1 * g
    omega
  · refine Int.le_of_mul_le_mul_right (a := g) ?_ g0
    show (lows t q).1 * g ≤ hi * (lows t q).2 * g
    omega
  · have k : (lows t q).1 = lo * (lows t q).2 := k
    rw [k] at e1; omega
  · have k : (lows t q).1 = hi * (lows t q).2 := k
    rw [k] at e1; omega
theorem Vd.wide {a b lo hi : Int} {x : Spot} (v : Vd a b x) (h1 : lo ≤ a) (h2 : b ≤ hi) : Vd lo hi x := by
  have k1 := Int.mul_le_mul_of_nonneg_right h1 (Int.le_of_lt v.q0)
  have k2 := Int.mul_le_mul_of_nonneg_right h2 (Int.le_of_lt v.q0)
  have := v.l
  have := v.h
  exact ⟨v.q0, v.g1, by omega, by omega, fun e => v.ls (by omega), fun e => v.hs (by omega), v.sd⟩
/-- a cell's image -/
def gone (c : Cell) (x : Spot) : Spot := ⟨(lows (goes c x.p x.q (undr x)) x.q).1, (lows (goes c x.p x.q (undr x)) x.q).2, if c.2.2 then flip x.s else x.s⟩
theorem gone_vd {lo hi : Int} {x : Spot} {c : Cell} (v : Vd lo hi x) (ha : 0 ≤ c.1) (hab : c.1 ≤ c.2.1) : Vd c.1 (c.2.1 + 1) (gone c x) ∧ (gone c x).q ≤ x.q := by
  obtain ⟨a, b, f⟩ := c
  obtain ⟨u1, u2, u3, u4, u5, u6⟩ := undr_in v
  have q0 := v.q0
  have hb := goes_bounds (n := 0) (f := f) (p := x.p) (w := undr x) ha hab q0 u3 u4
  simp only at ha hab
  have e : (b - a + 1) * x.q = (b + 1) * x.q - a * x.q := by rw [show b - a + 1 = (b + 1) - a by omega, Int.sub_mul]
  have z1 : (b - a + 1) * (x.p - undr x * x.q) = 0 → x.p - undr x * x.q = 0 := fun z => by
    rcases Int.mul_eq_zero.mp z with z | z
    · omega
    · exact z
  have z2 : (b - a + 1) * (x.p - undr x * x.q) = (b - a + 1) * x.q → x.p - undr x * x.q = x.q := fun z => Int.eq_of_mul_eq_mul_left (by omega) z
  refine low_vd q0 hb.1 hb.2 (fun k => ?_) (fun k => ?_) ?_
  · cases f with
    | false =>
      show x.s = "+"
      refine u5 (z1 ?_)
      have : a * x.q + (b - a + 1) * (x.p - undr x * x.q) = a * x.q := k
      omega
    | true =>
      show flip x.s = "+"
      have : (b + 1) * x.q - (b - a + 1) * (x.p - undr x * x.q) = a * x.q := k
      rw [u6 (z2 (by omega))]
      rfl
  · cases f with
    | false =>
      show x.s = "-"
      have : a * x.q + (b - a + 1) * (x.p - undr x * x.q) = (b + 1) * x.q := k
      exact u6 (z2 (by omega))
    | true =>
      show flip x.s = "-"
      have : (b + 1) * x.q - (b - a + 1) * (x.p - undr x * x.q) = (b + 1) * x.q := k
      rw [u5 (z1 (by omega))]
      unfold flip
      rw [if_neg pm_ne]
  · show Side (if f then flip x.s else x.s)
    cases f with
    | false => exact v.sd
    | true => exact flip_side _
/-! ### doughs -/
structure Good (L : List Cell) : Prop where
  n1 : 2 ≤ L.length
  n2 : L.length ≤ 8
  ok : ∀ c ∈ L, 0 ≤ c.1 ∧ c.1 ≤ c.2.1 ∧ c.2.1 < L.length
def stp (L : List Cell) (x : Spot) : Spot := match L[(undr x).toNat]? with
  | some c => gone c x
  | none => x
/-- on the dough -/
structure On (L : List Cell) (x : Spot) : Prop where
  v : Vd 0 L.length x
  q2 : x.q < 1000
theorem On.cell {L : List Cell} {x : Spot} (o : On L x) : ∃ c, L[(undr x).toNat]? = some c ∧ c ∈ L := by
  obtain ⟨u1, u2, _⟩ := undr_in o.v
  have hl : (undr x).toNat < L.length := by omega
  exact ⟨L[(undr x).toNat], List.getElem?_eq_getElem hl, List.getElem_mem hl⟩
theorem stp_eq {L : List Cell} {x : Spot} {c : Cell} (h : L[(undr x).toNat]? = some c) : stp L x = gone c x := by unfold stp; rw [h]
theorem stp_on {L : List Cell} {x : Spot} (g : Good L) (o : On L x) : On L (stp L x) := by
  obtain ⟨c, h1, h2⟩ := o.cell
  obtain ⟨k1, k2, k3⟩ := g.ok c h2
  rw [stp_eq h1]
  obtain ⟨v, hq⟩ := gone_vd o.v k1 k2
  have := o.q2
  exact ⟨v.wide k1 (by omega), by omega⟩
theorem stp_in {L : List Cell} {x : Spot} (g : Good L) (o : On L x) : ∃ c, L[(undr x).toNat]? = some c ∧ c.1 ≤ undr (stp L x) ∧ undr (stp L x) ≤ c.2.1 := by
  obtain ⟨c, h1, h2⟩ := o.cell
  obtain ⟨k1, k2, k3⟩ := g.ok c h2
  refine ⟨c, h1, ?_⟩
  rw [stp_eq h1]
  obtain ⟨v, hq⟩ := gone_vd o.v k1 k2
  obtain ⟨u1, u2, _⟩ := undr_in v
  omega
theorem turned_once_on {L : List Cell} {x : Spot} (g : Good L) (o : On L x) : f_turned_once (folD L) x.rai = .ok (stp L x).rai := by
  obtain ⟨c, h1, h2⟩ := o.cell
  obtain ⟨k1, k2, k3⟩ := g.ok c h2
  obtain ⟨u1, u2, u3, u4, u5, u6⟩ := undr_in o.v
  obtain ⟨v, hq⟩ := gone_vd o.v k1 k2
  have n2 := g.n2
  rw [stp_eq h1]
  obtain ⟨a, b, f⟩ := c
  refine turned_once_r rfl u1 h1 (by have : undr x = under x.p x.q x.s := rfl; omega) o.v.q0 o.q2 k1 k2 (by simp only at k3; omega) u3 u4 o.v.sd fun e => ?_
  refine v.ls ?_
  have hb := goes_bounds (a := a) (b := b) (n := 0) (f := f) (p := x.p) (w := undr x) k1 k2 o.v.q0 u3 u4
  have e' : goes (a, b, f) x.p x.q (undr x) = 0 := e
  have aq : a * x.q ≤ 0 := by omega
  have a0 : a = 0 := by
    rcases Int.lt_or_le 0 a with z | z
    · have := Int.mul_pos z o.v.q0; omega
    · simp only at k1; omega
  show (lows (goes (a, b, f) x.p x.q (undr x)) x.q).1 = a * _
  rw [e', a0, Int.zero_mul]
  exact Int.zero_ediv _
theorem cell_under_on {L : List Cell} {x : Spot} (o : On L x) : f_cell_under x.rai = .ok (.int (undr x)) := cell_under_r o.v.q0 (by have := o.q2; omega)
/-! ### checks -/
theorem is_cell_ok {n : Nat} {c : Cell} (h : 0 ≤ c.1 ∧ c.1 ≤ c.2.1 ∧ c.2.1 < n) : f_is_cell (.int n) (celD c) = .ok (.bl true) := by
  obtain ⟨a, b, f⟩ := c
  simp only at h
  unfold f_is_cell celD
  simp only [bk, ck, isiB_tup, trk, asBk, Bool.not_true, ite0, bi_len_t, ix_t3_0, ix_t3_1, ix_t3_2, isiB_bl, b_sub_i, ap3, is_between_i]
  rw [show c_ne (.int ([D.int a, D.int b, D.bl f].length : Nat)) (.int 3) = .ok false from rfl]
  simp only [ite0, decide_eq_true (show (0 : Int) ≤ a by omega), decide_eq_true (show a ≤ (n : Int) - 1 by omega), decide_eq_true (show a ≤ b by omega), decide_eq_true (show b ≤ (n : Int) - 1 by omega), Bool.and_self, ite1, trk]
theorem forO_unit {f : Unit → D → O Unit} : ∀ {ds : List D}, (∀ d ∈ ds, f () d = .ok ()) → forO f ds () = .ok ()
  | [], _ => rfl
  | d :: ds, h => by
    show (f () d).bind _ = _
    rw [h d List.mem_cons_self]
    exact forO_unit fun x hx => h x (List.mem_cons_of_mem _ hx)
theorem check_cells_ok {L : List Cell} (g : Good L) : f_check_cells (cellsD L) = .ok .non := by
  unfold f_check_cells cellsD
  have n1 := g.n1
  have n2 := g.n2
  simp only [bk, ck, isiB_tup, trk, asBk, Bool.not_true, ite0, bi_len_t, chk, c_le_i, List.length_map, decide_eq_true (show (2 : Int) ≤ (L.length : Int) by omega), decide_eq_true (show (L.length : Int) ≤ 8 by omega), ite1]
  show (forO _ (enumD (L.map celD)) ()).bind _ = _
  rw [forO_unit fun d hd => ?_]
  · rfl
  · obtain ⟨i, hi⟩ := List.getElem?_of_mem hd
    obtain ⟨y, h1, h2⟩ := enumD_get hi
    rw [List.getElem?_map] at h1
    cases hc : L[i]? with
    | none => rw [hc] at h1; cases h1
    | some c =>
      rw [hc] at h1
      cases h1
      subst h2
      have hm := List.mem_of_getElem? hc
      simp only [u2t, ap2, is_cell_ok (g.ok c hm), bk, asBk, Bool.not_true, ite0]
theorem mk_fold {L : List Cell} (g : Good L) : ((l1 Fold_init) ([cellsD L] ++ [])).bind (fun fs => O.ok (D.obj 1 fs)) = .ok (folD L) := by
  rw [List.append_nil, ap1]
  unfold Fold_init
  simp only [bk, ck, ap1, check_cells_ok g]
  rfl
theorem ownLen_o {t : Nat → Option (D → O D)} {c : Nat} {fs : List (Str × D)} {f : D → O D} {n : Int} (h : t c = some f) (hf : f (.obj c fs) = .ok (.int n)) (h0 : 0 ≤ n) (h1 : n < 2 ^ 63) : ownLen t [.obj c fs] = .ok (.int n) := by
  unfold ownLen
  simp only [h, op2_some, hf, bk, aik]
  exact if_pos ⟨h0, h1⟩
theorem Fold_len_i (L : List Cell) : Fold_len (folD L) = .ok (.int L.length) := by
  unfold Fold_len
  simp only [bk, ck, fld_cells, cellsD, bi_len_t, List.length_map]
theorem len_fold (L : List Cell) (h : L.length ≤ 1000) : ownLen lens [folD L] = .ok (.int L.length) := ownLen_o (f := Fold_len) rfl (Fold_len_i L) (by omega) (by omega)
end SL
/-! HP4: shown -/
namespace SL
open PySem L2 DL
theorem is_inside_on {L : List Cell} {x : Spot} (g : Good L) (o : On L x) : f_is_inside (folD L) x.rai = .ok (.bl true) := by
  unfold f_is_inside
  have n2 := g.n2
  have q0 := o.v.q0
  have q2 := o.q2
  have h := o.v.h
  have hs := o.v.hs
  have e1 : f_order_of (ratD x.p x.q) (.int L.length) = .ok (.int (if x.p = L.length * x.q then 0 else -1)) := by
    unfold f_order_of
    simp only [bk, ck, ap1, as_ratio_r, as_ratio_i, fld_top, fld_bottom, b_mul_r (i := x.p) (j := 1) (by omega) (by omega), b_mul_l (i := (L.length : Int)) (j := x.q) (by omega) (by omega), c_eq_i, c_lt_i, b_neg_i, Int.mul_one]
    by_cases z : x.p = L.length * x.q
    · rw [decide_eq_true z, ite1, if_pos z]
    · rw [decide_eq_false z, ite0, if_neg z, decide_eq_true (by omega), ite1]
  simp only [bk, ck, ap2, Spot.rai, fld_place, len_fold L (by omega), e1, c_lt_i, c_eq_i, trk, asBk, fld_side, c_eq_s]
  by_cases z : x.p = L.length * x.q
  · rw [if_pos z, hs z]; rfl
  · rw [if_neg z]; rfl
theorem check_on_on {L : List Cell} {x : Spot} (g : Good L) (o : On L x) : f_check_on (folD L) x.rai = .ok .non := by
  unfold f_check_on
  have e1 : f_check_fold (folD L) = .ok .non := rfl
  have e2 : f_check_raisin (folD L) x.rai = .ok .non := by
    unfold f_check_raisin
    rw [show isiC 2 = isiC 2 from rfl]
    simp only [bk, ck, ap2, show isiC 2 x.rai = .ok true from rfl, trk, asBk, Bool.not_true, ite0, is_inside_on g o]
  simp only [bk, ck, ap1, ap2, e1, e2]
theorem next_of_on {L : List Cell} {x : Spot} (g : Good L) (o : On L x) : f_next_of (folD L) x.rai = .ok (stp L x).rai := by
  unfold f_next_of
  simp only [bk, ck, ap2, check_on_on g o, turned_once_on g o]
/-! ### rows -/
def row (L : List Cell) : Nat → Spot → List Int
  | 0, _ => []
  | n + 1, x => undr x :: row L n (stp L x)
theorem row_length (L : List Cell) : ∀ n x, (row L n x).length = n
  | 0, _ => rfl
  | n + 1, x => congrArg (· + 1) (row_length L n (stp L x))
def far (L : List Cell) : Nat → Spot → Spot
  | 0, x => x
  | n + 1, x => far L n (stp L x)
theorem far_on {L : List Cell} (g : Good L) : ∀ n {x : Spot}, On L x → On L (far L n x)
  | 0, _, o => o
  | n + 1, _, o => far_on g n (stp_on g o)
/-- a walk that notes the cells -/
theorem walk_forO {L : List Cell} (g : Good L) {enc : Spot → D} {f : List D × D → D → O (List D × D)} (hf : ∀ acc x d, acc.length ≤ 1000000 → On L x → f (acc, enc x) d = .ok (acc ++ [.int (undr x)], enc (stp L x))) :
    ∀ (ds acc : List D) (x : Spot), acc.length + ds.length ≤ 1000000 → On L x → forO f ds (acc, enc x) = .ok (acc ++ (row L ds.length x).map D.int, enc (far L ds.length x))
  | [], acc, x, _, _ => by simp [forO, row, far]
  | d :: ds, acc, x, hl, o => by
    show (f (acc, enc x) d).bind _ = _
    rw [List.length_cons] at hl
    rw [hf acc x d (by omega) o, bk, walk_forO g hf ds _ _ (by rw [List.length_append, List.length_singleton]; omega) (stp_on g o)]
    simp [row, far, List.append_assoc]
theorem cells_shown_on {L : List Cell} {x : Spot} {n : Int} (g : Good L) (o : On L x) (h0 : 0 ≤ n) (h1 : n ≤ 1000) : f_cells_shown (folD L) x.rai (.int n) = .ok (.tup ((row L n.toNat x).map D.int)) := by
  unfold f_cells_shown
  simp only [bk, rg1_i (show -(2 ^ 62) ≤ n by omega) (show n < 2 ^ 62 by omega)]
  rw [walk_forO g (enc := Spot.rai) (fun acc y d hl oy => ?_) _ _ _ (by rw [rangeD_length]; simp; omega) o]
  · simp only [bk, ck, bi_tuple_l, rangeD_length, List.nil_append]
  · simp only [bk, ck, ap1, ap2, cell_under_on oy, sized, if_pos hl, turned_once_on g oy]
theorem shown_on {L : List Cell} {x : Spot} {n : Int} (g : Good L) (o : On L x) (h0 : 0 ≤ n) (h1 : n ≤ 200) : f_shown (folD L) x.rai (.int n) = .ok (.tup ((row L n.toNat x).map D.int)) := by
  unfold f_shown
  simp only [bk, ck, ap2, ap3, check_on_on g o, is_between_i, decide_eq_true h0, decide_eq_true h1, Bool.and_self, asBk, Bool.not_true, ite0, cells_shown_on g o h0 (by omega)]
end SL
/-! HB: bags of the laws, loops over them. -/
namespace SL
open PySem L2 DL
def Bag (g : List D) : Prop := ∃ a b c : Int, g = [.int a, .int b, .int c]
theorem mitea {α : Type} (m : M Bool) (x y : M α) (g : List D) : M.ite m x y g = (m g).bind fun r => (bif r.1 then x else y) r.2 := nrfl rfl trivial
theorem mconsa (m : M D) (ms : M (List D)) (g : List D) : M.cons m ms g = (m g).bind fun r => (ms r.2).bind fun t => .ok (r.1 :: t.1, t.2) := nrfl rfl trivial
theorem mtra (m : M Bool) (g : List D) : M.tr m g = (m g).bind fun r => .ok (.bl r.1, r.2) := nrfl rfl trivial
theorem ixN3_0 (a b c : D) : ixN [a, b, c].length 0 = some 0 := nrfl rfl trivial
theorem ixN3_1 (a b c : D) : ixN [a, b, c].length 1 = some 1 := nrfl rfl trivial
theorem ixN3_2 (a b c : D) : ixN [a, b, c].length 2 = some 2 := nrfl rfl trivial
theorem set3_0 (a b c x : D) : [a, b, c].set 0 x = [x, b, c] := nrfl rfl trivial
theorem set3_1 (a b c x : D) : [a, b, c].set 1 x = [a, x, c] := nrfl rfl trivial
theorem set3_2 (a b c x : D) : [a, b, c].set 2 x = [a, b, x] := nrfl rfl trivial
theorem op2k {α β : Type} (a : α) (f : α → O β) : op2 (some a) f = f a := nrfl rfl trivial
theorem bif1 {α : Type} (x y : α) : (bif true then x else y) = x := nrfl rfl trivial
theorem bif0 {α : Type} (x y : α) : (bif false then x else y) = y := nrfl rfl trivial
theorem sizedMk {α : Type} {n : Nat} {m : M α} {g : List D} (h : n ≤ 1000000) : sizedM n m g = m g := if_pos h
theorem forM_acc {α : Type} {P : α → Prop} {enc : α → D} {f : List D → D → M (List D)} (hf : ∀ acc d g, Bag g → acc.length ≤ 1000000 → ∃ c g', f acc d g = .ok (acc ++ [enc c], g') ∧ P c ∧ Bag g') :
    ∀ (ds : List D) (L0 : List α) (g : List D), Bag g → L0.length + ds.length ≤ 1000000 → (∀ c ∈ L0, P c) → ∃ (L : List α) (g' : List D), forM f ds (L0.map enc) g = .ok (L.map enc, g') ∧ L.length = L0.length + ds.length ∧ (∀ c ∈ L, P c) ∧ Bag g'
  | [], L0, g, hb, _, h0 => ⟨L0, g, rfl, rfl, h0, hb⟩
  | d :: ds, L0, g, hb, hl, h0 => by
    rw [List.length_cons] at hl
    obtain ⟨c, g1, e1, p1, b1⟩ := hf (L0.map enc) d g hb (by rw [List.length_map]; omega)
    obtain ⟨L, g2, e2, e3, p2, b2⟩ := forM_acc hf ds (L0 ++ [c]) g1 b1 (by rw [List.length_append, List.length_singleton]; omega) (fun x hx => by
      rcases List.mem_append.mp hx with h | h
      · exact h0 x h
      · rw [List.mem_singleton.mp h]; exact p1)
    refine ⟨L, g2, ?_, ?_, p2, b2⟩
    · rw [forM_cons, mbind, e1, bk, ← e2, List.map_append]; rfl
    · rw [e3, List.length_append, List.length_singleton, List.length_cons]; omega
theorem loopM_unit {R : Type} {f : Unit → D → M (Fl Unit R)} : ∀ (ds : List D) (g : List D), Bag g → (∀ d ∈ ds, ∀ g, Bag g → ∃ g', f () d g = .ok (.nx (), g') ∧ Bag g') → ∃ g', loopM f ds () g = .ok (.nx (), g') ∧ Bag g'
  | [], g, hb, _ => ⟨g, rfl, hb⟩
  | d :: ds, g, hb, h => by
    obtain ⟨g1, e1, b1⟩ := h d List.mem_cons_self g hb
    obtain ⟨g2, e2, b2⟩ := loopM_unit ds g1 b1 fun x hx => h x (List.mem_cons_of_mem _ hx)
    refine ⟨g2, ?_, b2⟩
    unfold loopM
    rw [mbind, e1, bk]
    exact e2
/-- a loop that keeps the bag and all else -/
theorem loopM_keep {R : Type} {f : Unit → D → M (Fl Unit R)} {g : List D} : ∀ (ds : List D), (∀ d ∈ ds, f () d g = .ok (.nx (), g)) → loopM f ds () g = .ok (.nx (), g)
  | [], _ => rfl
  | d :: ds, h => by
    unfold loopM
    rw [mbind, h d List.mem_cons_self, bk]
    exact loopM_keep ds fun x hx => h x (List.mem_cons_of_mem _ hx)
theorem thenM_nx {T R : Type} {m : M (Fl T R)} {k : T → M R} {g g' : List D} {t : T} (h : m g = .ok (.nx t, g')) : thenM m k g = k t g' := by
  unfold thenM
  rw [mbind, h, bk]
theorem then_loop {R : Type} {f : Unit → D → M (Fl Unit R)} {k : Unit → M R} {ds g : List D} {r : R} (hb : Bag g) (h : ∀ d ∈ ds, ∀ g, Bag g → ∃ g', f () d g = .ok (.nx (), g') ∧ Bag g') (hk : ∀ g', Bag g' → ∃ g'', k () g' = .ok (r, g'') ∧ Bag g'') : ∃ g'', thenM (loopM f ds ()) k g = .ok (r, g'') ∧ Bag g'' := by
  obtain ⟨g', e, b⟩ := loopM_unit ds g hb h
  rw [thenM_nx e]
  exact hk g' b
theorem forM_accK {α β : Type} {P : α → Prop} {enc : α → D} {f : List D → D → M (List D)} {K : List D × List D → O β} {Q : β → Prop} {ds g : List D} (hb : Bag g) (hl : ds.length ≤ 1000000) (hf : ∀ acc d g, Bag g → acc.length ≤ 1000000 → ∃ c g', f acc d g = .ok (acc ++ [enc c], g') ∧ P c ∧ Bag g')
    (hk : ∀ (L : List α) (g' : List D), L.length = ds.length → (∀ c ∈ L, P c) → Bag g' → ∃ r, K (L.map enc, g') = .ok r ∧ Q r) : ∃ r, (forM f ds [] g).bind K = .ok r ∧ Q r := by
  obtain ⟨L, g', e, hL, hP, b⟩ := forM_acc hf ds [] g hb (by simp; omega) (fun _ h => nomatch h)
  have e : forM f ds [] g = .ok (L.map enc, g') := e
  rw [e, bk]
  exact hk L g' (by simpa using hL) hP b
theorem forO_int {f : D → D → O D} (hf : ∀ s t : Int, ∃ u : Int, f (.int s) (.int t) = .ok (.int u)) : ∀ (js : List Int) (s : Int), ∃ u : Int, forO f (js.map D.int) (.int s) = .ok (.int u)
  | [], s => ⟨s, rfl⟩
  | j :: js, s => by
    obtain ⟨u, e⟩ := hf s j
    obtain ⟨v, e'⟩ := forO_int hf js u
    exact ⟨v, by show (f (.int s) (.int j)).bind _ = _; rw [e, bk]; exact e'⟩
theorem forO_intK {β : Type} {f : D → D → O D} {K : D → O β} {Q : β → Prop} {js : List Int} {s : Int} (hf : ∀ s t : Int, ∃ u : Int, f (.int s) (.int t) = .ok (.int u)) (hk : ∀ u : Int, ∃ r, K (.int u) = .ok r ∧ Q r) : ∃ r, (forO f (js.map D.int) (.int s)).bind K = .ok r ∧ Q r := by
  obtain ⟨u, e⟩ := forO_int hf js s
  rw [e, bk]
  exact hk u
/-- a walk that notes the cells, beside a bag -/
theorem walk_forM {L : List Cell} (gd : Good L) {enc : Spot → D} {f : List D × D → D → M (List D × D)} {g : List D} (hf : ∀ acc x d, acc.length ≤ 1000000 → On L x → f (acc, enc x) d g = .ok ((acc ++ [.int (undr x)], enc (stp L x)), g)) :
    ∀ (ds acc : List D) (x : Spot), acc.length + ds.length ≤ 1000000 → On L x → forM f ds (acc, enc x) g = .ok ((acc ++ (row L ds.length x).map D.int, enc (far L ds.length x)), g)
  | [], acc, x, _, _ => by rw [forM_nil, mret]; simp [row, far]
  | d :: ds, acc, x, hl, o => by
    rw [List.length_cons] at hl
    rw [forM_cons, mbind, hf acc x d (by omega) o, bk]
    show forM f ds (acc ++ [.int (undr x)], enc (stp L x)) g = _
    rw [walk_forM gd hf ds _ _ (by rw [List.length_append, List.length_singleton]; omega) (stp_on gd o)]
    simp [row, far, List.append_assoc]
/-! ### spots as data -/
def Spot.spD (x : Spot) : D := .lst [.tup [.int x.p, .int x.q], .str x.s]
/-! ### equal data -/
theorem c_ne_same {n W : Nat} {ds : List D} (h : Rep n W (.tup ds)) (hn : n ≤ 60) : c_ne (.tup ds) (.tup ds) = .ok false := by
  have k : eqOk (.tup ds) = true := by
    unfold eqOk
    rw [h.ok, h.shaped hn]; rfl
  unfold c_ne
  have e : c_eq (.tup ds) (.tup ds) = .ok true := by
    show (if eqOk (.tup ds) && eqOk (.tup ds) then O.ok (PyData.eqv (toP (.tup ds)) (toP (.tup ds))) else O.bad) = _
    rw [k, PySem.SeqAt.eqv_refl _ h.cl]; rfl
  rw [e]; rfl
theorem rep_ints {is : List Int} (h : ∀ i ∈ is, i.natAbs < 10 ^ 12) : Rep 1 (402 * is.length) (.tup (is.map D.int)) := by
  have := rep_all (n := 0) (W := 401) (ds := is.map D.int) fun d hd => by
    obtain ⟨i, hi, rfl⟩ := List.mem_map.mp hd
    exact rep_i (h i hi)
  rw [List.length_map] at this
  exact rep_tup this
theorem row_mem {L : List Cell} (g : Good L) : ∀ n {x : Spot}, On L x → ∀ i ∈ row L n x, 0 ≤ i ∧ i < 8
  | 0, _, _, i, h => nomatch h
  | n + 1, x, o, i, h => by
    rcases List.mem_cons.mp h with e | h
    · obtain ⟨u1, u2, _⟩ := undr_in o.v
      have := g.n2
      omega
    · exact row_mem g n (stp_on g o) i h
theorem row_next {L : List Cell} (g : Good L) : ∀ n {x : Spot}, On L x → ∀ k, k + 1 < n → ∃ i c j, (row L n x)[k]? = some i ∧ 0 ≤ i ∧ L[i.toNat]? = some c ∧ (row L n x)[k + 1]? = some j ∧ c.1 ≤ j ∧ j ≤ c.2.1
  | 0, _, _, _, h => by omega
  | 1, _, _, _, h => by omega
  | n + 2, x, o, 0, h => by
    obtain ⟨c, h1, h2, h3⟩ := stp_in g o
    exact ⟨undr x, c, undr (stp L x), rfl, (undr_in o.v).1, h1, rfl, h2, h3⟩
  | n + 2, x, o, k + 1, h => row_next g (n + 1) (stp_on g o) k (by omega)
theorem row_tail (L : List Cell) (n : Nat) (x : Spot) : (row L (n + 1) x).drop 1 = row L n (stp L x) := rfl
theorem cut_1 (ds : List D) : cut (.tup ds) (some 1) none = .ok (.tup (ds.drop 1)) := by
  show O.ok (D.tup (cutD ds (some 1) none)) = _
  unfold cutD
  have e1 : HT.sIx ds.length 0 (some 1) = min 1 ds.length := by
    unfold HT.sIx
    first | rfl | (simp; omega) | (split <;> simp_all <;> omega)
  have e2 : HT.sIx ds.length ds.length none = ds.length := rfl
  rw [e1, e2]
  congr 2
  cases ds with
  | nil => rfl
  | cons a r =>
    have : min 1 (a :: r).length = 1 := by rw [List.length_cons]; omega
    rw [this]
    exact List.take_of_length_le (by rw [List.length_drop]; omega)
end SL
/-! the functions of law k44 by outcomes; printed by slend.py -/
namespace SL.K44
open PySem L2 DL SL
def f_law_urn (v_law_script v_law_k : D) : O (List D) :=
  ((O.ite ((O.ok v_law_k).bind fun x => ((O.cons (O.ok v_law_script) (O.ok [])).bind (ownLen lens)).bind fun y => c_lt x y) ((O.cons ((O.ok v_law_script).bind fun x => (O.ok v_law_k).bind fun y => ix x y) (O.ok [])).bind bi_int) (O.ok (D.int 0))).bind fun v_law_near_1 => (((O.ok (D.int 7013)).bind fun x => ((O.ok (D.int 4421)).bind fun x => (O.ok v_law_k).bind fun y => b_mul x y).bind fun y => b_add x y).bind fun v_law_mixed_2 => ((((O.cons ((O.cons (O.ok v_law_script) (O.ok [])).bind (ownLen lens)) (O.cons (O.ok (D.int 9)) (O.ok []))).bind bi_min).bind rg1).bind fun ds => (forO (fun (s3 : D) v_law_at_4 => ((((O.cons ((((O.ok s3).bind fun x => (O.ok (D.int 58111)).bind fun y => b_mul x y).bind fun x => (((O.cons ((O.ok v_law_script).bind fun x => (O.ok v_law_at_4).bind fun y => ix x y) (O.ok [])).bind bi_int).bind fun x => (O.ok (D.int 1999993)).bind fun y => b_mod x y).bind fun y => b_add x y).bind fun x => ((O.ok (D.int 31)).bind fun x => (O.ok v_law_at_4).bind fun y => b_mul x y).bind fun y => b_add x y) (O.ok [])).bind bi_int).bind fun x => (O.ok (D.int 2147483563)).bind fun y => b_mod x y).bind fun v_law_mixed_5 => (O.ok v_law_mixed_5))) ds v_law_mixed_2).bind fun (s3 : D) => ((((O.cons ((O.ok s3).bind fun x => ((O.ok (D.int 40009)).bind fun x => (((O.cons (O.ok v_law_near_1) (O.ok [])).bind bi_int).bind fun x => (O.ok (D.int 1999993)).bind fun y => b_mod x y).bind fun y => b_mul x y).bind fun y => b_add x y) (O.ok [])).bind bi_int).bind fun x => (O.ok (D.int 2147483563)).bind fun y => b_mod x y).bind fun v_law_mixed_6 => (O.cons (O.ite (O.ite ((O.ok v_law_near_1).bind fun x => (O.ok (D.int 0)).bind fun y => c_lt x y) (O.ok true) ((O.ok v_law_near_1).bind fun x => ((O.ok (D.int 10)).bind fun x => (O.ok (D.int 15)).bind fun y => b_pow x y).bind fun y => c_ge x y)) ((O.cons (O.ok v_law_near_1) (O.ok [])).bind bi_abs) (O.ok (D.int 0))) (O.cons (O.ok v_law_mixed_6) (O.cons (O.ok (D.int 0)) (O.ok []))))))))
def f_law_take (v_law_wide : D) : M D :=
  (((bagIx (O.ok (D.int 2))).bind fun x => (M.up (O.ok (D.int 1))).bind fun y => M.up (b_add x y)).bind fun b5 g => op2 (ixN g.length 2) fun n => (M.ite ((bagIx (O.ok (D.int 0))).bind fun x => (M.up (O.ok (D.int 0))).bind fun y => M.up (c_gt x y)) ((((M.cons (bagIx (O.ok (D.int 0))) (M.up (O.ok []))).bind fun ds => M.up (bi_int ds)).bind fun x => (M.up (O.ok v_law_wide)).bind fun y => M.up (b_mod x y)).bind fun v_law_digit_1 => (((bagIx (O.ok (D.int 0))).bind fun x => (M.up (O.ok v_law_wide)).bind fun y => M.up (b_fdiv x y)).bind fun b2 g => op2 (ixN g.length 0) fun n => (M.up (O.ok v_law_digit_1)) (g.set n b2))) (((M.cons ((bagIx (O.ok (D.int 1))).bind fun x => ((M.up (O.ok (D.int 92821))).bind fun x => (bagIx (O.ok (D.int 2))).bind fun y => M.up (b_mul x y)).bind fun y => M.up (b_add x y)) (M.up (O.ok []))).bind fun ds => M.up (bi_int ds)).bind fun v_law_held_3 => ((((M.cons ((M.up ((O.ok v_law_held_3).bind fun x => (O.ok (D.int 5)).bind fun y => b_pow x y)).bind fun x => ((M.up (O.ok (D.int 57))).bind fun x => (bagIx (O.ok (D.int 2))).bind fun y => M.up (b_mul x y)).bind fun y => M.up (b_add x y)) (M.up (O.ok []))).bind fun ds => M.up (bi_int ds)).bind fun x => (M.up (O.ok (D.int 2147483563))).bind fun y => M.up (b_mod x y)).bind fun b4 g => op2 (ixN g.length 1) fun n => (((M.cons ((bagIx (O.ok (D.int 1))).bind fun x => (M.up (O.ok (D.int 61))).bind fun y => M.up (b_fdiv x y)) (M.up (O.ok []))).bind fun ds => M.up (bi_int ds)).bind fun x => (M.up (O.ok v_law_wide)).bind fun y => M.up (b_mod x y)) (g.set n b4)))) (g.set n b5))
def f_law_dough (v_law_most : D) : M D :=
  (((M.up (O.ok (D.int 2))).bind fun x => ((M.up (O.cons ((O.ok v_law_most).bind fun x => (O.ok (D.int 1)).bind fun y => b_sub x y) (O.ok []))).bind (m1 f_law_take)).bind fun y => M.up (b_add x y)).bind fun v_law_size_1 => ((M.tr (((M.up (O.cons (O.ok (D.int 3)) (O.ok []))).bind (m1 f_law_take)).bind fun x => (M.up (O.ok (D.int 0))).bind fun y => M.up (c_eq x y))).bind fun v_law_is_short_2 => ((M.up (O.ok [])).bind fun v_law_found_3 => ((M.up ((O.ok v_law_size_1).bind rg1)).bind fun ds => (forM (fun (s4 : List D) v_law_k_5 => (((M.up (O.cons (O.ok v_law_size_1) (O.ok []))).bind (m1 f_law_take)).bind fun v_law_one_6 => (((M.up (O.cons (O.ok v_law_size_1) (O.ok []))).bind (m1 f_law_take)).bind fun v_law_two_7 => ((M.ite (M.up ((O.ok v_law_is_short_2).bind asB)) ((M.up ((O.cons ((O.ok v_law_one_6).bind fun x => (((O.cons (O.ok v_law_two_7) (O.ok [])).bind bi_int).bind fun x => (O.ok (D.int 2)).bind fun y => b_mod x y).bind fun y => b_add x y) (O.cons ((O.ok v_law_size_1).bind fun x => (O.ok (D.int 1)).bind fun y => b_sub x y) (O.ok []))).bind bi_min)).bind fun v_law_two_8 => (M.ret v_law_two_8)) (M.ret v_law_two_7)).bind fun (j9 : D) => (((M.cons (M.up ((O.cons (O.ok v_law_one_6) (O.cons (O.ok j9) (O.ok []))).bind bi_min)) (M.cons (M.up ((O.cons (O.ok v_law_one_6) (O.cons (O.ok j9) (O.ok []))).bind bi_max)) (M.cons (M.tr (((M.up (O.cons (O.ok (D.int 2)) (O.ok []))).bind (m1 f_law_take)).bind fun x => (M.up (O.ok (D.int 1))).bind fun y => M.up (c_eq x y))) (M.up (O.ok []))))).bind fun ds => M.ret (D.tup ds)).bind fun a10 => sizedM s4.length (M.ret (s4 ++ [a10]))))))) ds v_law_found_3).bind fun (s4 : List D) => (M.up ((O.cons (O.ok (D.lst s4)) (O.ok [])).bind bi_tuple))))))
def f_law_hue (v_law_size : D) : M D :=
  ((M.up (O.ok (D.str "abcdefghijklmnopqrstuvwxyz"))).bind fun v_law_letters_1 => ((M.up (O.ok [])).bind fun v_law_some_2 => ((((M.up ((O.cons (O.ok (D.int 1)) (O.cons (O.ok (D.int 2)) (O.cons (O.ok (D.int 2)) (O.cons (O.ok (D.int 3)) (O.cons (O.ok (D.int 8)) (O.ok [])))))).bind fun ds => O.ok (D.lst ds))).bind fun x => ((M.up (O.cons (O.ok (D.int 5)) (O.ok []))).bind (m1 f_law_take)).bind fun y => M.up (ix x y)).bind fun x => M.up (rg1 x)).bind fun ds => (forM (fun (s3 : List D) v_law_k_4 => (((M.up (O.ok v_law_letters_1)).bind fun x => ((M.up (O.cons (O.ok (D.int 26)) (O.ok []))).bind (m1 f_law_take)).bind fun y => M.up (ix x y)).bind fun a5 => sizedM s3.length (M.ret (s3 ++ [a5])))) ds v_law_some_2).bind fun (s3 : List D) => ((M.up (O.ok (D.str ""))).bind fun x => (((M.up ((O.ok v_law_size).bind rg1)).bind (mapM (fun v_law_k => ((M.up (O.ok (D.lst s3))).bind fun x => ((M.up (O.cons ((O.cons (O.ok (D.lst s3)) (O.ok [])).bind (ownLen lens)) (O.ok []))).bind (m1 f_law_take)).bind fun y => M.up (ix x y))))).bind fun ds => M.ret (D.lst ds)).bind fun y => M.up (t_join x y)))))
def f_law_path (v_law_dough_here v_law_size : D) : M D :=
  ((M.cons ((M.up (O.cons ((O.cons (O.ok v_law_dough_here) (O.ok [])).bind (ownLen lens)) (O.ok []))).bind (m1 f_law_take)) (M.up (O.ok []))).bind fun v_law_found_1 => ((M.up (((O.ok v_law_size).bind fun x => (O.ok (D.int 1)).bind fun y => b_sub x y).bind rg1)).bind fun ds => (forM (fun (s2 : List D) v_law_k_3 => ((M.up ((O.ok v_law_dough_here).bind fun x => (((O.ok (D.int 1)).bind b_neg).bind fun y => ix (D.lst s2) y).bind fun y => ix x y)).bind fun d g => un3 d fun v_law_first_4 v_law_last_5 v_law_over_6 => (((M.up (O.ok v_law_first_4)).bind fun x => ((M.up (O.cons (((O.ok v_law_last_5).bind fun x => (O.ok v_law_first_4).bind fun y => b_sub x y).bind fun x => (O.ok (D.int 1)).bind fun y => b_add x y) (O.ok []))).bind (m1 f_law_take)).bind fun y => M.up (b_add x y)).bind fun a7 => sizedM s2.length (M.ret (s2 ++ [a7]))) g)) ds v_law_found_1).bind fun (s2 : List D) => (M.up (O.ok (D.lst s2)))))
def f_law_spelled (v_law_hue_here v_law_line : D) : O D :=
  ((O.ok (D.str "")).bind fun x => ((((O.ok v_law_line).bind itD).bind (mapO (fun v_law_k => ((O.ok v_law_hue_here).bind fun x => (O.ok v_law_k).bind fun y => ix x y)))).bind fun ds => O.ok (D.lst ds)).bind fun y => t_join x y)
def f_law_word (v_law_dough_here v_law_hue_here : D) : M D :=
  ((((M.cons (M.up (O.ok (D.int 1))) (M.cons (M.up (O.ok (D.int 2))) (M.cons (M.up (O.ok (D.int 3))) (M.cons ((M.up (O.ok (D.int 1))).bind fun x => ((M.up (O.cons (O.ok (D.int 40)) (O.ok []))).bind (m1 f_law_take)).bind fun y => M.up (b_add x y)) (M.up (O.cons (O.ok (D.int 200)) (O.ok []))))))).bind fun ds => M.ret (D.lst ds)).bind fun x => ((M.up (O.cons (O.ok (D.int 5)) (O.ok []))).bind (m1 f_law_take)).bind fun y => M.up (ix x y)).bind fun v_law_size_1 => (((M.cons (M.up (O.ok v_law_hue_here)) (M.cons ((M.up (O.cons (O.ok v_law_dough_here) (O.cons (O.ok v_law_size_1) (O.ok [])))).bind (m2 f_law_path)) (M.up (O.ok [])))).bind fun ds => M.up ((l2 f_law_spelled) ds)).bind fun v_law_line_2 => ((((M.up (O.cons (O.ok (D.int 3)) (O.ok []))).bind (m1 f_law_take)).bind fun x => M.up (rg1 x)).bind fun ds => (forM (fun (s3 : D) v_law_turn_4 => (((M.up (O.cons ((O.cons (O.ok s3) (O.ok [])).bind (ownLen lens)) (O.ok []))).bind (m1 f_law_take)).bind fun v_law_at_5 => ((M.up ((O.ok v_law_hue_here).bind fun x => (O.ok (D.str "abcdefghijklmnopqrstuvwxyz")).bind fun y => b_add x y)).bind fun v_law_some_6 => (((M.up (O.ok v_law_some_6)).bind fun x => ((M.up (O.cons ((O.cons (O.ok v_law_some_6) (O.ok [])).bind (ownLen lens)) (O.ok []))).bind (m1 f_law_take)).bind fun y => M.up (ix x y)).bind fun v_law_sign_7 => ((M.up ((O.cons ((((O.ok s3).bind fun x => (O.ok none).bind fun l => ((O.ok v_law_at_5).bind fun x => (asI x).bind fun i => O.ok (some i)).bind fun h => cut x l h).bind fun x => (O.ok v_law_sign_7).bind fun y => b_add x y).bind fun x => ((O.ok s3).bind fun x => (((O.ok v_law_at_5).bind fun x => (O.ok (D.int 1)).bind fun y => b_add x y).bind fun x => (asI x).bind fun i => O.ok (some i)).bind fun l => (O.ok none).bind fun h => cut x l h).bind fun y => b_add x y) (O.cons ((O.ok s3).bind fun x => ((O.ok v_law_at_5).bind fun x => (asI x).bind fun i => O.ok (some i)).bind fun l => (O.ok none).bind fun h => cut x l h) (O.cons ((((O.ok s3).bind fun x => (O.ok none).bind fun l => ((O.ok v_law_at_5).bind fun x => (asI x).bind fun i => O.ok (some i)).bind fun h => cut x l h).bind fun x => (O.ok v_law_sign_7).bind fun y => b_add x y).bind fun x => ((O.ok s3).bind fun x => ((O.ok v_law_at_5).bind fun x => (asI x).bind fun i => O.ok (some i)).bind fun l => (O.ok none).bind fun h => cut x l h).bind fun y => b_add x y) (O.ok [])))).bind fun ds => O.ok (D.lst ds))).bind fun v_law_ways_8 => (((M.up (O.ok v_law_ways_8)).bind fun x => ((M.up (O.cons (O.ok (D.int 3)) (O.ok []))).bind (m1 f_law_take)).bind fun y => M.up (ix x y)).bind fun v_law_line_9 => (M.ret v_law_line_9))))))) ds v_law_line_2).bind fun (s3 : D) => (M.up ((O.ok s3).bind fun x => (O.ok none).bind fun l => ((O.ok (D.int 200)).bind fun x => (asI x).bind fun i => O.ok (some i)).bind fun h => cut x l h)))))
def f_law_opened (v_law_hue_here v_law_sign : D) : O D :=
  ((O.cons (((((O.cons (O.ok v_law_hue_here) (O.ok [])).bind (ownLen lens)).bind rg1).bind (filO (fun v_law_k => (((O.ok v_law_hue_here).bind fun x => (O.ok v_law_k).bind fun y => ix x y).bind fun x => (O.ok v_law_sign).bind fun y => c_eq x y)) (fun v_law_k => (O.ok v_law_k)))).bind fun ds => O.ok (D.lst ds)) (O.ok [])).bind bi_tuple)
def f_law_behind (v_law_dough_here v_law_hue_here v_law_some v_law_sign : D) : O D :=
  ((O.ok []).bind fun v_law_found_1 => ((((O.cons (O.ok v_law_dough_here) (O.ok [])).bind (ownLen lens)).bind rg1).bind fun ds => (forO (fun (s2 : List D) v_law_k_3 => (((((O.ok v_law_some).bind itD).bind (filO (fun v_law_j => (chainO (((O.ok v_law_dough_here).bind fun x => (O.ok v_law_j).bind fun y => ix x y).bind fun x => (O.ok (D.int 0)).bind fun y => ix x y) (O.ok v_law_k_3) (((O.ok v_law_dough_here).bind fun x => (O.ok v_law_j).bind fun y => ix x y).bind fun x => (O.ok (D.int 1)).bind fun y => ix x y) c_le c_le)) (fun v_law_j => (O.ok v_law_j)))).bind fun ds => O.ok (D.lst ds)).bind fun v_law_before_4 => ((O.ite (O.ite (((O.ok v_law_hue_here).bind fun x => (O.ok v_law_k_3).bind fun y => ix x y).bind fun x => (O.ok v_law_sign).bind fun y => c_eq x y) ((O.ok v_law_before_4).bind fun x => ((O.ok []).bind fun ds => O.ok (D.lst ds)).bind fun y => c_ne x y) (O.ok false)) ((O.ok v_law_k_3).bind fun a5 => sized s2.length (O.ok (s2 ++ [a5]))) (O.ok s2)).bind fun (j6 : List D) => (O.ok j6)))) ds v_law_found_1).bind fun (s2 : List D) => ((O.cons (O.ok (D.lst s2)) (O.ok [])).bind bi_tuple)))
def f_law_led (v_law_dough_here v_law_hue_here v_law_line : D) : O D :=
  (((O.cons (O.ok v_law_hue_here) (O.cons ((O.ok v_law_line).bind fun x => (O.ok (D.int 0)).bind fun y => ix x y) (O.ok []))).bind (l2 f_law_opened)).bind fun v_law_some_1 => ((((O.ok v_law_line).bind fun x => ((O.ok (D.int 1)).bind fun x => (asI x).bind fun i => O.ok (some i)).bind fun l => (O.ok none).bind fun h => cut x l h).bind itD).bind fun ds => (forO (fun (s2 : D) v_law_sign_3 => (((O.cons (O.ok v_law_dough_here) (O.cons (O.ok v_law_hue_here) (O.cons (O.ok s2) (O.cons (O.ok v_law_sign_3) (O.ok []))))).bind (l4 f_law_behind)).bind fun v_law_some_4 => (O.ok v_law_some_4))) ds v_law_some_1).bind fun (s2 : D) => (O.ok s2)))
def f_law_right : M D :=
  (((M.up (O.cons (O.ok (D.int 8)) (O.ok []))).bind (m1 f_law_dough)).bind fun v_law_dough_here_1 => ((M.up ((O.cons (O.ok v_law_dough_here_1) (O.ok [])).bind fun ds => ((l1 Fold_init) (ds ++ [])).bind fun fs => O.ok (D.obj 1 fs))).bind fun v_law_mine_2 => ((((M.up ((O.ok (D.int 2)).bind rg1)).bind (mapM (fun v_law_k => ((M.up (O.cons ((O.cons (O.ok v_law_dough_here_1) (O.ok [])).bind (ownLen lens)) (O.ok []))).bind (m1 f_law_hue))))).bind fun ds => M.ret (D.lst ds)).bind fun v_law_hues_3 => ((M.up (O.ok [])).bind fun v_law_asked_4 => ((M.up ((O.ok (D.int 4)).bind rg1)).bind fun ds => thenM (loopM (fun (s5 : List D) v_law_turn_6 => ((M.up ((O.ok v_law_hues_3).bind itD)).bind fun ds => thenM (loopM (fun (s7 : List D) v_law_hue_here_8 => (((M.cons (M.up (O.ok v_law_dough_here_1)) (M.cons ((M.up (O.ok v_law_hues_3)).bind fun x => ((M.up (O.cons (O.ok (D.int 2)) (O.ok []))).bind (m1 f_law_take)).bind fun y => M.up (ix x y)) (M.up (O.ok [])))).bind (m2 f_law_word)).bind fun v_law_line_9 => ((M.up (tr (((O.cons (O.ok v_law_dough_here_1) (O.cons (O.ok v_law_hue_here_8) (O.cons (O.ok v_law_line_9) (O.ok [])))).bind (l3 f_law_led)).bind fun x => ((O.ok []).bind fun ds => O.ok (D.tup ds)).bind fun y => c_ne x y))).bind fun v_law_due_10 => ((M.up ((O.cons ((O.cons (O.ok v_law_mine_2) (O.cons (O.ok v_law_hue_here_8) (O.cons (O.ok v_law_line_9) (O.ok [])))).bind (l3 f_is_shown)) (O.cons ((O.cons (O.ok v_law_line_9) (O.cons (O.ok v_law_mine_2) (O.cons (O.ok v_law_hue_here_8) (O.ok [])))).bind fun ds => (l3 f_is_shown) (perm [1, 2, 0] ds)) (O.ok []))).bind fun ds => O.ok (D.lst ds))).bind fun v_law_told_11 => (M.ite (M.up (((O.cons (O.ok v_law_told_11) (O.ok [])).bind bi_repr).bind fun x => ((O.cons ((O.cons (O.ok v_law_due_10) (O.cons (O.ok v_law_due_10) (O.ok []))).bind fun ds => O.ok (D.lst ds)) (O.ok [])).bind bi_repr).bind fun y => c_ne x y)) ((M.up (O.ok (D.bl false))).bind fun d => M.ret (Fl.rt (Fl.rt (d)))) ((M.up ((O.cons (O.ok v_law_hue_here_8) (O.cons (O.ok v_law_line_9) (O.cons (O.ok v_law_due_10) (O.ok [])))).bind fun ds => O.ok (D.tup ds))).bind fun a12 => sizedM s7.length (M.ret (Fl.nx (s7 ++ [a12]))))))))) ds s5) fun (s7 : List D) => (M.ret (Fl.nx s7)))) ds v_law_asked_4) fun (s5 : List D) => (M.up (tr (((O.cons ((((O.ok (D.lst s5)).bind itD).bind (mapO fun d => un3 d fun v_law_hue_here v_law_line v_law_due => ((O.cons (O.ok v_law_mine_2) (O.cons (O.ok v_law_hue_here) (O.cons (O.ok v_law_line) (O.ok [])))).bind (l3 f_is_shown)))).bind fun ds => O.ok (D.lst ds)) (O.ok [])).bind bi_repr).bind fun x => ((O.cons ((((O.ok (D.lst s5)).bind itD).bind (mapO (fun v_law_each => ((O.ok v_law_each).bind fun x => (O.ok (D.int 2)).bind fun y => ix x y)))).bind fun ds => O.ok (D.lst ds)) (O.ok [])).bind bi_repr).bind fun y => c_eq x y))))))))
def f_law (v_law_script : D) : O D :=
  (((O.cons ((O.cons ((O.cons (O.ok (D.int 0)) (O.cons (O.ok (D.int 1)) (O.cons (O.ok (D.bl false)) (O.ok [])))).bind fun ds => O.ok (D.tup ds)) (O.cons ((O.cons (O.ok (D.int 0)) (O.cons (O.ok (D.int 0)) (O.cons (O.ok (D.bl false)) (O.ok [])))).bind fun ds => O.ok (D.tup ds)) (O.ok []))).bind fun ds => O.ok (D.tup ds)) (O.ok [])).bind fun ds => ((l1 Fold_init) (ds ++ [])).bind fun fs => O.ok (D.obj 1 fs)).bind fun v_law_cut_1 => ((((((O.cons (O.ok (D.str "a")) (O.cons (O.ok (D.str "b")) (O.cons (O.ok (D.str "c")) (O.cons (O.ok (D.str "ab")) (O.cons (O.ok (D.str "bb")) (O.cons (O.ok (D.str "abab")) (O.cons (O.ok (D.str "abba")) (O.cons (O.ok (D.str "ac")) (O.ok []))))))))).bind fun ds => O.ok (D.lst ds)).bind itD).bind (mapO (fun v_law_line => ((O.cons (O.ok v_law_cut_1) (O.cons (O.ok (D.str "ab")) (O.cons (O.ok v_law_line) (O.ok [])))).bind (l3 f_is_shown))))).bind fun ds => O.ok (D.lst ds)).bind fun v_law_told_2 => (O.ite (((O.cons (O.ok v_law_told_2) (O.ok [])).bind bi_repr).bind fun x => ((O.cons ((O.cons (O.ok (D.bl true)) (O.cons (O.ok (D.bl true)) (O.cons (O.ok (D.bl false)) (O.cons (O.ok (D.bl true)) (O.cons (O.ok (D.bl false)) (O.cons (O.ok (D.bl true)) (O.cons (O.ok (D.bl false)) (O.cons (O.ok (D.bl false)) (O.ok []))))))))).bind fun ds => O.ok (D.lst ds)) (O.ok [])).bind bi_repr).bind fun y => c_ne x y) (O.ok (D.bl false)) ((O.cons (((((O.cons (O.ok (D.int 2)) (O.cons ((O.cons ((O.cons (O.ok v_law_script) (O.ok [])).bind (ownLen lens)) (O.cons (O.ok (D.int 6)) (O.ok []))).bind bi_min) (O.ok []))).bind bi_max).bind rg1).bind (mapO (fun v_law_k => (((O.cons (O.ok v_law_script) (O.cons (O.ok v_law_k) (O.ok []))).bind (l2 f_law_urn)).bind fun gs => ((m0 f_law_right) [] gs).bind fun r => O.ok r.1)))).bind fun ds => O.ok (D.lst ds)) (O.ok [])).bind bi_all))))
end SL.K44
/-! HP5: texts of folds. -/
namespace SL
open PySem L2 DL TL
def okStr : O D → Bool
  | .ok (.str _) => true
  | _ => false
def strOf : O D → Str
  | .ok (.str t) => t
  | _ => Str.empty
def dOf : O D → D
  | .ok d => d
  | _ => .non
theorem okStr_eq {o : O D} (h : okStr o = true) : o = .ok (.str (strOf o)) := by
  cases o with
  | ok d => cases d with
    | str t => rfl
    | _ => cases h
  | _ => cases h
def ctx (c : Cell) : Str := strOf (f_cell_text (celD c))
def isCel (o : O D) (c : Cell) : Bool := match o with
  | .ok (.tup [.int a, .int b, .bl f]) => decide (a = c.1) && decide (b = c.2.1) && decide (f = c.2.2)
  | _ => false
theorem isCel_eq {o : O D} {c : Cell} (h : isCel o c = true) : o = .ok (celD c) := by
  obtain ⟨a, b, f⟩ := c
  unfold isCel at h
  split at h
  · simp only [Bool.and_eq_true, decide_eq_true_eq] at h
    obtain ⟨⟨rfl, rfl⟩, rfl⟩ := h
    rfl
  · cases h
def chkC (c : Cell) : Bool := okStr (f_cell_text (celD c)) && isCel (f_cell_in (.str (ctx c))) c && !(decide (32 ∈ (ctx c).cps.toList)) && decide ((ctx c).length ≤ 4) && (ctx c).cps.toList.all (· < 128)
theorem chk_all : ∀ a b : Fin 8, ∀ f : Bool, chkC ((a.val : Int), (b.val : Int), f) = true := by decide +kernel
theorem chk_cell {c : Cell} (h : 0 ≤ c.1 ∧ c.1 ≤ c.2.1 ∧ c.2.1 < 8) : chkC c = true := by
  obtain ⟨a, b, f⟩ := c
  simp only at h
  have := chk_all ⟨a.toNat, by omega⟩ ⟨b.toNat, by omega⟩ f
  simp only at this
  rw [Int.toNat_of_nonneg (by omega), Int.toNat_of_nonneg (by omega)] at this
  exact this
structure CT (c : Cell) : Prop where
  wr : f_cell_text (celD c) = .ok (.str (ctx c))
  rd : f_cell_in (.str (ctx c)) = .ok (celD c)
  sp : 32 ∉ (ctx c).cps.toList
  ln : (ctx c).length ≤ 4
  ch : ∀ x ∈ (ctx c).cps.toList, x < 128
theorem ct_of {c : Cell} (h : 0 ≤ c.1 ∧ c.1 ≤ c.2.1 ∧ c.2.1 < 8) : CT c := by
  have k := chk_cell h
  unfold chkC at k
  simp only [Bool.and_eq_true, Bool.not_eq_true', decide_eq_false_iff_not, decide_eq_true_eq, List.all_eq_true] at k
  obtain ⟨⟨⟨⟨k1, k2⟩, k3⟩, k4⟩, k5⟩ := k
  exact ⟨okStr_eq k1, isCel_eq k2, k3, k4, k5⟩
theorem Good.ct {L : List Cell} (g : Good L) {c : Cell} (h : c ∈ L) : CT c := ct_of (by have := g.ok c h; have := g.n2; omega)
theorem sum_le4 : ∀ {xs : List Nat}, (∀ x ∈ xs, x ≤ 4) → xs.sum ≤ 4 * xs.length
  | [], _ => by simp
  | x :: xs, h => by
    have h1 := h x List.mem_cons_self
    have h2 := sum_le4 fun y hy => h y (List.mem_cons_of_mem _ hy)
    simp only [List.sum_cons, List.length_cons]
    omega
def txt (L : List Cell) : Str := Txt.join " " (L.map ctx)
theorem sp_len : (" " : Str).length = 1 := by decide +kernel
theorem joinOk_txt {L : List Cell} (g : Good L) : ((L.map ctx).map (·.length)).sum + (L.map ctx).length * (" " : Str).length ≤ 40 := by
  have h := sum_le4 (xs := (L.map ctx).map (·.length)) fun x hx => by
    obtain ⟨y, hy, rfl⟩ := List.mem_map.mp hx
    obtain ⟨c, hc, rfl⟩ := List.mem_map.mp hy
    exact (g.ct hc).ln
  have n2 := g.n2
  rw [sp_len]
  simp only [List.length_map] at *
  omega
theorem itk (ds : List D) : itD (.tup ds) = .ok ds := nrfl rfl trivial
theorem itl (ds : List D) : itD (.lst ds) = .ok ds := nrfl rfl trivial
theorem join_ok {L : List Cell} (g : Good L) : t_join (.str " ") (.lst ((L.map ctx).map D.str)) = .ok (.str (txt L)) := by
  show op2 (strs? _) _ = _
  rw [strs?_map, op2k, if_pos (show joinOk (" " : Str) (L.map ctx) = true from decide_eq_true (by have := joinOk_txt g; omega))]
  rfl
theorem Fold_str_ok {L : List Cell} (g : Good L) : Fold_str (folD L) = .ok (.str (txt L)) := by
  unfold Fold_str
  simp only [bk, fld_cells, cellsD, itk]
  have n2 := g.n2
  rw [mapO_ok (fun d => .str (strOf (f_cell_text d))) (fun d hd => ?_) (by rw [List.length_map]; omega)]
  · have e : (L.map celD).map (fun d => D.str (strOf (f_cell_text d))) = (L.map ctx).map D.str := by
      rw [List.map_map, List.map_map]; rfl
    rw [bk, e, bk, join_ok g]
  · obtain ⟨c, hc, rfl⟩ := List.mem_map.mp hd
    simp only [bk, ck, ap1]
    exact (g.ct hc).wr
theorem txt_len {L : List Cell} (g : Good L) : (txt L).length ≤ 40 := by
  have h1 := joinOk_txt g
  have h2 := StrLaws.join_length_le (" " : Str) (L.map ctx)
  unfold txt
  rw [join_eq]
  omega
theorem joinL_lt {S : List Nat} (hS : ∀ x ∈ S, x < 128) : ∀ {ps : List (List Nat)}, (∀ p ∈ ps, ∀ x ∈ p, x < 128) → ∀ x ∈ joinL S ps, x < 128
  | [], _, x, h => nomatch h
  | [p], hp, x, h => hp p List.mem_cons_self x h
  | p :: q :: r, hp, x, h => by
    have h : x ∈ p ++ (S ++ joinL S (q :: r)) := h
    rcases List.mem_append.mp h with h | h
    · exact hp p List.mem_cons_self x h
    · rcases List.mem_append.mp h with h | h
      · exact hS x h
      · exact joinL_lt hS (fun y hy => hp y (List.mem_cons_of_mem _ hy)) x h
theorem txt_ch {L : List Cell} (g : Good L) : ∀ x ∈ (txt L).cps.toList, x < 128 := by
  have e : (txt L).cps.toList = joinL (tl (" " : Str)) ((L.map ctx).map tl) := by
    unfold txt
    rw [join_eq]
    exact tl_join _ _
  rw [e]
  refine joinL_lt (by decide +kernel) fun p hp => ?_
  obtain ⟨t, ht, rfl⟩ := List.mem_map.mp hp
  obtain ⟨c, hc, rfl⟩ := List.mem_map.mp ht
  exact (g.ct hc).ch
theorem rep_txt {L : List Cell} (g : Good L) : Rep 0 40 (.str (txt L)) := rep_str (fun c hc => by have := txt_ch g c hc; omega) (txt_len g)
theorem split_txt {L : List Cell} (g : Good L) : t_split (.str (txt L)) (.str " ") = .ok (.lst ((L.map ctx).map D.str)) := by
  have h1 := txt_len g
  have n1 := g.n1
  show (if ((" " : Str).length == 0) = false ∧ (txt L).length + 2 ≤ 1000000 then O.ok (D.lst ((Txt.split (txt L) " ").map D.str)) else .bad) = _
  rw [if_pos ⟨by decide +kernel, by omega⟩]
  unfold txt
  rw [split_join (s := 32) (S := []) (by decide +kernel) (by decide +kernel) (fun e => by rw [List.map_eq_nil_iff] at e; subst e; simp at n1) fun p hp => ?_]
  obtain ⟨c, hc, rfl⟩ := List.mem_map.mp hp
  exact (g.ct hc).sp
theorem ownStr_o {t : Nat → Option (D → O D)} {c : Nat} {fs : List (Str × D)} {f : D → O D} {s : Str} (h : t c = some f) (hf : f (.obj c fs) = .ok (.str s)) : ownStr t [.obj c fs] = .ok (.str s) := by
  unfold ownStr
  simp only [h, op2k, hf, bk]
theorem str_fold {L : List Cell} (g : Good L) : ownStr txts [folD L] = .ok (.str (txt L)) := ownStr_o (f := Fold_str) rfl (Fold_str_ok g)
theorem Fold_read_ok {L : List Cell} (g : Good L) : Fold_read (.str (txt L)) = .ok (folD L) := by
  unfold Fold_read
  have n2 := g.n2
  simp only [bk, ck, isiB_str, trk, asBk, ite1, split_txt g, itl]
  rw [mapO_ok (fun d => dOf (f_cell_in d)) (fun d hd => ?_) (by rw [List.length_map, List.length_map]; omega)]
  · have e : ((L.map ctx).map D.str).map (fun d => dOf (f_cell_in d)) = L.map celD := by
      rw [List.map_map, List.map_map]
      refine List.map_congr_left fun c hc => ?_
      show dOf (f_cell_in (.str (ctx c))) = celD c
      rw [(g.ct hc).rd]; rfl
    have e2 : D.tup (L.map celD) = cellsD L := rfl
    rw [bk, e]
    simp only [bk, ck, bi_tuple_l, e2, mk_fold g, str_fold g, c_ne_s, decide_true, Bool.not_true, ite0]
  · obtain ⟨t, ht, rfl⟩ := List.mem_map.mp hd
    obtain ⟨c, hc, rfl⟩ := List.mem_map.mp ht
    simp only [bk, ck, ap1, (g.ct hc).rd]
    rfl
/-! ### loops with a state -/
theorem loopM_st {T R : Type} {f : T → D → M (Fl T R)} {I : Nat → T → Prop} {N : Nat} : ∀ (ds : List D) (k : Nat) (t : T) (g : List D), k + ds.length ≤ N → Bag g → I k t → (∀ d ∈ ds, ∀ k t g, k < N → I k t → Bag g → ∃ t' g', f t d g = .ok (.nx t', g') ∧ I (k + 1) t' ∧ Bag g') → ∃ t' g', loopM f ds t g = .ok (.nx t', g') ∧ I (k + ds.length) t' ∧ Bag g'
  | [], k, t, g, _, hb, hi, _ => ⟨t, g, rfl, hi, hb⟩
  | d :: ds, k, t, g, hN, hb, hi, h => by
    rw [List.length_cons] at hN
    obtain ⟨t1, g1, e1, i1, b1⟩ := h d List.mem_cons_self k t g (by omega) hi hb
    obtain ⟨t2, g2, e2, i2, b2⟩ := loopM_st (I := I) ds (k + 1) t1 g1 (by omega) b1 i1 fun x hx => h x (List.mem_cons_of_mem _ hx)
    refine ⟨t2, g2, ?_, ?_, b2⟩
    · unfold loopM
      rw [mbind, e1, bk]
      exact e2
    · rw [List.length_cons, show k + (ds.length + 1) = k + 1 + ds.length by omega]; exact i2
theorem then_loop_st {T R : Type} {f : T → D → M (Fl T R)} {K : T → M R} {ds g : List D} {t : T} {r : R} (I : Nat → T → Prop) (hb : Bag g) (hi : I 0 t) (h : ∀ d ∈ ds, ∀ k t g, k < ds.length → I k t → Bag g → ∃ t' g', f t d g = .ok (.nx t', g') ∧ I (k + 1) t' ∧ Bag g') (hk : ∀ t' g', I ds.length t' → Bag g' → ∃ g'', K t' g' = .ok (r, g'') ∧ Bag g'') : ∃ g'', thenM (loopM f ds t) K g = .ok (r, g'') ∧ Bag g'' := by
  obtain ⟨t', g', e, i, b⟩ := loopM_st (I := I) ds 0 t g (by omega) hb hi h
  rw [Nat.zero_add] at i
  rw [thenM_nx e]
  exact hk t' g' i b
theorem perm1 (x : D) : perm [0] [x] = [x] := nrfl rfl trivial
theorem mk_fold' {L : List Cell} (g : Good L) : (Fold_init (cellsD L)).bind (fun fs => O.ok (D.obj 1 fs)) = .ok (folD L) := by
  have := mk_fold g
  rw [List.append_nil, ap1] at this
  exact this
end SL
/-! HX: texts as lists of code points. -/
namespace SL
open PySem L2 DL TL
def st (l : List Nat) : Str := ⟨l.toArray⟩
def tx (l : List Nat) : D := .str (st l)
theorem st_len (l : List Nat) : (st l).length = l.length := by
  show l.toArray.size = l.length
  simp
theorem st_inj {a b : List Nat} : st a = st b ↔ a = b := by
  constructor
  · intro h
    have : (st a).cps = (st b).cps := by rw [h]
    have : a.toArray = b.toArray := this
    simpa using this
  · rintro rfl; rfl
theorem st_tl (s : Str) : st s.cps.toList = s := by
  show (⟨s.cps.toList.toArray⟩ : Str) = s
  rw [Array.toArray_toList]
theorem ixn_nat {n k : Nat} (h : k < n) : ixN n (k : Int) = some (k : Int).toNat := by
  unfold ixN
  simp
  omega
theorem ix_tx {l : List Nat} {i : Int} {c : Nat} (h0 : 0 ≤ i) (hl : l.length ≤ 1000000) (h : l[i.toNat]? = some c) : ix (tx l) (.int i) = .ok (tx [c]) := by
  show (if (st l).length ≤ 1000000 then op2 (atI (st l).cps.toList i) fun c => O.ok (D.str ⟨#[c]⟩) else .bad) = _
  rw [if_pos (by rw [st_len]; exact hl)]
  have e : (st l).cps.toList = l := by show l.toArray.toList = l; simp
  have hi : i.toNat < l.length := (List.getElem?_eq_some_iff.mp h).1
  have e2 : atI l i = some c := by
    unfold atI
    have e3 : ixN l.length i = some i.toNat := by
      obtain ⟨k, rfl⟩ := Int.eq_ofNat_of_zero_le h0
      exact ixn_nat (by omega)
    rw [e3]
    exact h
  rw [e, e2]
  rfl
theorem add_tx {a b : List Nat} (h : a.length + b.length ≤ 1000000) : b_add (tx a) (tx b) = .ok (tx (a ++ b)) := by
  show (if (st a).length + (st b).length ≤ 1000000 then O.ok (D.str (st a ++ st b)) else .bad) = _
  rw [if_pos (by rw [st_len, st_len]; exact h)]
  congr 2
  show (⟨a.toArray ++ b.toArray⟩ : Str) = ⟨(a ++ b).toArray⟩
  rw [List.append_toArray]
theorem it_tx (l : List Nat) : itD (tx l) = .ok (l.map fun c => tx [c]) := by
  show O.ok (signsD (st l)) = _
  unfold signsD
  have e : (st l).cps.toList = l := by show l.toArray.toList = l; simp
  rw [e]
  rfl
theorem eq_tx (a b : List Nat) : c_eq (tx a) (tx b) = .ok (decide (a = b)) := by
  show O.ok (decide (st a = st b)) = _
  congr 1
  exact decide_eq_decide.mpr st_inj
theorem len_tx {l : List Nat} (h : l.length ≤ 1000000) : bi_len [tx l] = .ok (.int l.length) := by
  show (if (st l).length ≤ 1000000 then O.ok (D.int (st l).length) else .bad) = _
  rw [if_pos (by rw [st_len]; exact h), st_len]
theorem olen_tx {t : Nat → Option (D → O D)} {l : List Nat} (h : l.length ≤ 1000000) : ownLen t [tx l] = .ok (.int l.length) := len_tx h
theorem take_tx {l : List Nat} (k : Nat) (h : l.length ≤ 1000000) : cut (tx l) none (some (k : Int)) = .ok (tx (l.take k)) := by
  show (if (st l).length ≤ 1000000 then O.ok (D.str (cutS (st l) none (some (k : Int)))) else .bad) = _
  rw [if_pos (by rw [st_len]; exact h)]
  unfold cutS
  have e : (st l).cps.toList = l := by show l.toArray.toList = l; simp
  rw [e, HT.sIx_none, HT.sIx_nat, st_len, List.drop_zero, Nat.sub_zero]
  show O.ok (tx (l.take (min k l.length))) = _
  rcases Nat.le_total k l.length with z | z
  · rw [Nat.min_eq_left z]
  · rw [Nat.min_eq_right z, List.take_of_length_le (Nat.le_refl _), List.take_of_length_le z]
theorem drop_tx {l : List Nat} (k : Nat) (h : l.length ≤ 1000000) : cut (tx l) (some (k : Int)) none = .ok (tx (l.drop k)) := by
  show (if (st l).length ≤ 1000000 then O.ok (D.str (cutS (st l) (some (k : Int)) none)) else .bad) = _
  rw [if_pos (by rw [st_len]; exact h)]
  unfold cutS
  have e : (st l).cps.toList = l := by show l.toArray.toList = l; simp
  rw [e, HT.sIx_none, HT.sIx_nat, st_len]
  show O.ok (tx ((l.drop (min k l.length)).take (l.length - min k l.length))) = _
  congr 2
  rcases Nat.le_total k l.length with z | z
  · rw [Nat.min_eq_left z, List.take_of_length_le (by rw [List.length_drop]; exact Nat.le_refl _)]
  · rw [Nat.min_eq_right z, List.drop_of_length_le (Nat.le_refl _), List.drop_of_length_le z, List.take_nil]
theorem joinL_nil : ∀ ps : List (List Nat), joinL [] ps = ps.flatten
  | [] => rfl
  | [p] => by show p = p ++ []; rw [List.append_nil]
  | p :: q :: r => by show p ++ ([] ++ joinL [] (q :: r)) = _; rw [List.nil_append, joinL_nil (q :: r)]; rfl
/-- "".join(..) -/
theorem join_tx {ls : List (List Nat)} (h : (ls.map List.length).sum ≤ 1000000) : t_join (.str "") (.lst (ls.map tx)) = .ok (tx ls.flatten) := by
  have e1 : ls.map tx = (ls.map st).map D.str := by rw [List.map_map]; rfl
  have e0 : ("" : Str) = st [] := by decide +kernel
  rw [e1]
  show op2 (strs? ((ls.map st).map D.str)) _ = _
  rw [strs?_map, op2k]
  have hj : joinOk ("" : Str) (ls.map st) = true := by
    refine decide_eq_true ?_
    rw [e0, st_len, List.map_map]
    have : ((fun x => x.length) ∘ st : List Nat → Nat) = List.length := by funext l; exact st_len l
    rw [this]
    simpa using h
  rw [hj, if_pos rfl]
  congr 2
  rw [join_eq]
  have := tl_join ("" : Str) (ls.map st)
  have e2 : tl ("" : Str) = [] := by decide +kernel
  have e3 : (ls.map st).map tl = ls := by
    rw [List.map_map]
    conv => rhs; rw [← List.map_id ls]
    refine List.map_congr_left fun l _ => ?_
    show l.toArray.toList = l
    simp
  rw [e2, e3, joinL_nil] at this
  have h2 : st (tl (Str.join ("" : Str) (ls.map st))) = Str.join ("" : Str) (ls.map st) := st_tl _
  rw [← h2, this]
/-- a small letter -/
def sml (c : Nat) : Prop := 97 ≤ c ∧ c ≤ 122
instance (c : Nat) : Decidable (sml c) := inferInstanceAs (Decidable (_ ∧ _))
theorem le_one (a b : Nat) : c_le (tx [a]) (tx [b]) = .ok (decide (a ≤ b)) := by
  show O.ok (!decide ((st [b]).cps.toList < (st [a]).cps.toList)) = _
  congr 1
  have : ((st [b]).cps.toList < (st [a]).cps.toList) ↔ b < a := by
    show [b] < [a] ↔ b < a
    constructor
    · intro h
      cases h with
      | rel h => exact h
      | cons h => cases h
    · intro h; exact .rel h
  by_cases z : b < a
  · rw [decide_eq_true (this.mpr z), decide_eq_false (by omega)]; rfl
  · rw [decide_eq_false (fun h => z (this.mp h)), decide_eq_true (by omega)]; rfl
theorem str_a : D.str "a" = tx [97] := by
  show D.str "a" = D.str (st [97])
  congr 1
theorem str_z : D.str "z" = tx [122] := by
  show D.str "z" = D.str (st [122])
  congr 1
theorem are_small_tx {l : List Nat} (hl : l.length ≤ 1000000) (n m : Int) : f_are_small (tx l) (.int n) (.int m) = .ok (.bl (decide (n ≤ l.length) && decide ((l.length : Int) ≤ m) && l.all fun c => decide (sml c))) := by
  unfold f_are_small
  have e0 : isiB "str" (tx l) = .ok true := isiB_str _
  simp only [bk, ck, e0, trk, asBk, Bool.not_true, ite0, len_tx hl, chk, c_le_i, it_tx, str_a, str_z]
  by_cases z1 : n ≤ (l.length : Int)
  · rw [decide_eq_true z1, ite1]
    by_cases z2 : (l.length : Int) ≤ m
    · rw [decide_eq_true z2, bk, Bool.not_true, ite0]
      rw [mapO_ok (fun d => match d with | .str s => .bl (decide (97 ≤ s.cps.toList.headD 0) && decide (s.cps.toList.headD 0 ≤ 122)) | _ => .non) (fun d hd => ?hd) (by rw [List.length_map]; exact hl)]
      case hd =>
        obtain ⟨c, _, rfl⟩ := List.mem_map.mp hd
        show _ = O.ok (D.bl (decide (97 ≤ c) && decide (c ≤ 122)))
        rw [le_one, le_one]
        by_cases y : 97 ≤ c
        · rw [decide_eq_true y, ite1, trk]; rfl
        · rw [decide_eq_false y, ite0, trk]; rfl
      have e : (l.map fun c => tx [c]).map (fun d => match d with | .str s => D.bl (decide (97 ≤ s.cps.toList.headD 0) && decide (s.cps.toList.headD 0 ≤ 122)) | _ => .non) = (l.map fun c => decide (sml c)).map D.bl := by
        rw [List.map_map, List.map_map]
        refine List.map_congr_left fun c _ => ?_
        show D.bl (decide (97 ≤ c) && decide (c ≤ 122)) = D.bl (decide (sml c))
        congr 1
        unfold sml
        exact (Bool.decide_and _ _).symm
      rw [e, bk, ck, bk]
      show op2 (bls? _) _ = _
      rw [bls?_map, op2k]
      show O.ok (D.bl _) = _
      congr 2
      rw [List.all_map]
      rfl
    · rw [decide_eq_false z2, bk, Bool.not_false, ite1]
      simp
  · rw [decide_eq_false z1, ite0, bk, Bool.not_false, ite1]
    simp
end SL
/-! HY: colours: opened, led_to, cells_behind, is_shown. -/
namespace SL
open PySem L2 DL
/-! ### data that == can compare -/
structure Sq (n : Nat) (d : D) : Prop where
  ok : okP d = true
  cl : (toP d).canLay0 = true
  dp : (toP d).depth ≤ n
structure SqA (n : Nat) (d : List D) : Prop where
  ok : okPs d = true
  cl : PyData.canLayAll0 (toPs d) = true
  dp : PyData.depthAll (toPs d) ≤ n
theorem sq_int (i : Int) (n : Nat) : Sq n (.int i) := ⟨rfl, rfl, Nat.zero_le _⟩
theorem sq_nil (n : Nat) : SqA n [] := ⟨rfl, rfl, Nat.zero_le _⟩
theorem sq_cons {n : Nat} {d : D} {ds : List D} (h : Sq n d) (r : SqA n ds) : SqA n (d :: ds) := by
  refine ⟨?_, ?_, ?_⟩
  · show (okP d && okPs ds) = true; rw [h.ok, r.ok]; rfl
  · show (PyData.canLay0 (toP d) && PyData.canLayAll0 (toPs ds)) = true; rw [h.cl, r.cl]; rfl
  · show Nat.max (toP d).depth (PyData.depthAll (toPs ds)) ≤ n; exact Nat.max_le.mpr ⟨h.dp, r.dp⟩
theorem sq_all {n : Nat} : ∀ {ds : List D}, (∀ d ∈ ds, Sq n d) → SqA n ds
  | [], _ => sq_nil n
  | d :: ds, h => sq_cons (h d List.mem_cons_self) (sq_all fun x hx => h x (List.mem_cons_of_mem _ hx))
theorem sq_tup {n : Nat} {ds : List D} (h : SqA n ds) : Sq (n + 1) (.tup ds) := ⟨h.ok, h.cl, by show PyData.depthAll (toPs ds) + 1 ≤ n + 1; have := h.dp; omega⟩
theorem sq_lst {n : Nat} {ds : List D} (h : SqA n ds) : Sq (n + 1) (.lst ds) := ⟨h.ok, h.cl, by show PyData.depthAll (toPs ds) + 1 ≤ n + 1; have := h.dp; omega⟩
theorem Sq.eqOk {n : Nat} {d : D} (h : Sq n d) (hn : n ≤ 60) : eqOk d = true := by
  have := h.dp
  unfold SL.eqOk
  rw [h.ok]
  show ((toP d).canLay0 && decide ((toP d).depth ≤ 64)) = true
  rw [h.cl, decide_eq_true (by omega)]; rfl
theorem sq_eq {n : Nat} {ds : List D} (h : Sq n (.lst ds)) (hn : n ≤ 60) : c_eq (.lst ds) (.lst ds) = .ok true := by
  have k := h.eqOk hn
  show (if SL.eqOk (.lst ds) && SL.eqOk (.lst ds) then O.ok (PyData.eqv (toP (.lst ds)) (toP (.lst ds))) else O.bad) = _
  rw [k, PySem.SeqAt.eqv_refl _ h.cl]; rfl
theorem sq_eqT {n : Nat} {ds : List D} (h : Sq n (.tup ds)) (hn : n ≤ 60) : c_eq (.tup ds) (.tup ds) = .ok true := by
  have k := h.eqOk hn
  show (if SL.eqOk (.tup ds) && SL.eqOk (.tup ds) then O.ok (PyData.eqv (toP (.tup ds)) (toP (.tup ds))) else O.bad) = _
  rw [k, PySem.SeqAt.eqv_refl _ h.cl]; rfl
theorem sq_ints (is : List Int) (n : Nat) : SqA n (is.map D.int) := sq_all fun d hd => by
  obtain ⟨i, _, rfl⟩ := List.mem_map.mp hd
  exact sq_int i n
/-- != () -/
theorem ne_nilT (is : List Int) : c_ne (.tup (is.map D.int)) (.tup []) = .ok (decide (is ≠ [])) := by
  cases is with
  | nil =>
    unfold c_ne
    rw [show (D.tup (([] : List Int).map D.int)) = .tup [] from rfl, sq_eqT (sq_tup (sq_nil 0)) (by decide)]; rfl
  | cons i is =>
    unfold c_ne
    have k1 := (sq_tup (sq_ints (i :: is) 0)).eqOk (by decide)
    have k2 := (sq_tup (sq_nil 0)).eqOk (by decide)
    have e : c_eq (.tup ((i :: is).map D.int)) (.tup []) = .ok false := by
      show (if SL.eqOk (.tup ((i :: is).map D.int)) && SL.eqOk (.tup []) then O.ok (PyData.eqv (toP (.tup ((i :: is).map D.int))) (toP (.tup []))) else O.bad) = _
      rw [k1, k2]
      rfl
    rw [e]
    simp
theorem ne_nilL (is : List Int) : c_ne (.lst (is.map D.int)) (.lst []) = .ok (decide (is ≠ [])) := by
  cases is with
  | nil =>
    unfold c_ne
    rw [show (D.lst (([] : List Int).map D.int)) = .lst [] from rfl, sq_eq (sq_lst (sq_nil 0)) (by decide)]; rfl
  | cons i is =>
    unfold c_ne
    have k1 := (sq_lst (sq_ints (i :: is) 0)).eqOk (by decide)
    have k2 := (sq_lst (sq_nil 0)).eqOk (by decide)
    have e : c_eq (.lst ((i :: is).map D.int)) (.lst []) = .ok false := by
      show (if SL.eqOk (.lst ((i :: is).map D.int)) && SL.eqOk (.lst []) then O.ok (PyData.eqv (toP (.lst ((i :: is).map D.int))) (toP (.lst []))) else O.bad) = _
      rw [k1, k2]
      rfl
    rw [e]
    simp
/-! ### cells -/
def cz (L : List Cell) (j : Int) : Cell := L.getD j.toNat (0, 0, false)
theorem cz_of {L : List Cell} (g : Good L) {j : Int} (h0 : 0 ≤ j) (h1 : j < L.length) : L[j.toNat]? = some (cz L j) ∧ 0 ≤ (cz L j).1 ∧ (cz L j).1 ≤ (cz L j).2.1 ∧ (cz L j).2.1 < L.length := by
  have hl : j.toNat < L.length := by omega
  have e : cz L j = L[j.toNat] := by unfold cz; rw [List.getD_eq_getElem?_getD, List.getElem?_eq_getElem hl]; rfl
  rw [e]
  exact ⟨List.getElem?_eq_getElem hl, g.ok _ (List.getElem_mem hl)⟩
def rng (n : Nat) : List Int := (List.range n).map fun (k : Nat) => (k : Int)
theorem mem_rng {n : Nat} {j : Int} : j ∈ rng n ↔ 0 ≤ j ∧ j < n := by
  unfold rng
  constructor
  · intro h
    obtain ⟨k, hk, rfl⟩ := List.mem_map.mp h
    have := List.mem_range.mp hk
    omega
  · intro h
    exact List.mem_map.mpr ⟨j.toNat, List.mem_range.mpr (by omega), by omega⟩
theorem rise_rng (n : Nat) : (rng n).Pairwise (· < ·) := by
  unfold rng
  rw [List.pairwise_map]
  exact List.Pairwise.imp (fun h => by omega) (List.pairwise_lt_range)
theorem rng_length (n : Nat) : (rng n).length = n := by unfold rng; rw [List.length_map, List.length_range]
theorem rangeD_rng (n : Nat) : rangeD 0 n = (rng n).map D.int := by
  unfold rangeD rng
  rw [List.map_map]
  refine List.map_congr_left fun k _ => ?_
  show D.int (0 + (k : Int)) = D.int (k : Int)
  rw [Int.zero_add]
theorem rgD_rng (n : Nat) : rgD 0 (n : Int) = (rng n).map D.int := by
  unfold rgD rng
  rw [List.map_map, Int.sub_zero, Int.toNat_natCast]
  refine List.map_congr_left fun k _ => ?_
  show D.int (0 + (k : Int)) = D.int (k : Int)
  rw [Int.zero_add]
theorem sortU_rng {n : Nat} {ns : List Int} (h : ∀ j ∈ ns, 0 ≤ j ∧ j < n) : SetL.sortU ns = (rng n).filter fun k => decide (k ∈ ns) := by
  refine SetL.rise_ext _ _ (SetL.rise_sortU ns) (List.Pairwise.filter _ (rise_rng n)) fun j => ?_
  rw [SetL.mem_sortU, List.mem_filter, mem_rng]
  constructor
  · intro hj; exact ⟨h j hj, decide_eq_true hj⟩
  · intro hj; exact of_decide_eq_true hj.2
def hat (h : List Nat) (j : Int) : Nat := h.getD j.toNat 0
def opn (h : List Nat) (c : Nat) : List Int := (rng h.length).filter fun k => decide (hat h k = c)
def inrun (L : List Cell) (j k : Int) : Bool := decide ((cz L j).1 ≤ k) && decide (k ≤ (cz L j).2.1)
def beh (L : List Cell) (h : List Nat) (cs : List Int) (c : Nat) : List Int := (rng L.length).filter fun k => decide (hat h k = c) && cs.any fun j => inrun L j k
def behs (L : List Cell) (h : List Nat) (c : Nat) (w : List Nat) : List Int := w.foldl (fun cs c => beh L h cs c) (opn h c)
/-- colours of a dough -/
structure Hue (L : List Cell) (h : List Nat) : Prop where
  len : h.length = L.length
  sm : ∀ c ∈ h, sml c
theorem opn_in {h : List Nat} {c : Nat} : ∀ j ∈ opn h c, 0 ≤ j ∧ j < h.length := fun j hj => mem_rng.mp (List.mem_filter.mp hj).1
theorem beh_in {L : List Cell} {h : List Nat} {cs : List Int} {c : Nat} : ∀ j ∈ beh L h cs c, 0 ≤ j ∧ j < L.length := fun j hj => mem_rng.mp (List.mem_filter.mp hj).1
theorem beh_len {L : List Cell} {h : List Nat} {cs : List Int} {c : Nat} : (beh L h cs c).length ≤ L.length := by
  have := List.length_filter_le (fun k => decide (hat h k = c) && cs.any fun j => inrun L j k) (rng L.length)
  rw [rng_length] at this
  exact this
theorem opn_len {h : List Nat} {c : Nat} : (opn h c).length ≤ h.length := by
  have := List.length_filter_le (fun k => decide (hat h k = c)) (rng h.length)
  rw [rng_length] at this
  exact this
theorem ix_hat {h : List Nat} {j : Int} (hl : h.length ≤ 8) (h0 : 0 ≤ j) (h1 : j < h.length) : ix (tx h) (.int j) = .ok (tx [hat h j]) := by
  refine ix_tx h0 (by omega) ?_
  unfold hat
  rw [List.getD_eq_getElem?_getD, List.getElem?_eq_getElem (show j.toNat < h.length by omega)]
  rfl
theorem one_eq (a b : Nat) : c_eq (tx [a]) (tx [b]) = .ok (decide (a = b)) := by
  rw [eq_tx]
  congr 1
  exact decide_eq_decide.mpr (by simp)
theorem filter_ints (p : Int → Bool) (q : D → Bool) (is : List Int) (h : ∀ i, q (.int i) = p i) : ((is.map D.int).filter q).map (fun d => d) = (is.filter p).map D.int := by
  rw [List.map_id', List.filter_map]
  congr 1
  refine List.filter_congr fun i _ => ?_
  exact h i
theorem cells_of_colour_ok {h : List Nat} {ns : List Int} {c : Nat} (hl : h.length ≤ 8) (hn : ns.length ≤ 1000) (hi : ∀ j ∈ ns, 0 ≤ j ∧ j < h.length) : f_cells_of_colour (tx h) (.lst (ns.map D.int)) (tx [c]) = .ok (.tup (((rng h.length).filter fun k => decide (hat h k = c) && decide (k ∈ ns)).map D.int)) := by
  have su := sortU_rng (n := h.length) hi
  have sl : (SetL.sortU ns).length ≤ 8 := by
    rw [su]
    have := List.length_filter_le (fun k => decide (k ∈ ns)) (rng h.length)
    rw [rng_length] at this
    omega
  have e1 : sortSet (.lst (ns.map D.int)) = .ok ((SetL.sortU ns).map D.int) := by
    show op2 (ints? (ns.map D.int)) _ = _
    rw [ints?_map, op2k, if_pos ⟨by omega, by omega⟩]
  unfold f_cells_of_colour
  simp only [bk, e1, itl]
  rw [filO_ok (fun d => match d with | .int k => decide (hat h k = c) | _ => false) (fun d => d) (fun d hd => ?hd) (fun d _ _ => rfl) (by rw [List.length_map]; omega)]
  case hd =>
    obtain ⟨j, hj, rfl⟩ := List.mem_map.mp hd
    have := hi j ((SetL.mem_sortU ns j).mp hj)
    simp only [bk, ix_hat hl this.1 this.2, one_eq]
  rw [filter_ints (fun k => decide (hat h k = c)) _ _ (fun i => rfl)]
  simp only [bk, ck, bi_tuple_l]
  rw [su, List.filter_filter]
theorem opened_ok {L : List Cell} (g : Good L) {h : List Nat} (hh : Hue L h) (c : Nat) : f_opened (folD L) (tx h) (tx [c]) = .ok (.tup ((opn h c).map D.int)) := by
  have n2 := g.n2
  have hl := hh.len
  unfold f_opened
  have e1 : rgL (.int 0) (.int (L.length : Int)) = .ok ((rng h.length).map D.int) := by
    show (if (0 : Int) ≤ 0 ∧ (0 : Int) ≤ (L.length : Int) ∧ (L.length : Int) ≤ 1000000 then O.ok (rgD 0 (L.length : Int)) else .bad) = _
    rw [if_pos (by omega), rgD_rng, hl]
  simp only [bk, ck, len_fold L (by omega), e1, ap3]
  rw [cells_of_colour_ok (by omega) (by rw [rng_length]; omega) (fun j hj => mem_rng.mp hj)]
  congr 3
  unfold opn
  refine List.filter_congr fun k hk => ?_
  rw [decide_eq_true hk, Bool.and_true]
theorem run_of_ok {L : List Cell} (g : Good L) {j : Int} (h0 : 0 ≤ j) (h1 : j < L.length) : f_run_of (folD L) (.int j) = .ok (rgD (cz L j).1 ((cz L j).2.1 + 1)) := by
  obtain ⟨hc, c0, c1, c2⟩ := cz_of g h0 h1
  have n2 := g.n2
  unfold f_run_of
  generalize hcc : cz L j = c at *
  obtain ⟨a, b, f⟩ := c
  simp only at c0 c1 c2
  have e1 : rgL (.int a) (.int (b + 1)) = .ok (rgD a (b + 1)) := by
    show (if 0 ≤ a ∧ a ≤ b + 1 ∧ b + 1 ≤ 1000000 then O.ok (rgD a (b + 1)) else .bad) = _
    rw [if_pos (by omega)]
  simp only [bk, fld_cells, ix_cell h0 hc, celD, ix_t3_0, ix_t3_1, b_add_i, e1]
/-- a run as numbers -/
def runI (c : Cell) : List Int := (List.range (c.2.1 + 1 - c.1).toNat).map fun (i : Nat) => c.1 + (i : Int)
theorem rgD_runI (c : Cell) : rgD c.1 (c.2.1 + 1) = (runI c).map D.int := by
  unfold rgD runI
  rw [List.map_map]
  rfl
theorem mem_runI {c : Cell} {k : Int} : k ∈ runI c ↔ c.1 ≤ k ∧ k ≤ c.2.1 := by
  unfold runI
  constructor
  · intro h
    obtain ⟨i, hi, rfl⟩ := List.mem_map.mp h
    have := List.mem_range.mp hi
    omega
  · intro h
    exact List.mem_map.mpr ⟨(k - c.1).toNat, List.mem_range.mpr (by omega), by omega⟩
theorem runI_len {c : Cell} : (runI c).length = (c.2.1 + 1 - c.1).toNat := by unfold runI; rw [List.length_map, List.length_range]
def runs (L : List Cell) (cs : List Int) : List Int := (cs.map fun j => runI (cz L j)).flatten
theorem mem_runs {L : List Cell} {cs : List Int} {k : Int} : k ∈ runs L cs ↔ ∃ j ∈ cs, (cz L j).1 ≤ k ∧ k ≤ (cz L j).2.1 := by
  unfold runs
  rw [List.mem_flatten]
  constructor
  · rintro ⟨l, hl, hk⟩
    obtain ⟨j, hj, rfl⟩ := List.mem_map.mp hl
    exact ⟨j, hj, mem_runI.mp hk⟩
  · rintro ⟨j, hj, hk⟩
    exact ⟨_, List.mem_map.mpr ⟨j, hj, rfl⟩, mem_runI.mpr hk⟩
theorem led_loop {L : List Cell} (g : Good L) {f : List D → D → O (List D)} (hf : ∀ (acc : List Int) (j : Int), acc.length ≤ 1000 → 0 ≤ j → j < L.length → f (acc.map D.int) (.int j) = .ok ((acc ++ runI (cz L j)).map D.int)) : ∀ (cs acc : List Int), (∀ j ∈ cs, 0 ≤ j ∧ j < L.length) → acc.length + 8 * cs.length ≤ 1000 → forO f (cs.map D.int) (acc.map D.int) = .ok ((acc ++ runs L cs).map D.int)
  | [], acc, _, _ => by
    show O.ok (acc.map D.int) = _
    unfold runs
    simp
  | j :: cs, acc, hi, hl => by
    rw [List.length_cons] at hl
    have hj := hi j List.mem_cons_self
    obtain ⟨_, c0, c1, c2⟩ := cz_of g hj.1 hj.2
    have n2 := g.n2
    show (f (acc.map D.int) (.int j)).bind _ = _
    rw [hf acc j (by omega) hj.1 hj.2, bk, led_loop g hf cs (acc ++ runI (cz L j)) (fun x hx => hi x (List.mem_cons_of_mem _ hx)) (by rw [List.length_append, runI_len]; omega)]
    unfold runs
    rw [List.map_cons, List.flatten_cons, List.append_assoc]
theorem led_to_ok {L : List Cell} (g : Good L) {h : List Nat} (hh : Hue L h) {cs : List Int} (hc : ∀ j ∈ cs, 0 ≤ j ∧ j < L.length) (hl : cs.length ≤ 8) (c : Nat) : f_led_to (folD L) (tx h) (.tup (cs.map D.int)) (tx [c]) = .ok (.tup ((beh L h cs c).map D.int)) := by
  have n2 := g.n2
  have hle := hh.len
  unfold f_led_to
  simp only [bk, itk]
  refine Eq.trans (congrArg (fun o => O.bind o _) (led_loop g (fun acc j ha h0 h1 => ?hf) cs [] hc (by simp; omega))) ?_
  case hf =>
    obtain ⟨_, c0, c1, c2⟩ := cz_of g h0 h1
    simp only [bk, ck, ap2, run_of_ok g h0 h1, rgD_runI]
    rw [sized_ok (by rw [List.length_map, List.length_map, runI_len]; omega), List.map_append]
  show O.bind (O.ok _) _ = _
  rw [List.nil_append]
  have hr : ∀ k ∈ runs L cs, 0 ≤ k ∧ k < L.length := fun k hk => by
    obtain ⟨j, hj, h1, h2⟩ := mem_runs.mp hk
    obtain ⟨_, c0, c1, c2⟩ := cz_of g (hc j hj).1 (hc j hj).2
    omega
  have hlen : (runs L cs).length ≤ 1000 := by
    have : ∀ (xs : List Int), (∀ j ∈ xs, 0 ≤ j ∧ j < L.length) → (runs L xs).length ≤ 8 * xs.length := by
      intro xs
      induction xs with
      | nil => intro _; exact Nat.le_refl _
      | cons x xs ih =>
        intro hx
        have h1 := ih fun y hy => hx y (List.mem_cons_of_mem _ hy)
        obtain ⟨_, c0, c1, c2⟩ := cz_of g (hx x List.mem_cons_self).1 (hx x List.mem_cons_self).2
        unfold runs at h1 ⊢
        rw [List.map_cons, List.flatten_cons, List.length_append, runI_len, List.length_cons]
        omega
    have := this cs hc
    omega
  simp only [bk, ck, ap3]
  rw [cells_of_colour_ok (by omega) hlen (fun j hj => by rw [hle]; exact hr j hj), hle]
  congr 3
  unfold beh
  refine List.filter_congr fun k _ => ?_
  congr 1
  rw [Bool.eq_iff_iff, decide_eq_true_iff, mem_runs, List.any_eq_true]
  constructor
  · rintro ⟨j, hj, h1, h2⟩
    exact ⟨j, hj, by unfold inrun; rw [decide_eq_true h1, decide_eq_true h2]; rfl⟩
  · rintro ⟨j, hj, q⟩
    unfold inrun at q
    have := Bool.and_eq_true_iff.mp q
    exact ⟨j, hj, of_decide_eq_true this.1, of_decide_eq_true this.2⟩
/-- a walk along a word -/
theorem word_loop {L : List Cell} (g : Good L) {h : List Nat} (hh : Hue L h) {f : D → D → O D} (hf : ∀ (cs : List Int) (c : Nat), (∀ j ∈ cs, 0 ≤ j ∧ j < L.length) → cs.length ≤ 8 → f (.tup (cs.map D.int)) (tx [c]) = .ok (.tup ((beh L h cs c).map D.int))) : ∀ (w : List Nat) (cs : List Int), (∀ j ∈ cs, 0 ≤ j ∧ j < L.length) → cs.length ≤ 8 → forO f (w.map fun c => tx [c]) (.tup (cs.map D.int)) = .ok (.tup ((w.foldl (fun cs c => beh L h cs c) cs).map D.int))
  | [], _, _, _ => rfl
  | c :: w, cs, hc, hl => by
    show (f (.tup (cs.map D.int)) (tx [c])).bind _ = _
    rw [hf cs c hc hl, bk]
    exact word_loop g hh hf w _ beh_in (Nat.le_trans beh_len g.n2)
theorem cells_behind_ok {L : List Cell} (g : Good L) {h : List Nat} (hh : Hue L h) {c : Nat} {w : List Nat} (hw : w.length ≤ 1000) : f_cells_behind (folD L) (tx h) (tx (c :: w)) = .ok (.tup ((behs L h c w).map D.int)) := by
  unfold f_cells_behind
  have e1 : ix (tx (c :: w)) (.int 0) = .ok (tx [c]) := ix_tx (by decide) (by rw [List.length_cons]; omega) rfl
  have e2 : cut (tx (c :: w)) (some 1) none = .ok (tx w) := drop_tx 1 (by rw [List.length_cons]; omega)
  simp only [bk, ck, ap3, e1, opened_ok g hh, aik, e2, it_tx]
  rw [word_loop g hh (fun cs c hc hl => ?hf) w (opn h c) (fun j hj => by rw [← hh.len]; exact opn_in j hj) (by have := @opn_len h c; have := g.n2; have := hh.len; omega)]
  case hf => simp only [bk, ck, ap4, led_to_ok g hh hc hl]
  rw [bk]
  rfl
theorem check_shown_ok {L : List Cell} (g : Good L) {h : List Nat} (hh : Hue L h) : f_check_shown (folD L) (tx h) = .ok .non := by
  have n2 := g.n2
  have hl := hh.len
  have e1 : f_check_fold (folD L) = .ok .non := rfl
  have e2 : (h.all fun c => decide (sml c)) = true := List.all_eq_true.mpr fun c hc => decide_eq_true (hh.sm c hc)
  unfold f_check_shown f_check_colours
  simp only [bk, ck, ap1, ap2, ap3, e1, len_fold L (by omega), are_small_tx (l := h) (by omega), e2, asBk]
  rw [decide_eq_true (show (L.length : Int) ≤ (h.length : Int) by omega), decide_eq_true (show (h.length : Int) ≤ (L.length : Int) by omega)]
  rfl
/-- a word of colours -/
structure Wrd (w : List Nat) : Prop where
  n1 : 1 ≤ w.length
  n2 : w.length ≤ 200
  sm : ∀ c ∈ w, sml c
theorem is_shown_ok {L : List Cell} (g : Good L) {h : List Nat} (hh : Hue L h) {c : Nat} {w : List Nat} (hw : Wrd (c :: w)) : f_is_shown (folD L) (tx h) (tx (c :: w)) = .ok (.bl (decide (behs L h c w ≠ []))) := by
  have h2 := hw.n2
  rw [List.length_cons] at h2
  have e2 : ((c :: w).all fun c => decide (sml c)) = true := List.all_eq_true.mpr fun c hc => decide_eq_true (hw.sm c hc)
  unfold f_is_shown
  simp only [bk, ck, ap1, ap2, ap3, check_shown_ok g hh, are_small_tx (l := c :: w) (by rw [List.length_cons]; omega), e2, asBk]
  rw [decide_eq_true (show (1 : Int) ≤ ((c :: w).length : Int) by rw [List.length_cons]; omega), decide_eq_true (show ((c :: w).length : Int) ≤ 200 by rw [List.length_cons]; omega)]
  simp only [Bool.and_self, Bool.not_true, ite0, bk, cells_behind_ok g hh (show w.length ≤ 1000 by omega), ne_nilT, trk]
end SL
/-! HU: urns (bags that count their draws), loops over them. -/
namespace SL
open PySem L2 DL
/-- an urn with at most c draws -/
def Urn (c : Nat) (g : List D) : Prop := ∃ a b k : Int, g = [.int a, .int b, .int k] ∧ 0 ≤ b ∧ b < 2 ^ 31 ∧ 0 ≤ k ∧ k ≤ c
def UM : Nat := 1000000000
theorem Urn.mono {c d : Nat} {g : List D} (h : Urn c g) (hd : c ≤ d) : Urn d g := by
  obtain ⟨a, b, k, e, h1, h2, h3, h4⟩ := h
  exact ⟨a, b, k, e, h1, h2, h3, by omega⟩
theorem forU_acc {α : Type} {P : α → Prop} {enc : α → D} {K : Nat} {f : List D → D → M (List D)} (hf : ∀ acc d g c, Urn c g → c + K ≤ UM → acc.length ≤ 1000000 → ∃ x g', f acc d g = .ok (acc ++ [enc x], g') ∧ P x ∧ Urn (c + K) g') :
    ∀ (ds : List D) (L0 : List α) (g : List D) (c : Nat), Urn c g → c + K * ds.length ≤ UM → L0.length + ds.length ≤ 1000000 → (∀ x ∈ L0, P x) → ∃ (L : List α) (g' : List D), forM f ds (L0.map enc) g = .ok (L.map enc, g') ∧ L.length = L0.length + ds.length ∧ (∀ x ∈ L, P x) ∧ Urn (c + K * ds.length) g'
  | [], L0, g, c, hb, _, _, h0 => ⟨L0, g, rfl, rfl, h0, by simpa using hb⟩
  | d :: ds, L0, g, c, hb, hc, hl, h0 => by
    rw [List.length_cons] at hl hc
    rw [Nat.mul_add, Nat.mul_one] at hc
    obtain ⟨x, g1, e1, p1, b1⟩ := hf (L0.map enc) d g c hb (by omega) (by rw [List.length_map]; omega)
    obtain ⟨L, g2, e2, e3, p2, b2⟩ := forU_acc hf ds (L0 ++ [x]) g1 (c + K) b1 (by omega) (by rw [List.length_append, List.length_singleton]; omega) (fun y hy => by
      rcases List.mem_append.mp hy with h | h
      · exact h0 y h
      · rw [List.mem_singleton.mp h]; exact p1)
    refine ⟨L, g2, ?_, ?_, p2, ?_⟩
    · rw [forM_cons, mbind, e1, bk, ← e2, List.map_append]; rfl
    · rw [e3, List.length_append, List.length_singleton, List.length_cons]; omega
    · rw [List.length_cons, Nat.mul_add, Nat.mul_one]
      exact b2.mono (by omega)
theorem forU_accK {α β : Type} {P : α → Prop} {enc : α → D} {K c : Nat} {f : List D → D → M (List D)} {J : List D × List D → O β} {Q : β → Prop} {ds g : List D} (hb : Urn c g) (hc : c + K * ds.length ≤ UM) (hl : ds.length ≤ 1000000) (hf : ∀ acc d g c, Urn c g → c + K ≤ UM → acc.length ≤ 1000000 → ∃ x g', f acc d g = .ok (acc ++ [enc x], g') ∧ P x ∧ Urn (c + K) g')
    (hk : ∀ (L : List α) (g' : List D), L.length = ds.length → (∀ x ∈ L, P x) → Urn (c + K * ds.length) g' → ∃ r, J (L.map enc, g') = .ok r ∧ Q r) : ∃ r, (forM f ds [] g).bind J = .ok r ∧ Q r := by
  obtain ⟨L, g', e, hL, hP, b⟩ := forU_acc hf ds [] g c hb hc (by simp; omega) (fun _ h => nomatch h)
  have e : forM f ds [] g = .ok (L.map enc, g') := e
  rw [e, bk]
  exact hk L g' (by simpa using hL) hP b
theorem b_pow5 {i : Int} (h0 : 0 ≤ i) (h1 : i < 2 ^ 63) : b_pow (.int i) (.int 5) = .ok (.int (i ^ 5)) := by
  show (if CPow i 5 then O.ok (D.int (i ^ (5 : Int).toNat)) else O.bad) = _
  rw [if_pos ⟨by decide, by decide, by omega⟩]
  rfl
/-- a comprehension that draws -/
theorem mapU {α : Type} {P : α → Prop} {enc : α → D} {K : Nat} {f : D → M D} (hf : ∀ d g c, Urn c g → c + K ≤ UM → ∃ x g', f d g = .ok (enc x, g') ∧ P x ∧ Urn (c + K) g') :
    ∀ (ds : List D) (g : List D) (c : Nat), Urn c g → c + K * ds.length ≤ UM → ∃ (L : List α) (g' : List D), lcM (fun d => (f d).bind fun x => M.ret (some x)) ds g = .ok (L.map enc, g') ∧ L.length = ds.length ∧ (∀ x ∈ L, P x) ∧ Urn (c + K * ds.length) g'
  | [], g, c, hb, _ => ⟨[], g, rfl, rfl, fun _ h => absurd h (by simp), by simpa using hb⟩
  | d :: ds, g, c, hb, hc => by
    rw [List.length_cons, Nat.mul_add, Nat.mul_one] at hc
    obtain ⟨x, g1, e1, p1, b1⟩ := hf d g c hb (by omega)
    obtain ⟨L, g2, e2, e3, p2, b2⟩ := mapU hf ds g1 (c + K) b1 (by omega)
    refine ⟨x :: L, g2, ?_, by rw [List.length_cons, List.length_cons, e3], fun y hy => ?_, ?_⟩
    · unfold lcM
      rw [mbind, mbind, e1, bk, mret, bk, mbind, e2, bk, mret]
      rfl
    · rcases List.mem_cons.mp hy with h | h
      · rw [h]; exact p1
      · exact p2 y h
    · rw [List.length_cons, Nat.mul_add, Nat.mul_one]
      exact b2.mono (by omega)
end SL
/-! HV: loops that draw from an urn, with an invariant. -/
namespace SL
open PySem L2 DL
theorem forU_inv {T : Type} (I : Nat → T → Prop) {K : Nat} {f : T → D → M T} {N : Nat} (hf : ∀ i t d g c, i < N → I i t → Urn c g → c + K ≤ UM → ∃ t' g', f t d g = .ok (t', g') ∧ I (i + 1) t' ∧ Urn (c + K) g') :
    ∀ (ds : List D) (i : Nat) (t : T) (g : List D) (c : Nat), i + ds.length ≤ N → I i t → Urn c g → c + K * ds.length ≤ UM → ∃ t' g', forM f ds t g = .ok (t', g') ∧ I (i + ds.length) t' ∧ Urn (c + K * ds.length) g'
  | [], i, t, g, c, _, hi, hb, _ => ⟨t, g, rfl, hi, by simpa using hb⟩
  | d :: ds, i, t, g, c, hN, hi, hb, hc => by
    rw [List.length_cons] at hN
    rw [List.length_cons, Nat.mul_add, Nat.mul_one] at hc
    obtain ⟨t1, g1, e1, i1, b1⟩ := hf i t d g c (by omega) hi hb (by omega)
    obtain ⟨t2, g2, e2, i2, b2⟩ := forU_inv I hf ds (i + 1) t1 g1 (c + K) (by omega) i1 b1 (by omega)
    refine ⟨t2, g2, ?_, ?_, ?_⟩
    · rw [forM_cons, mbind, e1, bk, e2]
    · rw [List.length_cons, show i + (ds.length + 1) = i + 1 + ds.length by omega]; exact i2
    · rw [List.length_cons, Nat.mul_add, Nat.mul_one]; exact b2.mono (by omega)
theorem forU_invK {T β : Type} (I : Nat → T → Prop) {K c : Nat} {f : T → D → M T} {J : T × List D → O β} {Q : β → Prop} {ds g : List D} {t : T} (hb : Urn c g) (h0 : I 0 t) (hc : c + K * ds.length ≤ UM) (hf : ∀ i t d g c, i < ds.length → I i t → Urn c g → c + K ≤ UM → ∃ t' g', f t d g = .ok (t', g') ∧ I (i + 1) t' ∧ Urn (c + K) g')
    (hk : ∀ t' g', I ds.length t' → Urn (c + K * ds.length) g' → ∃ r, J (t', g') = .ok r ∧ Q r) : ∃ r, (forM f ds t g).bind J = .ok r ∧ Q r := by
  obtain ⟨t', g', e, i', b'⟩ := forU_inv I hf ds 0 t g c (by omega) h0 hb hc
  rw [Nat.zero_add] at i'
  rw [e, bk]
  exact hk t' g' i' b'
theorem loopU_inv {T R : Type} (I : Nat → T → Prop) {K : Nat} {f : T → D → M (Fl T R)} {all : List D} (hf : ∀ i t d g c, d ∈ all → i < all.length → I i t → Urn c g → c + K ≤ UM → ∃ t' g', f t d g = .ok (.nx t', g') ∧ I (i + 1) t' ∧ Urn (c + K) g') :
    ∀ (ds : List D) (i : Nat) (t : T) (g : List D) (c : Nat), (∀ d ∈ ds, d ∈ all) → i + ds.length ≤ all.length → I i t → Urn c g → c + K * ds.length ≤ UM → ∃ t' g', loopM f ds t g = .ok (.nx t', g') ∧ I (i + ds.length) t' ∧ Urn (c + K * ds.length) g'
  | [], i, t, g, c, _, _, hi, hb, _ => ⟨t, g, rfl, hi, by simpa using hb⟩
  | d :: ds, i, t, g, c, hd, hN, hi, hb, hc => by
    rw [List.length_cons] at hN
    rw [List.length_cons, Nat.mul_add, Nat.mul_one] at hc
    obtain ⟨t1, g1, e1, i1, b1⟩ := hf i t d g c (hd d List.mem_cons_self) (by omega) hi hb (by omega)
    obtain ⟨t2, g2, e2, i2, b2⟩ := loopU_inv I hf ds (i + 1) t1 g1 (c + K) (fun x hx => hd x (List.mem_cons_of_mem _ hx)) (by omega) i1 b1 (by omega)
    refine ⟨t2, g2, ?_, ?_, ?_⟩
    · unfold loopM
      rw [mbind, e1, bk]
      exact e2
    · rw [List.length_cons, show i + (ds.length + 1) = i + 1 + ds.length by omega]; exact i2
    · rw [List.length_cons, Nat.mul_add, Nat.mul_one]; exact b2.mono (by omega)
theorem thenU {T R : Type} (I : Nat → T → Prop) (K : Nat) {c : Nat} {f : T → D → M (Fl T R)} {k : T → M R} {Q : R × List D → Prop} {ds g : List D} {t : T} (hb : Urn c g) (h0 : I 0 t) (hc : c + K * ds.length ≤ UM) (hf : ∀ i t d g c, d ∈ ds → i < ds.length → I i t → Urn c g → c + K ≤ UM → ∃ t' g', f t d g = .ok (.nx t', g') ∧ I (i + 1) t' ∧ Urn (c + K) g')
    (hk : ∀ t' g', I ds.length t' → Urn (c + K * ds.length) g' → ∃ r, k t' g' = .ok r ∧ Q r) : ∃ r, thenM (loopM f ds t) k g = .ok r ∧ Q r := by
  obtain ⟨t', g', e, i', b'⟩ := loopU_inv I hf ds 0 t g c (fun _ h => h) (by omega) h0 hb hc
  rw [Nat.zero_add] at i'
  rw [thenM_nx e]
  exact hk t' g' i' b'
theorem exists_nx {T R : Type} {m : O (Fl T R × List D)} {P : T → List D → Prop} (h : ∃ r, m = .ok r ∧ ∃ t' g', r = (.nx t', g') ∧ P t' g') : ∃ t' g', m = .ok (.nx t', g') ∧ P t' g' := by
  obtain ⟨_, e, t', g', rfl, p⟩ := h
  exact ⟨t', g', e, p⟩
end SL
namespace SL.K44
open PySem L2 DL SL
theorem take_ok {w : Int} (h : 0 < w) (h2 : w < 2 ^ 64) {c : Nat} {g : List D} (hb : Urn c g) (hc : c + 1 ≤ UM) : ∃ r g', f_law_take (.int w) g = .ok (.int r, g') ∧ 0 ≤ r ∧ r < w ∧ Urn (c + 1) g' := by
  obtain ⟨a, b, k, rfl, b0, b1, k0, k1⟩ := hb
  unfold UM at hc
  unfold f_law_take
  simp only [mbind, mitea, mconsa, mupa, mret, bagx, bk, ck, ix_l3_0, ix_l3_1, ix_l3_2, b_add_i, ixN3_2, op2k, set3_2, c_gt_i]
  by_cases z : 0 < a
  · simp only [decide_eq_true z, bif1, mbind, mconsa, mupa, mret, bagx, bk, ck, ix_l3_0, ix_l3_1, ix_l3_2, bi_int_i, b_mod_i h, b_fdiv_i h h2, ixN3_0, op2k, set3_0]
    exact ⟨_, _, rfl, Int.emod_nonneg _ (by omega), Int.emod_lt_of_pos _ h, _, _, _, rfl, b0, b1, by omega, by omega⟩
  · simp only [decide_eq_false z, bif0, mbind, mconsa, mupa, mret, bagx, bk, ck, ix_l3_0, ix_l3_1, ix_l3_2, b_add_i, bi_int_i, ixN3_1, op2k, set3_1, b_mul_l (i := 92821) (by decide) (by decide), b_mul_l (i := 57) (by decide) (by decide), b_pow5 (i := b + 92821 * (k + 1)) (by omega) (by omega), b_mod_i (j := 2147483563) (by decide), b_fdiv_i (j := 61) (by decide) (by decide), b_mod_i h]
    refine ⟨_, _, rfl, Int.emod_nonneg _ (by omega), Int.emod_lt_of_pos _ h, _, _, _, rfl, ?_, ?_, by omega, by omega⟩
    · exact Int.emod_nonneg _ (by decide)
    · have := Int.emod_lt_of_pos ((b + 92821 * (k + 1)) ^ 5 + 57 * (k + 1)) (show (0 : Int) < 2147483563 by decide)
      omega
theorem dough_ok {c : Nat} {g : List D} (hb : Urn c g) (hc : c + 100 ≤ UM) : ∃ L g', f_law_dough (.int 8) g = .ok (cellsD L, g') ∧ Good L ∧ Urn (c + 100) g' := by
  suffices h : ∃ r, f_law_dough (.int 8) g = .ok r ∧ ∃ L g', r = (cellsD L, g') ∧ Good L ∧ Urn (c + 100) g' by
    obtain ⟨_, e, L, g', rfl, h1, h2⟩ := h
    exact ⟨L, g', e, h1, h2⟩
  unfold f_law_dough
  obtain ⟨r, g1, e1, h0, h1, b1⟩ := take_ok (w := 8 - 1) (by omega) (by omega) hb (by omega)
  obtain ⟨s, g2, e2, s0, s1, b2⟩ := take_ok (w := 3) (by omega) (by omega) b1 (by omega)
  simp only [mbind, mtra, mupa, mret, bk, ck, b_sub_i, mp1, e1, e2, b_add_i, c_eq_i, rg1_i (i := 2 + r) (by omega) (by omega)]
  refine forU_accK (α := Cell) (enc := celD) (P := fun c => 0 ≤ c.1 ∧ c.1 ≤ c.2.1 ∧ c.2.1 < 2 + r) (K := 3) b2 (by rw [rangeD_length]; omega) (by rw [rangeD_length]; omega) (fun acc d g c hb hc hl => ?_) (fun L g2 e3 p2 b2 => ?_)
  · obtain ⟨x, g3, e3, x0, x1, b3⟩ := take_ok (w := 2 + r) (by omega) (by omega) hb (by omega)
    obtain ⟨y, g4, e4, y0, y1, b4⟩ := take_ok (w := 2 + r) (by omega) (by omega) b3 (by omega)
    obtain ⟨t, g6, e6, t0, t1, b6⟩ := take_ok (w := 2) (by omega) (by omega) b4 (by omega)
    simp only [mbind, mitea, mconsa, mtra, mupa, mret, bk, ck, mp1, e3, e4, asBk, c_eq_i]
    by_cases hz : s = 0
    · have m0 := Int.emod_nonneg y (show (2 : Int) ≠ 0 by decide)
      have m1 := Int.emod_lt_of_pos y (show (0 : Int) < 2 by decide)
      simp only [decide_eq_true hz, bif1, mbind, mupa, bk, ck, b_sub_i, bi_int_i, b_mod_i (j := 2) (by decide), b_add_i, mret, bi_min_i, bi_max_i, e6, c_eq_i, mconsa, mtra, mp1, sizedMk hl]
      refine ⟨(if (if 2 + r - 1 < x + y % 2 then 2 + r - 1 else x + y % 2) < x then (if 2 + r - 1 < x + y % 2 then 2 + r - 1 else x + y % 2) else x, if (if 2 + r - 1 < x + y % 2 then 2 + r - 1 else x + y % 2) > x then (if 2 + r - 1 < x + y % 2 then 2 + r - 1 else x + y % 2) else x, decide (t = 1)), g6, rfl, ?_, b6⟩
      simp only
      split <;> split <;> split <;> omega
    · simp only [decide_eq_false hz, bif0, mbind, mupa, bk, ck, b_sub_i, mret, bi_min_i, bi_max_i, e6, c_eq_i, mconsa, mtra, mp1, sizedMk hl]
      refine ⟨(if y < x then y else x, if y > x then y else x, decide (t = 1)), g6, rfl, ?_, b6⟩
      simp only
      split <;> split <;> omega
  · simp only [bk, ck, bi_tuple_l, mupa]
    rw [rangeD_length] at e3 b2
    exact ⟨_, rfl, L, g2, rfl, ⟨by omega, by omega, fun c hc => by have := p2 c hc; omega⟩, b2.mono (by omega)⟩
theorem forO_intR {β : Type} {f : D → D → O D} {K : D → O β} {Q : β → Prop} {n : Nat} {s : Int} (hf : ∀ (s : Int) (i : Nat), i < n → ∃ u : Int, f (.int s) (.int (0 + (i : Int))) = .ok (.int u)) (hk : ∀ u : Int, ∃ r, K (.int u) = .ok r ∧ Q r) : ∃ r, (forO f (rangeD 0 n) (.int s)).bind K = .ok r ∧ Q r := by
  have key : ∀ (m k : Nat) (s : Int), k + m ≤ n → ∃ u : Int, forO f ((List.range' k m).map fun (i : Nat) => D.int (0 + (i : Int))) (.int s) = .ok (.int u) := by
    intro m
    induction m with
    | zero => exact fun k s _ => ⟨s, rfl⟩
    | succ m ih =>
      intro k s hk
      obtain ⟨u, e⟩ := hf s k (by omega)
      obtain ⟨v, e'⟩ := ih (k + 1) u (by omega)
      refine ⟨v, ?_⟩
      show (f (.int s) (.int (0 + (k : Int)))).bind _ = _
      rw [e, bk]
      exact e'
  obtain ⟨u, e⟩ := key n 0 s (by omega)
  unfold rangeD
  rw [List.range_eq_range', e, bk]
  exact hk u
theorem urn_ok {is : List Int} {k : Int} (h0 : 0 ≤ k) (h1 : k < 100) (hl : is.length ≤ 63) : ∃ g, f_law_urn (.lst (is.map D.int)) (.int k) = .ok g ∧ Urn 0 g := by
  unfold f_law_urn
  obtain ⟨hd, e1⟩ : ∃ hd : Int, O.ite (c_lt (.int k) (.int (is.map D.int).length)) ((O.cons (ix (.lst (is.map D.int)) (.int k)) (O.ok [])).bind bi_int) (O.ok (D.int 0)) = .ok (.int hd) := by
    simp only [c_lt_i]
    by_cases z : k < (is.map D.int).length
    · have hk : k.toNat < is.length := by rw [List.length_map] at z; omega
      refine ⟨is[k.toNat], ?_⟩
      rw [decide_eq_true z, ite1, ix_l (d := .int is[k.toNat]) h0 (by rw [List.getElem?_map, List.getElem?_eq_getElem hk]; rfl), ck, bk, bi_int_i]
    · exact ⟨0, by rw [decide_eq_false z, ite0]⟩
  have hm : ∃ m : Nat, bi_min [.int ((is.map D.int).length : Nat), .int 9] = .ok (.int m) ∧ m ≤ is.length := by
    by_cases z : is.length ≤ 9
    · exact ⟨is.length, by rw [bi_min_i, if_neg (by rw [List.length_map]; omega), List.length_map], Nat.le_refl _⟩
    · exact ⟨9, by rw [bi_min_i, if_pos (by rw [List.length_map]; omega)]; rfl, by omega⟩
  obtain ⟨m, em, hm⟩ := hm
  simp only [bk, ck, ownLen_l, e1, b_mul_l (i := 4421) (by decide) (by decide), b_add_i, em, rg1_i (i := (m : Int)) (by omega) (by omega), Int.toNat_natCast]
  refine forO_intR (fun s i hi => ⟨_, by
    have hx : ix (.lst (is.map D.int)) (.int (0 + (i : Int))) = .ok (.int (is[i]'(by omega))) := ix_l (by omega) (by rw [show (0 + (i : Int)).toNat = i by omega, List.getElem?_map, List.getElem?_eq_getElem (by omega)]; rfl)
    simp only [bk, ck, hx, b_mul_r (j := 58111) (by decide) (by decide), bi_int_i, b_mod_i (j := 1999993) (by decide), b_mul_l (i := 31) (by decide) (by decide), b_add_i, b_mod_i (j := 2147483563) (by decide)]
    rfl⟩) fun u => ?_
  have hp : b_pow (.int 10) (.int 15) = .ok (.int (10 ^ 15)) := by kernel_rfl
  obtain ⟨t, e4⟩ : ∃ t : Int, O.ite (O.ite (O.ok (decide (hd < 0))) (O.ok true) (O.ok (decide ((10 : Int) ^ 15 ≤ hd)))) (O.ok (D.int (if hd < 0 then -hd else hd))) (O.ok (D.int 0)) = .ok (.int t) := by
    by_cases z : hd < 0
    · exact ⟨_, by rw [decide_eq_true z, ite1, ite1]⟩
    · rw [decide_eq_false z, ite0]
      by_cases z2 : (10 : Int) ^ 15 ≤ hd
      · exact ⟨_, by rw [decide_eq_true z2, ite1]⟩
      · exact ⟨_, by rw [decide_eq_false z2, ite0]⟩
  simp only [bk, ck, c_lt_i, hp, c_ge_i, bi_abs_i, e4, bi_int_i, b_mod_i (j := 1999993) (by decide), b_mul_l (i := 40009) (by decide) (by decide), b_add_i, b_mod_i (j := 2147483563) (by decide)]
  refine ⟨_, rfl, _, _, _, rfl, Int.emod_nonneg _ (by decide), ?_, by omega, by omega⟩
  have := Int.emod_lt_of_pos (u + 40009 * (hd % 1999993)) (show (0 : Int) < 2147483563 by decide)
  omega
end SL.K44
namespace SL.K44
open PySem L2 DL SL
def abc : List Nat := (List.range 26).map (· + 97)
theorem str_abc : D.str "abcdefghijklmnopqrstuvwxyz" = tx abc := by
  show D.str "abcdefghijklmnopqrstuvwxyz" = D.str (st abc)
  congr 1
theorem abc_sm : ∀ c ∈ abc, sml c := by decide
theorem abc_len : abc.length = 26 := rfl
theorem ix_one {l : List Nat} {i : Int} (hs : ∀ c ∈ l, sml c) (hl : l.length ≤ 1000000) (h0 : 0 ≤ i) (h1 : i < l.length) : ∃ c, ix (tx l) (.int i) = .ok (tx [c]) ∧ sml c := by
  have hi : i.toNat < l.length := by omega
  exact ⟨l[i.toNat], ix_tx h0 hl (List.getElem?_eq_getElem hi), hs _ (List.getElem_mem hi)⟩
theorem ix_ofL {ds : List D} {i : Int} (h0 : 0 ≤ i) (h1 : i < ds.length) : ∃ d, ix (.lst ds) (.int i) = .ok d ∧ d ∈ ds := by
  have hi : i.toNat < ds.length := by omega
  exact ⟨ds[i.toNat], ix_l h0 (List.getElem?_eq_getElem hi), List.getElem_mem hi⟩
theorem flat_ones (l : List Nat) : (l.map fun c => [c]).flatten = l := by
  induction l with
  | nil => rfl
  | cons c l ih => rw [List.map_cons, List.flatten_cons, ih]; rfl
theorem sum_ones (l : List Nat) : ((l.map fun c => [c]).map List.length).sum = l.length := by
  induction l with
  | nil => rfl
  | cons c l ih => rw [List.map_cons, List.map_cons, List.sum_cons, ih, List.length_cons]; simp; omega
theorem join_ones {l : List Nat} (h : l.length ≤ 1000000) : t_join (.str "") (.lst (l.map fun c => tx [c])) = .ok (tx l) := by
  have := join_tx (ls := l.map fun c => [c]) (by rw [sum_ones]; exact h)
  rw [List.map_map, flat_ones] at this
  exact this
theorem hue_ok {n : Nat} (hn : n ≤ 8) {c : Nat} {g : List D} (hb : Urn c g) (hc : c + 20 ≤ UM) : ∃ h g', f_law_hue (.int n) g = .ok (tx h, g') ∧ h.length = n ∧ (∀ c ∈ h, sml c) ∧ Urn (c + 20) g' := by
  suffices hh : ∃ r, f_law_hue (.int n) g = .ok r ∧ ∃ h g', r = (tx h, g') ∧ h.length = n ∧ (∀ c ∈ h, sml c) ∧ Urn (c + 20) g' by
    obtain ⟨_, e, h, g', rfl, q⟩ := hh
    exact ⟨h, g', e, q⟩
  obtain ⟨r, g1, e1, r0, r1, b1⟩ := take_ok (w := 5) (by omega) (by omega) hb (by omega)
  obtain ⟨m, em, m0, mm1⟩ : ∃ m : Nat, ix (.lst [.int 1, .int 2, .int 2, .int 3, .int 8]) (.int r) = .ok (.int m) ∧ 1 ≤ m ∧ m ≤ 8 := by
    have : r = 0 ∨ r = 1 ∨ r = 2 ∨ r = 3 ∨ r = 4 := by omega
    rcases this with rfl | rfl | rfl | rfl | rfl
    · exact ⟨1, rfl, by omega, by omega⟩
    · exact ⟨2, rfl, by omega, by omega⟩
    · exact ⟨2, rfl, by omega, by omega⟩
    · exact ⟨3, rfl, by omega, by omega⟩
    · exact ⟨8, rfl, by omega, by omega⟩
  unfold f_law_hue
  simp only [mbind, mupa, bk, ck, mp1, e1, em, rg1_i (i := (m : Int)) (by omega) (by omega), Int.toNat_natCast]
  refine forU_accK (α := Nat) (enc := fun c => tx [c]) (P := sml) (K := 1) b1 (by rw [rangeD_length]; omega) (by rw [rangeD_length]; omega) (fun acc d g c hb hc hl => ?_) (fun L g2 e3 p2 b2 => ?_)
  · obtain ⟨x, g3, e3, x0, x1, b3⟩ := take_ok (w := 26) (by omega) (by omega) hb (by omega)
    obtain ⟨z, ez, hz⟩ := ix_one (l := abc) (i := x) abc_sm (by decide) x0 (by rw [abc_len]; omega)
    simp only [mbind, mupa, bk, ck, mp1, e3, str_abc, ez, sizedMk hl, mret]
    exact ⟨z, g3, rfl, hz, b3⟩
  · rw [rangeD_length] at e3 b2
    obtain ⟨h, g3, e4, l4, p4, b4⟩ := mapU (α := Nat) (enc := fun c => tx [c]) (P := sml) (K := 1) (f := fun v_law_k => ((M.up (O.ok (D.lst (L.map fun c => tx [c])))).bind fun x => ((M.up ((O.ok (D.int m)).cons (O.ok []))).bind (m1 f_law_take)).bind fun y => M.up (ix x y))) (fun d g c hb hc => by
      obtain ⟨x, g3, e3', x0, x1, b3⟩ := take_ok (w := (m : Int)) (by omega) (by omega) hb (by omega)
      obtain ⟨d, ed, hd⟩ := ix_ofL (ds := L.map fun c => tx [c]) (i := x) x0 (by rw [List.length_map]; omega)
      obtain ⟨z, hz, rfl⟩ := List.mem_map.mp hd
      simp only [mbind, mupa, bk, ck, mp1, e3', ed]
      exact ⟨z, g3, rfl, p2 z hz, b3⟩) (rangeD 0 n) g2 (c + 1 + 1 * m) b2 (by rw [rangeD_length]; omega)
    rw [rangeD_length] at l4 b4
    have e5 : mapM (fun v_law_k => ((M.up (O.ok (D.lst (L.map fun c => tx [c])))).bind fun x => ((M.up ((O.ok (D.int m)).cons (O.ok []))).bind (m1 f_law_take)).bind fun y => M.up (ix x y))) (rangeD 0 n) g2 = .ok (h.map fun c => tx [c], g3) := by
      unfold mapM
      rw [sizedMk (by rw [rangeD_length]; omega)]
      exact e4
    have el : ownLen lens [D.lst (L.map fun c => tx [c])] = .ok (.int m) := by rw [ownLen_l, List.length_map, e3]
    simp only [mbind, mupa, mret, bk, el, rg1_i (i := (n : Int)) (by omega) (by omega), Int.toNat_natCast, ck] at e5 ⊢
    rw [e5]
    simp only [bk, mupa, join_ones (l := h) (by omega)]
    exact ⟨_, rfl, h, g3, rfl, l4, p4, b4.mono (by omega)⟩
theorem ixN_neg {n : Nat} (h : 1 ≤ n) : ixN n (-1) = some (n - 1) := by
  unfold ixN
  rw [if_neg (by decide), if_pos (by omega)]
  congr 1
  omega
theorem path_ok {L : List Cell} (gd : Good L) {m : Nat} (h1 : 1 ≤ m) (h2 : m ≤ 200) {c : Nat} {g : List D} (hb : Urn c g) (hc : c + 300 ≤ UM) : ∃ (cs : List Int) (g' : List D), f_law_path (cellsD L) (.int m) g = .ok (.lst (cs.map D.int), g') ∧ cs.length = m ∧ (∀ j ∈ cs, 0 ≤ j ∧ j < L.length) ∧ Urn (c + 300) g' := by
  suffices hh : ∃ r, f_law_path (cellsD L) (.int m) g = .ok r ∧ ∃ (cs : List Int) (g' : List D), r = (.lst (cs.map D.int), g') ∧ cs.length = m ∧ (∀ j ∈ cs, 0 ≤ j ∧ j < L.length) ∧ Urn (c + 300) g' by
    obtain ⟨_, e, cs, g', rfl, q⟩ := hh
    exact ⟨cs, g', e, q⟩
  have n1 := gd.n1
  have n2 := gd.n2
  have elen : ownLen lens [cellsD L] = .ok (.int L.length) := by unfold cellsD; rw [ownLen_t, List.length_map]
  obtain ⟨x, g1, e1, x0, x1, b1⟩ := take_ok (w := (L.length : Int)) (by omega) (by omega) hb (by omega)
  unfold f_law_path
  simp only [mbind, mconsa, mupa, mret, bk, ck, mp1, elen, e1, b_sub_i, rg1_i (show -(2 ^ 62) ≤ (m : Int) - 1 by omega) (show (m : Int) - 1 < 2 ^ 62 by omega)]
  refine forU_invK (K := 1) (fun i (t : List D) => ∃ cs : List Int, t = cs.map D.int ∧ cs.length = i + 1 ∧ ∀ j ∈ cs, 0 ≤ j ∧ j < L.length) b1 ⟨[x], rfl, rfl, fun j hj => by rw [List.mem_singleton.mp hj]; exact ⟨x0, x1⟩⟩ (by rw [rangeD_length]; omega) (fun i t d g c hi ht hb hc => ?_) (fun t' g' ht b' => ?_)
  · obtain ⟨cs, rfl, hl, hin⟩ := ht
    rw [rangeD_length] at hi
    have hlast : ∃ j, ix (.lst (cs.map D.int)) (.int (-1)) = .ok (.int j) ∧ 0 ≤ j ∧ j < L.length := by
      refine ⟨cs[cs.length - 1]'(by omega), ?_, hin _ (List.getElem_mem _)⟩
      show op2 (atI (cs.map D.int) (-1)) O.ok = _
      unfold atI
      rw [List.length_map, ixN_neg (by omega)]
      show op2 ((cs.map D.int)[cs.length - 1]?) O.ok = _
      rw [List.getElem?_map, List.getElem?_eq_getElem (by omega)]
      rfl
    obtain ⟨j, ej, j0, j1⟩ := hlast
    obtain ⟨hcz, c0, c1, c2⟩ := cz_of gd j0 j1
    generalize hcc : cz L j = cc at *
    obtain ⟨a, b, fl⟩ := cc
    simp only at c0 c1 c2
    obtain ⟨y, g2, e2, y0, y1, b2⟩ := take_ok (w := b - a + 1) (by omega) (by omega) hb (by omega)
    simp only [mbind, mupa, mret, bk, ck, mp1, b_neg_i, ej, ix_cell j0 hcz, celD, u3t, b_sub_i, b_add_i, e2, sizedMk (show (cs.map D.int).length ≤ 1000000 by rw [List.length_map]; omega)]
    refine ⟨_, g2, rfl, ⟨cs ++ [a + y], by rw [List.map_append]; rfl, by rw [List.length_append, hl]; rfl, fun k hk => ?_⟩, b2⟩
    rcases List.mem_append.mp hk with hk | hk
    · exact hin k hk
    · rw [List.mem_singleton.mp hk]; omega
  · obtain ⟨cs, rfl, hl, hin⟩ := ht
    rw [rangeD_length] at hl b'
    simp only [mupa, bk]
    exact ⟨_, rfl, cs, g', rfl, by omega, hin, b'.mono (by omega)⟩
theorem spelled_ok {L : List Cell} {h : List Nat} (hh : Hue L h) (gd : Good L) {cs : List Int} (hi : ∀ j ∈ cs, 0 ≤ j ∧ j < L.length) (hl : cs.length ≤ 1000) : f_law_spelled (tx h) (.lst (cs.map D.int)) = .ok (tx (cs.map (hat h))) := by
  have n2 := gd.n2
  have hle := hh.len
  unfold f_law_spelled
  simp only [bk, itl]
  rw [mapO_ok (fun d => match d with | .int j => tx [hat h j] | _ => .non) (fun d hd => ?hd) (by rw [List.length_map]; omega)]
  case hd =>
    obtain ⟨j, hj, rfl⟩ := List.mem_map.mp hd
    have := hi j hj
    simp only [bk, ix_hat (show h.length ≤ 8 by omega) this.1 (show j < h.length by omega)]
  have e : (cs.map D.int).map (fun d => match d with | .int j => tx [hat h j] | _ => .non) = (cs.map (hat h)).map fun c => tx [c] := by
    rw [List.map_map, List.map_map]; rfl
  rw [e, bk, bk, join_ones (by rw [List.length_map]; omega)]
theorem hat_sm {L : List Cell} {h : List Nat} (hh : Hue L h) {j : Int} (h0 : 0 ≤ j) (h1 : j < L.length) : sml (hat h j) := by
  have hl := hh.len
  have hi : j.toNat < h.length := by omega
  unfold hat
  rw [List.getD_eq_getElem?_getD, List.getElem?_eq_getElem hi]
  exact hh.sm _ (List.getElem_mem hi)
theorem word_ok {L : List Cell} (gd : Good L) {h : List Nat} (hh : Hue L h) {c : Nat} {g : List D} (hb : Urn c g) (hc : c + 400 ≤ UM) : ∃ w g', f_law_word (cellsD L) (tx h) g = .ok (tx w, g') ∧ Wrd w ∧ Urn (c + 400) g' := by
  suffices hs : ∃ r, f_law_word (cellsD L) (tx h) g = .ok r ∧ ∃ w g', r = (tx w, g') ∧ Wrd w ∧ Urn (c + 400) g' by
    obtain ⟨_, e, w, g', rfl, q⟩ := hs
    exact ⟨w, g', e, q⟩
  have n2 := gd.n2
  have hle := hh.len
  obtain ⟨x, g1, e1, x0, x1, b1⟩ := take_ok (w := 40) (by omega) (by omega) hb (by omega)
  obtain ⟨r, g2, e2, r0, r1, b2⟩ := take_ok (w := 5) (by omega) (by omega) b1 (by omega)
  obtain ⟨m, em, m0, m1⟩ : ∃ m : Nat, ix (.lst [.int 1, .int 2, .int 3, .int (1 + x), .int 200]) (.int r) = .ok (.int m) ∧ 1 ≤ m ∧ m ≤ 200 := by
    have : r = 0 ∨ r = 1 ∨ r = 2 ∨ r = 3 ∨ r = 4 := by omega
    rcases this with rfl | rfl | rfl | rfl | rfl
    · exact ⟨1, rfl, by omega, by omega⟩
    · exact ⟨2, rfl, by omega, by omega⟩
    · exact ⟨3, rfl, by omega, by omega⟩
    · refine ⟨(1 + x).toNat, ?_, by omega, by omega⟩
      rw [Int.toNat_of_nonneg (by omega)]; rfl
    · exact ⟨200, rfl, by omega, by omega⟩
  obtain ⟨cs, g3, e3, l3, i3, b3⟩ := path_ok gd m0 m1 b2 (by omega)
  obtain ⟨k, g4, e4, k0, k1, b4⟩ := take_ok (w := 3) (by omega) (by omega) b3 (by omega)
  unfold f_law_word
  simp only [mbind, mconsa, mupa, mret, bk, ck, mp1, mp2, e1, b_add_i, e2, em, e3, ap2, spelled_ok hh gd i3 (show cs.length ≤ 1000 by omega), e4, rg1_i (show -(2 ^ 62) ≤ k by omega) (show k < 2 ^ 62 by omega)]
  refine forU_invK (K := 3) (fun i (t : D) => ∃ w : List Nat, t = tx w ∧ 1 ≤ w.length ∧ w.length ≤ 200 + i ∧ ∀ c ∈ w, sml c) b4 ⟨cs.map (hat h), rfl, by rw [List.length_map]; omega, by rw [List.length_map]; omega, fun c hc => by
    obtain ⟨j, hj, rfl⟩ := List.mem_map.mp hc
    exact hat_sm hh (i3 j hj).1 (i3 j hj).2⟩ (by rw [rangeD_length]; omega) (fun i t d g c hi ht hb hc => ?_) (fun t' g' ht b' => ?_)
  · rw [rangeD_length] at hi
    obtain ⟨w, rfl, w1, w2, ws⟩ := ht
    obtain ⟨at_, g5, e5, a0, a1, b5⟩ := take_ok (w := (w.length : Int)) (by omega) (by omega) hb (by omega)
    obtain ⟨z, g6, e6, z0, z1, b6⟩ := take_ok (w := ((h ++ abc).length : Int)) (by rw [List.length_append, abc_len]; omega) (by rw [List.length_append, abc_len]; omega) b5 (by omega)
    obtain ⟨s, es, hs⟩ := ix_one (l := h ++ abc) (i := z) (fun c hc => by
      rcases List.mem_append.mp hc with q | q
      · exact hh.sm c q
      · exact abc_sm c q) (by rw [List.length_append, abc_len]; omega) z0 z1
    obtain ⟨q, g7, e7, q0, q1, b7⟩ := take_ok (w := 3) (by omega) (by omega) b6 (by omega)
    obtain ⟨a, rfl⟩ := Int.eq_ofNat_of_zero_le a0
    have ha1 : (a : Int) + 1 = ((a + 1 : Nat) : Int) := rfl
    have hw : w.length ≤ 1000000 := by omega
    have t1 : (w.take a).length ≤ w.length := by rw [List.length_take]; omega
    have t2 : (w.drop (a + 1)).length ≤ w.length := by rw [List.length_drop]; omega
    have t3 : (w.drop a).length ≤ w.length := by rw [List.length_drop]; omega
    simp only [mbind, mupa, mret, bk, ck, mp1, olen_tx hw, e5, str_abc, add_tx (a := h) (b := abc) (by rw [abc_len]; omega), olen_tx (l := h ++ abc) (by rw [List.length_append, abc_len]; omega), e6, es, aik, take_tx a hw, b_add_i, ha1, drop_tx (a + 1) hw, drop_tx a hw, add_tx (a := w.take a) (b := [s]) (by rw [List.length_singleton]; omega), add_tx (a := w.take a ++ [s]) (b := w.drop (a + 1)) (by rw [List.length_append, List.length_singleton]; omega), add_tx (a := w.take a ++ [s]) (b := w.drop a) (by rw [List.length_append, List.length_singleton]; omega), e7]
    have m1' : ∀ c ∈ w.take a, sml c := fun c hc => ws c (List.mem_of_mem_take hc)
    have m2' : ∀ c ∈ w.drop (a + 1), sml c := fun c hc => ws c (List.mem_of_mem_drop hc)
    have m3' : ∀ c ∈ w.drop a, sml c := fun c hc => ws c (List.mem_of_mem_drop hc)
    have : q = 0 ∨ q = 1 ∨ q = 2 := by omega
    rcases this with rfl | rfl | rfl
    · refine ⟨tx (w.take a ++ [s] ++ w.drop (a + 1)), g7, rfl, ⟨_, rfl, by simp; omega, by simp; omega, fun c hc => ?_⟩, b7⟩
      rcases List.mem_append.mp hc with hc | hc
      · rcases List.mem_append.mp hc with hc | hc
        · exact m1' c hc
        · rw [List.mem_singleton.mp hc]; exact hs
      · exact m2' c hc
    · refine ⟨tx (w.drop a), g7, rfl, ⟨_, rfl, by simp; omega, by simp; omega, m3'⟩, b7⟩
    · refine ⟨tx (w.take a ++ [s] ++ w.drop a), g7, rfl, ⟨_, rfl, by simp; omega, by simp; omega, fun c hc => ?_⟩, b7⟩
      rcases List.mem_append.mp hc with hc | hc
      · rcases List.mem_append.mp hc with hc | hc
        · exact m1' c hc
        · rw [List.mem_singleton.mp hc]; exact hs
      · exact m3' c hc
  · rw [rangeD_length] at ht b'
    obtain ⟨w, rfl, w1, w2, ws⟩ := ht
    have : cut (tx w) none (some 200) = .ok (tx (w.take 200)) := take_tx 200 (by omega)
    simp only [mupa, bk, aik, this]
    exact ⟨_, rfl, _, g', rfl, ⟨by rw [List.length_take]; omega, by rw [List.length_take]; omega, fun c hc => ws c (List.mem_of_mem_take hc)⟩, b'.mono (by omega)⟩
end SL.K44
namespace SL.K44
open PySem L2 DL SL
theorem law_opened_ok {L : List Cell} (g : Good L) {h : List Nat} (hh : Hue L h) (c : Nat) : f_law_opened (tx h) (tx [c]) = .ok (.tup ((opn h c).map D.int)) := by
  have n2 := g.n2
  have hl := hh.len
  unfold f_law_opened
  simp only [bk, ck, olen_tx (l := h) (by omega), rg1_i (i := (h.length : Int)) (by omega) (by omega), Int.toNat_natCast, rangeD_rng]
  rw [filO_ok (fun d => match d with | .int k => decide (hat h k = c) | _ => false) (fun d => d) (fun d hd => ?hd) (fun d _ _ => rfl) (by rw [List.length_map, rng_length]; omega)]
  case hd =>
    obtain ⟨j, hj, rfl⟩ := List.mem_map.mp hd
    have := mem_rng.mp hj
    simp only [bk, ix_hat (show h.length ≤ 8 by omega) this.1 this.2, one_eq]
  rw [filter_ints (fun k => decide (hat h k = c)) _ _ (fun i => rfl)]
  simp only [bk, ck, bi_tuple_l]
  rfl
theorem beh_loop {f : List D → D → O (List D)} {p : Int → Bool} (hf : ∀ (acc : List Int) (k : Int), acc.length ≤ 1000 → f (acc.map D.int) (.int k) = .ok ((if p k then acc ++ [k] else acc).map D.int)) : ∀ (ks acc : List Int), acc.length + ks.length ≤ 1000 → forO f (ks.map D.int) (acc.map D.int) = .ok ((acc ++ ks.filter p).map D.int)
  | [], acc, _ => by show O.ok (acc.map D.int) = _; simp
  | k :: ks, acc, hl => by
    rw [List.length_cons] at hl
    show (f (acc.map D.int) (.int k)).bind _ = _
    rw [hf acc k (by omega), bk]
    by_cases hp : p k = true
    · rw [if_pos hp, beh_loop hf ks (acc ++ [k]) (by rw [List.length_append, List.length_singleton]; omega), List.filter_cons_of_pos hp, List.append_assoc]
      rfl
    · rw [if_neg hp, beh_loop hf ks acc (by omega), List.filter_cons_of_neg hp]
theorem beh_loop' {f : List D → D → O (List D)} {p : Int → Bool} {ks : List Int} (hf : ∀ (acc : List Int) (k : Int), k ∈ ks → acc.length ≤ 1000 → f (acc.map D.int) (.int k) = .ok ((if p k then acc ++ [k] else acc).map D.int)) : ∀ (ms acc : List Int), (∀ k ∈ ms, k ∈ ks) → acc.length + ms.length ≤ 1000 → forO f (ms.map D.int) (acc.map D.int) = .ok ((acc ++ ms.filter p).map D.int)
  | [], acc, _, _ => by show O.ok (acc.map D.int) = _; simp
  | k :: ms, acc, hm, hl => by
    rw [List.length_cons] at hl
    show (f (acc.map D.int) (.int k)).bind _ = _
    rw [hf acc k (hm k List.mem_cons_self) (by omega), bk]
    by_cases hp : p k = true
    · rw [if_pos hp, beh_loop' hf ms (acc ++ [k]) (fun x hx => hm x (List.mem_cons_of_mem _ hx)) (by rw [List.length_append, List.length_singleton]; omega), List.filter_cons_of_pos hp, List.append_assoc]
      rfl
    · rw [if_neg hp, beh_loop' hf ms acc (fun x hx => hm x (List.mem_cons_of_mem _ hx)) (by omega), List.filter_cons_of_neg hp]
theorem law_behind_ok {L : List Cell} (g : Good L) {h : List Nat} (hh : Hue L h) {cs : List Int} (hc : ∀ j ∈ cs, 0 ≤ j ∧ j < L.length) (hl : cs.length ≤ 8) (c : Nat) : f_law_behind (cellsD L) (tx h) (.tup (cs.map D.int)) (tx [c]) = .ok (.tup ((beh L h cs c).map D.int)) := by
  have n2 := g.n2
  have hle := hh.len
  have elen : ownLen lens [cellsD L] = .ok (.int L.length) := by unfold cellsD; rw [ownLen_t, List.length_map]
  unfold f_law_behind
  simp only [bk, ck, elen, rg1_i (i := (L.length : Int)) (by omega) (by omega), Int.toNat_natCast, rangeD_rng, itk]
  refine Eq.trans (congrArg (fun o => O.bind o _) (beh_loop' (p := fun k => decide (hat h k = c) && cs.any fun j => inrun L j k) (ks := rng L.length) (fun acc k hk ha => ?hf) (rng L.length) [] (fun _ h => h) (by rw [rng_length]; simp; omega))) ?_
  case hf =>
    have hk' := mem_rng.mp hk
    rw [filO_ok (fun d => match d with | .int j => inrun L j k | _ => false) (fun d => d) (fun d hd => ?h1) (fun d _ _ => rfl) (by rw [List.length_map]; omega)]
    case h1 =>
      obtain ⟨j, hj, rfl⟩ := List.mem_map.mp hd
      obtain ⟨hcz, c0, c1, c2⟩ := cz_of g (hc j hj).1 (hc j hj).2
      show _ = O.ok (inrun L j k)
      unfold inrun
      generalize hcc : cz L j = cc at *
      obtain ⟨a, b, fl⟩ := cc
      simp only [bk, ix_cell (hc j hj).1 hcz, celD, ix_t3_0, ix_t3_1, chk, c_le_i]
      by_cases z : a ≤ k
      · rw [decide_eq_true z, ite1]; rfl
      · rw [decide_eq_false z, ite0]; rfl
    rw [filter_ints (fun j => inrun L j k) _ _ (fun i => rfl)]
    simp only [bk, ix_hat (show h.length ≤ 8 by omega) hk'.1 (show k < h.length by omega), one_eq, ne_nilL]
    have ea : (decide (cs.filter (fun j => inrun L j k) ≠ [])) = cs.any fun j => inrun L j k := by
      rw [Bool.eq_iff_iff, decide_eq_true_iff, List.any_eq_true]
      constructor
      · intro hne
        obtain ⟨j, hj⟩ := List.exists_mem_of_ne_nil _ hne
        exact ⟨j, (List.mem_filter.mp hj).1, (List.mem_filter.mp hj).2⟩
      · rintro ⟨j, hj, q⟩ e
        have : j ∈ cs.filter (fun j => inrun L j k) := List.mem_filter.mpr ⟨hj, q⟩
        rw [e] at this
        cases this
    rw [ea, sized_ok (by rw [List.length_map]; omega)]
    by_cases z : hat h k = c
    · rw [decide_eq_true z, ite1, Bool.true_and]
      by_cases y : (cs.any fun j => inrun L j k) = true
      · rw [y, ite1, bk, if_pos rfl, List.map_append]; rfl
      · rw [Bool.eq_false_iff.mpr y, ite0, bk, if_neg (by decide)]
    · rw [decide_eq_false z, ite0, ite0, bk, Bool.false_and, if_neg (by decide)]
  show O.bind (O.ok _) _ = _
  rw [List.nil_append]
  simp only [bk, ck, bi_tuple_l]
  rfl
theorem law_led_ok {L : List Cell} (g : Good L) {h : List Nat} (hh : Hue L h) {c : Nat} {w : List Nat} (hw : w.length ≤ 1000) : f_law_led (cellsD L) (tx h) (tx (c :: w)) = .ok (.tup ((behs L h c w).map D.int)) := by
  unfold f_law_led
  have e1 : ix (tx (c :: w)) (.int 0) = .ok (tx [c]) := ix_tx (by decide) (by rw [List.length_cons]; omega) rfl
  have e2 : cut (tx (c :: w)) (some 1) none = .ok (tx w) := drop_tx 1 (by rw [List.length_cons]; omega)
  simp only [bk, ck, ap2, e1, law_opened_ok g hh, aik, e2, it_tx]
  rw [word_loop g hh (fun cs c hc hl => ?hf) w (opn h c) (fun j hj => by rw [← hh.len]; exact opn_in j hj) (by have := @opn_len h c; have := g.n2; have := hh.len; omega)]
  case hf => simp only [bk, ck, ap4, law_behind_ok g hh hc hl]
  rw [bk]
  rfl
theorem rep_bls {ds : List D} (h : ∀ d ∈ ds, ∃ b, d = .bl b) (hl : ds.length ≤ 100) : bi_repr [.lst ds] = .ok (.str (toP (.lst ds)).shown) := by
  have r : RepL 0 ((0 + 1) * ds.length) ds := rep_all fun d hd => by
    obtain ⟨b, rfl⟩ := h d hd
    exact rep_bl b
  exact if_pos (repB_mk ((rep_lst r).mono (Nat.le_refl _) (W' := 100000) (by omega)) rfl)
/-- an entry of what was asked -/
def Ent (L : List Cell) (d : D) : Prop := ∃ (h : List Nat) (c : Nat) (w : List Nat) (b : Bool), d = .tup [tx h, tx (c :: w), .bl b] ∧ Hue L h ∧ Wrd (c :: w) ∧ b = decide (behs L h c w ≠ [])
theorem perm120 (a b c : D) : perm [1, 2, 0] [a, b, c] = [b, c, a] := nrfl rfl trivial
theorem right_ok {c : Nat} {g : List D} (hb : Urn c g) (hc : c + 10000 ≤ UM) : ∃ g', f_law_right g = .ok (.bl true, g') := by
  suffices hs : ∃ r, f_law_right g = .ok r ∧ ∃ g', r = (D.bl true, g') by
    obtain ⟨_, e, g', rfl⟩ := hs
    exact ⟨g', e⟩
  obtain ⟨L, g1, e1, gd, b1⟩ := dough_ok hb (by omega)
  have n1 := gd.n1
  have n2 := gd.n2
  have elen : ownLen lens [cellsD L] = .ok (.int L.length) := by unfold cellsD; rw [ownLen_t, List.length_map]
  obtain ⟨hs, g2, e2, l2, p2, b2⟩ := mapU (α := List Nat) (enc := tx) (P := Hue L) (K := 20) (f := fun v_law_k => ((M.up (O.ok [D.int L.length])).bind (m1 f_law_hue))) (fun d g c hb hc => by
    obtain ⟨h, g', e, hl, hp, b⟩ := hue_ok (n := L.length) n2 hb hc
    exact ⟨h, g', by simp only [mbind, mupa, bk, mp1, e], ⟨hl, hp⟩, b⟩) (rangeD 0 2) g1 (c + 100) b1 (by rw [rangeD_length]; omega)
  rw [rangeD_length] at l2 b2
  have e2' : mapM (fun v_law_k => ((M.up (O.ok [D.int L.length])).bind (m1 f_law_hue))) (rangeD 0 2) g1 = .ok (hs.map tx, g2) := by
    unfold mapM
    rw [sizedMk (by rw [rangeD_length]; omega)]
    exact e2
  have er2 : rg1 (.int 2) = .ok (rangeD 0 2) := rfl
  have er4 : rg1 (.int 4) = .ok (rangeD 0 4) := rfl
  unfold f_law_right
  simp only [mbind, mupa, mret, bk, ck, mp1, e1, mk_fold gd, elen, er2, e2', er4, itl]
  refine thenU (fun i (t : List D) => t.length = 2 * i ∧ ∀ d ∈ t, Ent L d) 1000 b2 ⟨rfl, fun _ h => absurd h (by simp)⟩ (by rw [rangeD_length]; omega) (fun i t d g c _ hi ht hb hc => ?turn) (fun t' g' ht b' => ?last)
  case turn =>
    rw [rangeD_length] at hi
    obtain ⟨tl, te⟩ := ht
    have hdo : (hs.map tx).length = 2 := by rw [List.length_map]; exact l2
    simp only [mbind, mupa, bk, itl]
    refine exists_nx (thenU (fun k (u : List D) => u.length = t.length + k ∧ ∀ d ∈ u, Ent L d) 450 hb ⟨rfl, te⟩ (by rw [hdo]; omega) (fun k u d g c hd hk hu hb hc => ?inner) (fun u g' hu b' => ?after))
    case after =>
      rw [hdo] at hu b'
      exact ⟨_, rfl, u, g', rfl, ⟨by omega, hu.2⟩, b'.mono (by omega)⟩
    case inner =>
      rw [hdo] at hk
      obtain ⟨h, hh, rfl⟩ := List.mem_map.mp hd
      have hue := p2 h hh
      obtain ⟨x, g3, e3, x0, x1, b3⟩ := take_ok (w := 2) (by omega) (by omega) hb (by omega)
      obtain ⟨d2, ed2, hd2⟩ := ix_ofL (ds := hs.map tx) (i := x) x0 (by rw [hdo]; omega)
      obtain ⟨h2, hh2, rfl⟩ := List.mem_map.mp hd2
      obtain ⟨w, g4, e4, hw, b4⟩ := word_ok gd (p2 h2 hh2) b3 (by omega)
      cases w with
      | nil => exact absurd hw.n1 (by simp)
      | cons z w =>
        have w200 := hw.n2
        rw [List.length_cons] at w200
        obtain ⟨ul, ue⟩ := hu
        have hrep := rep_bls (ds := [.bl (decide (behs L h z w ≠ [])), .bl (decide (behs L h z w ≠ []))]) (fun d hd => by
          simp only [List.mem_cons, List.not_mem_nil, or_false, or_self] at hd
          exact ⟨_, hd⟩) (by simp)
        simp only [mbind, mconsa, mitea, mupa, mret, bk, ck, mp1, mp2, e3, ed2, e4, ap3, law_led_ok gd hue (show w.length ≤ 1000 by omega), ne_nilT, trk, is_shown_ok gd hue hw, perm120, hrep, c_ne_s, decide_true, Bool.not_true, bif0, sizedMk (show u.length ≤ 1000000 by omega)]
        refine ⟨_, g4, rfl, ⟨by rw [List.length_append, List.length_singleton]; omega, fun d hd => ?_⟩, b4.mono (by omega)⟩
        rcases List.mem_append.mp hd with hd | hd
        · exact ue d hd
        · rw [List.mem_singleton.mp hd]
          exact ⟨h, z, w, _, rfl, hue, hw, rfl⟩
  case last =>
    rw [rangeD_length] at ht
    obtain ⟨tl, te⟩ := ht
    have k1 : mapO (fun d => un3 d fun v_law_hue_here v_law_line v_law_due => l3 f_is_shown [folD L, v_law_hue_here, v_law_line]) t' = .ok (t'.map fun d => match d with | .tup [_, _, b] => b | _ => .non) := by
      refine mapO_ok _ (fun d hd => ?_) (by omega)
      obtain ⟨h, z, w, b, rfl, hue, hw, rfl⟩ := te d hd
      simp only [u3t, ap3, is_shown_ok gd hue hw]
    have k2 : mapO (fun v_law_each => ix v_law_each (D.int 2)) t' = .ok (t'.map fun d => match d with | .tup [_, _, b] => b | _ => .non) := by
      refine mapO_ok _ (fun d hd => ?_) (by omega)
      obtain ⟨h, z, w, b, rfl, hue, hw, rfl⟩ := te d hd
      rfl
    have k3 := rep_bls (ds := t'.map fun d => match d with | .tup [_, _, b] => b | _ => .non) (fun d hd => by
      obtain ⟨e, he, rfl⟩ := List.mem_map.mp hd
      obtain ⟨h, z, w, b, rfl, _⟩ := te e he
      exact ⟨b, rfl⟩) (by rw [List.length_map]; omega)
    simp only [mupa, bk, ck, k1, k2, k3, c_eq_s, decide_true, trk]
    exact ⟨_, rfl, g', rfl⟩
end SL.K44
namespace SL.K44
open PySem L2 DL SL
def law_tail (v_law_script : D) : O D :=
  ((O.cons (((((O.cons (O.ok (D.int 2)) (O.cons ((O.cons ((O.cons (O.ok v_law_script) (O.ok [])).bind (ownLen lens)) (O.cons (O.ok (D.int 6)) (O.ok []))).bind bi_min) (O.ok []))).bind bi_max).bind rg1).bind (mapO (fun v_law_k => (((O.cons (O.ok v_law_script) (O.cons (O.ok v_law_k) (O.ok []))).bind (l2 f_law_urn)).bind fun gs => ((m0 f_law_right) [] gs).bind fun r => O.ok r.1)))).bind fun ds => O.ok (D.lst ds)) (O.ok [])).bind bi_all)
theorem tail_ok (is : List Int) (h : is.length ≤ 63) : law_tail (.lst (is.map D.int)) = .ok (.bl true) := by
  unfold law_tail
  have e1 : ∃ n : Int, bi_max [.int 2, .int (if 6 < (((is.map D.int).length : Nat) : Int) then 6 else ((is.map D.int).length : Nat))] = .ok (.int n) ∧ 0 ≤ n ∧ n ≤ 6 := by
    refine ⟨_, rfl, ?_, ?_⟩ <;> split <;> split <;> omega
  obtain ⟨n, e1, n0, n1⟩ := e1
  simp only [bk, ck, ownLen_l, bi_min_i, e1, rg1_i (show -(2 ^ 62) ≤ n by omega) (show n < 2 ^ 62 by omega)]
  rw [mapO_ok (fun _ => .bl true) (fun d hd => ?hd) (by rw [rangeD_length]; omega)]
  case hd =>
    obtain ⟨i, hi⟩ := List.getElem?_of_mem hd
    obtain ⟨h1, rfl⟩ := rangeD_get hi
    obtain ⟨g, e2, b⟩ := urn_ok (is := is) (k := 0 + (i : Int)) (by omega) (by omega) h
    obtain ⟨g', e3⟩ := right_ok b (by decide)
    simp only [bk, ck, ap2, e2, mp0, e3]
  have e : (rangeD 0 n.toNat).map (fun _ => D.bl true) = (List.replicate n.toNat true).map D.bl := by
    rw [List.map_const', rangeD_length, List.map_replicate]
  rw [e]
  simp only [bk, ck]
  show op2 (bls? _) _ = _
  rw [bls?_map, op2k]
  simp
theorem law_eq (s : D) : f_law s = law_tail s := by kernel_rfl
theorem main (is : List Int) (h : is.length ≤ 63) : l1 f_law [D.lst (is.map D.int)] = .ok (.bl true) := by
  rw [ap1, law_eq]
  exact tail_ok is h
end SL.K44
namespace SL.K44
open PySem L2 DL SL
def topS (i : Nat) : Stmt := PySem.Challenge.pw_doughfolds_k44_rows_of_colours_by_sets.main.body.getD i (.Pass ⟨0, 0, 0, 0⟩)
abbrev s_f_is_integer : Stmt := topS 2
theorem sc_f_is_integer : FnScope ["value"] ["value"] (defScope s_f_is_integer) := ⟨rfl, rfl, rfl, by decide +kernel, rfl, by decide +kernel, by decide +kernel⟩
theorem ok_f_is_integer {P : Program} {w : World} {C : Kc} {mg : Str → Option Value} {base : Heap} {f : Addr} {fd : FuncData} (Fn : Fun C.K "is_integer" "is_integer" s_f_is_integer f fd) (T : Tx C mg)  : FnOk P w C.K mg base CX0 1 f fd ["value"] (spF C (l1 f_is_integer)) := by
  refine fx Fn sc_f_is_integer (fun _ _ h => l1_len h) (fun ds cdv A outer s H E hr => ar1 (S := fun ds => ⟨DL.start ["value"] ds, none⟩) (fun v_value => ?_) ds)
  exact k_retA (p_and (x_isiB T (p_var (j := 0) rfl) bb_int) (p_one (p_not (x_isiB T (p_var (j := 0) rfl) bb_bool))))
abbrev s_f_is_between : Stmt := topS 3
theorem sc_f_is_between : FnScope ["value", "least", "most"] ["value", "least", "most"] (defScope s_f_is_between) := ⟨rfl, rfl, rfl, by decide +kernel, rfl, by decide +kernel, by decide +kernel⟩
theorem ok_f_is_between {P : Program} {w : World} {C : Kc} {mg : Str → Option Value} {base : Heap} {f : Addr} {fd : FuncData} (Fn : Fun C.K "is_between" "is_between" s_f_is_between f fd) (T : Tx C mg) (c_is_integer : Cal P w C mg base 1 "is_integer" (spF C (l1 f_is_integer))) : FnOk P w C.K mg base CX0 2 f fd ["value", "least", "most"] (spF C (l3 f_is_between)) := by
  refine fx Fn sc_f_is_between (fun _ _ h => l3_len h) (fun ds cdv A outer s H E hr => ar3 (S := fun ds => ⟨DL.start ["value", "least", "most"] ds, none⟩) (fun v_value v_least v_most => ?_) ds)
  exact k_retA (p_and (p_call c_is_integer (a_cons (p_var (j := 0) rfl) a_nil)) (p_one (p_chain s_le s_le (p_var (j := 1) rfl) (p_var (j := 0) rfl) (p_var (j := 2) rfl))))
abbrev s_f_is_cell : Stmt := topS 17
theorem sc_f_is_cell : FnScope ["many", "value"] ["many", "value"] (defScope s_f_is_cell) := ⟨rfl, rfl, rfl, by decide +kernel, rfl, by decide +kernel, by decide +kernel⟩
theorem ok_f_is_cell {P : Program} {w : World} {C : Kc} {mg : Str → Option Value} {base : Heap} {f : Addr} {fd : FuncData} (Fn : Fun C.K "is_cell" "is_cell" s_f_is_cell f fd) (T : Tx C mg) (c_is_between : Cal P w C mg base 2 "is_between" (spF C (l3 f_is_between))) : FnOk P w C.K mg base CX0 3 f fd ["many", "value"] (spF C (l2 f_is_cell)) := by
  refine fx Fn sc_f_is_cell (fun _ _ h => l2_len h) (fun ds cdv A outer s H E hr => ar2 (S := fun ds => ⟨DL.start ["many", "value"] ds, none⟩) (fun v_many v_value => ?_) ds)
  refine k_ifr (t_w (w_or (t_not (t_val (x_isiB T (p_var (j := 1) rfl) bb_tuple))) (w_or (t_cmp s_ne (p_callB (T.bl "len") bb_len s_len (a_cons (p_var (j := 1) rfl) a_nil)) p_int) (w_or1 (t_not (t_val (x_isiB T (p_ix (p_var (j := 1) rfl) p_int) bb_bool))))))) ?_ ?_
  · exact k_retA p_bl
  exact k_retA (p_and (p_call c_is_between (a_cons (p_ix (p_var (j := 1) rfl) p_int) (a_cons p_int (a_cons (p_op s_sub (p_var (j := 0) rfl) p_int) a_nil)))) (p_one (p_call c_is_between (a_cons (p_ix (p_var (j := 1) rfl) p_int) (a_cons (p_ix (p_var (j := 1) rfl) p_int) (a_cons (p_op s_sub (p_var (j := 0) rfl) p_int) a_nil))))))
abbrev s_f_check_cells : Stmt := topS 18
theorem sc_f_check_cells : FnScope ["cells", "index", "cell"] ["cells"] (defScope s_f_check_cells) := ⟨rfl, rfl, rfl, by decide +kernel, rfl, by decide +kernel, by decide +kernel⟩
theorem ok_f_check_cells {P : Program} {w : World} {C : Kc} {mg : Str → Option Value} {base : Heap} {f : Addr} {fd : FuncData} (Fn : Fun C.K "check_cells" "check_cells" s_f_check_cells f fd) (T : Tx C mg) (g_MOST_CELLS : ∃ t, mg "MOST_CELLS" = some (.int 8 t)) (c_is_cell : Cal P w C mg base 3 "is_cell" (spF C (l2 f_is_cell))) : FnOk P w C.K mg base CX0 4 f fd ["cells"] (spF C (l1 f_check_cells)) := by
  refine fx Fn sc_f_check_cells (fun _ _ h => l1_len h) (fun ds cdv A outer s H E hr => ar1 (S := fun ds => ⟨DL.start ["cells", "index", "cell"] ds, none⟩) (fun v_cells => ?_) ds)
  refine k_ifr (t_w (w_or (t_not (t_val (x_isiB T (p_var (j := 0) rfl) bb_tuple))) (w_or1 (t_not (t_chain s_le s_le p_int (p_callB (T.bl "len") bb_len s_len (a_cons (p_var (j := 0) rfl) a_nil)) (x_MOST_CELLS g_MOST_CELLS)))))) ?_ ?_
  · exact k_raise
  refine k_for2 (T := Unit) (i := 1) (j := 2) (fun (s1 : Unit) => (⟨[some (.imm v_cells), none, none], none⟩ : DL.ST)) (i_enumT (T.bl "enumerate") (p_var (j := 0) rfl)) ⟨by repeat (first | exact DL.WkL.nil | refine DL.WkL.keep ?_ | refine DL.WkL.drop ?_), rfl⟩ (fun s1 v_index_2 v_cell_3 => ?_) (fun s1 => ?_)
  · refine k_ifr (t_not (t_val (p_call c_is_cell (a_cons (p_callB (T.bl "len") bb_len s_len (a_cons (p_var (j := 0) rfl) a_nil)) (a_cons (p_var (j := 2) rfl) a_nil))))) ?_ ?_
    · exact k_raise
    exact k_nilB ⟨by repeat (first | exact DL.WkL.nil | refine DL.WkL.keep ?_ | refine DL.WkL.drop ?_), rfl⟩
  exact k_nilF
abbrev s_Fold_init : Stmt := inClass (topS 21) 0
theorem sc_Fold_init : FnScope ["self", "cells"] ["self", "cells"] (defScope s_Fold_init) := ⟨rfl, rfl, rfl, by decide +kernel, rfl, by decide +kernel, by decide +kernel⟩
theorem ok_Fold_init {P : Program} {w : World} {C : Kc} {mg : Str → Option Value} {base : Heap} {f : Addr} {fd : FuncData} (Fn : Fun C.K "__init__" "Fold.__init__" s_Fold_init f fd) (T : Tx C mg) (c_check_cells : Cal P w C mg base 4 "check_cells" (spF C (l1 f_check_cells))) (h_Fold : C.has 1 = true) : FnOk P w C.K mg base CX0 5 f fd ["self", "cells"] (spI C 1 fun ds fs => l1 Fold_init ds = .ok fs) := by
  refine fxI Fn sc_Fold_init (fun _ _ h => congrArg (· + 1) (l1_len h)) (fun ds b cdv A outer s H E hr => ar1 (S := fun ds => ⟨DL.startB ["self", "cells"] ds, some (b, .ins 1 [])⟩) (fun v_cells => ?_) ds)
  refine k_expr (p_call c_check_cells (a_cons (p_var (j := 1) rfl) a_nil)) ?_
  refine k_fld (j := 0) ((T.fl (cs := [1]) (f := "cells")) 1 (by decide) h_Fold) (p_var (j := 1) rfl) rfl rfl (fun f1 => ?_)
  exact k_nilI rfl
abbrev s_f_check_fold : Stmt := topS 23
theorem sc_f_check_fold : FnScope ["fold"] ["fold"] (defScope s_f_check_fold) := ⟨rfl, rfl, rfl, by decide +kernel, rfl, by decide +kernel, by decide +kernel⟩
theorem ok_f_check_fold {P : Program} {w : World} {C : Kc} {mg : Str → Option Value} {base : Heap} {f : Addr} {fd : FuncData} (Fn : Fun C.K "check_fold" "check_fold" s_f_check_fold f fd) (T : Tx C mg) (h_Fold : C.has 1 = true) : FnOk P w C.K mg base CX0 1 f fd ["fold"] (spF C (l1 f_check_fold)) := by
  refine fx Fn sc_f_check_fold (fun _ _ h => l1_len h) (fun ds cdv A outer s H E hr => ar1 (S := fun ds => ⟨DL.start ["fold"] ds, none⟩) (fun v_fold => ?_) ds)
  refine k_ifr (t_not (t_val (x_isiC T h_Fold (p_var (j := 0) rfl)))) ?_ ?_
  · exact k_raise
  exact k_nilF
abbrev s_Fold_len : Stmt := inClass (topS 21) 4
theorem sc_Fold_len : FnScope ["self"] ["self"] (defScope s_Fold_len) := ⟨rfl, rfl, rfl, by decide +kernel, rfl, by decide +kernel, by decide +kernel⟩
theorem ok_Fold_len {P : Program} {w : World} {C : Kc} {mg : Str → Option Value} {base : Heap} {f : Addr} {fd : FuncData} (Fn : Fun C.K "__len__" "Fold.__len__" s_Fold_len f fd) (T : Tx C mg)  : FnOk P w C.K mg base CX0 1 f fd ["self"] (spF C (l1 Fold_len)) := by
  refine fx Fn sc_Fold_len (fun _ _ h => l1_len h) (fun ds cdv A outer s H E hr => ar1 (S := fun ds => ⟨DL.start ["self"] ds, none⟩) (fun v_self => ?_) ds)
  exact k_retA (p_callB (T.bl "len") bb_len s_len (a_cons (p_fld (cs := [1, 5]) T.fl (p_var (j := 0) rfl)) a_nil))
abbrev s_f_are_small : Stmt := topS 4
theorem sc_f_are_small : FnScope ["value", "least", "most", "sign"] ["value", "least", "most"] (defScope s_f_are_small) := ⟨rfl, rfl, rfl, by decide +kernel, rfl, by decide +kernel, by decide +kernel⟩
theorem ok_f_are_small {P : Program} {w : World} {C : Kc} {mg : Str → Option Value} {base : Heap} {f : Addr} {fd : FuncData} (Fn : Fun C.K "are_small" "are_small" s_f_are_small f fd) (T : Tx C mg)  : FnOk P w C.K mg base CX0 1 f fd ["value", "least", "most"] (spF C (l3 f_are_small)) := by
  refine fx Fn sc_f_are_small (fun _ _ h => l3_len h) (fun ds cdv A outer s H E hr => ar3 (S := fun ds => ⟨DL.start ["value", "least", "most", "sign"] ds, none⟩) (fun v_value v_least v_most => ?_) ds)
  refine k_ifr (t_w (w_or (t_not (t_val (x_isiB T (p_var (j := 0) rfl) bb_str))) (w_or1 (t_not (t_chain s_le s_le (p_var (j := 1) rfl) (p_callB (T.bl "len") bb_len s_len (a_cons (p_var (j := 0) rfl) a_nil)) (p_var (j := 2) rfl)))))) ?_ ?_
  · exact k_retA p_bl
  exact k_retA (p_callB (T.bl "all") bb_all s_all (a_cons (p_do (o_lc (fun _ => blkOk_by (own := [("sign", 3)]) (by first | rfl | decide +kernel)) (lc_map (j := 3) (own := [("sign", 3)]) (i_val (p_var (j := 0) rfl)) (fun v_sign => (p_chain s_le s_le p_str (p_var (j := 3) rfl) p_str))))) a_nil))
abbrev s_f_check_colours : Stmt := topS 26
theorem sc_f_check_colours : FnScope ["fold", "colours"] ["fold", "colours"] (defScope s_f_check_colours) := ⟨rfl, rfl, rfl, by decide +kernel, rfl, by decide +kernel, by decide +kernel⟩
theorem ok_f_check_colours {P : Program} {w : World} {C : Kc} {mg : Str → Option Value} {base : Heap} {f : Addr} {fd : FuncData} (Fn : Fun C.K "check_colours" "check_colours" s_f_check_colours f fd) (T : Tx C mg) (t_Fold_len : C.has 1 = true → Met P w C mg base 1 1 "__len__" (spF C (l1 Fold_len))) (t_Watch_len : C.has 4 = true → Met P w C mg base 1 4 "__len__" (spF C (l1 Watch_len))) (c_are_small : Cal P w C mg base 1 "are_small" (spF C (l3 f_are_small))) : FnOk P w C.K mg base CX0 3 f fd ["fold", "colours"] (spF C (l2 f_check_colours)) := by
  refine fx Fn sc_f_check_colours (fun _ _ h => l2_len h) (fun ds cdv A outer s H E hr => ar2 (S := fun ds => ⟨DL.start ["fold", "colours"] ds, none⟩) (fun v_fold v_colours => ?_) ds)
  refine k_ifr (t_not (t_val (p_call c_are_small (a_cons (p_var (j := 1) rfl) (a_cons (p_callB (T.bl "len") bb_len (s_olen (lenF_lens t_Fold_len t_Watch_len)) (a_cons (p_var (j := 0) rfl) a_nil)) (a_cons (p_callB (T.bl "len") bb_len (s_olen (lenF_lens t_Fold_len t_Watch_len)) (a_cons (p_var (j := 0) rfl) a_nil)) a_nil)))))) ?_ ?_
  · exact k_raise
  exact k_nilF
abbrev s_f_check_shown : Stmt := topS 32
theorem sc_f_check_shown : FnScope ["fold", "colours"] ["fold", "colours"] (defScope s_f_check_shown) := ⟨rfl, rfl, rfl, by decide +kernel, rfl, by decide +kernel, by decide +kernel⟩
theorem ok_f_check_shown {P : Program} {w : World} {C : Kc} {mg : Str → Option Value} {base : Heap} {f : Addr} {fd : FuncData} (Fn : Fun C.K "check_shown" "check_shown" s_f_check_shown f fd) (T : Tx C mg) (c_check_fold : Cal P w C mg base 1 "check_fold" (spF C (l1 f_check_fold))) (c_check_colours : Cal P w C mg base 3 "check_colours" (spF C (l2 f_check_colours))) : FnOk P w C.K mg base CX0 4 f fd ["fold", "colours"] (spF C (l2 f_check_shown)) := by
  refine fx Fn sc_f_check_shown (fun _ _ h => l2_len h) (fun ds cdv A outer s H E hr => ar2 (S := fun ds => ⟨DL.start ["fold", "colours"] ds, none⟩) (fun v_fold v_colours => ?_) ds)
  refine k_expr (p_call c_check_fold (a_cons (p_var (j := 0) rfl) a_nil)) ?_
  refine k_expr (p_call c_check_colours (a_cons (p_var (j := 0) rfl) (a_cons (p_var (j := 1) rfl) a_nil))) ?_
  exact k_nilF
abbrev s_f_cells_of_colour : Stmt := topS 28
theorem sc_f_cells_of_colour : FnScope ["colours", "cells", "sign", "cell"] ["colours", "cells", "sign"] (defScope s_f_cells_of_colour) := ⟨rfl, rfl, rfl, by decide +kernel, rfl, by decide +kernel, by decide +kernel⟩
theorem ok_f_cells_of_colour {P : Program} {w : World} {C : Kc} {mg : Str → Option Value} {base : Heap} {f : Addr} {fd : FuncData} (Fn : Fun C.K "cells_of_colour" "cells_of_colour" s_f_cells_of_colour f fd) (T : Tx C mg)  : FnOk P w C.K mg base CX0 1 f fd ["colours", "cells", "sign"] (spF C (l3 f_cells_of_colour)) := by
  refine fx Fn sc_f_cells_of_colour (fun _ _ h => l3_len h) (fun ds cdv A outer s H E hr => ar3 (S := fun ds => ⟨DL.start ["colours", "cells", "sign", "cell"] ds, none⟩) (fun v_colours v_cells v_sign => ?_) ds)
  exact k_retA (p_callTy (T.bl "tuple") bb_tuple s_tuple (a_cons (p_do (o_lc (fun _ => blkOk_by (own := [("cell", 3)]) (by first | rfl | decide +kernel)) (lc_fil (j := 3) (own := [("cell", 3)]) (i_val (p_do (o_sortSet (T.bl "sorted") (T.bl "set") (p_var (j := 1) rfl)))) (fun v_cell => (t_cmp s_eq (p_ix (p_var (j := 0) rfl) (p_var (j := 3) rfl)) (p_var (j := 2) rfl))) (fun v_cell => (p_var (j := 3) rfl))))) a_nil))
abbrev s_f_opened : Stmt := topS 29
theorem sc_f_opened : FnScope ["fold", "colours", "sign"] ["fold", "colours", "sign"] (defScope s_f_opened) := ⟨rfl, rfl, rfl, by decide +kernel, rfl, by decide +kernel, by decide +kernel⟩
theorem ok_f_opened {P : Program} {w : World} {C : Kc} {mg : Str → Option Value} {base : Heap} {f : Addr} {fd : FuncData} (Fn : Fun C.K "opened" "opened" s_f_opened f fd) (T : Tx C mg) (t_Fold_len : C.has 1 = true → Met P w C mg base 1 1 "__len__" (spF C (l1 Fold_len))) (t_Watch_len : C.has 4 = true → Met P w C mg base 1 4 "__len__" (spF C (l1 Watch_len))) (c_cells_of_colour : Cal P w C mg base 1 "cells_of_colour" (spF C (l3 f_cells_of_colour))) : FnOk P w C.K mg base CX0 3 f fd ["fold", "colours", "sign"] (spF C (l3 f_opened)) := by
  refine fx Fn sc_f_opened (fun _ _ h => l3_len h) (fun ds cdv A outer s H E hr => ar3 (S := fun ds => ⟨DL.start ["fold", "colours", "sign"] ds, none⟩) (fun v_fold v_colours v_sign => ?_) ds)
  exact k_retA (p_call c_cells_of_colour (a_cons (p_var (j := 1) rfl) (a_cons (p_do (o_listRg1 (T.bl "list") (T.bl "range") (p_callB (T.bl "len") bb_len (s_olen (lenF_lens t_Fold_len t_Watch_len)) (a_cons (p_var (j := 0) rfl) a_nil)))) (a_cons (p_var (j := 2) rfl) a_nil))))
abbrev s_f_run_of : Stmt := topS 22
theorem sc_f_run_of : FnScope ["fold", "cell"] ["fold", "cell"] (defScope s_f_run_of) := ⟨rfl, rfl, rfl, by decide +kernel, rfl, by decide +kernel, by decide +kernel⟩
theorem ok_f_run_of {P : Program} {w : World} {C : Kc} {mg : Str → Option Value} {base : Heap} {f : Addr} {fd : FuncData} (Fn : Fun C.K "run_of" "run_of" s_f_run_of f fd) (T : Tx C mg)  : FnOk P w C.K mg base CX0 1 f fd ["fold", "cell"] (spFN C (l2 f_run_of)) := by
  refine fxN Fn sc_f_run_of (fun _ _ h => l2_len h) (fun ds cdv A outer s H E hr => ar2 (S := fun ds => ⟨DL.start ["fold", "cell"] ds, none⟩) (fun v_fold v_cell => ?_) ds)
  exact k_retN (o_listRg T (p_ix (p_ix (p_fld (cs := [1, 5]) T.fl (p_var (j := 0) rfl)) (p_var (j := 1) rfl)) p_int) (p_op s_add (p_ix (p_ix (p_fld (cs := [1, 5]) T.fl (p_var (j := 0) rfl)) (p_var (j := 1) rfl)) p_int) p_int))
abbrev s_f_led_to : Stmt := topS 30
theorem sc_f_led_to : FnScope ["fold", "colours", "cells", "sign", "found", "cell"] ["fold", "colours", "cells", "sign"] (defScope s_f_led_to) := ⟨rfl, rfl, rfl, by decide +kernel, rfl, by decide +kernel, by decide +kernel⟩
theorem ok_f_led_to {P : Program} {w : World} {C : Kc} {mg : Str → Option Value} {base : Heap} {f : Addr} {fd : FuncData} (Fn : Fun C.K "led_to" "led_to" s_f_led_to f fd) (T : Tx C mg) (c_run_of : Cal P w C mg base 1 "run_of" (spFN C (l2 f_run_of))) (c_cells_of_colour : Cal P w C mg base 1 "cells_of_colour" (spF C (l3 f_cells_of_colour))) : FnOk P w C.K mg base CX0 2 f fd ["fold", "colours", "cells", "sign"] (spF C (l4 f_led_to)) := by
  refine fx Fn sc_f_led_to (fun _ _ h => l4_len h) (fun ds cdv A outer s H E hr => ar4 (S := fun ds => ⟨DL.start ["fold", "colours", "cells", "sign", "found", "cell"] ds, none⟩) (fun v_fold v_colours v_cells v_sign => ?_) ds)
  refine k_setO (j := 4) (o_lst a_nil) (fun v_found_1 => ?_)
  refine k_for1 (T := List D) (j := 5) (fun (s2 : List D) => (⟨[some (.imm v_fold), some (.imm v_colours), some (.imm v_cells), some (.imm v_sign), some (.own (.lst s2)), none], none⟩ : DL.ST)) (i_val (p_var (j := 2) rfl)) ⟨by repeat (first | exact DL.WkL.nil | refine DL.WkL.keep ?_ | refine DL.WkL.drop ?_), rfl⟩ (fun s2 v_cell_3 => ?_) (fun s2 => ?_)
  · refine k_extend (j := 4) (o_call c_run_of (a_cons (p_var (j := 0) rfl) (a_cons (p_var (j := 5) rfl) a_nil))) rfl (fun a4 => ?_)
    exact k_nilB ⟨by repeat (first | exact DL.WkL.nil | refine DL.WkL.keep ?_ | refine DL.WkL.drop ?_), rfl⟩
  refine k_fz (j := 4) rfl ?_
  exact k_retA (p_call c_cells_of_colour (a_cons (p_var (j := 1) rfl) (a_cons (p_var (j := 4) rfl) (a_cons (p_var (j := 3) rfl) a_nil))))
abbrev s_f_cells_behind : Stmt := topS 31
theorem sc_f_cells_behind : FnScope ["fold", "colours", "word", "found", "sign"] ["fold", "colours", "word"] (defScope s_f_cells_behind) := ⟨rfl, rfl, rfl, by decide +kernel, rfl, by decide +kernel, by decide +kernel⟩
theorem ok_f_cells_behind {P : Program} {w : World} {C : Kc} {mg : Str → Option Value} {base : Heap} {f : Addr} {fd : FuncData} (Fn : Fun C.K "cells_behind" "cells_behind" s_f_cells_behind f fd) (T : Tx C mg) (c_opened : Cal P w C mg base 3 "opened" (spF C (l3 f_opened))) (c_led_to : Cal P w C mg base 2 "led_to" (spF C (l4 f_led_to))) : FnOk P w C.K mg base CX0 4 f fd ["fold", "colours", "word"] (spF C (l3 f_cells_behind)) := by
  refine fx Fn sc_f_cells_behind (fun _ _ h => l3_len h) (fun ds cdv A outer s H E hr => ar3 (S := fun ds => ⟨DL.start ["fold", "colours", "word", "found", "sign"] ds, none⟩) (fun v_fold v_colours v_word => ?_) ds)
  refine k_set (j := 3) (p_call c_opened (a_cons (p_var (j := 0) rfl) (a_cons (p_var (j := 1) rfl) (a_cons (p_ix (p_var (j := 2) rfl) p_int) a_nil)))) (fun v_found_1 => ?_)
  refine k_for1 (T := D) (j := 4) (fun (s2 : D) => (⟨[some (.imm v_fold), some (.imm v_colours), some (.imm v_word), some (.imm s2), none], none⟩ : DL.ST)) (i_val (p_slice (p_var (j := 2) rfl) (x_some p_int) x_none)) ⟨by repeat (first | exact DL.WkL.nil | refine DL.WkL.keep ?_ | refine DL.WkL.drop ?_), rfl⟩ (fun s2 v_sign_3 => ?_) (fun s2 => ?_)
  · refine k_set (j := 3) (p_call c_led_to (a_cons (p_var (j := 0) rfl) (a_cons (p_var (j := 1) rfl) (a_cons (p_var (j := 3) rfl) (a_cons (p_var (j := 4) rfl) a_nil))))) (fun v_found_4 => ?_)
    exact k_nilB ⟨by repeat (first | exact DL.WkL.nil | refine DL.WkL.keep ?_ | refine DL.WkL.drop ?_), rfl⟩
  exact k_retA (p_var (j := 3) rfl)
abbrev s_f_is_shown : Stmt := topS 33
theorem sc_f_is_shown : FnScope ["fold", "colours", "word"] ["fold", "colours", "word"] (defScope s_f_is_shown) := ⟨rfl, rfl, rfl, by decide +kernel, rfl, by decide +kernel, by decide +kernel⟩
theorem ok_f_is_shown {P : Program} {w : World} {C : Kc} {mg : Str → Option Value} {base : Heap} {f : Addr} {fd : FuncData} (Fn : Fun C.K "is_shown" "is_shown" s_f_is_shown f fd) (T : Tx C mg) (c_check_shown : Cal P w C mg base 4 "check_shown" (spF C (l2 f_check_shown))) (g_MOST_ROW : ∃ t, mg "MOST_ROW" = some (.int 200 t)) (c_are_small : Cal P w C mg base 1 "are_small" (spF C (l3 f_are_small))) (c_cells_behind : Cal P w C mg base 4 "cells_behind" (spF C (l3 f_cells_behind))) : FnOk P w C.K mg base CX0 5 f fd ["fold", "colours", "word"] (spF C (l3 f_is_shown)) := by
  refine fx Fn sc_f_is_shown (fun _ _ h => l3_len h) (fun ds cdv A outer s H E hr => ar3 (S := fun ds => ⟨DL.start ["fold", "colours", "word"] ds, none⟩) (fun v_fold v_colours v_word => ?_) ds)
  refine k_expr (p_call c_check_shown (a_cons (p_var (j := 0) rfl) (a_cons (p_var (j := 1) rfl) a_nil))) ?_
  refine k_ifr (t_not (t_val (p_call c_are_small (a_cons (p_var (j := 2) rfl) (a_cons p_int (a_cons (x_MOST_ROW g_MOST_ROW) a_nil)))))) ?_ ?_
  · exact k_raise
  exact k_retA (p_cmp s_ne (p_call c_cells_behind (a_cons (p_var (j := 0) rfl) (a_cons (p_var (j := 1) rfl) (a_cons (p_var (j := 2) rfl) a_nil)))) (p_tup a_nil))
abbrev s_f_law_urn : Stmt := topS 35
theorem sc_f_law_urn : FnScope ["_law_script", "_law_k", "_law_near", "_law_mixed", "_law_at"] ["_law_script", "_law_k"] (defScope s_f_law_urn) := ⟨rfl, rfl, rfl, by decide +kernel, rfl, by decide +kernel, by decide +kernel⟩
theorem ok_f_law_urn {P : Program} {w : World} {C : Kc} {mg : Str → Option Value} {base : Heap} {f : Addr} {fd : FuncData} (Fn : Fun C.K "_law_urn" "_law_urn" s_f_law_urn f fd) (T : Tx C mg) (t_Fold_len : C.has 1 = true → Met P w C mg base 1 1 "__len__" (spF C (l1 Fold_len))) (t_Watch_len : C.has 4 = true → Met P w C mg base 1 4 "__len__" (spF C (l1 Watch_len))) : FnOk P w C.K mg base CX0 3 f fd ["_law_script", "_law_k"] (spFN C (l2 f_law_urn)) := by
  refine fxN Fn sc_f_law_urn (fun _ _ h => l2_len h) (fun ds cdv A outer s H E hr => ar2 (S := fun ds => ⟨DL.start ["_law_script", "_law_k", "_law_near", "_law_mixed", "_law_at"] ds, none⟩) (fun v_law_script v_law_k => ?_) ds)
  first | refine k_par2 (i := 2) (j := 3) (v_e (p_ifx (t_cmp s_lt (p_var (j := 1) rfl) (p_callB (T.bl "len") bb_len (s_olen (lenF_lens t_Fold_len t_Watch_len)) (a_cons (p_var (j := 0) rfl) a_nil))) (p_callTy (T.bl "int") bb_int s_int (a_cons (p_ix (p_var (j := 0) rfl) (p_var (j := 1) rfl)) a_nil)) p_int)) (v_e (p_op s_add p_int (p_op s_mul p_int (p_var (j := 1) rfl)))) (fun v_law_near_1 v_law_mixed_2 => ?_) | refine k_parT2 (i := 2) (j := 3) (v_e (p_ifx (t_cmp s_lt (p_var (j := 1) rfl) (p_callB (T.bl "len") bb_len (s_olen (lenF_lens t_Fold_len t_Watch_len)) (a_cons (p_var (j := 0) rfl) a_nil))) (p_callTy (T.bl "int") bb_int s_int (a_cons (p_ix (p_var (j := 0) rfl) (p_var (j := 1) rfl)) a_nil)) p_int)) (v_e (p_op s_add p_int (p_op s_mul p_int (p_var (j := 1) rfl)))) (fun v_law_near_1 v_law_mixed_2 => ?_)
  refine k_for1 (T := D) (j := 4) (fun (s3 : D) => (⟨[some (.imm v_law_script), some (.imm v_law_k), some (.imm v_law_near_1), some (.imm s3), none], none⟩ : DL.ST)) (i_range1 (T.bl "range") (p_callB (T.bl "min") bb_min s_min (a_cons (p_callB (T.bl "len") bb_len (s_olen (lenF_lens t_Fold_len t_Watch_len)) (a_cons (p_var (j := 0) rfl) a_nil)) (a_cons p_int a_nil)))) ⟨by repeat (first | exact DL.WkL.nil | refine DL.WkL.keep ?_ | refine DL.WkL.drop ?_), rfl⟩ (fun s3 v_law_at_4 => ?_) (fun s3 => ?_)
  · refine k_set (j := 3) (p_op s_mod (p_callTy (T.bl "int") bb_int s_int (a_cons (p_op s_add (p_op s_add (p_op s_mul (p_var (j := 3) rfl) p_int) (p_op s_mod (p_callTy (T.bl "int") bb_int s_int (a_cons (p_ix (p_var (j := 0) rfl) (p_var (j := 4) rfl)) a_nil)) p_int)) (p_op s_mul p_int (p_var (j := 4) rfl))) a_nil)) p_int) (fun v_law_mixed_5 => ?_)
    exact k_nilB ⟨by repeat (first | exact DL.WkL.nil | refine DL.WkL.keep ?_ | refine DL.WkL.drop ?_), rfl⟩
  refine k_set (j := 3) (p_op s_mod (p_callTy (T.bl "int") bb_int s_int (a_cons (p_op s_add (p_var (j := 3) rfl) (p_op s_mul p_int (p_op s_mod (p_callTy (T.bl "int") bb_int s_int (a_cons (p_var (j := 2) rfl) a_nil)) p_int))) a_nil)) p_int) (fun v_law_mixed_6 => ?_)
  exact k_retN (o_lst (a_cons (p_ifx (t_w (w_or (t_cmp s_lt (p_var (j := 2) rfl) p_int) (w_or1 (t_cmp s_ge (p_var (j := 2) rfl) (p_op s_pow p_int p_int))))) (p_callB (T.bl "abs") bb_abs s_abs (a_cons (p_var (j := 2) rfl) a_nil)) p_int) (a_cons (p_var (j := 3) rfl) (a_cons p_int a_nil))))
abbrev s_f_law_take : Stmt := topS 36
theorem sc_f_law_take : FnScope ["_law_urn_here", "_law_wide", "_law_digit", "_law_held"] ["_law_urn_here", "_law_wide"] (defScope s_f_law_take) := ⟨rfl, rfl, rfl, by decide +kernel, rfl, by decide +kernel, by decide +kernel⟩
theorem ok_f_law_take {P : Program} {w : World} {C : Kc} {mg : Str → Option Value} {base : Heap} {f : Addr} {fd : FuncData} (Fn : Fun C.K "_law_take" "_law_take" s_f_law_take f fd) (T : Tx C mg)  : FnOk P w C.K mg base CX0 1 f fd ["_law_urn_here", "_law_wide"] (spFB C (m1 f_law_take)) := by
  refine fxB Fn sc_f_law_take (fun _ _ _ h => congrArg (· + 1) (m1_len h)) (fun b cdv A outer s H E hr => am1 (S := fun ds => DL.startB ["_law_urn_here", "_law_wide", "_law_digit", "_law_held"] ds) (fun v_law_wide => ?_))
  refine m_bagSet (j := 0) (me_op s_add (e_bagIx (j := 0) rfl (fun g => p_int)) (e_up fun g => p_int)) rfl (fun g => p_int) ?_
  refine m_ifr (mt_cmp s_gt (e_bagIx (j := 0) rfl (fun g => p_int)) (e_up fun g => p_int)) ?_ ?_
  · refine m_set (j := 2) (me_op s_mod (me_callTy (T.bl "int") bb_int s_int (ma_cons (e_bagIx (j := 0) rfl (fun g => p_int)) (a_up fun g => a_nil))) (e_up fun g => (p_var (j := 1) rfl))) (fun v_law_digit_1 => ?_)
    refine m_bagSet (j := 0) (me_op s_fdiv (e_bagIx (j := 0) rfl (fun g => p_int)) (e_up fun g => (p_var (j := 1) rfl))) rfl (fun g => p_int) ?_
    exact m_retA (e_up fun g => (p_var (j := 2) rfl))
  refine m_set (j := 3) (me_callTy (T.bl "int") bb_int s_int (ma_cons (me_op s_add (e_bagIx (j := 0) rfl (fun g => p_int)) (me_op s_mul (e_up fun g => p_int) (e_bagIx (j := 0) rfl (fun g => p_int)))) (a_up fun g => a_nil))) (fun v_law_held_3 => ?_)
  refine m_bagSet (j := 0) (me_op s_mod (me_callTy (T.bl "int") bb_int s_int (ma_cons (me_op s_add (e_up fun g => (p_op s_pow (p_var (j := 3) rfl) p_int)) (me_op s_mul (e_up fun g => p_int) (e_bagIx (j := 0) rfl (fun g => p_int)))) (a_up fun g => a_nil))) (e_up fun g => p_int)) rfl (fun g => p_int) ?_
  exact m_retA (me_op s_mod (me_callTy (T.bl "int") bb_int s_int (ma_cons (me_op s_fdiv (e_bagIx (j := 0) rfl (fun g => p_int)) (e_up fun g => p_int)) (a_up fun g => a_nil))) (e_up fun g => (p_var (j := 1) rfl)))
abbrev s_f_law_dough : Stmt := topS 37
theorem sc_f_law_dough : FnScope ["_law_urn_here", "_law_most", "_law_size", "_law_is_short", "_law_found", "_law_k", "_law_one", "_law_two"] ["_law_urn_here", "_law_most"] (defScope s_f_law_dough) := ⟨rfl, rfl, rfl, by decide +kernel, rfl, by decide +kernel, by decide +kernel⟩
theorem ok_f_law_dough {P : Program} {w : World} {C : Kc} {mg : Str → Option Value} {base : Heap} {f : Addr} {fd : FuncData} (Fn : Fun C.K "_law_dough" "_law_dough" s_f_law_dough f fd) (T : Tx C mg) (c_law_take : Cal P w C mg base 1 "_law_take" (spFB C (m1 f_law_take))) : FnOk P w C.K mg base CX0 2 f fd ["_law_urn_here", "_law_most"] (spFB C (m1 f_law_dough)) := by
  refine fxB Fn sc_f_law_dough (fun _ _ _ h => congrArg (· + 1) (m1_len h)) (fun b cdv A outer s H E hr => am1 (S := fun ds => DL.startB ["_law_urn_here", "_law_most", "_law_size", "_law_is_short", "_law_found", "_law_k", "_law_one", "_law_two"] ds) (fun v_law_most => ?_))
  first | refine m_par3 (i := 2) (j := 3) (l := 4) (vm_e (me_op s_add (e_up fun g => p_int) (me_bag (j := 0) c_law_take rfl (a_up fun g => (a_cons (p_op s_sub (p_var (j := 1) rfl) p_int) a_nil))))) (vm_e (me_cmp s_eq (me_bag (j := 0) c_law_take rfl (a_up fun g => (a_cons p_int a_nil))) (e_up fun g => p_int))) (vm_o (o_up fun g => (o_lst a_nil))) (fun v_law_size_1 v_law_is_short_2 v_law_found_3 => ?_) | refine m_parT3 (i := 2) (j := 3) (l := 4) (vm_e (me_op s_add (e_up fun g => p_int) (me_bag (j := 0) c_law_take rfl (a_up fun g => (a_cons (p_op s_sub (p_var (j := 1) rfl) p_int) a_nil))))) (vm_e (me_cmp s_eq (me_bag (j := 0) c_law_take rfl (a_up fun g => (a_cons p_int a_nil))) (e_up fun g => p_int))) (vm_o (o_up fun g => (o_lst a_nil))) (fun v_law_size_1 v_law_is_short_2 v_law_found_3 => ?_)
  refine m_for1 (T := List D) (j := 5) (fun (s4 : List D) => [some .bag, some (.imm v_law_most), some (.imm v_law_size_1), some (.imm v_law_is_short_2), some (.own (.lst s4)), none, none, none]) (i_up fun g => (i_range1 (T.bl "range") (p_var (j := 2) rfl))) (by repeat (first | exact DL.WkL.nil | refine DL.WkL.keep ?_ | refine DL.WkL.drop ?_)) (fun s4 v_law_k_5 => ?_) (fun s4 => ?_)
  · first | refine m_par2 (i := 6) (j := 7) (vm_e (me_bag (j := 0) c_law_take rfl (a_up fun g => (a_cons (p_var (j := 2) rfl) a_nil)))) (vm_e (me_bag (j := 0) c_law_take rfl (a_up fun g => (a_cons (p_var (j := 2) rfl) a_nil)))) (fun v_law_one_6 v_law_two_7 => ?_) | refine m_parT2 (i := 6) (j := 7) (vm_e (me_bag (j := 0) c_law_take rfl (a_up fun g => (a_cons (p_var (j := 2) rfl) a_nil)))) (vm_e (me_bag (j := 0) c_law_take rfl (a_up fun g => (a_cons (p_var (j := 2) rfl) a_nil)))) (fun v_law_one_6 v_law_two_7 => ?_)
    refine m_ifj (T := D) (fun j9 => [some .bag, some (.imm v_law_most), some (.imm v_law_size_1), some (.imm v_law_is_short_2), some (.own (.lst s4)), some (.imm v_law_k_5), some (.imm v_law_one_6), some (.imm j9)]) (t_up fun g => (t_val (p_var (j := 3) rfl))) ?_ ?_ (fun j9 => ?_)
    · refine m_set (j := 7) (e_up fun g => (p_callB (T.bl "min") bb_min s_min (a_cons (p_op s_add (p_var (j := 6) rfl) (p_op s_mod (p_callTy (T.bl "int") bb_int s_int (a_cons (p_var (j := 7) rfl) a_nil)) p_int)) (a_cons (p_op s_sub (p_var (j := 2) rfl) p_int) a_nil)))) (fun v_law_two_8 => ?_)
      exact m_nilJ (by repeat (first | exact DL.WkL.nil | refine DL.WkL.keep ?_ | refine DL.WkL.drop ?_))
    · exact m_nilJ (by repeat (first | exact DL.WkL.nil | refine DL.WkL.keep ?_ | refine DL.WkL.drop ?_))
    refine m_append (j := 4) (me_tup (ma_cons (e_up fun g => (p_callB (T.bl "min") bb_min s_min (a_cons (p_var (j := 6) rfl) (a_cons (p_var (j := 7) rfl) a_nil)))) (ma_cons (e_up fun g => (p_callB (T.bl "max") bb_max s_max (a_cons (p_var (j := 6) rfl) (a_cons (p_var (j := 7) rfl) a_nil)))) (ma_cons (me_cmp s_eq (me_bag (j := 0) c_law_take rfl (a_up fun g => (a_cons p_int a_nil))) (e_up fun g => p_int)) (a_up fun g => a_nil))))) rfl (fun a10 => ?_)
    exact m_nilB (by repeat (first | exact DL.WkL.nil | refine DL.WkL.keep ?_ | refine DL.WkL.drop ?_))
  refine m_fz (j := 4) rfl ?_
  exact m_retA (e_up fun g => (p_callTy (T.bl "tuple") bb_tuple s_tuple (a_cons (p_var (j := 4) rfl) a_nil)))
abbrev s_f_law_hue : Stmt := topS 38
theorem sc_f_law_hue : FnScope ["_law_urn_here", "_law_size", "_law_letters", "_law_some", "_law_k"] ["_law_urn_here", "_law_size"] (defScope s_f_law_hue) := ⟨rfl, rfl, rfl, by decide +kernel, rfl, by decide +kernel, by decide +kernel⟩
theorem ok_f_law_hue {P : Program} {w : World} {C : Kc} {mg : Str → Option Value} {base : Heap} {f : Addr} {fd : FuncData} (Fn : Fun C.K "_law_hue" "_law_hue" s_f_law_hue f fd) (T : Tx C mg) (c_law_take : Cal P w C mg base 1 "_law_take" (spFB C (m1 f_law_take))) (t_Fold_len : C.has 1 = true → Met P w C mg base 1 1 "__len__" (spF C (l1 Fold_len))) (t_Watch_len : C.has 4 = true → Met P w C mg base 1 4 "__len__" (spF C (l1 Watch_len))) : FnOk P w C.K mg base CX0 3 f fd ["_law_urn_here", "_law_size"] (spFB C (m1 f_law_hue)) := by
  refine fxB Fn sc_f_law_hue (fun _ _ _ h => congrArg (· + 1) (m1_len h)) (fun b cdv A outer s H E hr => am1 (S := fun ds => DL.startB ["_law_urn_here", "_law_size", "_law_letters", "_law_some", "_law_k"] ds) (fun v_law_size => ?_))
  first | refine m_par2 (i := 2) (j := 3) (vm_e (e_up fun g => p_str)) (vm_o (o_up fun g => (o_lst a_nil))) (fun v_law_letters_1 v_law_some_2 => ?_) | refine m_parT2 (i := 2) (j := 3) (vm_e (e_up fun g => p_str)) (vm_o (o_up fun g => (o_lst a_nil))) (fun v_law_letters_1 v_law_some_2 => ?_)
  refine m_for1 (T := List D) (j := 4) (fun (s3 : List D) => [some .bag, some (.imm v_law_size), some (.imm v_law_letters_1), some (.own (.lst s3)), none]) (im_range1 (T.bl "range") (me_ix (e_up fun g => (p_lst (a_cons p_int (a_cons p_int (a_cons p_int (a_cons p_int (a_cons p_int a_nil))))))) (me_bag (j := 0) c_law_take rfl (a_up fun g => (a_cons p_int a_nil))))) (by repeat (first | exact DL.WkL.nil | refine DL.WkL.keep ?_ | refine DL.WkL.drop ?_)) (fun s3 v_law_k_4 => ?_) (fun s3 => ?_)
  · refine m_append (j := 3) (me_ix (e_up fun g => (p_var (j := 2) rfl)) (me_bag (j := 0) c_law_take rfl (a_up fun g => (a_cons p_int a_nil)))) rfl (fun a5 => ?_)
    exact m_nilB (by repeat (first | exact DL.WkL.nil | refine DL.WkL.keep ?_ | refine DL.WkL.drop ?_))
  refine m_fz (j := 3) rfl ?_
  exact m_retA (me_join (e_up fun g => p_str) (me_do (mo_lc (fun _ => blkOk_by (own := [("_law_k", 4)]) (by first | rfl | decide +kernel)) (lm_map (j := 4) (own := [("_law_k", 4)]) (i_up fun g => (i_range1 (T.bl "range") (p_var (j := 1) rfl))) (fun v_law_k => (me_ix (e_up fun g => (p_var (j := 3) rfl)) (me_bag (j := 0) c_law_take rfl (a_up fun g => (a_cons (p_callB (T.bl "len") bb_len (s_olen (lenF_lens t_Fold_len t_Watch_len)) (a_cons (p_var (j := 3) rfl) a_nil)) a_nil)))))))))
abbrev s_f_law_path : Stmt := topS 39
theorem sc_f_law_path : FnScope ["_law_urn_here", "_law_dough_here", "_law_size", "_law_found", "_law_k", "_law_first", "_law_last", "_law_over"] ["_law_urn_here", "_law_dough_here", "_law_size"] (defScope s_f_law_path) := ⟨rfl, rfl, rfl, by decide +kernel, rfl, by decide +kernel, by decide +kernel⟩
theorem ok_f_law_path {P : Program} {w : World} {C : Kc} {mg : Str → Option Value} {base : Heap} {f : Addr} {fd : FuncData} (Fn : Fun C.K "_law_path" "_law_path" s_f_law_path f fd) (T : Tx C mg) (t_Fold_len : C.has 1 = true → Met P w C mg base 1 1 "__len__" (spF C (l1 Fold_len))) (t_Watch_len : C.has 4 = true → Met P w C mg base 1 4 "__len__" (spF C (l1 Watch_len))) (c_law_take : Cal P w C mg base 1 "_law_take" (spFB C (m1 f_law_take))) : FnOk P w C.K mg base CX0 3 f fd ["_law_urn_here", "_law_dough_here", "_law_size"] (spFB C (m2 f_law_path)) := by
  refine fxB Fn sc_f_law_path (fun _ _ _ h => congrArg (· + 1) (m2_len h)) (fun b cdv A outer s H E hr => am2 (S := fun ds => DL.startB ["_law_urn_here", "_law_dough_here", "_law_size", "_law_found", "_law_k", "_law_first", "_law_last", "_law_over"] ds) (fun v_law_dough_here v_law_size => ?_))
  refine m_setO (j := 3) (mo_lst (ma_cons (me_bag (j := 0) c_law_take rfl (a_up fun g => (a_cons (p_callB (T.bl "len") bb_len (s_olen (lenF_lens t_Fold_len t_Watch_len)) (a_cons (p_var (j := 1) rfl) a_nil)) a_nil))) (a_up fun g => a_nil))) (fun v_law_found_1 => ?_)
  refine m_for1 (T := List D) (j := 4) (fun (s2 : List D) => [some .bag, some (.imm v_law_dough_here), some (.imm v_law_size), some (.own (.lst s2)), none, none, none, none]) (i_up fun g => (i_range1 (T.bl "range") (p_op s_sub (p_var (j := 2) rfl) p_int))) (by repeat (first | exact DL.WkL.nil | refine DL.WkL.keep ?_ | refine DL.WkL.drop ?_)) (fun s2 v_law_k_3 => ?_) (fun s2 => ?_)
  · refine m_asg3 (i := 5) (j := 6) (l := 7) (e_up fun g => (p_ix (p_var (j := 1) rfl) (p_ownIx (j := 3) rfl (p_un s_neg p_int)))) (fun v_law_first_4 v_law_last_5 v_law_over_6 => ?_)
    refine m_append (j := 3) (me_op s_add (e_up fun g => (p_var (j := 5) rfl)) (me_bag (j := 0) c_law_take rfl (a_up fun g => (a_cons (p_op s_add (p_op s_sub (p_var (j := 6) rfl) (p_var (j := 5) rfl)) p_int) a_nil)))) rfl (fun a7 => ?_)
    exact m_nilB (by repeat (first | exact DL.WkL.nil | refine DL.WkL.keep ?_ | refine DL.WkL.drop ?_))
  refine m_fz (j := 3) rfl ?_
  exact m_retA (e_up fun g => (p_var (j := 3) rfl))
abbrev s_f_law_spelled : Stmt := topS 40
theorem sc_f_law_spelled : FnScope ["_law_hue_here", "_law_line", "_law_k"] ["_law_hue_here", "_law_line"] (defScope s_f_law_spelled) := ⟨rfl, rfl, rfl, by decide +kernel, rfl, by decide +kernel, by decide +kernel⟩
theorem ok_f_law_spelled {P : Program} {w : World} {C : Kc} {mg : Str → Option Value} {base : Heap} {f : Addr} {fd : FuncData} (Fn : Fun C.K "_law_spelled" "_law_spelled" s_f_law_spelled f fd) (T : Tx C mg)  : FnOk P w C.K mg base CX0 1 f fd ["_law_hue_here", "_law_line"] (spF C (l2 f_law_spelled)) := by
  refine fx Fn sc_f_law_spelled (fun _ _ h => l2_len h) (fun ds cdv A outer s H E hr => ar2 (S := fun ds => ⟨DL.start ["_law_hue_here", "_law_line", "_law_k"] ds, none⟩) (fun v_law_hue_here v_law_line => ?_) ds)
  exact k_retA (p_join p_str (p_do (o_lc (fun _ => blkOk_by (own := [("_law_k", 2)]) (by first | rfl | decide +kernel)) (lc_map (j := 2) (own := [("_law_k", 2)]) (i_val (p_var (j := 1) rfl)) (fun v_law_k => (p_ix (p_var (j := 0) rfl) (p_var (j := 2) rfl)))))))
abbrev s_f_law_word : Stmt := topS 41
theorem sc_f_law_word : FnScope ["_law_urn_here", "_law_dough_here", "_law_hue_here", "_law_size", "_law_line", "_law_turn", "_law_at", "_law_some", "_law_sign", "_law_ways"] ["_law_urn_here", "_law_dough_here", "_law_hue_here"] (defScope s_f_law_word) := ⟨rfl, rfl, rfl, by decide +kernel, rfl, by decide +kernel, by decide +kernel⟩
theorem ok_f_law_word {P : Program} {w : World} {C : Kc} {mg : Str → Option Value} {base : Heap} {f : Addr} {fd : FuncData} (Fn : Fun C.K "_law_word" "_law_word" s_f_law_word f fd) (T : Tx C mg) (c_law_take : Cal P w C mg base 1 "_law_take" (spFB C (m1 f_law_take))) (c_law_path : Cal P w C mg base 3 "_law_path" (spFB C (m2 f_law_path))) (c_law_spelled : Cal P w C mg base 1 "_law_spelled" (spF C (l2 f_law_spelled))) (t_Fold_len : C.has 1 = true → Met P w C mg base 1 1 "__len__" (spF C (l1 Fold_len))) (t_Watch_len : C.has 4 = true → Met P w C mg base 1 4 "__len__" (spF C (l1 Watch_len))) : FnOk P w C.K mg base CX0 4 f fd ["_law_urn_here", "_law_dough_here", "_law_hue_here"] (spFB C (m2 f_law_word)) := by
  refine fxB Fn sc_f_law_word (fun _ _ _ h => congrArg (· + 1) (m2_len h)) (fun b cdv A outer s H E hr => am2 (S := fun ds => DL.startB ["_law_urn_here", "_law_dough_here", "_law_hue_here", "_law_size", "_law_line", "_law_turn", "_law_at", "_law_some", "_law_sign", "_law_ways"] ds) (fun v_law_dough_here v_law_hue_here => ?_))
  refine m_set (j := 3) (me_ix (me_lst (ma_cons (e_up fun g => p_int) (ma_cons (e_up fun g => p_int) (ma_cons (e_up fun g => p_int) (ma_cons (me_op s_add (e_up fun g => p_int) (me_bag (j := 0) c_law_take rfl (a_up fun g => (a_cons p_int a_nil)))) (a_up fun g => (a_cons p_int a_nil))))))) (me_bag (j := 0) c_law_take rfl (a_up fun g => (a_cons p_int a_nil)))) (fun v_law_size_1 => ?_)
  refine m_set (j := 4) (me_call c_law_spelled (ma_cons (e_up fun g => (p_var (j := 2) rfl)) (ma_cons (me_bag (j := 0) c_law_path rfl (a_up fun g => (a_cons (p_var (j := 1) rfl) (a_cons (p_var (j := 3) rfl) a_nil)))) (a_up fun g => a_nil)))) (fun v_law_line_2 => ?_)
  refine m_for1 (T := D) (j := 5) (fun (s3 : D) => [some .bag, some (.imm v_law_dough_here), some (.imm v_law_hue_here), some (.imm v_law_size_1), some (.imm s3), none, none, none, none, none]) (im_range1 (T.bl "range") (me_bag (j := 0) c_law_take rfl (a_up fun g => (a_cons p_int a_nil)))) (by repeat (first | exact DL.WkL.nil | refine DL.WkL.keep ?_ | refine DL.WkL.drop ?_)) (fun s3 v_law_turn_4 => ?_) (fun s3 => ?_)
  · first | refine m_par2 (i := 6) (j := 7) (vm_e (me_bag (j := 0) c_law_take rfl (a_up fun g => (a_cons (p_callB (T.bl "len") bb_len (s_olen (lenF_lens t_Fold_len t_Watch_len)) (a_cons (p_var (j := 4) rfl) a_nil)) a_nil)))) (vm_e (e_up fun g => (p_op s_add (p_var (j := 2) rfl) p_str))) (fun v_law_at_5 v_law_some_6 => ?_) | refine m_parT2 (i := 6) (j := 7) (vm_e (me_bag (j := 0) c_law_take rfl (a_up fun g => (a_cons (p_callB (T.bl "len") bb_len (s_olen (lenF_lens t_Fold_len t_Watch_len)) (a_cons (p_var (j := 4) rfl) a_nil)) a_nil)))) (vm_e (e_up fun g => (p_op s_add (p_var (j := 2) rfl) p_str))) (fun v_law_at_5 v_law_some_6 => ?_)
    refine m_set (j := 8) (me_ix (e_up fun g => (p_var (j := 7) rfl)) (me_bag (j := 0) c_law_take rfl (a_up fun g => (a_cons (p_callB (T.bl "len") bb_len (s_olen (lenF_lens t_Fold_len t_Watch_len)) (a_cons (p_var (j := 7) rfl) a_nil)) a_nil)))) (fun v_law_sign_7 => ?_)
    refine m_set (j := 9) (e_up fun g => (p_lst (a_cons (p_op s_add (p_op s_add (p_slice (p_var (j := 4) rfl) x_none (x_some (p_var (j := 6) rfl))) (p_var (j := 8) rfl)) (p_slice (p_var (j := 4) rfl) (x_some (p_op s_add (p_var (j := 6) rfl) p_int)) x_none)) (a_cons (p_slice (p_var (j := 4) rfl) (x_some (p_var (j := 6) rfl)) x_none) (a_cons (p_op s_add (p_op s_add (p_slice (p_var (j := 4) rfl) x_none (x_some (p_var (j := 6) rfl))) (p_var (j := 8) rfl)) (p_slice (p_var (j := 4) rfl) (x_some (p_var (j := 6) rfl)) x_none)) a_nil))))) (fun v_law_ways_8 => ?_)
    refine m_set (j := 4) (me_ix (e_up fun g => (p_var (j := 9) rfl)) (me_bag (j := 0) c_law_take rfl (a_up fun g => (a_cons p_int a_nil)))) (fun v_law_line_9 => ?_)
    exact m_nilB (by repeat (first | exact DL.WkL.nil | refine DL.WkL.keep ?_ | refine DL.WkL.drop ?_))
  exact m_retA (e_up fun g => (p_slice (p_var (j := 4) rfl) x_none (x_some p_int)))
abbrev s_f_law_opened : Stmt := topS 42
theorem sc_f_law_opened : FnScope ["_law_hue_here", "_law_sign", "_law_k"] ["_law_hue_here", "_law_sign"] (defScope s_f_law_opened) := ⟨rfl, rfl, rfl, by decide +kernel, rfl, by decide +kernel, by decide +kernel⟩
theorem ok_f_law_opened {P : Program} {w : World} {C : Kc} {mg : Str → Option Value} {base : Heap} {f : Addr} {fd : FuncData} (Fn : Fun C.K "_law_opened" "_law_opened" s_f_law_opened f fd) (T : Tx C mg) (t_Fold_len : C.has 1 = true → Met P w C mg base 1 1 "__len__" (spF C (l1 Fold_len))) (t_Watch_len : C.has 4 = true → Met P w C mg base 1 4 "__len__" (spF C (l1 Watch_len))) : FnOk P w C.K mg base CX0 3 f fd ["_law_hue_here", "_law_sign"] (spF C (l2 f_law_opened)) := by
  refine fx Fn sc_f_law_opened (fun _ _ h => l2_len h) (fun ds cdv A outer s H E hr => ar2 (S := fun ds => ⟨DL.start ["_law_hue_here", "_law_sign", "_law_k"] ds, none⟩) (fun v_law_hue_here v_law_sign => ?_) ds)
  exact k_retA (p_callTy (T.bl "tuple") bb_tuple s_tuple (a_cons (p_do (o_lc (fun _ => blkOk_by (own := [("_law_k", 2)]) (by first | rfl | decide +kernel)) (lc_fil (j := 2) (own := [("_law_k", 2)]) (i_range1 (T.bl "range") (p_callB (T.bl "len") bb_len (s_olen (lenF_lens t_Fold_len t_Watch_len)) (a_cons (p_var (j := 0) rfl) a_nil))) (fun v_law_k => (t_cmp s_eq (p_ix (p_var (j := 0) rfl) (p_var (j := 2) rfl)) (p_var (j := 1) rfl))) (fun v_law_k => (p_var (j := 2) rfl))))) a_nil))
abbrev s_f_law_behind : Stmt := topS 43
theorem sc_f_law_behind : FnScope ["_law_dough_here", "_law_hue_here", "_law_some", "_law_sign", "_law_found", "_law_k", "_law_before", "_law_j"] ["_law_dough_here", "_law_hue_here", "_law_some", "_law_sign"] (defScope s_f_law_behind) := ⟨rfl, rfl, rfl, by decide +kernel, rfl, by decide +kernel, by decide +kernel⟩
theorem ok_f_law_behind {P : Program} {w : World} {C : Kc} {mg : Str → Option Value} {base : Heap} {f : Addr} {fd : FuncData} (Fn : Fun C.K "_law_behind" "_law_behind" s_f_law_behind f fd) (T : Tx C mg) (t_Fold_len : C.has 1 = true → Met P w C mg base 1 1 "__len__" (spF C (l1 Fold_len))) (t_Watch_len : C.has 4 = true → Met P w C mg base 1 4 "__len__" (spF C (l1 Watch_len))) : FnOk P w C.K mg base CX0 3 f fd ["_law_dough_here", "_law_hue_here", "_law_some", "_law_sign"] (spF C (l4 f_law_behind)) := by
  refine fx Fn sc_f_law_behind (fun _ _ h => l4_len h) (fun ds cdv A outer s H E hr => ar4 (S := fun ds => ⟨DL.start ["_law_dough_here", "_law_hue_here", "_law_some", "_law_sign", "_law_found", "_law_k", "_law_before", "_law_j"] ds, none⟩) (fun v_law_dough_here v_law_hue_here v_law_some v_law_sign => ?_) ds)
  refine k_setO (j := 4) (o_lst a_nil) (fun v_law_found_1 => ?_)
  refine k_for1 (T := List D) (j := 5) (fun (s2 : List D) => (⟨[some (.imm v_law_dough_here), some (.imm v_law_hue_here), some (.imm v_law_some), some (.imm v_law_sign), some (.own (.lst s2)), none, none, none], none⟩ : DL.ST)) (i_range1 (T.bl "range") (p_callB (T.bl "len") bb_len (s_olen (lenF_lens t_Fold_len t_Watch_len)) (a_cons (p_var (j := 0) rfl) a_nil))) ⟨by repeat (first | exact DL.WkL.nil | refine DL.WkL.keep ?_ | refine DL.WkL.drop ?_), rfl⟩ (fun s2 v_law_k_3 => ?_) (fun s2 => ?_)
  · first | refine k_setLc (j := 6) (fun _ => blkOk_by (own := [("_law_j", 7)]) (by first | rfl | decide +kernel)) (lc_fil (j := 7) (own := [("_law_j", 7)]) (i_val (p_var (j := 2) rfl)) (fun v_law_j => (t_chain s_le s_le (p_ix (p_ix (p_var (j := 0) rfl) (p_var (j := 7) rfl)) p_int) (p_var (j := 5) rfl) (p_ix (p_ix (p_var (j := 0) rfl) (p_var (j := 7) rfl)) p_int))) (fun v_law_j => (p_var (j := 7) rfl))) (fun v_law_before_4 => ?_) | refine k_set (j := 6) (p_do (o_lc (fun _ => blkOk_by (own := [("_law_j", 7)]) (by first | rfl | decide +kernel)) (lc_fil (j := 7) (own := [("_law_j", 7)]) (i_val (p_var (j := 2) rfl)) (fun v_law_j => (t_chain s_le s_le (p_ix (p_ix (p_var (j := 0) rfl) (p_var (j := 7) rfl)) p_int) (p_var (j := 5) rfl) (p_ix (p_ix (p_var (j := 0) rfl) (p_var (j := 7) rfl)) p_int))) (fun v_law_j => (p_var (j := 7) rfl))))) (fun v_law_before_4 => ?_)
    refine k_ifj (T := List D) (fun j6 => (⟨[some (.imm v_law_dough_here), some (.imm v_law_hue_here), some (.imm v_law_some), some (.imm v_law_sign), some (.own (.lst j6)), some (.imm v_law_k_3), some (.imm v_law_before_4), none], none⟩ : DL.ST)) (t_w (w_and (t_cmp s_eq (p_ix (p_var (j := 1) rfl) (p_var (j := 5) rfl)) (p_var (j := 3) rfl)) (w_and1 (t_cmp s_ne (p_var (j := 6) rfl) (p_lst a_nil))))) ?_ ?_ (fun j6 => ?_)
    · refine k_append (j := 4) (p_var (j := 5) rfl) rfl (fun a5 => ?_)
      exact k_nilJ ⟨by repeat (first | exact DL.WkL.nil | refine DL.WkL.keep ?_ | refine DL.WkL.drop ?_), rfl⟩
    · exact k_nilJ ⟨by repeat (first | exact DL.WkL.nil | refine DL.WkL.keep ?_ | refine DL.WkL.drop ?_), rfl⟩
    exact k_nilB ⟨by repeat (first | exact DL.WkL.nil | refine DL.WkL.keep ?_ | refine DL.WkL.drop ?_), rfl⟩
  refine k_fz (j := 4) rfl ?_
  exact k_retA (p_callTy (T.bl "tuple") bb_tuple s_tuple (a_cons (p_var (j := 4) rfl) a_nil))
abbrev s_f_law_led : Stmt := topS 44
theorem sc_f_law_led : FnScope ["_law_dough_here", "_law_hue_here", "_law_line", "_law_some", "_law_sign"] ["_law_dough_here", "_law_hue_here", "_law_line"] (defScope s_f_law_led) := ⟨rfl, rfl, rfl, by decide +kernel, rfl, by decide +kernel, by decide +kernel⟩
theorem ok_f_law_led {P : Program} {w : World} {C : Kc} {mg : Str → Option Value} {base : Heap} {f : Addr} {fd : FuncData} (Fn : Fun C.K "_law_led" "_law_led" s_f_law_led f fd) (T : Tx C mg) (c_law_opened : Cal P w C mg base 3 "_law_opened" (spF C (l2 f_law_opened))) (c_law_behind : Cal P w C mg base 3 "_law_behind" (spF C (l4 f_law_behind))) : FnOk P w C.K mg base CX0 4 f fd ["_law_dough_here", "_law_hue_here", "_law_line"] (spF C (l3 f_law_led)) := by
  refine fx Fn sc_f_law_led (fun _ _ h => l3_len h) (fun ds cdv A outer s H E hr => ar3 (S := fun ds => ⟨DL.start ["_law_dough_here", "_law_hue_here", "_law_line", "_law_some", "_law_sign"] ds, none⟩) (fun v_law_dough_here v_law_hue_here v_law_line => ?_) ds)
  refine k_set (j := 3) (p_call c_law_opened (a_cons (p_var (j := 1) rfl) (a_cons (p_ix (p_var (j := 2) rfl) p_int) a_nil))) (fun v_law_some_1 => ?_)
  refine k_for1 (T := D) (j := 4) (fun (s2 : D) => (⟨[some (.imm v_law_dough_here), some (.imm v_law_hue_here), some (.imm v_law_line), some (.imm s2), none], none⟩ : DL.ST)) (i_val (p_slice (p_var (j := 2) rfl) (x_some p_int) x_none)) ⟨by repeat (first | exact DL.WkL.nil | refine DL.WkL.keep ?_ | refine DL.WkL.drop ?_), rfl⟩ (fun s2 v_law_sign_3 => ?_) (fun s2 => ?_)
  · refine k_set (j := 3) (p_call c_law_behind (a_cons (p_var (j := 0) rfl) (a_cons (p_var (j := 1) rfl) (a_cons (p_var (j := 3) rfl) (a_cons (p_var (j := 4) rfl) a_nil))))) (fun v_law_some_4 => ?_)
    exact k_nilB ⟨by repeat (first | exact DL.WkL.nil | refine DL.WkL.keep ?_ | refine DL.WkL.drop ?_), rfl⟩
  exact k_retA (p_var (j := 3) rfl)
abbrev s_f_law_right : Stmt := topS 45
theorem sc_f_law_right : FnScope ["_law_urn_here", "_law_dough_here", "_law_mine", "_law_hues", "_law_asked", "_law_turn", "_law_hue_here", "_law_line", "_law_due", "_law_told", "_law_k", "_law_each"] ["_law_urn_here"] (defScope s_f_law_right) := ⟨rfl, rfl, rfl, by decide +kernel, rfl, by decide +kernel, by decide +kernel⟩
theorem ok_f_law_right {P : Program} {w : World} {C : Kc} {mg : Str → Option Value} {base : Heap} {f : Addr} {fd : FuncData} (Fn : Fun C.K "_law_right" "_law_right" s_f_law_right f fd) (T : Tx C mg) (c_law_dough : Cal P w C mg base 2 "_law_dough" (spFB C (m1 f_law_dough))) (m_Fold_1 : Mak P w C mg base 5 "Fold" 1 (fun ds fs => l1 Fold_init ds = .ok fs) []) (t_Fold_len : C.has 1 = true → Met P w C mg base 1 1 "__len__" (spF C (l1 Fold_len))) (t_Watch_len : C.has 4 = true → Met P w C mg base 1 4 "__len__" (spF C (l1 Watch_len))) (c_law_hue : Cal P w C mg base 3 "_law_hue" (spFB C (m1 f_law_hue))) (c_law_take : Cal P w C mg base 1 "_law_take" (spFB C (m1 f_law_take))) (c_law_word : Cal P w C mg base 4 "_law_word" (spFB C (m2 f_law_word))) (c_law_led : Cal P w C mg base 4 "_law_led" (spF C (l3 f_law_led))) (c_is_shown : Cal P w C mg base 5 "is_shown" (spF C (l3 f_is_shown))) (ck_is_shown_word_fold_colours : CalK P w C mg base 5 "is_shown" (spF C (l3 f_is_shown)) ["word", "fold", "colours"] [1, 2, 0]) : FnG P w C.K mg base 7 f fd ["_law_urn_here"] (spFB C (m0 f_law_right)) := by
  refine fxBG Fn sc_f_law_right (fun _ _ _ h => congrArg (· + 1) (m0_len h)) (fun b cdv A outer s H E hr hA => am0 (S := fun ds => DL.startB ["_law_urn_here", "_law_dough_here", "_law_mine", "_law_hues", "_law_asked", "_law_turn", "_law_hue_here", "_law_line", "_law_due", "_law_told", "_law_k", "_law_each"] ds) (?_))
  refine m_set (j := 1) (me_bag (j := 0) c_law_dough rfl (a_up fun g => (a_cons p_int a_nil))) (fun v_law_dough_here_1 => ?_)
  first | refine m_par3 (i := 2) (j := 3) (l := 4) (vm_e (e_up fun g => (p_make m_Fold_1 (a_cons (p_var (j := 1) rfl) a_nil)))) (vm_e (me_do (mo_lc (fun _ => blkOk_by (own := [("_law_k", 10)]) (by first | rfl | decide +kernel)) (lm_map (j := 10) (own := [("_law_k", 10)]) (i_up fun g => (i_range1 (T.bl "range") p_int)) (fun v_law_k => (me_bag (j := 0) c_law_hue rfl (a_up fun g => (a_cons (p_callB (T.bl "len") bb_len (s_olen (lenF_lens t_Fold_len t_Watch_len)) (a_cons (p_var (j := 1) rfl) a_nil)) a_nil)))))))) (vm_o (o_up fun g => (o_lst a_nil))) (fun v_law_mine_2 v_law_hues_3 v_law_asked_4 => ?_) | refine m_parT3 (i := 2) (j := 3) (l := 4) (vm_e (e_up fun g => (p_make m_Fold_1 (a_cons (p_var (j := 1) rfl) a_nil)))) (vm_e (me_do (mo_lc (fun _ => blkOk_by (own := [("_law_k", 10)]) (by first | rfl | decide +kernel)) (lm_map (j := 10) (own := [("_law_k", 10)]) (i_up fun g => (i_range1 (T.bl "range") p_int)) (fun v_law_k => (me_bag (j := 0) c_law_hue rfl (a_up fun g => (a_cons (p_callB (T.bl "len") bb_len (s_olen (lenF_lens t_Fold_len t_Watch_len)) (a_cons (p_var (j := 1) rfl) a_nil)) a_nil)))))))) (vm_o (o_up fun g => (o_lst a_nil))) (fun v_law_mine_2 v_law_hues_3 v_law_asked_4 => ?_)
  refine m_for1R (T := List D) (j := 5) (fun (s5 : List D) => [some .bag, some (.imm v_law_dough_here_1), some (.imm v_law_mine_2), some (.imm v_law_hues_3), some (.own (.lst s5)), none, none, none, none, none, none, none]) (i_up fun g => (i_range1 (T.bl "range") p_int)) (by repeat (first | exact DL.WkL.nil | refine DL.WkL.keep ?_ | refine DL.WkL.drop ?_)) (fun s5 v_law_turn_6 => ?_) (fun s5 => ?_)
  · refine m_for1R (T := List D) (j := 6) (fun (s7 : List D) => [some .bag, some (.imm v_law_dough_here_1), some (.imm v_law_mine_2), some (.imm v_law_hues_3), some (.own (.lst s7)), some (.imm v_law_turn_6), none, none, none, none, none, none]) (i_up fun g => (i_val (p_var (j := 3) rfl))) (by repeat (first | exact DL.WkL.nil | refine DL.WkL.keep ?_ | refine DL.WkL.drop ?_)) (fun s7 v_law_hue_here_8 => ?_) (fun s7 => ?_)
    · refine m_set (j := 7) (me_bag (j := 0) c_law_word rfl (ma_cons (e_up fun g => (p_var (j := 1) rfl)) (ma_cons (me_ix (e_up fun g => (p_var (j := 3) rfl)) (me_bag (j := 0) c_law_take rfl (a_up fun g => (a_cons p_int a_nil)))) (a_up fun g => a_nil)))) (fun v_law_line_9 => ?_)
      refine m_set (j := 8) (e_up fun g => (p_cmp s_ne (p_call c_law_led (a_cons (p_var (j := 1) rfl) (a_cons (p_var (j := 6) rfl) (a_cons (p_var (j := 7) rfl) a_nil)))) (p_tup a_nil))) (fun v_law_due_10 => ?_)
      refine m_set (j := 9) (e_up fun g => (p_lst (a_cons (p_call c_is_shown (a_cons (p_var (j := 2) rfl) (a_cons (p_var (j := 6) rfl) (a_cons (p_var (j := 7) rfl) a_nil)))) (a_cons (p_callK ck_is_shown_word_fold_colours (kw_cons (p_var (j := 7) rfl) (kw_cons (p_var (j := 2) rfl) (kw_cons (p_var (j := 6) rfl) kw_nil)))) a_nil)))) (fun v_law_told_11 => ?_)
      refine m_ifr (t_up fun g => (t_cmp s_ne (p_callB (T.bl "repr") bb_repr (s_repr (fun _ => hA)) (a_cons (p_var (j := 9) rfl) a_nil)) (p_callB (T.bl "repr") bb_repr (s_repr (fun _ => hA)) (a_cons (p_lst (a_cons (p_var (j := 8) rfl) (a_cons (p_var (j := 8) rfl) a_nil))) a_nil)))) ?_ ?_
      · exact m_ret (ret := fun d => Fl.rt (Fl.rt (d))) (e_up fun g => p_bl) (by intro _ _; exact ⟨rfl, rfl⟩)
      refine m_append (j := 4) (e_up fun g => (p_tup (a_cons (p_var (j := 6) rfl) (a_cons (p_var (j := 7) rfl) (a_cons (p_var (j := 8) rfl) a_nil))))) rfl (fun a12 => ?_)
      exact m_nilL (by repeat (first | exact DL.WkL.nil | refine DL.WkL.keep ?_ | refine DL.WkL.drop ?_))
    exact m_nilL (by repeat (first | exact DL.WkL.nil | refine DL.WkL.keep ?_ | refine DL.WkL.drop ?_))
  refine m_fz (j := 4) rfl ?_
  exact m_retA (e_up fun g => (p_cmp s_eq (p_callB (T.bl "repr") bb_repr (s_repr (fun _ => hA)) (a_cons (p_do (o_lc (fun _ => blkOk_by (own := [("_law_hue_here", 6), ("_law_line", 7), ("_law_due", 8)]) (by first | rfl | decide +kernel)) (lc_map3 (i := 6) (j := 7) (l := 8) (own := [("_law_hue_here", 6), ("_law_line", 7), ("_law_due", 8)]) (i_val (p_var (j := 4) rfl)) (fun v_law_hue_here v_law_line v_law_due => (p_call c_is_shown (a_cons (p_var (j := 2) rfl) (a_cons (p_var (j := 6) rfl) (a_cons (p_var (j := 7) rfl) a_nil)))))))) a_nil)) (p_callB (T.bl "repr") bb_repr (s_repr (fun _ => hA)) (a_cons (p_do (o_lc (fun _ => blkOk_by (own := [("_law_each", 11)]) (by first | rfl | decide +kernel)) (lc_map (j := 11) (own := [("_law_each", 11)]) (i_val (p_var (j := 4) rfl)) (fun v_law_each => (p_ix (p_var (j := 11) rfl) p_int))))) a_nil))))
abbrev s_f_law : Stmt := topS 46
theorem sc_f_law : FnScope ["_law_script", "_law_cut", "_law_told", "_law_line", "_law_k"] ["_law_script"] (defScope s_f_law) := ⟨rfl, rfl, rfl, by decide +kernel, rfl, by decide +kernel, by decide +kernel⟩
theorem ok_f_law {P : Program} {w : World} {C : Kc} {mg : Str → Option Value} {base : Heap} {f : Addr} {fd : FuncData} (Fn : Fun C.K "law" "law" s_f_law f fd) (T : Tx C mg) (m_Fold_1 : Mak P w C mg base 5 "Fold" 1 (fun ds fs => l1 Fold_init ds = .ok fs) []) (c_is_shown : Cal P w C mg base 5 "is_shown" (spF C (l3 f_is_shown))) (t_Fold_len : C.has 1 = true → Met P w C mg base 1 1 "__len__" (spF C (l1 Fold_len))) (t_Watch_len : C.has 4 = true → Met P w C mg base 1 4 "__len__" (spF C (l1 Watch_len))) (c_law_urn : Cal P w C mg base 3 "_law_urn" (spFN C (l2 f_law_urn))) (c_law_right : CalG P w C mg base 7 "_law_right" (spFB C (m0 f_law_right))) : FnG P w C.K mg base 8 f fd ["_law_script"] (spF C (l1 f_law)) := by
  refine fxG Fn sc_f_law (fun _ _ h => l1_len h) (fun ds cdv A outer s H E hr hA => ar1 (S := fun ds => ⟨DL.start ["_law_script", "_law_cut", "_law_told", "_law_line", "_law_k"] ds, none⟩) (fun v_law_script => ?_) ds)
  refine k_set (j := 1) (p_make m_Fold_1 (a_cons (p_tup (a_cons (p_tup (a_cons p_int (a_cons p_int (a_cons p_bl a_nil)))) (a_cons (p_tup (a_cons p_int (a_cons p_int (a_cons p_bl a_nil)))) a_nil))) a_nil)) (fun v_law_cut_1 => ?_)
  first | refine k_setLc (j := 2) (fun _ => blkOk_by (own := [("_law_line", 3)]) (by first | rfl | decide +kernel)) (lc_map (j := 3) (own := [("_law_line", 3)]) (i_val (p_lst (a_cons p_str (a_cons p_str (a_cons p_str (a_cons p_str (a_cons p_str (a_cons p_str (a_cons p_str (a_cons p_str a_nil)))))))))) (fun v_law_line => (p_call c_is_shown (a_cons (p_var (j := 1) rfl) (a_cons p_str (a_cons (p_var (j := 3) rfl) a_nil)))))) (fun v_law_told_2 => ?_) | refine k_set (j := 2) (p_do (o_lc (fun _ => blkOk_by (own := [("_law_line", 3)]) (by first | rfl | decide +kernel)) (lc_map (j := 3) (own := [("_law_line", 3)]) (i_val (p_lst (a_cons p_str (a_cons p_str (a_cons p_str (a_cons p_str (a_cons p_str (a_cons p_str (a_cons p_str (a_cons p_str a_nil)))))))))) (fun v_law_line => (p_call c_is_shown (a_cons (p_var (j := 1) rfl) (a_cons p_str (a_cons (p_var (j := 3) rfl) a_nil)))))))) (fun v_law_told_2 => ?_)
  refine k_ifr (t_cmp s_ne (p_callB (T.bl "repr") bb_repr (s_repr (fun _ => hA)) (a_cons (p_var (j := 2) rfl) a_nil)) (p_callB (T.bl "repr") bb_repr (s_repr (fun _ => hA)) (a_cons (p_lst (a_cons p_bl (a_cons p_bl (a_cons p_bl (a_cons p_bl (a_cons p_bl (a_cons p_bl (a_cons p_bl (a_cons p_bl a_nil))))))))) a_nil))) ?_ ?_
  · exact k_retA p_bl
  exact k_retA (p_callB (T.bl "all") bb_all s_all (a_cons (p_do (o_lc (fun _ => blkOk_by (own := [("_law_k", 4)]) (by first | rfl | decide +kernel)) (lc_map (j := 4) (own := [("_law_k", 4)]) (i_range1 (T.bl "range") (p_callB (T.bl "max") bb_max s_max (a_cons p_int (a_cons (p_callB (T.bl "min") bb_min s_min (a_cons (p_callB (T.bl "len") bb_len (s_olen (lenF_lens t_Fold_len t_Watch_len)) (a_cons (p_var (j := 0) rfl) a_nil)) (a_cons p_int a_nil))) a_nil)))) (fun v_law_k => (p_callNewG (fun _ => hA) c_law_right (o_call c_law_urn (a_cons (p_var (j := 0) rfl) (a_cons (p_var (j := 4) rfl) a_nil)))))))) a_nil))
end SL.K44
namespace SL.K44
open PySem L2 DL SL
theorem all_mk {l : PySem.W.OpenLaw} {w : World} {K : PySem.W.Frag} {h : Heap} {mg : Str → Option Value} {fa : Addr} {c_Fold fA_Fold_init fA_Fold_len fA_is_integer fA_is_between fA_is_cell fA_check_cells fA_check_fold fA_are_small fA_check_colours fA_check_shown fA_cells_of_colour fA_opened fA_run_of fA_led_to fA_cells_behind fA_is_shown fA_law_urn fA_law_take fA_law_dough fA_law_hue fA_law_path fA_law_spelled fA_law_word fA_law_opened fA_law_behind fA_law_led fA_law_right fA_law : Addr} (X : K.In h) (G : h.Ns mainGlobals mg) (hfa : mg "law" = some (.ref fa))
    {od_Fold_init an_Fold_init od_Fold_len an_Fold_len od_is_integer an_is_integer od_is_between an_is_between od_is_cell an_is_cell od_check_cells an_check_cells od_check_fold an_check_fold od_are_small an_are_small od_check_colours an_check_colours od_check_shown an_check_shown od_cells_of_colour an_cells_of_colour od_opened an_opened od_run_of an_run_of od_led_to an_led_to od_cells_behind an_cells_behind od_is_shown an_is_shown od_law_urn an_law_urn od_law_take an_law_take od_law_dough an_law_dough od_law_hue an_law_hue od_law_path an_law_path od_law_spelled an_law_spelled od_law_word an_law_word od_law_opened an_law_opened od_law_behind an_law_behind od_law_led an_law_led od_law_right an_law_right od_law an_law : Option Addr} {sl_Fold_init sl_Fold_len sl_is_integer sl_is_between sl_is_cell sl_check_cells sl_check_fold sl_are_small sl_check_colours sl_check_shown sl_cells_of_colour sl_opened sl_run_of sl_led_to sl_cells_behind sl_is_shown sl_law_urn sl_law_take sl_law_dough sl_law_hue sl_law_path sl_law_spelled sl_law_word sl_law_opened sl_law_behind sl_law_led sl_law_right sl_law : Array (Option Value)} {oc_Fold_init kV_Fold_init dc_Fold_init pm_Fold_init cd_Fold_init ct_Fold_init oc_Fold_len kV_Fold_len dc_Fold_len pm_Fold_len cd_Fold_len ct_Fold_len oc_is_integer kV_is_integer dc_is_integer pm_is_integer cd_is_integer ct_is_integer oc_is_between kV_is_between dc_is_between pm_is_between cd_is_between ct_is_between oc_is_cell kV_is_cell dc_is_cell pm_is_cell cd_is_cell ct_is_cell oc_check_cells kV_check_cells dc_check_cells pm_check_cells cd_check_cells ct_check_cells oc_check_fold kV_check_fold dc_check_fold pm_check_fold cd_check_fold ct_check_fold oc_are_small kV_are_small dc_are_small pm_are_small cd_are_small ct_are_small oc_check_colours kV_check_colours dc_check_colours pm_check_colours cd_check_colours ct_check_colours oc_check_shown kV_check_shown dc_check_shown pm_check_shown cd_check_shown ct_check_shown oc_cells_of_colour kV_cells_of_colour dc_cells_of_colour pm_cells_of_colour cd_cells_of_colour ct_cells_of_colour oc_opened kV_opened dc_opened pm_opened cd_opened ct_opened oc_run_of kV_run_of dc_run_of pm_run_of cd_run_of ct_run_of oc_led_to kV_led_to dc_led_to pm_led_to cd_led_to ct_led_to oc_cells_behind kV_cells_behind dc_cells_behind pm_cells_behind cd_cells_behind ct_cells_behind oc_is_shown kV_is_shown dc_is_shown pm_is_shown cd_is_shown ct_is_shown oc_law_urn kV_law_urn dc_law_urn pm_law_urn cd_law_urn ct_law_urn oc_law_take kV_law_take dc_law_take pm_law_take cd_law_take ct_law_take oc_law_dough kV_law_dough dc_law_dough pm_law_dough cd_law_dough ct_law_dough oc_law_hue kV_law_hue dc_law_hue pm_law_hue cd_law_hue ct_law_hue oc_law_path kV_law_path dc_law_path pm_law_path cd_law_path ct_law_path oc_law_spelled kV_law_spelled dc_law_spelled pm_law_spelled cd_law_spelled ct_law_spelled oc_law_word kV_law_word dc_law_word pm_law_word cd_law_word ct_law_word oc_law_opened kV_law_opened dc_law_opened pm_law_opened cd_law_opened ct_law_opened oc_law_behind kV_law_behind dc_law_behind pm_law_behind cd_law_behind ct_law_behind oc_law_led kV_law_led dc_law_led pm_law_led cd_law_led ct_law_led oc_law_right kV_law_right dc_law_right pm_law_right cd_law_right ct_law_right oc_law kV_law dc_law pm_law cd_law ct_law : Value} {tk_MOST_CELLS : Tok} {tk_MOST_ROW : Tok}
    (gs_n : PySem.W.specialIn K (.builtin "object.__class__") "__get__" = some (some (.builtin "getset_descriptor.__get__")))
    (gs_t : PySem.W.takesIn K (.builtin "object.__class__") = some true)
    (a_Fold : PySem.W.nsIn K mainGlobals "Fold" = some (some (.ref c_Fold)))
    (pg_Fold : PySem.W.plainGet K c_Fold Str.empty = true)
    (hd_Fold : PySem.W.hasDictIn K c_Fold = true)
    (po_Fold : PySem.W.plainOver K c_Fold = true)
    (sa_Fold : PySem.W.findIn K (.ref c_Fold) "__setattr__" = some (some (.builtin "object.__setattr__")))
    (ha_Fold : PySem.W.findIn K (.ref c_Fold) "__class__" = some (some (.builtin "object.__class__")))
    (hm_Fold : PySem.W.mroIn K c_Fold (.type "object") = some true)
    (mk_Fold : PySem.W.makesIn K c_Fold = true)
    (kc_Fold : PySem.W.keepIn K (.ref c_Fold) = true)
    (a_Fold_init : PySem.W.findIn K (.ref c_Fold) "__init__" = some (some (.ref fA_Fold_init)))
    (i_Fold_init : PySem.W.isFn K (.ref fA_Fold_init) = true)
    (l_Fold_init : K.lookup fA_Fold_init = some ⟨oc_Fold_init, od_Fold_init, .func (PySem.W.fnOf "__init__" "Fold.__init__" (defArgs s_Fold_init) (defBody s_Fold_init) (defScope s_Fold_init) .none kV_Fold_init dc_Fold_init pm_Fold_init an_Fold_init cd_Fold_init ct_Fold_init), sl_Fold_init⟩)
    (cd_Fold_init_ : PySem.W.codeIn K cd_Fold_init "Fold.__init__" = true)
    (k_Fold_init : PySem.W.keepIn K (.ref fA_Fold_init) = true)
    (a_Fold_len : PySem.W.findIn K (.ref c_Fold) "__len__" = some (some (.ref fA_Fold_len)))
    (i_Fold_len : PySem.W.isFn K (.ref fA_Fold_len) = true)
    (l_Fold_len : K.lookup fA_Fold_len = some ⟨oc_Fold_len, od_Fold_len, .func (PySem.W.fnOf "__len__" "Fold.__len__" (defArgs s_Fold_len) (defBody s_Fold_len) (defScope s_Fold_len) .none kV_Fold_len dc_Fold_len pm_Fold_len an_Fold_len cd_Fold_len ct_Fold_len), sl_Fold_len⟩)
    (cd_Fold_len_ : PySem.W.codeIn K cd_Fold_len "Fold.__len__" = true)
    (k_Fold_len : PySem.W.keepIn K (.ref fA_Fold_len) = true)
    (a_is_integer : PySem.W.nsIn K mainGlobals "is_integer" = some (some (.ref fA_is_integer)))
    (l_is_integer : K.lookup fA_is_integer = some ⟨oc_is_integer, od_is_integer, .func (PySem.W.fnOf "is_integer" "is_integer" (defArgs s_f_is_integer) (defBody s_f_is_integer) (defScope s_f_is_integer) .none kV_is_integer dc_is_integer pm_is_integer an_is_integer cd_is_integer ct_is_integer), sl_is_integer⟩)
    (cd_is_integer_ : PySem.W.codeIn K cd_is_integer "is_integer" = true)
    (k_is_integer : PySem.W.keepIn K (.ref fA_is_integer) = true)
    (a_is_between : PySem.W.nsIn K mainGlobals "is_between" = some (some (.ref fA_is_between)))
    (l_is_between : K.lookup fA_is_between = some ⟨oc_is_between, od_is_between, .func (PySem.W.fnOf "is_between" "is_between" (defArgs s_f_is_between) (defBody s_f_is_between) (defScope s_f_is_between) .none kV_is_between dc_is_between pm_is_between an_is_between cd_is_between ct_is_between), sl_is_between⟩)
    (cd_is_between_ : PySem.W.codeIn K cd_is_between "is_between" = true)
    (k_is_between : PySem.W.keepIn K (.ref fA_is_between) = true)
    (a_is_cell : PySem.W.nsIn K mainGlobals "is_cell" = some (some (.ref fA_is_cell)))
    (l_is_cell : K.lookup fA_is_cell = some ⟨oc_is_cell, od_is_cell, .func (PySem.W.fnOf "is_cell" "is_cell" (defArgs s_f_is_cell) (defBody s_f_is_cell) (defScope s_f_is_cell) .none kV_is_cell dc_is_cell pm_is_cell an_is_cell cd_is_cell ct_is_cell), sl_is_cell⟩)
    (cd_is_cell_ : PySem.W.codeIn K cd_is_cell "is_cell" = true)
    (k_is_cell : PySem.W.keepIn K (.ref fA_is_cell) = true)
    (a_check_cells : PySem.W.nsIn K mainGlobals "check_cells" = some (some (.ref fA_check_cells)))
    (l_check_cells : K.lookup fA_check_cells = some ⟨oc_check_cells, od_check_cells, .func (PySem.W.fnOf "check_cells" "check_cells" (defArgs s_f_check_cells) (defBody s_f_check_cells) (defScope s_f_check_cells) .none kV_check_cells dc_check_cells pm_check_cells an_check_cells cd_check_cells ct_check_cells), sl_check_cells⟩)
    (cd_check_cells_ : PySem.W.codeIn K cd_check_cells "check_cells" = true)
    (k_check_cells : PySem.W.keepIn K (.ref fA_check_cells) = true)
    (a_check_fold : PySem.W.nsIn K mainGlobals "check_fold" = some (some (.ref fA_check_fold)))
    (l_check_fold : K.lookup fA_check_fold = some ⟨oc_check_fold, od_check_fold, .func (PySem.W.fnOf "check_fold" "check_fold" (defArgs s_f_check_fold) (defBody s_f_check_fold) (defScope s_f_check_fold) .none kV_check_fold dc_check_fold pm_check_fold an_check_fold cd_check_fold ct_check_fold), sl_check_fold⟩)
    (cd_check_fold_ : PySem.W.codeIn K cd_check_fold "check_fold" = true)
    (k_check_fold : PySem.W.keepIn K (.ref fA_check_fold) = true)
    (a_are_small : PySem.W.nsIn K mainGlobals "are_small" = some (some (.ref fA_are_small)))
    (l_are_small : K.lookup fA_are_small = some ⟨oc_are_small, od_are_small, .func (PySem.W.fnOf "are_small" "are_small" (defArgs s_f_are_small) (defBody s_f_are_small) (defScope s_f_are_small) .none kV_are_small dc_are_small pm_are_small an_are_small cd_are_small ct_are_small), sl_are_small⟩)
    (cd_are_small_ : PySem.W.codeIn K cd_are_small "are_small" = true)
    (k_are_small : PySem.W.keepIn K (.ref fA_are_small) = true)
    (a_check_colours : PySem.W.nsIn K mainGlobals "check_colours" = some (some (.ref fA_check_colours)))
    (l_check_colours : K.lookup fA_check_colours = some ⟨oc_check_colours, od_check_colours, .func (PySem.W.fnOf "check_colours" "check_colours" (defArgs s_f_check_colours) (defBody s_f_check_colours) (defScope s_f_check_colours) .none kV_check_colours dc_check_colours pm_check_colours an_check_colours cd_check_colours ct_check_colours), sl_check_colours⟩)
    (cd_check_colours_ : PySem.W.codeIn K cd_check_colours "check_colours" = true)
    (k_check_colours : PySem.W.keepIn K (.ref fA_check_colours) = true)
    (a_check_shown : PySem.W.nsIn K mainGlobals "check_shown" = some (some (.ref fA_check_shown)))
    (l_check_shown : K.lookup fA_check_shown = some ⟨oc_check_shown, od_check_shown, .func (PySem.W.fnOf "check_shown" "check_shown" (defArgs s_f_check_shown) (defBody s_f_check_shown) (defScope s_f_check_shown) .none kV_check_shown dc_check_shown pm_check_shown an_check_shown cd_check_shown ct_check_shown), sl_check_shown⟩)
    (cd_check_shown_ : PySem.W.codeIn K cd_check_shown "check_shown" = true)
    (k_check_shown : PySem.W.keepIn K (.ref fA_check_shown) = true)
    (a_cells_of_colour : PySem.W.nsIn K mainGlobals "cells_of_colour" = some (some (.ref fA_cells_of_colour)))
    (l_cells_of_colour : K.lookup fA_cells_of_colour = some ⟨oc_cells_of_colour, od_cells_of_colour, .func (PySem.W.fnOf "cells_of_colour" "cells_of_colour" (defArgs s_f_cells_of_colour) (defBody s_f_cells_of_colour) (defScope s_f_cells_of_colour) .none kV_cells_of_colour dc_cells_of_colour pm_cells_of_colour an_cells_of_colour cd_cells_of_colour ct_cells_of_colour), sl_cells_of_colour⟩)
    (cd_cells_of_colour_ : PySem.W.codeIn K cd_cells_of_colour "cells_of_colour" = true)
    (k_cells_of_colour : PySem.W.keepIn K (.ref fA_cells_of_colour) = true)
    (a_opened : PySem.W.nsIn K mainGlobals "opened" = some (some (.ref fA_opened)))
    (l_opened : K.lookup fA_opened = some ⟨oc_opened, od_opened, .func (PySem.W.fnOf "opened" "opened" (defArgs s_f_opened) (defBody s_f_opened) (defScope s_f_opened) .none kV_opened dc_opened pm_opened an_opened cd_opened ct_opened), sl_opened⟩)
    (cd_opened_ : PySem.W.codeIn K cd_opened "opened" = true)
    (k_opened : PySem.W.keepIn K (.ref fA_opened) = true)
    (a_run_of : PySem.W.nsIn K mainGlobals "run_of" = some (some (.ref fA_run_of)))
    (l_run_of : K.lookup fA_run_of = some ⟨oc_run_of, od_run_of, .func (PySem.W.fnOf "run_of" "run_of" (defArgs s_f_run_of) (defBody s_f_run_of) (defScope s_f_run_of) .none kV_run_of dc_run_of pm_run_of an_run_of cd_run_of ct_run_of), sl_run_of⟩)
    (cd_run_of_ : PySem.W.codeIn K cd_run_of "run_of" = true)
    (k_run_of : PySem.W.keepIn K (.ref fA_run_of) = true)
    (a_led_to : PySem.W.nsIn K mainGlobals "led_to" = some (some (.ref fA_led_to)))
    (l_led_to : K.lookup fA_led_to = some ⟨oc_led_to, od_led_to, .func (PySem.W.fnOf "led_to" "led_to" (defArgs s_f_led_to) (defBody s_f_led_to) (defScope s_f_led_to) .none kV_led_to dc_led_to pm_led_to an_led_to cd_led_to ct_led_to), sl_led_to⟩)
    (cd_led_to_ : PySem.W.codeIn K cd_led_to "led_to" = true)
    (k_led_to : PySem.W.keepIn K (.ref fA_led_to) = true)
    (a_cells_behind : PySem.W.nsIn K mainGlobals "cells_behind" = some (some (.ref fA_cells_behind)))
    (l_cells_behind : K.lookup fA_cells_behind = some ⟨oc_cells_behind, od_cells_behind, .func (PySem.W.fnOf "cells_behind" "cells_behind" (defArgs s_f_cells_behind) (defBody s_f_cells_behind) (defScope s_f_cells_behind) .none kV_cells_behind dc_cells_behind pm_cells_behind an_cells_behind cd_cells_behind ct_cells_behind), sl_cells_behind⟩)
    (cd_cells_behind_ : PySem.W.codeIn K cd_cells_behind "cells_behind" = true)
    (k_cells_behind : PySem.W.keepIn K (.ref fA_cells_behind) = true)
    (a_is_shown : PySem.W.nsIn K mainGlobals "is_shown" = some (some (.ref fA_is_shown)))
    (l_is_shown : K.lookup fA_is_shown = some ⟨oc_is_shown, od_is_shown, .func (PySem.W.fnOf "is_shown" "is_shown" (defArgs s_f_is_shown) (defBody s_f_is_shown) (defScope s_f_is_shown) .none kV_is_shown dc_is_shown pm_is_shown an_is_shown cd_is_shown ct_is_shown), sl_is_shown⟩)
    (cd_is_shown_ : PySem.W.codeIn K cd_is_shown "is_shown" = true)
    (k_is_shown : PySem.W.keepIn K (.ref fA_is_shown) = true)
    (a_law_urn : PySem.W.nsIn K mainGlobals "_law_urn" = some (some (.ref fA_law_urn)))
    (l_law_urn : K.lookup fA_law_urn = some ⟨oc_law_urn, od_law_urn, .func (PySem.W.fnOf "_law_urn" "_law_urn" (defArgs s_f_law_urn) (defBody s_f_law_urn) (defScope s_f_law_urn) .none kV_law_urn dc_law_urn pm_law_urn an_law_urn cd_law_urn ct_law_urn), sl_law_urn⟩)
    (cd_law_urn_ : PySem.W.codeIn K cd_law_urn "_law_urn" = true)
    (k_law_urn : PySem.W.keepIn K (.ref fA_law_urn) = true)
    (a_law_take : PySem.W.nsIn K mainGlobals "_law_take" = some (some (.ref fA_law_take)))
    (l_law_take : K.lookup fA_law_take = some ⟨oc_law_take, od_law_take, .func (PySem.W.fnOf "_law_take" "_law_take" (defArgs s_f_law_take) (defBody s_f_law_take) (defScope s_f_law_take) .none kV_law_take dc_law_take pm_law_take an_law_take cd_law_take ct_law_take), sl_law_take⟩)
    (cd_law_take_ : PySem.W.codeIn K cd_law_take "_law_take" = true)
    (k_law_take : PySem.W.keepIn K (.ref fA_law_take) = true)
    (a_law_dough : PySem.W.nsIn K mainGlobals "_law_dough" = some (some (.ref fA_law_dough)))
    (l_law_dough : K.lookup fA_law_dough = some ⟨oc_law_dough, od_law_dough, .func (PySem.W.fnOf "_law_dough" "_law_dough" (defArgs s_f_law_dough) (defBody s_f_law_dough) (defScope s_f_law_dough) .none kV_law_dough dc_law_dough pm_law_dough an_law_dough cd_law_dough ct_law_dough), sl_law_dough⟩)
    (cd_law_dough_ : PySem.W.codeIn K cd_law_dough "_law_dough" = true)
    (k_law_dough : PySem.W.keepIn K (.ref fA_law_dough) = true)
    (a_law_hue : PySem.W.nsIn K mainGlobals "_law_hue" = some (some (.ref fA_law_hue)))
    (l_law_hue : K.lookup fA_law_hue = some ⟨oc_law_hue, od_law_hue, .func (PySem.W.fnOf "_law_hue" "_law_hue" (defArgs s_f_law_hue) (defBody s_f_law_hue) (defScope s_f_law_hue) .none kV_law_hue dc_law_hue pm_law_hue an_law_hue cd_law_hue ct_law_hue), sl_law_hue⟩)
    (cd_law_hue_ : PySem.W.codeIn K cd_law_hue "_law_hue" = true)
    (k_law_hue : PySem.W.keepIn K (.ref fA_law_hue) = true)
    (a_law_path : PySem.W.nsIn K mainGlobals "_law_path" = some (some (.ref fA_law_path)))
    (l_law_path : K.lookup fA_law_path = some ⟨oc_law_path, od_law_path, .func (PySem.W.fnOf "_law_path" "_law_path" (defArgs s_f_law_path) (defBody s_f_law_path) (defScope s_f_law_path) .none kV_law_path dc_law_path pm_law_path an_law_path cd_law_path ct_law_path), sl_law_path⟩)
    (cd_law_path_ : PySem.W.codeIn K cd_law_path "_law_path" = true)
    (k_law_path : PySem.W.keepIn K (.ref fA_law_path) = true)
    (a_law_spelled : PySem.W.nsIn K mainGlobals "_law_spelled" = some (some (.ref fA_law_spelled)))
    (l_law_spelled : K.lookup fA_law_spelled = some ⟨oc_law_spelled, od_law_spelled, .func (PySem.W.fnOf "_law_spelled" "_law_spelled" (defArgs s_f_law_spelled) (defBody s_f_law_spelled) (defScope s_f_law_spelled) .none kV_law_spelled dc_law_spelled pm_law_spelled an_law_spelled cd_law_spelled ct_law_spelled), sl_law_spelled⟩)
    (cd_law_spelled_ : PySem.W.codeIn K cd_law_spelled "_law_spelled" = true)
    (k_law_spelled : PySem.W.keepIn K (.ref fA_law_spelled) = true)
    (a_law_word : PySem.W.nsIn K mainGlobals "_law_word" = some (some (.ref fA_law_word)))
    (l_law_word : K.lookup fA_law_word = some ⟨oc_law_word, od_law_word, .func (PySem.W.fnOf "_law_word" "_law_word" (defArgs s_f_law_word) (defBody s_f_law_word) (defScope s_f_law_word) .none kV_law_word dc_law_word pm_law_word an_law_word cd_law_word ct_law_word), sl_law_word⟩)
    (cd_law_word_ : PySem.W.codeIn K cd_law_word "_law_word" = true)
    (k_law_word : PySem.W.keepIn K (.ref fA_law_word) = true)
    (a_law_opened : PySem.W.nsIn K mainGlobals "_law_opened" = some (some (.ref fA_law_opened)))
    (l_law_opened : K.lookup fA_law_opened = some ⟨oc_law_opened, od_law_opened, .func (PySem.W.fnOf "_law_opened" "_law_opened" (defArgs s_f_law_opened) (defBody s_f_law_opened) (defScope s_f_law_opened) .none kV_law_opened dc_law_opened pm_law_opened an_law_opened cd_law_opened ct_law_opened), sl_law_opened⟩)
    (cd_law_opened_ : PySem.W.codeIn K cd_law_opened "_law_opened" = true)
    (k_law_opened : PySem.W.keepIn K (.ref fA_law_opened) = true)
    (a_law_behind : PySem.W.nsIn K mainGlobals "_law_behind" = some (some (.ref fA_law_behind)))
    (l_law_behind : K.lookup fA_law_behind = some ⟨oc_law_behind, od_law_behind, .func (PySem.W.fnOf "_law_behind" "_law_behind" (defArgs s_f_law_behind) (defBody s_f_law_behind) (defScope s_f_law_behind) .none kV_law_behind dc_law_behind pm_law_behind an_law_behind cd_law_behind ct_law_behind), sl_law_behind⟩)
    (cd_law_behind_ : PySem.W.codeIn K cd_law_behind "_law_behind" = true)
    (k_law_behind : PySem.W.keepIn K (.ref fA_law_behind) = true)
    (a_law_led : PySem.W.nsIn K mainGlobals "_law_led" = some (some (.ref fA_law_led)))
    (l_law_led : K.lookup fA_law_led = some ⟨oc_law_led, od_law_led, .func (PySem.W.fnOf "_law_led" "_law_led" (defArgs s_f_law_led) (defBody s_f_law_led) (defScope s_f_law_led) .none kV_law_led dc_law_led pm_law_led an_law_led cd_law_led ct_law_led), sl_law_led⟩)
    (cd_law_led_ : PySem.W.codeIn K cd_law_led "_law_led" = true)
    (k_law_led : PySem.W.keepIn K (.ref fA_law_led) = true)
    (a_law_right : PySem.W.nsIn K mainGlobals "_law_right" = some (some (.ref fA_law_right)))
    (l_law_right : K.lookup fA_law_right = some ⟨oc_law_right, od_law_right, .func (PySem.W.fnOf "_law_right" "_law_right" (defArgs s_f_law_right) (defBody s_f_law_right) (defScope s_f_law_right) .none kV_law_right dc_law_right pm_law_right an_law_right cd_law_right ct_law_right), sl_law_right⟩)
    (cd_law_right_ : PySem.W.codeIn K cd_law_right "_law_right" = true)
    (k_law_right : PySem.W.keepIn K (.ref fA_law_right) = true)
    (a_law : PySem.W.nsIn K mainGlobals "law" = some (some (.ref fA_law)))
    (l_law : K.lookup fA_law = some ⟨oc_law, od_law, .func (PySem.W.fnOf "law" "law" (defArgs s_f_law) (defBody s_f_law) (defScope s_f_law) .none kV_law dc_law pm_law an_law cd_law ct_law), sl_law⟩)
    (cd_law_ : PySem.W.codeIn K cd_law "law" = true)
    (k_law : PySem.W.keepIn K (.ref fA_law) = true)
    (z_isinstance : PySem.W.nsIn K mainGlobals "isinstance" = some none)
    (z_len : PySem.W.nsIn K mainGlobals "len" = some none)
    (z_int : PySem.W.nsIn K mainGlobals "int" = some none)
    (z_bool : PySem.W.nsIn K mainGlobals "bool" = some none)
    (z_str : PySem.W.nsIn K mainGlobals "str" = some none)
    (z_tuple : PySem.W.nsIn K mainGlobals "tuple" = some none)
    (z_list : PySem.W.nsIn K mainGlobals "list" = some none)
    (z_range : PySem.W.nsIn K mainGlobals "range" = some none)
    (z_enumerate : PySem.W.nsIn K mainGlobals "enumerate" = some none)
    (z_abs : PySem.W.nsIn K mainGlobals "abs" = some none)
    (z_max : PySem.W.nsIn K mainGlobals "max" = some none)
    (z_min : PySem.W.nsIn K mainGlobals "min" = some none)
    (z_all : PySem.W.nsIn K mainGlobals "all" = some none)
    (z_any : PySem.W.nsIn K mainGlobals "any" = some none)
    (z_sum : PySem.W.nsIn K mainGlobals "sum" = some none)
    (z_repr : PySem.W.nsIn K mainGlobals "repr" = some none)
    (z_sorted : PySem.W.nsIn K mainGlobals "sorted" = some none)
    (z_set : PySem.W.nsIn K mainGlobals "set" = some none)
    (z_dict : PySem.W.nsIn K mainGlobals "dict" = some none)
    (z_zip : PySem.W.nsIn K mainGlobals "zip" = some none)
    (n_Fold_cells : PySem.W.findIn K (.ref c_Fold) "cells" = some none)
    (kO_Fold_int : PySem.W.kitOne K (.ref c_Fold) (.type "int") = some false)
    (kO_Fold_bool : PySem.W.kitOne K (.ref c_Fold) (.type "bool") = some false)
    (kO_Fold_str : PySem.W.kitOne K (.ref c_Fold) (.type "str") = some false)
    (kO_Fold_tuple : PySem.W.kitOne K (.ref c_Fold) (.type "tuple") = some false)
    (kB_Fold_NoneType : PySem.W.kitOne K (.type "NoneType") (.ref c_Fold) = some false)
    (kB_Fold_bool : PySem.W.kitOne K (.type "bool") (.ref c_Fold) = some false)
    (kB_Fold_int : PySem.W.kitOne K (.type "int") (.ref c_Fold) = some false)
    (kB_Fold_str : PySem.W.kitOne K (.type "str") (.ref c_Fold) = some false)
    (kB_Fold_tuple : PySem.W.kitOne K (.type "tuple") (.ref c_Fold) = some false)
    (kB_Fold_list : PySem.W.kitOne K (.type "list") (.ref c_Fold) = some false)
    (kB_Fold_dict : PySem.W.kitOne K (.type "dict") (.ref c_Fold) = some false)
    (nT_Fold_NoneType : PySem.W.notFirst K c_Fold (.type "NoneType") = true)
    (nT_Fold_bool : PySem.W.notFirst K c_Fold (.type "bool") = true)
    (nT_Fold_int : PySem.W.notFirst K c_Fold (.type "int") = true)
    (nT_Fold_str : PySem.W.notFirst K c_Fold (.type "str") = true)
    (nT_Fold_tuple : PySem.W.notFirst K c_Fold (.type "tuple") = true)
    (nT_Fold_list : PySem.W.notFirst K c_Fold (.type "list") = true)
    (nT_Fold_dict : PySem.W.notFirst K c_Fold (.type "dict") = true)
    (ne_Fold : PySem.W.findIn K (.ref c_Fold) "__ne__" = some (some (.builtin "object.__ne__")))
    (nf_Fold_Fold : PySem.W.notFirst K c_Fold (.ref c_Fold) = true)
    (a1_MOST_CELLS : PySem.W.nsIn K mainGlobals "MOST_CELLS" = some (some (.int 8 tk_MOST_CELLS)))
    (a1_MOST_ROW : PySem.W.nsIn K mainGlobals "MOST_ROW" = some (some (.int 200 tk_MOST_ROW)))
    : ∃ fd : FuncData, (∀ (s : Shared) (v : Value), BindsTo s fd ⟨[v], []⟩ [("_law_script", v)]) ∧ ∀ base : Heap, K.In base → base.Ns mainGlobals mg → FnG l.prog w K mg base 8 fa fd ["_law_script"] (spLaw K) := by
  have e := hfa.symm.trans (PySem.W.mg_of X G a_law)
  cases e
  have cl_Fold : Cls K c_Fold := ⟨pg_Fold, hd_Fold, po_Fold, sa_Fold⟩
  have ins_Fold : InsF K c_Fold := ⟨cl_Fold, ha_Fold, gs_n, gs_t, hm_Fold⟩
  have F_Fold_init := fun_mk (st := s_Fold_init) l_Fold_init cd_Fold_init_ k_Fold_init
  have b_Fold_init := F_Fold_init.binds (ps := ["self", "cells"]) fun _ _ _ _ _ _ us hl => match us, hl with | [_, _], _ => rfl
  have me_Fold_init : Meth K c_Fold "__init__" fA_Fold_init := ⟨a_Fold_init, i_Fold_init, k_Fold_init⟩
  have M_Fold : Mk K c_Fold fA_Fold_init := ⟨mk_Fold, a_Fold_init, i_Fold_init, kc_Fold⟩
  have F_Fold_len := fun_mk (st := s_Fold_len) l_Fold_len cd_Fold_len_ k_Fold_len
  have b_Fold_len := F_Fold_len.binds (ps := ["self"]) fun _ _ _ _ _ _ us hl => match us, hl with | [_], _ => rfl
  have me_Fold_len : Meth K c_Fold "__len__" fA_Fold_len := ⟨a_Fold_len, i_Fold_len, k_Fold_len⟩
  have F_is_integer := fun_mk (st := s_f_is_integer) l_is_integer cd_is_integer_ k_is_integer
  have b_is_integer := F_is_integer.binds (ps := ["value"]) fun _ _ _ _ _ _ us hl => match us, hl with | [_], _ => rfl
  have g_is_integer := PySem.W.mg_of X G a_is_integer
  have F_is_between := fun_mk (st := s_f_is_between) l_is_between cd_is_between_ k_is_between
  have b_is_between := F_is_between.binds (ps := ["value", "least", "most"]) fun _ _ _ _ _ _ us hl => match us, hl with | [_, _, _], _ => rfl
  have g_is_between := PySem.W.mg_of X G a_is_between
  have F_is_cell := fun_mk (st := s_f_is_cell) l_is_cell cd_is_cell_ k_is_cell
  have b_is_cell := F_is_cell.binds (ps := ["many", "value"]) fun _ _ _ _ _ _ us hl => match us, hl with | [_, _], _ => rfl
  have g_is_cell := PySem.W.mg_of X G a_is_cell
  have F_check_cells := fun_mk (st := s_f_check_cells) l_check_cells cd_check_cells_ k_check_cells
  have b_check_cells := F_check_cells.binds (ps := ["cells"]) fun _ _ _ _ _ _ us hl => match us, hl with | [_], _ => rfl
  have g_check_cells := PySem.W.mg_of X G a_check_cells
  have F_check_fold := fun_mk (st := s_f_check_fold) l_check_fold cd_check_fold_ k_check_fold
  have b_check_fold := F_check_fold.binds (ps := ["fold"]) fun _ _ _ _ _ _ us hl => match us, hl with | [_], _ => rfl
  have g_check_fold := PySem.W.mg_of X G a_check_fold
  have F_are_small := fun_mk (st := s_f_are_small) l_are_small cd_are_small_ k_are_small
  have b_are_small := F_are_small.binds (ps := ["value", "least", "most"]) fun _ _ _ _ _ _ us hl => match us, hl with | [_, _, _], _ => rfl
  have g_are_small := PySem.W.mg_of X G a_are_small
  have F_check_colours := fun_mk (st := s_f_check_colours) l_check_colours cd_check_colours_ k_check_colours
  have b_check_colours := F_check_colours.binds (ps := ["fold", "colours"]) fun _ _ _ _ _ _ us hl => match us, hl with | [_, _], _ => rfl
  have g_check_colours := PySem.W.mg_of X G a_check_colours
  have F_check_shown := fun_mk (st := s_f_check_shown) l_check_shown cd_check_shown_ k_check_shown
  have b_check_shown := F_check_shown.binds (ps := ["fold", "colours"]) fun _ _ _ _ _ _ us hl => match us, hl with | [_, _], _ => rfl
  have g_check_shown := PySem.W.mg_of X G a_check_shown
  have F_cells_of_colour := fun_mk (st := s_f_cells_of_colour) l_cells_of_colour cd_cells_of_colour_ k_cells_of_colour
  have b_cells_of_colour := F_cells_of_colour.binds (ps := ["colours", "cells", "sign"]) fun _ _ _ _ _ _ us hl => match us, hl with | [_, _, _], _ => rfl
  have g_cells_of_colour := PySem.W.mg_of X G a_cells_of_colour
  have F_opened := fun_mk (st := s_f_opened) l_opened cd_opened_ k_opened
  have b_opened := F_opened.binds (ps := ["fold", "colours", "sign"]) fun _ _ _ _ _ _ us hl => match us, hl with | [_, _, _], _ => rfl
  have g_opened := PySem.W.mg_of X G a_opened
  have F_run_of := fun_mk (st := s_f_run_of) l_run_of cd_run_of_ k_run_of
  have b_run_of := F_run_of.binds (ps := ["fold", "cell"]) fun _ _ _ _ _ _ us hl => match us, hl with | [_, _], _ => rfl
  have g_run_of := PySem.W.mg_of X G a_run_of
  have F_led_to := fun_mk (st := s_f_led_to) l_led_to cd_led_to_ k_led_to
  have b_led_to := F_led_to.binds (ps := ["fold", "colours", "cells", "sign"]) fun _ _ _ _ _ _ us hl => match us, hl with | [_, _, _, _], _ => rfl
  have g_led_to := PySem.W.mg_of X G a_led_to
  have F_cells_behind := fun_mk (st := s_f_cells_behind) l_cells_behind cd_cells_behind_ k_cells_behind
  have b_cells_behind := F_cells_behind.binds (ps := ["fold", "colours", "word"]) fun _ _ _ _ _ _ us hl => match us, hl with | [_, _, _], _ => rfl
  have g_cells_behind := PySem.W.mg_of X G a_cells_behind
  have F_is_shown := fun_mk (st := s_f_is_shown) l_is_shown cd_is_shown_ k_is_shown
  have b_is_shown := F_is_shown.binds (ps := ["fold", "colours", "word"]) fun _ _ _ _ _ _ us hl => match us, hl with | [_, _, _], _ => rfl
  have g_is_shown := PySem.W.mg_of X G a_is_shown
  have F_law_urn := fun_mk (st := s_f_law_urn) l_law_urn cd_law_urn_ k_law_urn
  have b_law_urn := F_law_urn.binds (ps := ["_law_script", "_law_k"]) fun _ _ _ _ _ _ us hl => match us, hl with | [_, _], _ => rfl
  have g_law_urn := PySem.W.mg_of X G a_law_urn
  have F_law_take := fun_mk (st := s_f_law_take) l_law_take cd_law_take_ k_law_take
  have b_law_take := F_law_take.binds (ps := ["_law_urn_here", "_law_wide"]) fun _ _ _ _ _ _ us hl => match us, hl with | [_, _], _ => rfl
  have g_law_take := PySem.W.mg_of X G a_law_take
  have F_law_dough := fun_mk (st := s_f_law_dough) l_law_dough cd_law_dough_ k_law_dough
  have b_law_dough := F_law_dough.binds (ps := ["_law_urn_here", "_law_most"]) fun _ _ _ _ _ _ us hl => match us, hl with | [_, _], _ => rfl
  have g_law_dough := PySem.W.mg_of X G a_law_dough
  have F_law_hue := fun_mk (st := s_f_law_hue) l_law_hue cd_law_hue_ k_law_hue
  have b_law_hue := F_law_hue.binds (ps := ["_law_urn_here", "_law_size"]) fun _ _ _ _ _ _ us hl => match us, hl with | [_, _], _ => rfl
  have g_law_hue := PySem.W.mg_of X G a_law_hue
  have F_law_path := fun_mk (st := s_f_law_path) l_law_path cd_law_path_ k_law_path
  have b_law_path := F_law_path.binds (ps := ["_law_urn_here", "_law_dough_here", "_law_size"]) fun _ _ _ _ _ _ us hl => match us, hl with | [_, _, _], _ => rfl
  have g_law_path := PySem.W.mg_of X G a_law_path
  have F_law_spelled := fun_mk (st := s_f_law_spelled) l_law_spelled cd_law_spelled_ k_law_spelled
  have b_law_spelled := F_law_spelled.binds (ps := ["_law_hue_here", "_law_line"]) fun _ _ _ _ _ _ us hl => match us, hl with | [_, _], _ => rfl
  have g_law_spelled := PySem.W.mg_of X G a_law_spelled
  have F_law_word := fun_mk (st := s_f_law_word) l_law_word cd_law_word_ k_law_word
  have b_law_word := F_law_word.binds (ps := ["_law_urn_here", "_law_dough_here", "_law_hue_here"]) fun _ _ _ _ _ _ us hl => match us, hl with | [_, _, _], _ => rfl
  have g_law_word := PySem.W.mg_of X G a_law_word
  have F_law_opened := fun_mk (st := s_f_law_opened) l_law_opened cd_law_opened_ k_law_opened
  have b_law_opened := F_law_opened.binds (ps := ["_law_hue_here", "_law_sign"]) fun _ _ _ _ _ _ us hl => match us, hl with | [_, _], _ => rfl
  have g_law_opened := PySem.W.mg_of X G a_law_opened
  have F_law_behind := fun_mk (st := s_f_law_behind) l_law_behind cd_law_behind_ k_law_behind
  have b_law_behind := F_law_behind.binds (ps := ["_law_dough_here", "_law_hue_here", "_law_some", "_law_sign"]) fun _ _ _ _ _ _ us hl => match us, hl with | [_, _, _, _], _ => rfl
  have g_law_behind := PySem.W.mg_of X G a_law_behind
  have F_law_led := fun_mk (st := s_f_law_led) l_law_led cd_law_led_ k_law_led
  have b_law_led := F_law_led.binds (ps := ["_law_dough_here", "_law_hue_here", "_law_line"]) fun _ _ _ _ _ _ us hl => match us, hl with | [_, _, _], _ => rfl
  have g_law_led := PySem.W.mg_of X G a_law_led
  have F_law_right := fun_mk (st := s_f_law_right) l_law_right cd_law_right_ k_law_right
  have b_law_right := F_law_right.binds (ps := ["_law_urn_here"]) fun _ _ _ _ _ _ us hl => match us, hl with | [_], _ => rfl
  have g_law_right := PySem.W.mg_of X G a_law_right
  have F_law := fun_mk (st := s_f_law) l_law cd_law_ k_law
  have b_law := F_law.binds (ps := ["_law_script"]) fun _ _ _ _ _ _ us hl => match us, hl with | [_], _ => rfl
  have g_law := PySem.W.mg_of X G a_law
  refine ⟨PySem.W.fnOf "law" "law" (defArgs s_f_law) (defBody s_f_law) (defScope s_f_law) .none kV_law dc_law pm_law an_law cd_law ct_law, fun s v => .of_eq rfl, fun base _ _ => ?_⟩
  have zf : ∀ {n : Str}, PySem.W.nsIn K mainGlobals n = some none → mg n = none := fun hz => PySem.W.mg_none_of X G hz
  have gc_Fold := PySem.W.mg_of X G a_Fold
  have Tcn : ∀ c, Kc.has (⟨K, clF 0 c_Fold 0 0 0 0 0, hasF false true false false false false false⟩ : Kc) c = true → mg (clsName c) = some (.ref (Kc.cl (⟨K, clF 0 c_Fold 0 0 0 0 0, hasF false true false false false false false⟩ : Kc) c)) := fun c h => by
    rcases c with _ | _ | _ | _ | _ | _ | _ | c
    · exact absurd (show false = true from h) Bool.false_ne_true
    · exact gc_Fold
    · exact absurd (show false = true from h) Bool.false_ne_true
    · exact absurd (show false = true from h) Bool.false_ne_true
    · exact absurd (show false = true from h) Bool.false_ne_true
    · exact absurd (show false = true from h) Bool.false_ne_true
    · exact absurd (show false = true from h) Bool.false_ne_true
    · exact absurd (show false = true from h) Bool.false_ne_true
  have Tins : ∀ c, Kc.has (⟨K, clF 0 c_Fold 0 0 0 0 0, hasF false true false false false false false⟩ : Kc) c = true → InsF K (Kc.cl (⟨K, clF 0 c_Fold 0 0 0 0 0, hasF false true false false false false false⟩ : Kc) c) := fun c h => by
    rcases c with _ | _ | _ | _ | _ | _ | _ | c
    · exact absurd (show false = true from h) Bool.false_ne_true
    · exact ins_Fold
    · exact absurd (show false = true from h) Bool.false_ne_true
    · exact absurd (show false = true from h) Bool.false_ne_true
    · exact absurd (show false = true from h) Bool.false_ne_true
    · exact absurd (show false = true from h) Bool.false_ne_true
    · exact absurd (show false = true from h) Bool.false_ne_true
    · exact absurd (show false = true from h) Bool.false_ne_true
  have Tna : ∀ c, Kc.has (⟨K, clF 0 c_Fold 0 0 0 0 0, hasF false true false false false false false⟩ : Kc) c = true → ∀ f ∈ clsFields c, NoAttr K (Kc.cl (⟨K, clF 0 c_Fold 0 0 0 0 0, hasF false true false false false false false⟩ : Kc) c) f := fun c h => by
    rcases c with _ | _ | _ | _ | _ | _ | _ | c
    · exact absurd (show false = true from h) Bool.false_ne_true
    · exact fun t ht => by
        simp only [clsFields, List.mem_cons, List.not_mem_nil, or_false] at ht
        rcases ht with rfl
        · exact n_Fold_cells
    · exact absurd (show false = true from h) Bool.false_ne_true
    · exact absurd (show false = true from h) Bool.false_ne_true
    · exact absurd (show false = true from h) Bool.false_ne_true
    · exact absurd (show false = true from h) Bool.false_ne_true
    · exact absurd (show false = true from h) Bool.false_ne_true
    · exact absurd (show false = true from h) Bool.false_ne_true
  have TkO : ∀ c, Kc.has (⟨K, clF 0 c_Fold 0 0 0 0 0, hasF false true false false false false false⟩ : Kc) c = true → ∀ T ∈ isiNames, PySem.W.kitOne K (.ref (Kc.cl (⟨K, clF 0 c_Fold 0 0 0 0 0, hasF false true false false false false false⟩ : Kc) c)) (.type T) = some false := fun c h => by
    rcases c with _ | _ | _ | _ | _ | _ | _ | c
    · exact absurd (show false = true from h) Bool.false_ne_true
    · exact fun t ht => by
        simp only [isiNames, List.mem_cons, List.not_mem_nil, or_false] at ht
        rcases ht with rfl | rfl | rfl | rfl
        · exact kO_Fold_int
        · exact kO_Fold_bool
        · exact kO_Fold_str
        · exact kO_Fold_tuple
    · exact absurd (show false = true from h) Bool.false_ne_true
    · exact absurd (show false = true from h) Bool.false_ne_true
    · exact absurd (show false = true from h) Bool.false_ne_true
    · exact absurd (show false = true from h) Bool.false_ne_true
    · exact absurd (show false = true from h) Bool.false_ne_true
    · exact absurd (show false = true from h) Bool.false_ne_true
  have TkB : ∀ c, Kc.has (⟨K, clF 0 c_Fold 0 0 0 0 0, hasF false true false false false false false⟩ : Kc) c = true → ∀ T ∈ tyNames, PySem.W.kitOne K (.type T) (.ref (Kc.cl (⟨K, clF 0 c_Fold 0 0 0 0 0, hasF false true false false false false false⟩ : Kc) c)) = some false := fun c h => by
    rcases c with _ | _ | _ | _ | _ | _ | _ | c
    · exact absurd (show false = true from h) Bool.false_ne_true
    · exact fun t ht => by
        simp only [tyNames, List.mem_cons, List.not_mem_nil, or_false] at ht
        rcases ht with rfl | rfl | rfl | rfl | rfl | rfl | rfl
        · exact kB_Fold_NoneType
        · exact kB_Fold_bool
        · exact kB_Fold_int
        · exact kB_Fold_str
        · exact kB_Fold_tuple
        · exact kB_Fold_list
        · exact kB_Fold_dict
    · exact absurd (show false = true from h) Bool.false_ne_true
    · exact absurd (show false = true from h) Bool.false_ne_true
    · exact absurd (show false = true from h) Bool.false_ne_true
    · exact absurd (show false = true from h) Bool.false_ne_true
    · exact absurd (show false = true from h) Bool.false_ne_true
    · exact absurd (show false = true from h) Bool.false_ne_true
  have TnT : ∀ c, Kc.has (⟨K, clF 0 c_Fold 0 0 0 0 0, hasF false true false false false false false⟩ : Kc) c = true → ∀ T ∈ tyNames, PySem.W.notFirst K (Kc.cl (⟨K, clF 0 c_Fold 0 0 0 0 0, hasF false true false false false false false⟩ : Kc) c) (.type T) = true := fun c h => by
    rcases c with _ | _ | _ | _ | _ | _ | _ | c
    · exact absurd (show false = true from h) Bool.false_ne_true
    · exact fun t ht => by
        simp only [tyNames, List.mem_cons, List.not_mem_nil, or_false] at ht
        rcases ht with rfl | rfl | rfl | rfl | rfl | rfl | rfl
        · exact nT_Fold_NoneType
        · exact nT_Fold_bool
        · exact nT_Fold_int
        · exact nT_Fold_str
        · exact nT_Fold_tuple
        · exact nT_Fold_list
        · exact nT_Fold_dict
    · exact absurd (show false = true from h) Bool.false_ne_true
    · exact absurd (show false = true from h) Bool.false_ne_true
    · exact absurd (show false = true from h) Bool.false_ne_true
    · exact absurd (show false = true from h) Bool.false_ne_true
    · exact absurd (show false = true from h) Bool.false_ne_true
    · exact absurd (show false = true from h) Bool.false_ne_true
  have Tne : ∀ c, Kc.has (⟨K, clF 0 c_Fold 0 0 0 0 0, hasF false true false false false false false⟩ : Kc) c = true → PySem.W.findIn K (.ref (Kc.cl (⟨K, clF 0 c_Fold 0 0 0 0 0, hasF false true false false false false false⟩ : Kc) c)) "__ne__" = some (some (.builtin "object.__ne__")) := fun c h => by
    rcases c with _ | _ | _ | _ | _ | _ | _ | c
    · exact absurd (show false = true from h) Bool.false_ne_true
    · exact ne_Fold
    · exact absurd (show false = true from h) Bool.false_ne_true
    · exact absurd (show false = true from h) Bool.false_ne_true
    · exact absurd (show false = true from h) Bool.false_ne_true
    · exact absurd (show false = true from h) Bool.false_ne_true
    · exact absurd (show false = true from h) Bool.false_ne_true
    · exact absurd (show false = true from h) Bool.false_ne_true
  have TkC : ∀ c, Kc.has (⟨K, clF 0 c_Fold 0 0 0 0 0, hasF false true false false false false false⟩ : Kc) c = true → ∀ c', Kc.has (⟨K, clF 0 c_Fold 0 0 0 0 0, hasF false true false false false false false⟩ : Kc) c' = true → c ≠ c' → PySem.W.kitOne K (.ref (Kc.cl (⟨K, clF 0 c_Fold 0 0 0 0 0, hasF false true false false false false false⟩ : Kc) c)) (.ref (Kc.cl (⟨K, clF 0 c_Fold 0 0 0 0 0, hasF false true false false false false false⟩ : Kc) c')) = some false := fun c h => by
    rcases c with _ | _ | _ | _ | _ | _ | _ | c
    · exact absurd (show false = true from h) Bool.false_ne_true
    · intro c' h' nn
      rcases c' with _ | _ | _ | _ | _ | _ | _ | c'
      · exact absurd (show false = true from h') Bool.false_ne_true
      · exact absurd rfl nn
      · exact absurd (show false = true from h') Bool.false_ne_true
      · exact absurd (show false = true from h') Bool.false_ne_true
      · exact absurd (show false = true from h') Bool.false_ne_true
      · exact absurd (show false = true from h') Bool.false_ne_true
      · exact absurd (show false = true from h') Bool.false_ne_true
      · exact absurd (show false = true from h') Bool.false_ne_true
    · exact absurd (show false = true from h) Bool.false_ne_true
    · exact absurd (show false = true from h) Bool.false_ne_true
    · exact absurd (show false = true from h) Bool.false_ne_true
    · exact absurd (show false = true from h) Bool.false_ne_true
    · exact absurd (show false = true from h) Bool.false_ne_true
    · exact absurd (show false = true from h) Bool.false_ne_true
  have Tnf : ∀ c, Kc.has (⟨K, clF 0 c_Fold 0 0 0 0 0, hasF false true false false false false false⟩ : Kc) c = true → ∀ c', Kc.has (⟨K, clF 0 c_Fold 0 0 0 0 0, hasF false true false false false false false⟩ : Kc) c' = true → True → PySem.W.notFirst K (Kc.cl (⟨K, clF 0 c_Fold 0 0 0 0 0, hasF false true false false false false false⟩ : Kc) c) (.ref (Kc.cl (⟨K, clF 0 c_Fold 0 0 0 0 0, hasF false true false false false false false⟩ : Kc) c')) = true := fun c h => by
    rcases c with _ | _ | _ | _ | _ | _ | _ | c
    · exact absurd (show false = true from h) Bool.false_ne_true
    · intro c' h' nn
      rcases c' with _ | _ | _ | _ | _ | _ | _ | c'
      · exact absurd (show false = true from h') Bool.false_ne_true
      · exact nf_Fold_Fold
      · exact absurd (show false = true from h') Bool.false_ne_true
      · exact absurd (show false = true from h') Bool.false_ne_true
      · exact absurd (show false = true from h') Bool.false_ne_true
      · exact absurd (show false = true from h') Bool.false_ne_true
      · exact absurd (show false = true from h') Bool.false_ne_true
      · exact absurd (show false = true from h') Bool.false_ne_true
    · exact absurd (show false = true from h) Bool.false_ne_true
    · exact absurd (show false = true from h) Bool.false_ne_true
    · exact absurd (show false = true from h) Bool.false_ne_true
    · exact absurd (show false = true from h) Bool.false_ne_true
    · exact absurd (show false = true from h) Bool.false_ne_true
    · exact absurd (show false = true from h) Bool.false_ne_true
  have zz_isinstance := zf z_isinstance
  have zz_len := zf z_len
  have zz_int := zf z_int
  have zz_bool := zf z_bool
  have zz_str := zf z_str
  have zz_tuple := zf z_tuple
  have zz_list := zf z_list
  have zz_range := zf z_range
  have zz_enumerate := zf z_enumerate
  have zz_abs := zf z_abs
  have zz_max := zf z_max
  have zz_min := zf z_min
  have zz_all := zf z_all
  have zz_any := zf z_any
  have zz_sum := zf z_sum
  have zz_repr := zf z_repr
  have zz_sorted := zf z_sorted
  have zz_set := zf z_set
  have zz_dict := zf z_dict
  have zz_zip := zf z_zip
  have Tnb : ∀ n ∈ bltNames, mg n = none := fun n hn => by
    simp only [bltNames, List.mem_cons, List.not_mem_nil, or_false] at hn
    rcases hn with rfl | rfl | rfl | rfl | rfl | rfl | rfl | rfl | rfl | rfl | rfl | rfl | rfl | rfl | rfl | rfl | rfl | rfl | rfl | rfl
    · exact zz_isinstance
    · exact zz_len
    · exact zz_int
    · exact zz_bool
    · exact zz_str
    · exact zz_tuple
    · exact zz_list
    · exact zz_range
    · exact zz_enumerate
    · exact zz_abs
    · exact zz_max
    · exact zz_min
    · exact zz_all
    · exact zz_any
    · exact zz_sum
    · exact zz_repr
    · exact zz_sorted
    · exact zz_set
    · exact zz_dict
    · exact zz_zip
  have T : Tx (⟨K, clF 0 c_Fold 0 0 0 0 0, hasF false true false false false false false⟩ : Kc) mg := ⟨Tnb, Tcn, Tins, Tna, TkO, TkB, fun c c' h h' n => TkC c h c' h' n, fun c c' h h' => Tnf c h c' h' trivial, TnT, Tne, fun h => absurd (show false = true from h) Bool.false_ne_true, fun h => absurd (show false = true from h) Bool.false_ne_true, fun h => absurd (show false = true from h) Bool.false_ne_true, fun h => absurd (show false = true from h) Bool.false_ne_true⟩
  have h_Fold : Kc.has (⟨K, clF 0 c_Fold 0 0 0 0 0, hasF false true false false false false false⟩ : Kc) 1 = true := rfl
  have g_MOST_CELLS : ∃ t, mg "MOST_CELLS" = some (.int 8 t) := ⟨tk_MOST_CELLS, PySem.W.mg_of X G a1_MOST_CELLS⟩
  have g_MOST_ROW : ∃ t, mg "MOST_ROW" = some (.int 200 t) := ⟨tk_MOST_ROW, PySem.W.mg_of X G a1_MOST_ROW⟩
  have t_Watch_len : (⟨K, clF 0 c_Fold 0 0 0 0 0, hasF false true false false false false false⟩ : Kc).has 4 = true → Met l.prog w (⟨K, clF 0 c_Fold 0 0 0 0 0, hasF false true false false false false false⟩ : Kc) mg base 1 4 "__len__" (spF (⟨K, clF 0 c_Fold 0 0 0 0 0, hasF false true false false false false false⟩ : Kc) (l1 Watch_len)) := fun h => absurd (show false = true from h) Bool.false_ne_true
  have c_is_integer := cal_mk (C := (⟨K, clF 0 c_Fold 0 0 0 0 0, hasF false true false false false false false⟩ : Kc)) (ok_f_is_integer (P := l.prog) (w := w) (C := (⟨K, clF 0 c_Fold 0 0 0 0 0, hasF false true false false false false false⟩ : Kc)) (mg := mg) (base := base) F_is_integer T ) F_is_integer b_is_integer g_is_integer
  have c_is_between := cal_mk (C := (⟨K, clF 0 c_Fold 0 0 0 0 0, hasF false true false false false false false⟩ : Kc)) (ok_f_is_between (P := l.prog) (w := w) (C := (⟨K, clF 0 c_Fold 0 0 0 0 0, hasF false true false false false false false⟩ : Kc)) (mg := mg) (base := base) F_is_between T c_is_integer) F_is_between b_is_between g_is_between
  have c_is_cell := cal_mk (C := (⟨K, clF 0 c_Fold 0 0 0 0 0, hasF false true false false false false false⟩ : Kc)) (ok_f_is_cell (P := l.prog) (w := w) (C := (⟨K, clF 0 c_Fold 0 0 0 0 0, hasF false true false false false false false⟩ : Kc)) (mg := mg) (base := base) F_is_cell T c_is_between) F_is_cell b_is_cell g_is_cell
  have c_check_cells := cal_mk (C := (⟨K, clF 0 c_Fold 0 0 0 0 0, hasF false true false false false false false⟩ : Kc)) (ok_f_check_cells (P := l.prog) (w := w) (C := (⟨K, clF 0 c_Fold 0 0 0 0 0, hasF false true false false false false false⟩ : Kc)) (mg := mg) (base := base) F_check_cells T g_MOST_CELLS c_is_cell) F_check_cells b_check_cells g_check_cells
  have oI_Fold := (ok_Fold_init (P := l.prog) (w := w) (C := (⟨K, clF 0 c_Fold 0 0 0 0 0, hasF false true false false false false false⟩ : Kc)) (mg := mg) (base := base) F_Fold_init T c_check_cells h_Fold)
  have m_Fold_1 : Mak l.prog w (⟨K, clF 0 c_Fold 0 0 0 0 0, hasF false true false false false false false⟩ : Kc) mg base 5 "Fold" 1 (fun ds fs => l1 Fold_init ds = .ok fs) [] := ⟨_, _, _, [], [], oI_Fold, gc_Fold, M_Fold, b_Fold_init, .nil, fun _ => .nil, rfl⟩
  have c_check_fold := cal_mk (C := (⟨K, clF 0 c_Fold 0 0 0 0 0, hasF false true false false false false false⟩ : Kc)) (ok_f_check_fold (P := l.prog) (w := w) (C := (⟨K, clF 0 c_Fold 0 0 0 0 0, hasF false true false false false false false⟩ : Kc)) (mg := mg) (base := base) F_check_fold T h_Fold) F_check_fold b_check_fold g_check_fold
  have t_Fold_len : (⟨K, clF 0 c_Fold 0 0 0 0 0, hasF false true false false false false false⟩ : Kc).has 1 = true → Met l.prog w (⟨K, clF 0 c_Fold 0 0 0 0 0, hasF false true false false false false false⟩ : Kc) mg base 1 1 "__len__" (spF (⟨K, clF 0 c_Fold 0 0 0 0 0, hasF false true false false false false false⟩ : Kc) (l1 Fold_len)) := fun _ => ⟨_, _, _, (ok_Fold_len (P := l.prog) (w := w) (C := (⟨K, clF 0 c_Fold 0 0 0 0 0, hasF false true false false false false false⟩ : Kc)) (mg := mg) (base := base) F_Fold_len T ), cl_Fold, me_Fold_len, b_Fold_len⟩
  have c_are_small := cal_mk (C := (⟨K, clF 0 c_Fold 0 0 0 0 0, hasF false true false false false false false⟩ : Kc)) (ok_f_are_small (P := l.prog) (w := w) (C := (⟨K, clF 0 c_Fold 0 0 0 0 0, hasF false true false false false false false⟩ : Kc)) (mg := mg) (base := base) F_are_small T ) F_are_small b_are_small g_are_small
  have c_check_colours := cal_mk (C := (⟨K, clF 0 c_Fold 0 0 0 0 0, hasF false true false false false false false⟩ : Kc)) (ok_f_check_colours (P := l.prog) (w := w) (C := (⟨K, clF 0 c_Fold 0 0 0 0 0, hasF false true false false false false false⟩ : Kc)) (mg := mg) (base := base) F_check_colours T t_Fold_len t_Watch_len c_are_small) F_check_colours b_check_colours g_check_colours
  have c_check_shown := cal_mk (C := (⟨K, clF 0 c_Fold 0 0 0 0 0, hasF false true false false false false false⟩ : Kc)) (ok_f_check_shown (P := l.prog) (w := w) (C := (⟨K, clF 0 c_Fold 0 0 0 0 0, hasF false true false false false false false⟩ : Kc)) (mg := mg) (base := base) F_check_shown T c_check_fold c_check_colours) F_check_shown b_check_shown g_check_shown
  have c_cells_of_colour := cal_mk (C := (⟨K, clF 0 c_Fold 0 0 0 0 0, hasF false true false false false false false⟩ : Kc)) (ok_f_cells_of_colour (P := l.prog) (w := w) (C := (⟨K, clF 0 c_Fold 0 0 0 0 0, hasF false true false false false false false⟩ : Kc)) (mg := mg) (base := base) F_cells_of_colour T ) F_cells_of_colour b_cells_of_colour g_cells_of_colour
  have c_opened := cal_mk (C := (⟨K, clF 0 c_Fold 0 0 0 0 0, hasF false true false false false false false⟩ : Kc)) (ok_f_opened (P := l.prog) (w := w) (C := (⟨K, clF 0 c_Fold 0 0 0 0 0, hasF false true false false false false false⟩ : Kc)) (mg := mg) (base := base) F_opened T t_Fold_len t_Watch_len c_cells_of_colour) F_opened b_opened g_opened
  have c_run_of := cal_mk (C := (⟨K, clF 0 c_Fold 0 0 0 0 0, hasF false true false false false false false⟩ : Kc)) (ok_f_run_of (P := l.prog) (w := w) (C := (⟨K, clF 0 c_Fold 0 0 0 0 0, hasF false true false false false false false⟩ : Kc)) (mg := mg) (base := base) F_run_of T ) F_run_of b_run_of g_run_of
  have c_led_to := cal_mk (C := (⟨K, clF 0 c_Fold 0 0 0 0 0, hasF false true false false false false false⟩ : Kc)) (ok_f_led_to (P := l.prog) (w := w) (C := (⟨K, clF 0 c_Fold 0 0 0 0 0, hasF false true false false false false false⟩ : Kc)) (mg := mg) (base := base) F_led_to T c_run_of c_cells_of_colour) F_led_to b_led_to g_led_to
  have c_cells_behind := cal_mk (C := (⟨K, clF 0 c_Fold 0 0 0 0 0, hasF false true false false false false false⟩ : Kc)) (ok_f_cells_behind (P := l.prog) (w := w) (C := (⟨K, clF 0 c_Fold 0 0 0 0 0, hasF false true false false false false false⟩ : Kc)) (mg := mg) (base := base) F_cells_behind T c_opened c_led_to) F_cells_behind b_cells_behind g_cells_behind
  have c_is_shown := cal_mk (C := (⟨K, clF 0 c_Fold 0 0 0 0 0, hasF false true false false false false false⟩ : Kc)) (ok_f_is_shown (P := l.prog) (w := w) (C := (⟨K, clF 0 c_Fold 0 0 0 0 0, hasF false true false false false false false⟩ : Kc)) (mg := mg) (base := base) F_is_shown T c_check_shown g_MOST_ROW c_are_small c_cells_behind) F_is_shown b_is_shown g_is_shown
  have ck_is_shown_word_fold_colours : CalK l.prog w (⟨K, clF 0 c_Fold 0 0 0 0 0, hasF false true false false false false false⟩ : Kc) mg base 5 "is_shown" (spF (⟨K, clF 0 c_Fold 0 0 0 0 0, hasF false true false false false false false⟩ : Kc) (l3 f_is_shown)) ["word", "fold", "colours"] [1, 2, 0] := ⟨_, _, _, (ok_f_is_shown (P := l.prog) (w := w) (C := (⟨K, clF 0 c_Fold 0 0 0 0 0, hasF false true false false false false false⟩ : Kc)) (mg := mg) (base := base) F_is_shown T c_check_shown g_MOST_ROW c_are_small c_cells_behind), g_is_shown, F_is_shown.kp, Fun.kbn (C := (⟨K, clF 0 c_Fold 0 0 0 0 0, hasF false true false false false false false⟩ : Kc)) F_is_shown 0 ["word", "fold", "colours"] [1, 2, 0] fun _ _ _ _ _ _ us ws hl hw => match us, hl, ws, hw with | [], _, [_, _, _], _ => rfl⟩
  have c_law_urn := cal_mk (C := (⟨K, clF 0 c_Fold 0 0 0 0 0, hasF false true false false false false false⟩ : Kc)) (ok_f_law_urn (P := l.prog) (w := w) (C := (⟨K, clF 0 c_Fold 0 0 0 0 0, hasF false true false false false false false⟩ : Kc)) (mg := mg) (base := base) F_law_urn T t_Fold_len t_Watch_len) F_law_urn b_law_urn g_law_urn
  have c_law_take := cal_mk (C := (⟨K, clF 0 c_Fold 0 0 0 0 0, hasF false true false false false false false⟩ : Kc)) (ok_f_law_take (P := l.prog) (w := w) (C := (⟨K, clF 0 c_Fold 0 0 0 0 0, hasF false true false false false false false⟩ : Kc)) (mg := mg) (base := base) F_law_take T ) F_law_take b_law_take g_law_take
  have c_law_dough := cal_mk (C := (⟨K, clF 0 c_Fold 0 0 0 0 0, hasF false true false false false false false⟩ : Kc)) (ok_f_law_dough (P := l.prog) (w := w) (C := (⟨K, clF 0 c_Fold 0 0 0 0 0, hasF false true false false false false false⟩ : Kc)) (mg := mg) (base := base) F_law_dough T c_law_take) F_law_dough b_law_dough g_law_dough
  have c_law_hue := cal_mk (C := (⟨K, clF 0 c_Fold 0 0 0 0 0, hasF false true false false false false false⟩ : Kc)) (ok_f_law_hue (P := l.prog) (w := w) (C := (⟨K, clF 0 c_Fold 0 0 0 0 0, hasF false true false false false false false⟩ : Kc)) (mg := mg) (base := base) F_law_hue T c_law_take t_Fold_len t_Watch_len) F_law_hue b_law_hue g_law_hue
  have c_law_path := cal_mk (C := (⟨K, clF 0 c_Fold 0 0 0 0 0, hasF false true false false false false false⟩ : Kc)) (ok_f_law_path (P := l.prog) (w := w) (C := (⟨K, clF 0 c_Fold 0 0 0 0 0, hasF false true false false false false false⟩ : Kc)) (mg := mg) (base := base) F_law_path T t_Fold_len t_Watch_len c_law_take) F_law_path b_law_path g_law_path
  have c_law_spelled := cal_mk (C := (⟨K, clF 0 c_Fold 0 0 0 0 0, hasF false true false false false false false⟩ : Kc)) (ok_f_law_spelled (P := l.prog) (w := w) (C := (⟨K, clF 0 c_Fold 0 0 0 0 0, hasF false true false false false false false⟩ : Kc)) (mg := mg) (base := base) F_law_spelled T ) F_law_spelled b_law_spelled g_law_spelled
  have c_law_word := cal_mk (C := (⟨K, clF 0 c_Fold 0 0 0 0 0, hasF false true false false false false false⟩ : Kc)) (ok_f_law_word (P := l.prog) (w := w) (C := (⟨K, clF 0 c_Fold 0 0 0 0 0, hasF false true false false false false false⟩ : Kc)) (mg := mg) (base := base) F_law_word T c_law_take c_law_path c_law_spelled t_Fold_len t_Watch_len) F_law_word b_law_word g_law_word
  have c_law_opened := cal_mk (C := (⟨K, clF 0 c_Fold 0 0 0 0 0, hasF false true false false false false false⟩ : Kc)) (ok_f_law_opened (P := l.prog) (w := w) (C := (⟨K, clF 0 c_Fold 0 0 0 0 0, hasF false true false false false false false⟩ : Kc)) (mg := mg) (base := base) F_law_opened T t_Fold_len t_Watch_len) F_law_opened b_law_opened g_law_opened
  have c_law_behind := cal_mk (C := (⟨K, clF 0 c_Fold 0 0 0 0 0, hasF false true false false false false false⟩ : Kc)) (ok_f_law_behind (P := l.prog) (w := w) (C := (⟨K, clF 0 c_Fold 0 0 0 0 0, hasF false true false false false false false⟩ : Kc)) (mg := mg) (base := base) F_law_behind T t_Fold_len t_Watch_len) F_law_behind b_law_behind g_law_behind
  have c_law_led := cal_mk (C := (⟨K, clF 0 c_Fold 0 0 0 0 0, hasF false true false false false false false⟩ : Kc)) (ok_f_law_led (P := l.prog) (w := w) (C := (⟨K, clF 0 c_Fold 0 0 0 0 0, hasF false true false false false false false⟩ : Kc)) (mg := mg) (base := base) F_law_led T c_law_opened c_law_behind) F_law_led b_law_led g_law_led
  have c_law_right := calG_mk (C := (⟨K, clF 0 c_Fold 0 0 0 0 0, hasF false true false false false false false⟩ : Kc)) (ok_f_law_right (P := l.prog) (w := w) (C := (⟨K, clF 0 c_Fold 0 0 0 0 0, hasF false true false false false false false⟩ : Kc)) (mg := mg) (base := base) F_law_right T c_law_dough m_Fold_1 t_Fold_len t_Watch_len c_law_hue c_law_take c_law_word c_law_led c_is_shown ck_is_shown_word_fold_colours) F_law_right b_law_right g_law_right
  exact law_ofG (C := (⟨K, clF 0 c_Fold 0 0 0 0 0, hasF false true false false false false false⟩ : Kc)) (ok_f_law (P := l.prog) (w := w) (C := (⟨K, clF 0 c_Fold 0 0 0 0 0, hasF false true false false false false false⟩ : Kc)) (mg := mg) (base := base) F_law T m_Fold_1 c_is_shown t_Fold_len t_Watch_len c_law_urn c_law_right) fun is h => SL.K44.main is h
end SL.K44

open PySem PySem.W PyProof.Rows in
set_option maxRecDepth 100000 in
set_option maxHeartbeats 0 in
theorem PySem.Challenge.cw_doughfolds_k44_rows_of_colours_by_sets_holds : PySem.Challenge.rw_doughfolds_k44_rows_of_colours_by_sets.Holds := by
  w_on; o_law; k_head; (case hw => w_witness2)
  k_fill
  refine DL.walkG (l := PySem.Challenge.rw_doughfolds_k44_rows_of_colours_by_sets) (k := 8) "_law_script" (by decide) rfl rfl (fun w h Y => PySem.W.kIn_of Y) ?F
  case F =>
    intro w mg fa h KX G hmg
    refine' SL.K44.all_mk KX G hmg ?gs_n ?gs_t ?a_Fold ?pg_Fold ?hd_Fold ?po_Fold ?sa_Fold ?ha_Fold ?hm_Fold ?mk_Fold ?kc_Fold ?a_Fold_init ?i_Fold_init ?l_Fold_init ?cd_Fold_init_ ?k_Fold_init ?a_Fold_len ?i_Fold_len ?l_Fold_len ?cd_Fold_len_ ?k_Fold_len ?a_is_integer ?l_is_integer ?cd_is_integer_ ?k_is_integer ?a_is_between ?l_is_between ?cd_is_between_ ?k_is_between ?a_is_cell ?l_is_cell ?cd_is_cell_ ?k_is_cell ?a_check_cells ?l_check_cells ?cd_check_cells_ ?k_check_cells ?a_check_fold ?l_check_fold ?cd_check_fold_ ?k_check_fold ?a_are_small ?l_are_small ?cd_are_small_ ?k_are_small ?a_check_colours ?l_check_colours ?cd_check_colours_ ?k_check_colours ?a_check_shown ?l_check_shown ?cd_check_shown_ ?k_check_shown ?a_cells_of_colour ?l_cells_of_colour ?cd_cells_of_colour_ ?k_cells_of_colour ?a_opened ?l_opened ?cd_opened_ ?k_opened ?a_run_of ?l_run_of ?cd_run_of_ ?k_run_of ?a_led_to ?l_led_to ?cd_led_to_ ?k_led_to ?a_cells_behind ?l_cells_behind ?cd_cells_behind_ ?k_cells_behind ?a_is_shown ?l_is_shown ?cd_is_shown_ ?k_is_shown ?a_law_urn ?l_law_urn ?cd_law_urn_ ?k_law_urn ?a_law_take ?l_law_take ?cd_law_take_ ?k_law_take ?a_law_dough ?l_law_dough ?cd_law_dough_ ?k_law_dough ?a_law_hue ?l_law_hue ?cd_law_hue_ ?k_law_hue ?a_law_path ?l_law_path ?cd_law_path_ ?k_law_path ?a_law_spelled ?l_law_spelled ?cd_law_spelled_ ?k_law_spelled ?a_law_word ?l_law_word ?cd_law_word_ ?k_law_word ?a_law_opened ?l_law_opened ?cd_law_opened_ ?k_law_opened ?a_law_behind ?l_law_behind ?cd_law_behind_ ?k_law_behind ?a_law_led ?l_law_led ?cd_law_led_ ?k_law_led ?a_law_right ?l_law_right ?cd_law_right_ ?k_law_right ?a_law ?l_law ?cd_law_ ?k_law ?z_isinstance ?z_len ?z_int ?z_bool ?z_str ?z_tuple ?z_list ?z_range ?z_enumerate ?z_abs ?z_max ?z_min ?z_all ?z_any ?z_sum ?z_repr ?z_sorted ?z_set ?z_dict ?z_zip ?n_Fold_cells ?kO_Fold_int ?kO_Fold_bool ?kO_Fold_str ?kO_Fold_tuple ?kB_Fold_NoneType ?kB_Fold_bool ?kB_Fold_int ?kB_Fold_str ?kB_Fold_tuple ?kB_Fold_list ?kB_Fold_dict ?nT_Fold_NoneType ?nT_Fold_bool ?nT_Fold_int ?nT_Fold_str ?nT_Fold_tuple ?nT_Fold_list ?nT_Fold_dict ?ne_Fold ?nf_Fold_Fold ?a1_MOST_CELLS ?a1_MOST_ROW
    (case gs_n => k_is)
    (case gs_t => k_is)
    (case a_Fold => k_is)
    (case pg_Fold => k_is)
    (case hd_Fold => k_is)
    (case po_Fold => k_is)
    (case sa_Fold => k_is)
    (case ha_Fold => k_is)
    (case hm_Fold => k_is)
    (case mk_Fold => k_is)
    (case kc_Fold => k_is)
    (case a_Fold_init => k_is)
    (case i_Fold_init => k_is)
    (case l_Fold_init => k_is)
    (case cd_Fold_init_ => k_is)
    (case k_Fold_init => k_is)
    (case a_Fold_len => k_is)
    (case i_Fold_len => k_is)
    (case l_Fold_len => k_is)
    (case cd_Fold_len_ => k_is)
    (case k_Fold_len => k_is)
    (case a_is_integer => k_is)
    (case l_is_integer => k_is)
    (case cd_is_integer_ => k_is)
    (case k_is_integer => k_is)
    (case a_is_between => k_is)
    (case l_is_between => k_is)
    (case cd_is_between_ => k_is)
    (case k_is_between => k_is)
    (case a_is_cell => k_is)
    (case l_is_cell => k_is)
    (case cd_is_cell_ => k_is)
    (case k_is_cell => k_is)
    (case a_check_cells => k_is)
    (case l_check_cells => k_is)
    (case cd_check_cells_ => k_is)
    (case k_check_cells => k_is)
    (case a_check_fold => k_is)
    (case l_check_fold => k_is)
    (case cd_check_fold_ => k_is)
    (case k_check_fold => k_is)
    (case a_are_small => k_is)
    (case l_are_small => k_is)
    (case cd_are_small_ => k_is)
    (case k_are_small => k_is)
    (case a_check_colours => k_is)
    (case l_check_colours => k_is)
    (case cd_check_colours_ => k_is)
    (case k_check_colours => k_is)
    (case a_check_shown => k_is)
    (case l_check_shown => k_is)
    (case cd_check_shown_ => k_is)
    (case k_check_shown => k_is)
    (case a_cells_of_colour => k_is)
    (case l_cells_of_colour => k_is)
    (case cd_cells_of_colour_ => k_is)
    (case k_cells_of_colour => k_is)
    (case a_opened => k_is)
    (case l_opened => k_is)
    (case cd_opened_ => k_is)
    (case k_opened => k_is)
    (case a_run_of => k_is)
    (case l_run_of => k_is)
    (case cd_run_of_ => k_is)
    (case k_run_of => k_is)
    (case a_led_to => k_is)
    (case l_led_to => k_is)
    (case cd_led_to_ => k_is)
    (case k_led_to => k_is)
    (case a_cells_behind => k_is)
    (case l_cells_behind => k_is)
    (case cd_cells_behind_ => k_is)
    (case k_cells_behind => k_is)
    (case a_is_shown => k_is)
    (case l_is_shown => k_is)
    (case cd_is_shown_ => k_is)
    (case k_is_shown => k_is)
    (case a_law_urn => k_is)
    (case l_law_urn => k_is)
    (case cd_law_urn_ => k_is)
    (case k_law_urn => k_is)
    (case a_law_take => k_is)
    (case l_law_take => k_is)
    (case cd_law_take_ => k_is)
    (case k_law_take => k_is)
    (case a_law_dough => k_is)
    (case l_law_dough => k_is)
    (case cd_law_dough_ => k_is)
    (case k_law_dough => k_is)
    (case a_law_hue => k_is)
    (case l_law_hue => k_is)
    (case cd_law_hue_ => k_is)
    (case k_law_hue => k_is)
    (case a_law_path => k_is)
    (case l_law_path => k_is)
    (case cd_law_path_ => k_is)
    (case k_law_path => k_is)
    (case a_law_spelled => k_is)
    (case l_law_spelled => k_is)
    (case cd_law_spelled_ => k_is)
    (case k_law_spelled => k_is)
    (case a_law_word => k_is)
    (case l_law_word => k_is)
    (case cd_law_word_ => k_is)
    (case k_law_word => k_is)
    (case a_law_opened => k_is)
    (case l_law_opened => k_is)
    (case cd_law_opened_ => k_is)
    (case k_law_opened => k_is)
    (case a_law_behind => k_is)
    (case l_law_behind => k_is)
    (case cd_law_behind_ => k_is)
    (case k_law_behind => k_is)
    (case a_law_led => k_is)
    (case l_law_led => k_is)
    (case cd_law_led_ => k_is)
    (case k_law_led => k_is)
    (case a_law_right => k_is)
    (case l_law_right => k_is)
    (case cd_law_right_ => k_is)
    (case k_law_right => k_is)
    (case a_law => k_is)
    (case l_law => k_is)
    (case cd_law_ => k_is)
    (case k_law => k_is)
    (case z_isinstance => k_is)
    (case z_len => k_is)
    (case z_int => k_is)
    (case z_bool => k_is)
    (case z_str => k_is)
    (case z_tuple => k_is)
    (case z_list => k_is)
    (case z_range => k_is)
    (case z_enumerate => k_is)
    (case z_abs => k_is)
    (case z_max => k_is)
    (case z_min => k_is)
    (case z_all => k_is)
    (case z_any => k_is)
    (case z_sum => k_is)
    (case z_repr => k_is)
    (case z_sorted => k_is)
    (case z_set => k_is)
    (case z_dict => k_is)
    (case z_zip => k_is)
    (case n_Fold_cells => k_is)
    (case kO_Fold_int => kernel_rfl)
    (case kO_Fold_bool => kernel_rfl)
    (case kO_Fold_str => kernel_rfl)
    (case kO_Fold_tuple => kernel_rfl)
    (case kB_Fold_NoneType => kernel_rfl)
    (case kB_Fold_bool => kernel_rfl)
    (case kB_Fold_int => kernel_rfl)
    (case kB_Fold_str => kernel_rfl)
    (case kB_Fold_tuple => kernel_rfl)
    (case kB_Fold_list => kernel_rfl)
    (case kB_Fold_dict => kernel_rfl)
    (case nT_Fold_NoneType => k_is)
    (case nT_Fold_bool => k_is)
    (case nT_Fold_int => k_is)
    (case nT_Fold_str => k_is)
    (case nT_Fold_tuple => k_is)
    (case nT_Fold_list => k_is)
    (case nT_Fold_dict => k_is)
    (case ne_Fold => k_is)
    (case nf_Fold_Fold => k_is)
    (case a1_MOST_CELLS => k_is)
    (case a1_MOST_ROW => k_is)
#print axioms PySem.Challenge.cw_doughfolds_k44_rows_of_colours_by_sets_holds
