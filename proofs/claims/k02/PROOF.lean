import PyProof.Rows.All
import Wide.All
import OpenK.AllK
import Wide.FinOn
import HandS.ForMost
import HandS.Small
import HandS.TupLen
import KE.KDictKeyed
import KE.KeyNested
import HandS.Flow
import HandS.Conv
import HandS.IsInst
import HandS.OwnEq
import HandS.MakeKw
import HandS.Defaults
import HandS.Lambda
import HandS.HotCalls
import HandS.MakeKwOnly
import HandS.Style
import PyProof.ReprRoads
import KE.KOpsOwn
import OpenK.KOps
import HandS.TupAny
import HandS.TupMul
import HandS.Words
import HandS.FStr
import HandS.TryOnly
import HandS.List
import KE.KCallOwn
import HandS.Iter
import HandS.Text
import KE.GoesEnum
import HandS.DictTup
import HandS.DictComp
import HandS.ReCall
import KE.KDictCopyH
import KE.KDictWalk
import KE.KDictSum
import HandS.Wide
import PyProof.StrOps2
import HandS.SortInts
import HandS.Deep
import HandS.RaiseMore
import KE.KRevSl
import HandS.ClsMeth
import HandS.Replace
import HandS.SetFor
import HandS.Strs
import HandS.Zip
import KE.KEqNest
import HandS.WordsDict
import PyProof.Rows.IntBool
import PyProof.CallStr
import PyProof.AutoSeq1
import HandS.HeadEnd
import HandS.HeadHook1
import HandS.HeadHook2
import HandS.Head0
import HandS.Head1
import HandS.Head2
import PyProof.Rows.StrComp
import HandS.ReplaceLit
import HandS.WordsExc
import HandS.ExcInit
import KE.OsGo
import HandS.ExcIs
import HandS.ExcField
import KE.KExcIs
import KE.KTryMore
import HandS.ExcOwn
import PyProof.ListStr
import PyProof.TupleOfStr
import PyProof.StrBlock2
import HandS.EndTab
import HandS.HeadHook4
import PyProof.Rows.ReprOcc
import KE.KIntText
import HandS.Codes
import KE.IntTextLaws
import PySem.Challenge.RW_doughfolds_k02_texts_of_ratios
set_option Elab.async false
set_option linter.all false
set_option maxRecDepth 100000
set_option maxHeartbeats 4000000
namespace ND
open PySem PySem.Spec PyProof.Rows L2
abbrev NEnt := NestedKey × Addr × Value
def NDO (P : Program) (w : World) (a : Addr) (o : Obj) (xs : List NEnt) : HO := .ext fun h => xs.length ≤ 1000000 ∧ (a == sysModules) = false ∧ (xs.map (·.1)).Nodup ∧ ∃ es ep, h.get? a = some o ∧ o.ExactDict ∧ o.data = .dict es ep ∧ es.toList = xs.map (entryOfKey (nestedKind P w))
inductive NkH (K : PySem.W.Frag) (H : Hp) : V → NestedKey → Prop where
  | non : NkH K H .non .none
  | bl (b : Bool) : NkH K H (.bl b) (.num (if b = true then 1 else 0))
  | int (i : Int) : NkH K H (.int i) (.num i)
  | str (x : Str) : NkH K H (.str x) (.text x)
  | nil {a : Addr} : SqT K H a [] → NkH K H (.ref a) (.tup [])
  | cons {a : Addr} {v : V} {vs : List V} {k : NestedKey} {ks : List NestedKey} : SqT K H a (v :: vs) → NkH K H v k → (∀ (i : Nat) v k, vs[i]? = some v → ks[i]? = some k → NkH K H v k) → vs.length = ks.length → NkH K H (.ref a) (.tup (k :: ks))
theorem nall_of {h : Heap} : ∀ {vs : List Value} {ks : List NestedKey}, vs.length = ks.length → (∀ (i : Nat) v k, vs[i]? = some v → ks[i]? = some k → NestedIs h k v) → NestedAll h ks vs
  | [], [], _, _ => .nil
  | [], _ :: _, h, _ => nomatch h
  | _ :: _, [], h, _ => nomatch h
  | v :: vs, k :: ks, hl, h => .cons (h 0 v k rfl rfl) (nall_of (Nat.succ.inj hl) fun i v k a b => h (i + 1) v k (by simpa using a) (by simpa using b))
section
variable {X : Cx} {pins : List (Addr × Obj)} {σ : L2.St} {H : Hp} {s : Shared}
theorem nk_is (I : Inv X pins σ H s) {v : V} {k : NestedKey} (h : NkH X.K H v k) : ∀ {u : Value}, RelV v u → NestedIs s.heap k u := by
  induction h with
  | non => intro u r; cases r; exact .none
  | bl b => intro u r; cases r; exact .bool rfl
  | int i => intro u r; obtain ⟨t, rfl⟩ := r; exact .int i t
  | str x => intro u r; obtain ⟨t, rfl⟩ := r; exact .text x t
  | nil h =>
    intro u r
    cases r
    obtain ⟨its, rv, ⟨o, e, c, n, d⟩, _⟩ := I.tuple h
    cases rv
    exact .tup e c d .nil
  | @cons a v vs k ks h h1 h2 hl ih1 ih2 =>
    intro u r
    cases r
    obtain ⟨its, rv, ⟨o, e, c, n, d⟩, _⟩ := I.tuple h
    cases rv with
    | @cons _ y _ ys r1 r2 =>
      refine .tup e c d ?_
      show NestedAll s.heap (k :: ks) (y :: ys)
      refine .cons (ih1 r1) (nall_of (by rw [← r2.length]; exact hl) fun i u' k' a b => ?_)
      have hi : i < vs.length := by rw [r2.length]; exact (List.getElem?_eq_some_iff.mp a).1
      obtain ⟨w', e1, e2⟩ := Vals.get (i := i) r2 (List.getElem?_eq_getElem hi)
      rw [a] at e1
      cases e1
      exact ih2 i _ _ (List.getElem?_eq_getElem hi) b e2
def KH (K : PySem.W.Frag) (H : Hp) (xs : List NEnt) : Prop := ∀ x ∈ xs, NkH K H (.ref x.2.1) x.1 ∧ x.1.depth ≤ 8
theorem ndo_at (I : Inv X pins σ H s) {a : Addr} {o : Obj} {xs : List NEnt} (h : H a = some (NDO X.prog X.w a o xs)) (hk : KH X.K H xs) : xs.length ≤ 1000000 ∧ (a == sysModules) = false ∧ s.heap.DictOfH (nestedKind X.prog X.w) a xs := by
  obtain ⟨⟨h1, h2, h3, es, ep, h4, h5, h6, h7⟩, _, _⟩ := I.hok a _ h
  exact ⟨h1, h2, o, es, ep, h4, h5, h6, h7, fun x hx => ⟨nk_is I (hk x hx).1 rfl, (hk x hx).2⟩, h3⟩
theorem room8 (hu : X.A.units + 64 < cLine) : (nestedKind X.prog X.w).room X.A.in1 := by
  show X.A.in1.units + 8 < cLine
  have : X.A.in1.units = X.A.units + 1 := rfl
  omega
def rNLen (K : PySem.W.Frag) (P : Program) (w : World) : List V → Hp → VK → Prop := fun vs H Q => ∃ (a : Addr) (o : Obj) (xs : List NEnt), vs = [.ref a] ∧ H a = some (NDO P w a o xs) ∧ KH K H xs ∧ Q (.int ((xs.length : Nat) : Int)) H
theorem cr_nlen : CallR X (.builtin "len") (rNLen X.K X.prog X.w) := by
  intro pins s σ H vs us Q I r h
  obtain ⟨a, o, xs, rfl, ha, hk, q⟩ := h
  obtain ⟨u, rfl, rx⟩ := vals1 r
  obtain rfl : u = .ref a := rx
  obtain ⟨h1, h2, h3⟩ := ndo_at I ha hk
  exact call_len_dictH h2 h3 (by omega) ⟨.int ((xs.length : Nat) : Int), H, I.tok _, ⟨_, rfl⟩, q⟩
def rNIn (K : PySem.W.Frag) (P : Program) (w : World) (neg : Bool) : R2 := fun x y H Q => ∃ (b a : Addr) (o : Obj) (xs : List NEnt) (k : NestedKey), x = .ref b ∧ y = .ref a ∧ H a = some (NDO P w a o xs) ∧ KH K H xs ∧ NkH K H (.ref b) k ∧ k.depth ≤ 8 ∧ Q (.bl (if neg then !(atKey xs k).isSome else (atKey xs k).isSome)) H
theorem or_nin (hu : X.A.units + 64 < cLine) : OpR X (compareOp .In) (rNIn X.K X.prog X.w false) := by
  intro pins s σ H x y v u Q I rx ry h
  obtain ⟨b, a, od, xs, k, rfl, rfl, ha, hk, hb, h8, q⟩ := h
  cases rx
  cases ry
  obtain ⟨_, h2, h3⟩ := ndo_at I ha hk
  exact wpAny_in_heap (room8 hu) ⟨nk_is I hb rfl, h8⟩ h2 h3 ⟨.bl (atKey xs k).isSome, H, I.tok _, rfl, q⟩
end
end ND
namespace DL
open PySem L2
inductive D where
  | non | bl (b : Bool) | int (i : Int) | str (x : Str) | tup (xs : List D) | lst (xs : List D) | obj (c : Nat) (fs : List (Str × D)) | cst (v : V) | dic (kvs : List (D × D)) | dik (kvs : List (Key × D)) | dim (kvs : List (Key × D))
structure Kc where
  K : PySem.W.Frag
  P : Program
  w : World
  cl : Nat → Addr
  has : Nat → Bool
  xc : Nat → Addr := fun _ => 0
mutual
def nkD : D → Option NestedKey
  | .non => some .none
  | .bl b => some (.num (if b = true then 1 else 0))
  | .int i => some (.num i)
  | .str x => some (.text x)
  | .tup ds => (nkDs ds).map .tup
  | _ => none
def nkDs : List D → Option (List NestedKey)
  | [] => some []
  | d :: ds => (nkD d).bind fun k => (nkDs ds).map (k :: ·)
end
mutual
inductive Den (C : Kc) (G : Hp) : V → D → Prop where
  | non : Den C G .non .non
  | bl (b : Bool) : Den C G (.bl b) (.bl b)
  | int (i : Int) : Den C G (.int i) (.int i)
  | str (x : Str) : Den C G (.str x) (.str x)
  | tup {a : Addr} {xs : List V} {ds : List D} : SqT C.K G a xs → DenL C G xs ds → Den C G (.ref a) (.tup ds)
  | lst {a : Addr} {xs : List V} {ds : List D} : SqL C.K G a xs → DenL C G xs ds → Den C G (.ref a) (.lst ds)
  | obj {a dx : Addr} {c : Nat} {vs : List (Str × V)} {fs : List (Str × D)} : C.has c = true → G a = some (.ins (C.cl c) dx vs) → DenF C G vs fs → Den C G (.ref a) (.obj c fs)
  | cst (v : V) : Den C G v (.cst v)
  | dN {a : Addr} {o : Obj} {xs : List ND.NEnt} {kds : List (D × D)} : G a = some (ND.NDO C.P C.w a o xs) → DenN C G xs kds → Den C G (.ref a) (.dic kds)
  | dK {a : Addr} {o : Obj} {xs : List (Key × V)} {kds : List (Key × D)} : G a = some (.frz o (.dK xs)) → DenK C G xs kds → Den C G (.ref a) (.dik kds)
  | dM {a : Addr} {xs : List (Key × V)} {kds : List (Key × D)} : G a = some (.dK xs) → DenK C G xs kds → Den C G (.ref a) (.dim kds)
inductive DenK (C : Kc) (G : Hp) : List (Key × V) → List (Key × D) → Prop where
  | nil : DenK C G [] []
  | cons {k : Key} {v : V} {d : D} {vs : List (Key × V)} {ds : List (Key × D)} : Den C G v d → DenK C G vs ds → DenK C G ((k, v) :: vs) ((k, d) :: ds)
inductive DenL (C : Kc) (G : Hp) : List V → List D → Prop where
  | nil : DenL C G [] []
  | cons {v : V} {d : D} {vs : List V} {ds : List D} : Den C G v d → DenL C G vs ds → DenL C G (v :: vs) (d :: ds)
inductive DenF (C : Kc) (G : Hp) : List (Str × V) → List (Str × D) → Prop where
  | nil : DenF C G [] []
  | cons {f : Str} {v : V} {d : D} {vs : List (Str × V)} {ds : List (Str × D)} : Den C G v d → DenF C G vs ds → DenF C G ((f, v) :: vs) ((f, d) :: ds)
inductive DenN (C : Kc) (G : Hp) : List ND.NEnt → List (D × D) → Prop where
  | nil : DenN C G [] []
  | cons {k : NestedKey} {b : Addr} {u : Value} {v : V} {kd d : D} {xs : List ND.NEnt} {ds : List (D × D)} : nkD kd = some k → k.depth ≤ 8 → Den C G (.ref b) kd → RelV v u → Den C G v d → DenN C G xs ds → DenN C G ((k, b, u) :: xs) ((kd, d) :: ds)
end
theorem same_t {K : PySem.W.Frag} {H H' : Hp} {a : Addr} {xs : List V} (e : Same H H') (h : SqT K H a xs) : SqT K H' a xs := by
  rcases h with (h | ⟨o, h⟩) | h
  · exact .inl (.inl (e _ _ h))
  · exact .inl (.inr ⟨o, e _ _ h⟩)
  · exact .inr h
mutual
theorem Den.mono {C : Kc} {G G' : Hp} (e : Same G G') : ∀ {v : V} {d : D}, Den C G v d → Den C G' v d
  | _, _, .non => .non
  | _, _, .bl b => .bl b
  | _, _, .int i => .int i
  | _, _, .str x => .str x
  | _, _, .tup h l => .tup (same_t e h) (DenL.mono e l)
  | _, _, .lst h l => .lst (e.seq h) (DenL.mono e l)
  | _, _, .obj q h l => .obj q (e _ _ h) (DenF.mono e l)
  | _, _, .cst v => .cst v
  | _, _, .dN h l => .dN (e _ _ h) (DenN.mono e l)
  | _, _, .dK h l => .dK (e _ _ h) (DenK.mono e l)
  | _, _, .dM h l => .dM (e _ _ h) (DenK.mono e l)
theorem DenK.mono {C : Kc} {G G' : Hp} (e : Same G G') : ∀ {v : List (Key × V)} {d : List (Key × D)}, DenK C G v d → DenK C G' v d
  | _, _, .nil => .nil
  | _, _, .cons h l => .cons (Den.mono e h) (DenK.mono e l)
theorem DenL.mono {C : Kc} {G G' : Hp} (e : Same G G') : ∀ {v : List V} {d : List D}, DenL C G v d → DenL C G' v d
  | _, _, .nil => .nil
  | _, _, .cons h l => .cons (Den.mono e h) (DenL.mono e l)
theorem DenF.mono {C : Kc} {G G' : Hp} (e : Same G G') : ∀ {v : List (Str × V)} {d : List (Str × D)}, DenF C G v d → DenF C G' v d
  | _, _, .nil => .nil
  | _, _, .cons h l => .cons (Den.mono e h) (DenF.mono e l)
theorem DenN.mono {C : Kc} {G G' : Hp} (e : Same G G') : ∀ {v : List ND.NEnt} {d : List (D × D)}, DenN C G v d → DenN C G' v d
  | _, _, .nil => .nil
  | _, _, .cons h1 h2 h3 h4 h5 l => .cons h1 h2 (Den.mono e h3) h4 (Den.mono e h5) (DenN.mono e l)
end
theorem DenL.length {C : Kc} {G : Hp} : ∀ {vs : List V} {ds : List D}, DenL C G vs ds → vs.length = ds.length
  | _, _, .nil => rfl
  | _, _, .cons _ l => by rw [List.length_cons, List.length_cons, DenL.length l]
theorem DenL.get {C : Kc} {G : Hp} : ∀ {vs : List V} {ds : List D} {i : Nat} {d : D}, DenL C G vs ds → ds[i]? = some d → ∃ v, vs[i]? = some v ∧ Den C G v d
  | _, _, _, _, .nil, e => by simp at e
  | _, _, 0, _, .cons h _, e => by simp at e; subst e; exact ⟨_, rfl, h⟩
  | _, _, i + 1, d, .cons _ l, e => by
    obtain ⟨v, h1, h2⟩ := DenL.get (i := i) (d := d) l (by simpa using e)
    exact ⟨v, by simpa using h1, h2⟩
theorem DenL.set {C : Kc} {G : Hp} {v : V} {d : D} (h : Den C G v d) : ∀ {vs : List V} {ds : List D} (i : Nat), DenL C G vs ds → DenL C G (vs.set i v) (ds.set i d)
  | _, _, _, .nil => .nil
  | _, _, 0, .cons _ l => .cons h l
  | _, _, i + 1, .cons q l => .cons q (DenL.set h i l)
theorem DenL.append {C : Kc} {G : Hp} : ∀ {vs ws : List V} {ds es : List D}, DenL C G vs ds → DenL C G ws es → DenL C G (vs ++ ws) (ds ++ es)
  | _, _, _, _, .nil, s => s
  | _, _, _, _, .cons r t, s => .cons r (DenL.append t s)
theorem DenL.take {C : Kc} {G : Hp} : ∀ {vs : List V} {ds : List D} (n : Nat), DenL C G vs ds → DenL C G (vs.take n) (ds.take n)
  | _, _, 0, _ => .nil
  | _, _, _ + 1, .nil => .nil
  | _, _, n + 1, .cons r t => .cons r (DenL.take n t)
theorem DenL.drop {C : Kc} {G : Hp} : ∀ {vs : List V} {ds : List D} (n : Nat), DenL C G vs ds → DenL C G (vs.drop n) (ds.drop n)
  | _, _, 0, r => r
  | _, _, _ + 1, .nil => .nil
  | _, _, n + 1, .cons _ t => DenL.drop n t
theorem DenL.split {C : Kc} {G : Hp} : ∀ {vs : List V} {ds es : List D}, DenL C G vs (ds ++ es) → ∃ us ws, vs = us ++ ws ∧ DenL C G us ds ∧ DenL C G ws es
  | vs, [], es, h => ⟨[], vs, rfl, .nil, h⟩
  | _, d :: ds, es, .cons h l => by
    obtain ⟨us, ws, e, h1, h2⟩ := DenL.split (ds := ds) (es := es) l
    exact ⟨_ :: us, ws, by rw [e]; rfl, .cons h h1, h2⟩
theorem DenF.look {C : Kc} {G : Hp} {f : Str} : ∀ {vs : List (Str × V)} {ds : List (Str × D)} {d : D}, DenF C G vs ds → ds.lookup f = some d → ∃ v, vs.lookup f = some v ∧ Den C G v d
  | _, _, _, .nil, e => by simp at e
  | _, _, d, .cons (f := g) (v := v) h l, e => by
    rw [List.lookup_cons] at e ⊢
    cases q : (f == g) with
    | true => rw [q] at e; exact ⟨v, rfl, Option.some.inj e ▸ h⟩
    | false => rw [q] at e; exact DenF.look (d := d) l e
def putD (f : Str) (d : D) : List (Str × D) → List (Str × D)
  | [] => [(f, d)]
  | (g, x) :: r => if g = f then (g, d) :: r else (g, x) :: putD f d r
theorem DenF.put {C : Kc} {G : Hp} {f : Str} {v : V} {d : D} (h : Den C G v d) : ∀ {vs : List (Str × V)} {ds : List (Str × D)}, DenF C G vs ds → DenF C G (putF f v vs) (putD f d ds)
  | _, _, .nil => .cons h .nil
  | _, _, .cons (f := g) q l => by
    unfold putF putD
    by_cases e : g = f
    · rw [if_pos e, if_pos e]; exact .cons h l
    · rw [if_neg e, if_neg e]; exact .cons q (DenF.put h l)
theorem DenF.length {C : Kc} {G : Hp} : ∀ {vs : List (Str × V)} {ds : List (Str × D)}, DenF C G vs ds → vs.length = ds.length
  | _, _, .nil => rfl
  | _, _, .cons _ l => by rw [List.length_cons, List.length_cons, DenF.length l]
class TabL where
  T : List (Addr × Str)
instance (priority := low) tabL0 : TabL := ⟨[]⟩
variable [TabL]
def NT (o : HO) : Prop := ∀ ps, o ≠ .tbl ps
theorem nt_lst {xs : List V} : NT (.lst xs) := fun _ z => nomatch z
theorem nt_ins {c d : Addr} {xs : List (Str × V)} : NT (.ins c d xs) := fun _ z => nomatch z
theorem nt_nd {P : Program} {w : World} {a : Addr} {o : Obj} {xs : List ND.NEnt} : NT (ND.NDO P w a o xs) := fun _ z => by unfold ND.NDO at z; nomatch z
structure KT (H H2 : Hp) : Prop where
  k : ∀ a o, NT o → H a = some o → H2 a = some o
  d : ∀ a, H a ≠ none → H2 a ≠ none
  t : LamX.Tabs TabL.T H → LamX.Tabs TabL.T H2
theorem Same.dom0 {H H2 : Hp} (k : Same H H2) : ∀ a, H a ≠ none → H2 a ≠ none := fun a h => by
  cases q : H a with
  | none => exact absurd q h
  | some o => rw [k a o q]; simp
theorem Same.kt {H H2 : Hp} (k : Same H H2) : KT H H2 := ⟨fun a o _ h => k a o h, Same.dom0 k, fun t => t.ext k⟩
theorem KT.refl (H : Hp) : KT H H := ⟨fun _ _ _ h => h, fun _ h => h, fun t => t⟩
theorem KT.trans {H H1 H2 : Hp} (a : KT H H1) (b : KT H1 H2) : KT H H2 := ⟨fun x o n h => b.k x o n (a.k x o n h), fun x h => b.d x (a.d x h), fun t => b.t (a.t t)⟩
structure Sub (G H : Hp) : Prop where
  s : Same G H
  t : LamX.Tabs TabL.T H
  n : ∀ p ∈ TabL.T, G p.1 = none
theorem tabs_there {H : Hp} (t : LamX.Tabs TabL.T H) : ∀ p ∈ TabL.T, H p.1 ≠ none := fun p hp z => by
  obtain ⟨ps, e, _⟩ := t p hp
  rw [z] at e
  cases e
theorem tabs_ne {H : Hp} (t : LamX.Tabs TabL.T H) {a : Addr} {o : HO} (h : H a = some o) (n : NT o) : ∀ p ∈ TabL.T, p.1 ≠ a := fun p hp z => by
  obtain ⟨ps, e, _⟩ := t p hp
  rw [z, h] at e
  exact n ps (Option.some.inj e)
instance {G H : Hp} : Coe (Sub G H) (Same G H) := ⟨Sub.s⟩
instance {G H : Hp} : CoeFun (Sub G H) (fun _ => ∀ a o, G a = some o → H a = some o) := ⟨fun c => c.s⟩
theorem Sub.free {G H : Hp} (c : Sub G H) {a : Addr} (h : H a = none) : G a = none := Same.free c.s h
theorem Sub.seq {K : PySem.W.Frag} {G H : Hp} {a : Addr} {xs : List V} (c : Sub G H) (h : SqL K G a xs) : SqL K H a xs := Same.seq c.s h
theorem Sub.trans {G H H2 : Hp} (c : Sub G H) (e : Same H H2) : Sub G H2 := ⟨Same.trans c.s e, c.t.ext e, c.n⟩
def NC (o : HO) : Prop := ∀ c q, o ≠ LamX.CodeO c q
theorem nc_lst {xs : List V} : NC (.lst xs) := fun _ _ z => by unfold LamX.CodeO at z; nomatch z
theorem nc_ins {c d : Addr} {xs : List (Str × V)} : NC (.ins c d xs) := fun _ _ z => by unfold LamX.CodeO at z; nomatch z
theorem nc_xd {xs : List (Str × V)} : NC (.xd xs) := fun _ _ z => by unfold LamX.CodeO at z; nomatch z
def mkHp (o : Obj) : Nat → Heap
  | 0 => default
  | n + 1 => (mkHp o n).push o
theorem mkHp_size (o : Obj) : ∀ n, (mkHp o n).objs.size = n
  | 0 => rfl
  | n + 1 => by show ((mkHp o n).push o).objs.size = _; rw [Heap.size_push, mkHp_size o n]
theorem nc_nd {P : Program} {w : World} {a : Addr} {o : Obj} {xs : List ND.NEnt} : NC (ND.NDO P w a o xs) := fun c q z => by
  unfold ND.NDO LamX.CodeO at z
  injection z with z
  have g := congrFun z (mkHp ⟨.none, none, .fields #[.none, .str q 0], #[]⟩ (c + 1))
  have at_ : (mkHp ⟨.none, none, .fields #[.none, .str q 0], #[]⟩ (c + 1)).get? c = some ⟨.none, none, .fields #[.none, .str q 0], #[]⟩ := by
    have e := Heap.get?_push_size (mkHp ⟨.none, none, .fields #[.none, .str q 0], #[]⟩ c) (o := ⟨.none, none, .fields #[.none, .str q 0], #[]⟩) rfl
    rw [mkHp_size] at e
    exact e
  have r : ∃ (oc : Obj) (vs : Array Value) (t : Tok), (mkHp ⟨.none, none, .fields #[.none, .str q 0], #[]⟩ (c + 1)).get? c = some oc ∧ oc.data = .fields vs ∧ vs[1]? = some (.str q t) := ⟨_, _, 0, at_, rfl, rfl⟩
  rw [← g] at r
  obtain ⟨_, _, _, es, ep, h1, h2, h3, _⟩ := r
  have all : ∀ (n b : Nat) (u : Obj), (mkHp ⟨.none, none, .fields #[.none, .str q 0], #[]⟩ n).get? b = some u → u.data = .fields #[.none, .str q 0] := fun n => by
    induction n with
    | zero => intro b u e; exact absurd (Heap.lt_size e) (Nat.not_lt_zero b)
    | succ n ih =>
      intro b u e
      by_cases k : b < n
      · have lt : b < (mkHp ⟨.none, none, .fields #[.none, .str q 0], #[]⟩ n).objs.size := by rw [mkHp_size]; exact k
        cases y : (mkHp ⟨.none, none, .fields #[.none, .str q 0], #[]⟩ n).get? b with
        | some u' =>
          have := Heap.get?_push_of_some (⟨.none, none, .fields #[.none, .str q 0], #[]⟩ : Obj) y
          have e' : ((mkHp ⟨.none, none, .fields #[.none, .str q 0], #[]⟩ n).push ⟨.none, none, .fields #[.none, .str q 0], #[]⟩).get? b = some u := e
          rw [this] at e'
          cases e'
          exact ih b _ y
        | none =>
          obtain ⟨m, rfl⟩ : ∃ m, n = m + 1 := ⟨n - 1, by omega⟩
          exact absurd y (by
            have live : ∀ (m b : Nat), b < m → (mkHp ⟨.none, none, .fields #[.none, .str q 0], #[]⟩ m).get? b ≠ none := fun m => by
              induction m with
              | zero => intro b hb; omega
              | succ m ih2 =>
                intro b hb
                by_cases hb2 : b < m
                · cases y2 : (mkHp ⟨.none, none, .fields #[.none, .str q 0], #[]⟩ m).get? b with
                  | none => exact absurd y2 (ih2 b hb2)
                  | some u2 =>
                    show ((mkHp ⟨.none, none, .fields #[.none, .str q 0], #[]⟩ m).push _).get? b ≠ none
                    rw [Heap.get?_push_of_some _ y2]; simp
                · have eb : b = m := by omega
                  have e3 := Heap.get?_push_size (mkHp ⟨.none, none, .fields #[.none, .str q 0], #[]⟩ m) (o := ⟨.none, none, .fields #[.none, .str q 0], #[]⟩) rfl
                  rw [mkHp_size] at e3
                  rw [eb]
                  show ((mkHp ⟨.none, none, .fields #[.none, .str q 0], #[]⟩ m).push _).get? m ≠ none
                  rw [e3]; simp
            exact live (m + 1) b k)
      · have lt := Heap.lt_size e
        rw [mkHp_size] at lt
        have lt : b < n + 1 := lt
        have eb : b = n := by omega
        have e3 := Heap.get?_push_size (mkHp ⟨.none, none, .fields #[.none, .str q 0], #[]⟩ n) (o := ⟨.none, none, .fields #[.none, .str q 0], #[]⟩) rfl
        rw [mkHp_size] at e3
        have e' : ((mkHp ⟨.none, none, .fields #[.none, .str q 0], #[]⟩ n).push ⟨.none, none, .fields #[.none, .str q 0], #[]⟩).get? b = some u := e
        rw [eb, e3] at e'
        cases e'
        rfl
  rw [all _ _ _ h1] at h3
  cases h3
theorem tabs_upd {T : List (Addr × Str)} {H : Hp} {a : Addr} {o o' : HO} (t : LamX.Tabs T H) (ha : H a = some o) (h1 : NT o) (h2 : NC o) : LamX.Tabs T (upd H a o') := fun p hp => by
  obtain ⟨ps, e1, e2, e3⟩ := t p hp
  have ne : p.1 ≠ a := fun z => by rw [z, ha] at e1; exact h1 ps (Option.some.inj e1)
  refine ⟨ps, by rw [upd_ne ne]; exact e1, e2, fun pos cv hc => ?_⟩
  obtain ⟨c, f1, f2⟩ := e3 pos cv hc
  have nc : c ≠ a := fun z => by rw [z, ha] at f2; exact h2 _ _ (Option.some.inj f2)
  exact ⟨c, f1, by rw [upd_ne nc]; exact f2⟩
inductive MO where
  | lst (ds : List D) | dic (kvs : List (D × D)) | dik (kvs : List (Key × D))
def dOf : MO → D
  | .lst ds => .lst ds
  | .dic kvs => .dic kvs
  | .dik kvs => .dim kvs
inductive MOk (C : Kc) (G : Hp) (a : Addr) : HO → MO → Prop where
  | lst {vs : List V} {ds : List D} : DenL C G vs ds → MOk C G a (.lst vs) (.lst ds)
  | dN {o : Obj} {xs : List ND.NEnt} {kds : List (D × D)} : DenN C G xs kds → MOk C G a (ND.NDO C.P C.w a o xs) (.dic kds)
  | dK {xs : List (Key × V)} {kds : List (Key × D)} : DenK C G xs kds → MOk C G a (.dK xs) (.dik kds)
theorem MOk.mono {C : Kc} {G G' : Hp} {a : Addr} (e : Same G G') {o : HO} {m : MO} (h : MOk C G a o m) : MOk C G' a o m := by
  cases h with
  | lst h => exact .lst (h.mono e)
  | dN h => exact .dN (h.mono e)
  | dK h => exact .dK (h.mono e)
theorem MOk.den {C : Kc} {G : Hp} {o : HO} {m : MO} {a : Addr} (ha : G a = some o) (h : MOk C G a o m) : Den C G (.ref a) (dOf m) := by
  cases h with
  | lst h => exact .lst (SqL.of ha) h
  | dN h => exact .dN ha h
  | dK h => exact .dM ha h
theorem MOk.nt {C : Kc} {G : Hp} {a : Addr} {o : HO} {m : MO} (h : MOk C G a o m) : NT o := by
  cases h with
  | lst h => exact nt_lst
  | dN h => exact nt_nd
  | dK h => exact fun _ z => nomatch z
theorem MOk.nc {C : Kc} {G : Hp} {a : Addr} {o : HO} {m : MO} (h : MOk C G a o m) : NC o := by
  cases h with
  | lst h => exact nc_lst
  | dN h => exact nc_nd
  | dK h => exact fun _ _ z => nomatch z
theorem MOk.isL {C : Kc} {G : Hp} {a : Addr} {o : HO} {ds : List D} (h : MOk C G a o (.lst ds)) : ∃ vs, o = .lst vs ∧ DenL C G vs ds := by
  cases h with
  | lst h => exact ⟨_, rfl, h⟩
inductive DV where
  | imm (d : D) | own (m : MO) | bag
inductive BG where
  | lst (ds : List D) | ins (c : Nat) (fs : List (Str × D)) | xd (fs : List (Str × D))
structure ST where
  s : List (Option DV)
  g : Option (Addr × BG)
def ST.set (S : ST) (i : Nat) (d : D) : ST := ⟨S.s.set i (some (.imm d)), S.g⟩
def ST.setM (S : ST) (i : Nat) (m : MO) : ST := ⟨S.s.set i (some (.own m)), S.g⟩
abbrev ST.setO (S : ST) (i : Nat) (ds : List D) : ST := S.setM i (.lst ds)
def BagOk (C : Kc) (G H : Hp) : Option (Addr × BG) → Prop
  | none => True
  | some (b, .lst ds) => G b = none ∧ ∃ vs, H b = some (.lst vs) ∧ DenL C G vs ds
  | some (b, .ins c fs) => G b = none ∧ ∃ dx vs, H b = some (.ins (C.cl c) dx vs) ∧ DenF C G vs fs
  | some (b, .xd fs) => G b = none ∧ ∃ vs, H b = some (.xd vs) ∧ DenF C G vs fs
theorem nt_xd {xs : List (Str × V)} : NT (.xd xs) := fun _ z => nomatch z
structure Ctx (C : Kc) (G H : Hp) (σ : L2.St) (S : ST) : Prop where
  sub : Sub G H
  len : σ.length = S.s.length
  im : ∀ (i : Nat) d, S.s[i]? = some (some (.imm d)) → ∃ v, σ[i]? = some (some v) ∧ Den C G v d
  ow : ∀ (i : Nat) ds, S.s[i]? = some (some (.own ds)) → ∃ a o, σ[i]? = some (some (.ref a)) ∧ G a = none ∧ H a = some o ∧ MOk C G a o ds
  apart : ∀ (i j : Nat) ds es a, S.s[i]? = some (some (.own ds)) → S.s[j]? = some (some (.own es)) → σ[i]? = some (some (.ref a)) → σ[j]? = some (some (.ref a)) → i = j
  bg : ∀ (i : Nat) b o, S.g = some (b, o) → S.s[i]? = some (some .bag) → σ[i]? = some (some (.ref b))
  bag : BagOk C G H S.g
  nob : ∀ (i : Nat) b o ds, S.g = some (b, o) → S.s[i]? = some (some (.own ds)) → σ[i]? ≠ some (some (.ref b))
def OA (C : Kc) (σ : L2.St) (S : ST) (a : Addr) : Prop := (∃ (i : Nat) (ds : MO), S.s[i]? = some (some (.own ds)) ∧ σ[i]? = some (some (.ref a))) ∨ ∃ o, S.g = some (a, o)
structure Go (A : Addr → Prop) (G H G2 H2 : Hp) : Prop where
  keep : ∀ a o, ¬ A a → NT o → H a = some o → H2 a = some o
  gg : Same G G2
  fr : ∀ a, ¬ A a → H a ≠ none → G a = none → G2 a = none
  dom : ∀ a, H a ≠ none → H2 a ≠ none
  tb : LamX.Tabs TabL.T H → LamX.Tabs TabL.T H2
theorem Go.refl {A : Addr → Prop} {G H : Hp} : Go A G H G H := ⟨fun _ _ _ _ h => h, fun _ _ h => h, fun _ _ _ h => h, fun _ h => h, fun t => t⟩
theorem Go.trans {A A2 : Addr → Prop} {G H G1 H1 G2 H2 : Hp} (a : Go A G H G1 H1) (b : Go A2 G1 H1 G2 H2) (h : ∀ x, A2 x → A x ∨ H x = none) : Go A G H G2 H2 where
  keep := fun x o n nt e => b.keep x o (fun z => (h x z).elim n fun q => by rw [q] at e; cases e) nt (a.keep x o n nt e)
  gg := a.gg.trans b.gg
  fr := fun x n e g => b.fr x (fun z => (h x z).elim n fun q' => e q') (a.dom x e) (a.fr x n e g)
  dom := fun x h => b.dom x (a.dom x h)
  tb := fun t => b.tb (a.tb t)
theorem Go.mono {A A2 : Addr → Prop} {G H G2 H2 : Hp} (a : Go A G H G2 H2) (h : ∀ x, A x → A2 x) : Go A2 G H G2 H2 := ⟨fun x o n => a.keep x o fun z => n (h x z), a.gg, fun x n => a.fr x fun z => n (h x z), a.dom, a.tb⟩
structure Mv (C : Kc) (σ : L2.St) (S : ST) (G H : Hp) (S2 : ST) (G2 H2 : Hp) : Prop where
  go : Go (OA C σ S) G H G2 H2
  cx : Ctx C G2 H2 σ S2
  oa : ∀ a, OA C σ S2 a → OA C σ S a
theorem Mv.trans {C : Kc} {σ : L2.St} {S S1 S2 : ST} {G H G1 H1 G2 H2 : Hp} (a : Mv C σ S G H S1 G1 H1) (b : Mv C σ S1 G1 H1 S2 G2 H2) : Mv C σ S G H S2 G2 H2 :=
  ⟨a.go.trans b.go fun x z => .inl (a.oa x z), b.cx, fun x z => a.oa x (b.oa x z)⟩
theorem Mv.refl {C : Kc} {σ : L2.St} {S : ST} {G H : Hp} (c : Ctx C G H σ S) : Mv C σ S G H S G H := ⟨.refl, c, fun _ z => z⟩
theorem Ctx.step {C : Kc} {G H G2 H2 : Hp} {σ : L2.St} {S : ST} (c : Ctx C G H σ S) (k : KT H H2) (gg : Same G G2) (sub : Same G2 H2) (fr : ∀ a, H a ≠ none → G a = none → G2 a = none) : Ctx C G2 H2 σ S where
  sub := ⟨sub, k.t c.sub.t, fun p hp => fr _ (tabs_there c.sub.t p hp) (c.sub.n p hp)⟩
  len := c.len
  im := fun i d h => let ⟨v, h1, h2⟩ := c.im i d h; ⟨v, h1, h2.mono gg⟩
  ow := fun i ds h => let ⟨a, vs, h1, h2, h3, h4⟩ := c.ow i ds h; ⟨a, vs, h1, fr a (by rw [h3]; simp) h2, k.k _ _ h4.nt h3, h4.mono gg⟩
  apart := c.apart
  bg := c.bg
  bag := by
    have z := c.bag
    cases q : S.g with
    | none => trivial
    | some bo =>
      obtain ⟨b, o⟩ := bo
      rw [q] at z
      cases o with
      | lst ds => obtain ⟨h1, vs, h2, h3⟩ := z; exact ⟨fr _ (by rw [h2]; simp) h1, vs, k.k _ _ nt_lst h2, h3.mono gg⟩
      | ins cc fs => obtain ⟨h1, dx, vs, h2, h3⟩ := z; exact ⟨fr _ (by rw [h2]; simp) h1, dx, vs, k.k _ _ nt_ins h2, h3.mono gg⟩
      | xd fs => obtain ⟨h1, vs, h2, h3⟩ := z; exact ⟨fr _ (by rw [h2]; simp) h1, vs, k.k _ _ nt_xd h2, h3.mono gg⟩
  nob := c.nob
theorem Ctx.mv {C : Kc} {G H G2 H2 : Hp} {σ : L2.St} {S : ST} (c : Ctx C G H σ S) (k : KT H H2) (gg : Same G G2) (sub : Same G2 H2) (fr : ∀ a, H a ≠ none → G a = none → G2 a = none) : Mv C σ S G H S G2 H2 :=
  ⟨⟨fun a o _ nt h => k.k a o nt h, gg, fun a _ h1 h2 => fr a h1 h2, k.d, k.t⟩, c.step k gg sub fr, fun _ z => z⟩
theorem Ctx.new {C : Kc} {G H : Hp} {σ : L2.St} {S : ST} {p : Addr} {o : HO} (c : Ctx C G H σ S) (hp : H p = none) : Mv C σ S G H S (upd G p o) (upd H p o) := by
  have gp : G p = none := c.sub.free hp
  refine c.mv (Same.kt fun a u h => ?_) (fun a u h => ?_) (fun a u h => ?_) (fun a h1 h2 => ?_)
  · rw [upd_ne (ne_of_none h hp)]; exact h
  · rw [upd_ne (ne_of_none h gp)]; exact h
  · by_cases e : a = p
    · subst e; rw [upd_same] at h ⊢; exact h
    · rw [upd_ne e] at h ⊢; exact c.sub _ _ h
  · have e : a ≠ p := fun z => h1 (by rw [z]; exact hp)
    rw [upd_ne e]; exact h2
def EvM (C : Kc) (te : TE) (S S' : ST) (d : D) : Prop :=
  ∀ σ G H, Ctx C G H σ S → ∀ Q : VK, (∀ v G2 H2, Mv C σ S G H S' G2 H2 → Den C G2 v d → Q v H2) → te σ H Q
def EvT (C : Kc) (tt : TT) (S S' : ST) (b : Bool) : Prop :=
  ∀ σ G H, Ctx C G H σ S → ∀ Q : Bool → Hp → Prop, (∀ G2 H2, Mv C σ S G H S' G2 H2 → Q b H2) → tt σ H Q
def EvA (C : Kc) (ta : TA) (S S' : ST) (ds : List D) : Prop :=
  ∀ σ G H, Ctx C G H σ S → ∀ Q : List V → Hp → Prop, (∀ vs G2 H2, Mv C σ S G H S' G2 H2 → DenL C G2 vs ds → Q vs H2) → ta σ H Q
def EvO (C : Kc) (te : TE) (S S' : ST) (ds : List D) : Prop :=
  ∀ σ G H, Ctx C G H σ S → ∀ Q : VK, (∀ p vs G2 H2, Mv C σ S G H S' G2 H2 → H p = none → G2 p = none → H2 p = some (.lst vs) → DenL C G2 vs ds → Q (.ref p) H2) → te σ H Q
structure Mw (C : Kc) (σ : L2.St) (S : ST) (G H : Hp) (σ2 : L2.St) (S2 : ST) (G2 H2 : Hp) : Prop where
  go : Go (OA C σ S) G H G2 H2
  cx : Ctx C G2 H2 σ2 S2
  oa : ∀ a, OA C σ2 S2 a → OA C σ S a ∨ H a = none
theorem Mw.trans {C : Kc} {σ σ1 σ2 : L2.St} {S S1 S2 : ST} {G H G1 H1 G2 H2 : Hp} (a : Mw C σ S G H σ1 S1 G1 H1) (b : Mw C σ1 S1 G1 H1 σ2 S2 G2 H2) : Mw C σ S G H σ2 S2 G2 H2 :=
  ⟨a.go.trans b.go a.oa, b.cx, fun x z => by
    rcases b.oa x z with q | q
    · exact a.oa x q
    · refine .inr ?_
      cases r : H x with
      | none => rfl
      | some o => exact absurd q (a.go.dom x (by rw [r]; simp))⟩
theorem Mw.refl {C : Kc} {σ : L2.St} {S : ST} {G H : Hp} (c : Ctx C G H σ S) : Mw C σ S G H σ S G H := ⟨.refl, c, fun _ z => .inl z⟩
theorem Mv.mw {C : Kc} {σ : L2.St} {S S2 : ST} {G H G2 H2 : Hp} (a : Mv C σ S G H S2 G2 H2) : Mw C σ S G H σ S2 G2 H2 := ⟨a.go, a.cx, fun x z => .inl (a.oa x z)⟩
def excFields : Nat → List Str
  | 102 => ["index"]
  | 108 => ["index"]
  | 112 => ["index"]
  | 113 => ["index"]
  | 119 => ["given"]
  | 122 => ["deed", "shown"]
  | 123 => ["limit"]
  | 120 => []
  | 121 => []
  | _ => ["value"]
def DenX (C : Kc) (G : Hp) (c : Nat) (fv : List (Str × V)) (fs : List D) : Prop := DenF C G fv ((excFields c).zip fs) ∧ fs.length = (excFields c).length
structure Po where
  nx : ST → Prop := fun _ => False
  rt : D → ST → Prop := fun _ _ => False
  bk : ST → Prop := fun _ => False
  ct : ST → Prop := fun _ => False
  ro : List D → ST → Prop := fun _ _ => False
  W : WX := fun _ _ _ _ => False
  xc : Nat → List D → ST → Prop := fun _ _ _ => False
structure Meets (C : Kc) (P : Po) (σ : L2.St) (S : ST) (G H : Hp) (E : Ends) : Prop where
  nx : ∀ σ2 S2 G2 H2, Mw C σ S G H σ2 S2 G2 H2 → P.nx S2 → E.nx σ2 H2
  rt : ∀ v d σ2 S2 G2 H2, Mw C σ S G H σ2 S2 G2 H2 → Den C G2 v d → P.rt d S2 → E.rt v H2
  bk : ∀ σ2 S2 G2 H2, Mw C σ S G H σ2 S2 G2 H2 → P.bk S2 → E.bk σ2 H2
  ct : ∀ σ2 S2 G2 H2, Mw C σ S G H σ2 S2 G2 H2 → P.ct S2 → E.ct σ2 H2
  ro : ∀ p ev es σ2 S2 G2 H2, Mw C σ S G H σ2 S2 G2 H2 → (H p = none ∨ OA C σ S p) → G2 p = none → H2 p = some (.lst ev) → DenL C G2 ev es → P.ro es S2 → E.rt (.ref p) H2
  xc : ∀ c fs dx fv σ2 S2 G2 H2, Mw C σ S G H σ2 S2 G2 H2 → H dx = none → G2 dx = none → H2 dx = some (.xd fv) → DenX C G2 c fv fs → P.xc c fs S2 → P.W (.ref (C.xc c)) (some dx) σ2 H2
theorem back_none {A : Addr → Prop} {G H G2 H2 : Hp} (g : Go A G H G2 H2) {p : Addr} (h : H2 p = none) : H p = none := by
  cases r : H p with
  | none => rfl
  | some o => exact absurd h (g.dom p (by rw [r]; simp))
theorem Meets.move {C : Kc} {P : Po} {σ σ1 : L2.St} {S S1 : ST} {G H G1 H1 : Hp} {E : Ends} (m : Meets C P σ S G H E) (a : Mw C σ S G H σ1 S1 G1 H1) : Meets C P σ1 S1 G1 H1 E :=
  ⟨fun σ2 S2 G2 H2 b h => m.nx _ _ _ _ (a.trans b) h, fun v d σ2 S2 G2 H2 b q h => m.rt v d _ _ _ _ (a.trans b) q h, fun σ2 S2 G2 H2 b h => m.bk _ _ _ _ (a.trans b) h, fun σ2 S2 G2 H2 b h => m.ct _ _ _ _ (a.trans b) h, fun p ev es σ2 S2 G2 H2 b h1 h2 h3 h4 h => m.ro p ev es _ _ _ _ (a.trans b) (h1.elim (fun z => .inl (back_none a.go z)) fun z => (a.oa p z).symm) h2 h3 h4 h, fun c fs dx fv σ2 S2 G2 H2 b h1 h2 h3 h4 h => m.xc c fs dx fv _ _ _ _ (a.trans b) (back_none a.go h1) h2 h3 h4 h⟩
def SD (C : Kc) (ts : TS) (S : ST) (P : Po) : Prop := ∀ σ G H, Ctx C G H σ S → ∀ E : Ends, Meets C P σ S G H E → ts E σ H
theorem Ctx.store {C : Kc} {G H : Hp} {σ : L2.St} {S : ST} {i : Nat} {v : V} {d : D} (c : Ctx C G H σ S) (h : Den C G v d) : Mw C σ S G H (σ.set i (some v)) (S.set i d) G H := by
  refine ⟨.refl, ⟨c.sub, by simp [ST.set, c.len], fun j e q => ?_, fun j e q => ?_, fun j k ds es a q1 q2 q3 q4 => ?_, fun j b o hg q => ?_, c.bag, fun j b o ds q q2 => ?_⟩, fun a z => ?_⟩
  · by_cases ij : i = j
    · subst ij
      have hl : i < S.s.length := by
        rcases Nat.lt_or_ge i S.s.length with z | z
        · exact z
        · rw [ST.set, List.getElem?_eq_none (by simpa using z)] at q; cases q
      rw [ST.set, List.getElem?_set_self hl] at q
      cases q
      exact ⟨v, List.getElem?_set_self (by rw [c.len]; exact hl), h⟩
    · rw [ST.set, List.getElem?_set_ne ij] at q
      rw [List.getElem?_set_ne ij]
      exact c.im j e q
  · by_cases ij : i = j
    · subst ij
      rcases Nat.lt_or_ge i S.s.length with z | z
      · rw [ST.set, List.getElem?_set_self z] at q; cases q
      · rw [ST.set, List.getElem?_eq_none (by simpa using z)] at q; cases q
    · rw [ST.set, List.getElem?_set_ne ij] at q
      rw [List.getElem?_set_ne ij]
      exact c.ow j e q
  · have key : ∀ (j : Nat) ds, (S.set i d).s[j]? = some (some (DV.own ds)) → i ≠ j ∧ S.s[j]? = some (some (DV.own ds)) := fun j ds q => by
      by_cases ij : i = j
      · subst ij
        rcases Nat.lt_or_ge i S.s.length with z | z
        · rw [ST.set, List.getElem?_set_self z] at q; cases q
        · rw [ST.set, List.getElem?_eq_none (by simpa using z)] at q; cases q
      · rw [ST.set, List.getElem?_set_ne ij] at q; exact ⟨ij, q⟩
    obtain ⟨n1, k1⟩ := key j ds q1
    obtain ⟨n2, k2⟩ := key k es q2
    rw [List.getElem?_set_ne n1] at q3
    rw [List.getElem?_set_ne n2] at q4
    exact c.apart j k ds es a k1 k2 q3 q4
  · by_cases ij : i = j
    · subst ij
      rcases Nat.lt_or_ge i S.s.length with z | z
      · rw [ST.set, List.getElem?_set_self z] at q; cases q
      · rw [ST.set, List.getElem?_eq_none (by simpa using z)] at q; cases q
    · rw [ST.set, List.getElem?_set_ne ij] at q
      rw [List.getElem?_set_ne ij]
      exact c.bg j b o hg q
  · by_cases ij : i = j
    · subst ij
      rcases Nat.lt_or_ge i S.s.length with z | z
      · rw [ST.set, List.getElem?_set_self z] at q2; cases q2
      · rw [ST.set, List.getElem?_eq_none (by simpa using z)] at q2; cases q2
    · rw [ST.set, List.getElem?_set_ne ij] at q2
      rw [List.getElem?_set_ne ij]
      exact c.nob j b o ds q q2
  · rcases z with ⟨j, ds, q1, q2⟩ | z
    · have ij : i ≠ j := fun ij => by
        subst ij
        rcases Nat.lt_or_ge i S.s.length with z | z
        · rw [ST.set, List.getElem?_set_self z] at q1; cases q1
        · rw [ST.set, List.getElem?_eq_none (by simpa using z)] at q1; cases q1
      rw [ST.set, List.getElem?_set_ne ij] at q1
      rw [List.getElem?_set_ne ij] at q2
      exact .inl (.inl ⟨j, ds, q1, q2⟩)
    · exact .inl (.inr z)
end DL
namespace DL
open PySem L2
variable [TabL]
structure Fam where
  I : Type
  X : I → Cx
  P : Program
  w : World
  C : Kc
  mg : Str → Option Value
  base : Heap
  N : List Str
  k : Nat
  hP : ∀ i, (X i).prog = P
  hw : ∀ i, (X i).w = w
  hK : ∀ i, (X i).K = C.K
  hmg : ∀ i, (X i).mg = mg
  hbase : ∀ i, (X i).base = base
  hN : ∀ i, (X i).N = N
  nd : N.Nodup
  roomH : ∀ i, L2H.RoomH k (X i).A
  cP : C.P = P
  cw : C.w = w
class Calm (F : Fam) : Prop where
  c : ∀ i, (F.X i).calm = true
  h : ∀ i, (F.X i).A.handled = none
theorem Fam.room (F : Fam) [Calm F] (i : F.I) : Room F.k (F.X i).A := ⟨Calm.h i, (F.roomH i).dp, (F.roomH i).un⟩
theorem Fam.calm (F : Fam) [Calm F] (i : F.I) : (F.X i).calm = true := Calm.c i
theorem Fam.units (F : Fam) (i : F.I) : (F.X i).A.units + 64 < cLine := by have := (F.roomH i).un; omega
theorem Fam.units0 (F : Fam) (i : F.I) : (F.X i).A.units < cLine := by have := (F.roomH i).un; omega
def anyE (F : Fam) (e : Expr) : TE := fun σ H Q => ∃ te, (∀ i, PE (F.X i) e te) ∧ te σ H Q
def anyT (F : Fam) (e : Expr) : TT := fun σ H Q => ∃ te, (∀ i, PT (F.X i) e te) ∧ te σ H Q
def anyW (F : Fam) (e : Expr) : TT := fun σ H Q => ∃ te, (∀ i, PW (F.X i) e te) ∧ te σ H Q
def anyA (F : Fam) (e : List Expr) : TA := fun σ H Q => ∃ te, (∀ i, PA (F.X i) e te) ∧ te σ H Q
def anyK (F : Fam) (e : List Keyword) : TA := fun σ H Q => ∃ te, (∀ i, PK (F.X i) e te) ∧ te σ H Q
def any1 (F : Fam) (e : Stmt) : TS := fun E σ H => ∃ te, (∀ i, PS (F.X i) e te) ∧ te E σ H
def anyS (F : Fam) (e : List Stmt) : TS := fun E σ H => ∃ te, (∀ i, PSs (F.X i) e te) ∧ te E σ H
theorem anyE_ok {F : Fam} {e : Expr} (i : F.I) : PE (F.X i) e (anyE F e) := ⟨fun pins s σ H Q I h => let ⟨te, h1, h2⟩ := h; (h1 i).run pins s σ H Q I h2⟩
theorem anyT_ok {F : Fam} {e : Expr} (i : F.I) : PT (F.X i) e (anyT F e) := ⟨fun pins s σ H Q I h => let ⟨te, h1, h2⟩ := h; (h1 i).run pins s σ H Q I h2⟩
theorem anyW_ok {F : Fam} {e : Expr} (i : F.I) : PW (F.X i) e (anyW F e) := ⟨fun wh pins s σ H Q I h => let ⟨te, h1, h2⟩ := h; (h1 i).run wh pins s σ H Q I h2⟩
theorem anyA_ok {F : Fam} {e : List Expr} (i : F.I) : PA (F.X i) e (anyA F e) := ⟨fun pos pins s σ H Q I h => let ⟨te, h1, h2⟩ := h; (h1 i).run pos pins s σ H Q I h2⟩
theorem anyK_ok {F : Fam} {e : List Keyword} (i : F.I) : PK (F.X i) e (anyK F e) := ⟨fun pos pins s σ H Q I h => let ⟨te, h1, h2⟩ := h; (h1 i).run pos pins s σ H Q I h2⟩
theorem any1_ok {F : Fam} {e : Stmt} (i : F.I) : PS (F.X i) e (any1 F e) := ⟨fun pins s σ H Q I h => let ⟨te, h1, h2⟩ := h; (h1 i).run pins s σ H Q I h2⟩
theorem anyS_ok {F : Fam} {e : List Stmt} (i : F.I) : PSs (F.X i) e (anyS F e) := ⟨fun pins s σ H Q I h => let ⟨te, h1, h2⟩ := h; (h1 i).run pins s σ H Q I h2⟩
def DE (F : Fam) (e : Expr) (S S' : ST) (d : D) : Prop := EvM F.C (anyE F e) S S' d
def DT (F : Fam) (e : Expr) (S S' : ST) (b : Bool) : Prop := EvT F.C (anyT F e) S S' b
def DW (F : Fam) (e : Expr) (S S' : ST) (b : Bool) : Prop := EvT F.C (anyW F e) S S' b
def DA (F : Fam) (e : List Expr) (S S' : ST) (ds : List D) : Prop := EvA F.C (anyA F e) S S' ds
def DK (F : Fam) (e : List Keyword) (S S' : ST) (ds : List D) : Prop := EvA F.C (anyK F e) S S' ds
def DO (F : Fam) (e : Expr) (S S' : ST) (ds : List D) : Prop := EvO F.C (anyE F e) S S' ds
def D1 (F : Fam) (e : Stmt) (S : ST) (P : Po) : Prop := SD F.C (any1 F e) S P
def DS (F : Fam) (e : List Stmt) (S : ST) (P : Po) : Prop := SD F.C (anyS F e) S P
section
variable {F : Fam} {S S1 S2 S3 : ST} {e a b : Expr} {d x y z : D} {pos : Pos} {P : Po}
theorem de_of {te : TE} (h : ∀ i, PE (F.X i) e te) (v : EvM F.C te S S' d) : DE F e S S' d := fun σ G H c Q q => ⟨te, h, v σ G H c Q q⟩
theorem dt_of {te : TT} {b : Bool} (h : ∀ i, PT (F.X i) e te) (v : EvT F.C te S S' b) : DT F e S S' b := fun σ G H c Q q => ⟨te, h, v σ G H c Q q⟩
theorem dw_of {te : TT} {b : Bool} (h : ∀ i, PW (F.X i) e te) (v : EvT F.C te S S' b) : DW F e S S' b := fun σ G H c Q q => ⟨te, h, v σ G H c Q q⟩
theorem da_of {es : List Expr} {te : TA} {ds : List D} (h : ∀ i, PA (F.X i) es te) (v : EvA F.C te S S' ds) : DA F es S S' ds := fun σ G H c Q q => ⟨te, h, v σ G H c Q q⟩
theorem dk_of {es : List Keyword} {te : TA} {ds : List D} (h : ∀ i, PK (F.X i) es te) (v : EvA F.C te S S' ds) : DK F es S S' ds := fun σ G H c Q q => ⟨te, h, v σ G H c Q q⟩
theorem do_of {te : TE} {ds : List D} (h : ∀ i, PE (F.X i) e te) (v : EvO F.C te S S' ds) : DO F e S S' ds := fun σ G H c Q q => ⟨te, h, v σ G H c Q q⟩
theorem d1_of {st : Stmt} {te : TS} (h : ∀ i, PS (F.X i) st te) (v : SD F.C te S P) : D1 F st S P := fun σ G H c E m => ⟨te, h, v σ G H c E m⟩
theorem ds_of {st : List Stmt} {te : TS} (h : ∀ i, PSs (F.X i) st te) (v : SD F.C te S P) : DS F st S P := fun σ G H c E m => ⟨te, h, v σ G H c E m⟩
structure Pu (G H G2 H2 : Hp) : Prop where
  hh : KT H H2
  gg : Same G G2
  sub : Sub G2 H2
  fr : ∀ a, H a ≠ none → G a = none → G2 a = none
theorem Pu.refl {G H : Hp} (s : Sub G H) : Pu G H G H := ⟨KT.refl _, fun _ _ h => h, s, fun _ _ h => h⟩
theorem Pu.trans {G H G1 H1 G2 H2 : Hp} (a : Pu G H G1 H1) (b : Pu G1 H1 G2 H2) : Pu G H G2 H2 :=
  ⟨a.hh.trans b.hh, a.gg.trans b.gg, b.sub, fun x h1 h2 => b.fr x (a.hh.d x h1) (a.fr x h1 h2)⟩
theorem Pu.new {G H : Hp} {p : Addr} {o : HO} (s : Sub G H) (hp : H p = none) : Pu G H (upd G p o) (upd H p o) := by
  have gp : G p = none := s.free hp
  have kk : Same H (upd H p o) := fun a u h => by rw [upd_ne (ne_of_none h hp)]; exact h
  have fr : ∀ a, H a ≠ none → G a = none → upd G p o a = none := fun a h1 h2 => by
    have e : a ≠ p := fun z => h1 (by rw [z]; exact hp)
    rw [upd_ne e]; exact h2
  refine ⟨Same.kt kk, fun a u h => ?_, ⟨fun a u h => ?_, s.t.ext kk, fun q hq => fr _ (tabs_there s.t q hq) (s.n q hq)⟩, fun a h1 h2 => ?_⟩
  · rw [upd_ne (ne_of_none h gp)]; exact h
  · by_cases e : a = p
    · subst e; rw [upd_same] at h ⊢; exact h
    · rw [upd_ne e] at h ⊢; exact s _ _ h
  · have e : a ≠ p := fun z => h1 (by rw [z]; exact hp)
    rw [upd_ne e]; exact h2
theorem Ctx.pu {C : Kc} {G H G2 H2 : Hp} {σ : L2.St} {S : ST} (c : Ctx C G H σ S) (p : Pu G H G2 H2) : Mv C σ S G H S G2 H2 := c.mv p.hh p.gg p.sub p.fr
theorem Mv.pu {C : Kc} {G H G1 H1 G2 H2 : Hp} {σ : L2.St} {S S1 : ST} (m : Mv C σ S G H S1 G1 H1) (p : Pu G1 H1 G2 H2) : Mv C σ S G H S1 G2 H2 := m.trans (m.cx.pu p)
def RD (C : Kc) (r : R2) (x y z : D) : Prop := ∀ G H u v, Sub G H → Den C G u x → Den C G v y → ∀ Q : VK, (∀ w G2 H2, Pu G H G2 H2 → Den C G2 w z → Q w H2) → r u v H Q
def RD1 (C : Kc) (r : V → Hp → VK → Prop) (x z : D) : Prop := ∀ G H u, Sub G H → Den C G u x → ∀ Q : VK, (∀ w G2 H2, Pu G H G2 H2 → Den C G2 w z → Q w H2) → r u H Q
def RDL (C : Kc) (r : List V → Hp → VK → Prop) (xs : List D) (z : D) : Prop := ∀ G H us, Sub G H → DenL C G us xs → ∀ Q : VK, (∀ w G2 H2, Pu G H G2 H2 → Den C G2 w z → Q w H2) → r us H Q
theorem de_var {j : Nat} {x : Str} (h : S.s[j]? = some (some (.imm d))) (hN : ∀ i, (F.X i).N[j]? = some x := by intro _; rfl)
    (hv : ∀ i, Vis (F.X i).env.scope x := by intro _; first | exact Or.inl rfl | exact Or.inr (Or.inl rfl) | exact Or.inr (Or.inr rfl))
    (hd : (x == ("__debug__" : Str)) = false := by decide) (hcd : (x == ("__classdict__" : Str)) = false := by decide) : DE F (.Name x pos) S S d :=
  de_of (fun i => pe_var (hN i) (hv i) hd hcd) fun σ G H c Q q => by
    obtain ⟨v, h1, h2⟩ := c.im j d h
    exact ⟨v, h1, q v G H (.refl c) h2⟩
theorem de_int {i : Int} {k : Nat} : DE F (.Constant (.int i) k pos) S S (.int i) := de_of (fun _ => pe_int) fun _ _ _ c _ q => q _ _ _ (.refl c) (.int i)
theorem de_bl {i : Bool} {k : Nat} : DE F (.Constant (.bool i) k pos) S S (.bl i) := de_of (fun _ => pe_bl) fun _ _ _ c _ q => q _ _ _ (.refl c) (.bl i)
theorem de_non {k : Nat} : DE F (.Constant .none k pos) S S .non := de_of (fun _ => pe_non) fun _ _ _ c _ q => q _ _ _ (.refl c) .non
theorem de_str {i : Str} {k : Nat} : DE F (.Constant (.str i) k pos) S S (.str i) := de_of (fun _ => pe_str) fun _ _ _ c _ q => q _ _ _ (.refl c) (.str i)
theorem de_glob {x : Str} {v : V} {u : Value} (hm : F.mg x = some u) (r : RelV v u) (hd : ∀ G, Den F.C G v d) (hg : ∀ i, Gl (F.X i) x := by intro _; rfl) (hb : (x == ("__debug__" : Str)) = false := by decide) : DE F (.Name x pos) S S d :=
  de_of (fun i => pe_glob (hg i) (by rw [F.hmg i]; exact hm) r hb) fun _ G _ c _ q => q _ _ _ (.refl c) (hd G)
theorem de_bltn {x : Str} {v : V} {u : Value} (hm : F.mg x = none) (hv : bootBuiltins x = some u) (r : RelV v u) (hg : ∀ i, Gl (F.X i) x := by intro _; rfl) (hn : x ≠ "__name__" := by decide) (hb : (x == ("__debug__" : Str)) = false := by decide) : DE F (.Name x pos) S S (.cst v) :=
  de_of (fun i => pe_bltn (hg i) (by rw [F.hmg i]; exact hm) hv r hn hb) fun _ G _ c _ q => q _ _ _ (.refl c) (.cst v)
def OpD (F : Fam) (f : Value → Value → Sem Value) (x y z : D) : Prop := ∃ r, (∀ i, OpR (F.X i) f r) ∧ RD F.C r x y z
def UnD (F : Fam) (f : Value → Sem Value) (x z : D) : Prop := ∃ r, (∀ i, UnR (F.X i) f r) ∧ RD1 F.C r x z
theorem ev_op {C : Kc} {r : R2} {ta tb : TE} (hr : RD C r x y z) (ha : EvM C ta S S1 x) (hb : EvM C tb S1 S2 y) : EvM C (tOp r ta tb) S S2 z := fun σ G H c Q q =>
  ha σ G H c _ fun u G1 H1 m1 d1 => hb σ G1 H1 m1.cx _ fun v G2 H2 m2 d2 => hr G2 H2 u v m2.cx.sub (d1.mono m2.go.gg) d2 Q fun w G3 H3 p d3 => q w G3 H3 ((m1.trans m2).pu p) d3
theorem de_op {op : Operator} (ha : DE F a S S1 x) (hb : DE F b S1 S2 y) (hr : OpD F (binaryOp op) x y z) : DE F (.BinOp a op b pos) S S2 z := by
  obtain ⟨r, h1, h2⟩ := hr
  exact de_of (fun i => pe_op (h1 i) (anyE_ok i) (anyE_ok i)) (ev_op h2 ha hb)
theorem de_un {op : UnaryOp} (ha : DE F a S S1 x) (hr : UnD F (unaryOp op) x z) : DE F (.UnaryOp op a pos) S S1 z := by
  obtain ⟨r, h1, h2⟩ := hr
  exact de_of (fun i => pe_un (h1 i) (anyE_ok i)) fun σ G H c Q q => ha σ G H c _ fun u G1 H1 m1 d1 => h2 G1 H1 u m1.cx.sub d1 Q fun w G2 H2 p d2 => q w G2 H2 (m1.pu p) d2
theorem de_cmp {op : CmpOp} (ha : DE F a S S1 x) (hb : DE F b S1 S2 y) (hr : OpD F (compareOp op) x y z) (hm : behindInMarks op b = false := by first | exact nomark _ | rfl) : DE F (.Compare a [op] [b] pos) S S2 z := by
  obtain ⟨r, h1, h2⟩ := hr
  exact de_of (fun i => pe_cmpR (h1 i) (anyE_ok i) (anyE_ok i) hm) (ev_op h2 ha hb)
theorem dt_cmp {op : CmpOp} {k : Bool} (ha : DE F a S S1 x) (hb : DE F b S1 S2 y) (hr : OpD F (compareOp op) x y (.bl k)) (hm : behindInMarks op b = false := by first | exact nomark _ | rfl) : DT F (.Compare a [op] [b] pos) S S2 k := by
  obtain ⟨r, h1, h2⟩ := hr
  refine dt_of (fun i => pt_cmpR (h1 i) (anyE_ok i) (anyE_ok i) hm) fun σ G H c Q q => ?_
  refine ev_op h2 ha hb σ G H c _ fun v G2 H2 m d => ?_
  cases d with
  | bl => exact ⟨k, rfl, q G2 H2 m⟩
theorem rd_I0 {C : Kc} {g : Int → Int → V} {i j : Int} {z : D} (h : ∀ G, Den C G (g i j) z) : RD C (rI0 g) (.int i) (.int j) z := fun G H u v s hu hv Q q => by
  cases hu; cases hv
  exact ⟨i, j, rfl, rfl, q _ _ _ (.refl s) (h G)⟩
theorem rd_I {C : Kc} {c : Int → Int → Prop} {g : Int → Int → V} {i j : Int} {z : D} (hc : c i j) (h : ∀ G, Den C G (g i j) z) : RD C (rI c g) (.int i) (.int j) z := fun G H u v s hu hv Q q => by
  cases hu; cases hv
  exact ⟨i, j, rfl, rfl, hc, q _ _ _ (.refl s) (h G)⟩
theorem od_add {i j : Int} : OpD F (binaryOp .Add) (.int i) (.int j) (.int (i + j)) := ⟨_, fun _ => op_add, rd_I0 fun _ => .int _⟩
theorem od_sub {i j : Int} : OpD F (binaryOp .Sub) (.int i) (.int j) (.int (i - j)) := ⟨_, fun _ => op_sub, rd_I0 fun _ => .int _⟩
theorem od_mul {i j : Int} (h : CMul i j) : OpD F (binaryOp .Mult) (.int i) (.int j) (.int (i * j)) := ⟨_, fun _ => op_mul, rd_I h fun _ => .int _⟩
theorem od_mod {i j : Int} (h : 0 < j) : OpD F (binaryOp .Mod) (.int i) (.int j) (.int (i % j)) := ⟨_, fun _ => op_mod, rd_I h fun _ => .int _⟩
theorem od_pow {i j : Int} (h : CPow i j) : OpD F (binaryOp .Pow) (.int i) (.int j) (.int (i ^ j.toNat)) := ⟨_, fun _ => op_pow, rd_I h fun _ => .int _⟩
theorem od_lt {i j : Int} : OpD F (compareOp .Lt) (.int i) (.int j) (.bl (decide (i < j))) := ⟨_, fun _ => op_lt, rd_I0 fun _ => .bl _⟩
theorem od_gt {i j : Int} : OpD F (compareOp .Gt) (.int i) (.int j) (.bl (decide (j < i))) := ⟨_, fun _ => op_gt, rd_I0 fun _ => .bl _⟩
theorem od_ge {i j : Int} : OpD F (compareOp .GtE) (.int i) (.int j) (.bl (decide (j ≤ i))) := ⟨_, fun _ => op_ge, rd_I0 fun _ => .bl _⟩
theorem ud_neg {i : Int} : UnD F (unaryOp .USub) (.int i) (.int (-i)) := ⟨_, fun _ => un_neg, fun G H u s hu Q q => by
  cases hu
  exact ⟨i, rfl, q _ _ _ (.refl s) (.int _)⟩⟩
theorem od_eqI {i j : Int} : OpD F (compareOp .Eq) (.int i) (.int j) (.bl (decide (i = j))) := ⟨_, fun _ => op_eq, fun G H u v s hu hv Q q => by
  cases hu; cases hv
  refine ⟨rfl, ?_⟩
  have e : decide (V.int i = V.int j) = decide (i = j) := by rw [dec_int]; by_cases h : i = j <;> simp [h]
  rw [e]
  exact q _ _ _ (.refl s) (.bl _)⟩
theorem od_neI {i j : Int} : OpD F (compareOp .NotEq) (.int i) (.int j) (.bl (!decide (i = j))) := ⟨_, fun _ => op_ne, fun G H u v s hu hv Q q => by
  cases hu; cases hv
  refine ⟨rfl, ?_⟩
  have e : decide (V.int i = V.int j) = decide (i = j) := by rw [dec_int]; by_cases h : i = j <;> simp [h]
  rw [e]
  exact q _ _ _ (.refl s) (.bl _)⟩
theorem od_eqB {i j : Bool} : OpD F (compareOp .Eq) (.bl i) (.bl j) (.bl (decide (i = j))) := ⟨_, fun _ => op_eq, fun G H u v s hu hv Q q => by
  cases hu; cases hv
  refine ⟨rfl, ?_⟩
  have e : decide (V.bl i = V.bl j) = decide (i = j) := by cases i <;> cases j <;> rfl
  rw [e]
  exact q _ _ _ (.refl s) (.bl _)⟩
theorem od_neB {i j : Bool} : OpD F (compareOp .NotEq) (.bl i) (.bl j) (.bl (!decide (i = j))) := ⟨_, fun _ => op_ne, fun G H u v s hu hv Q q => by
  cases hu; cases hv
  refine ⟨rfl, ?_⟩
  have e : decide (V.bl i = V.bl j) = decide (i = j) := by cases i <;> cases j <;> rfl
  rw [e]
  exact q _ _ _ (.refl s) (.bl _)⟩
theorem dt_val {k : Bool} (h : DE F e S S1 (.bl k)) (he : ∀ i whole, isTrue e (F.X i).env whole = (do let v ← whole; standAt e.pos; holding [v] (truthy v)) := by intro _ _; rfl) : DT F e S S1 k :=
  dt_of (fun i => pt_val (anyE_ok i) (he i)) fun σ G H c Q q => h σ G H c _ fun v G2 H2 m d => by
    cases d with
    | bl => exact ⟨k, rfl, q G2 H2 m⟩
theorem dt_w {k : Bool} (h : DW F e S S1 k) : DT F e S S1 k := dt_of (fun i => (anyW_ok i).pt) h
theorem dw_and1 {k : Bool} (h : DT F a S S1 k) : DW F (.BoolOp .And [a] pos) S S1 k := dw_of (fun i => pw_and1 (anyT_ok i)) h
theorem dw_or1 {k : Bool} (h : DT F a S S1 k) : DW F (.BoolOp .Or [a] pos) S S1 k := dw_of (fun i => pw_or1 (anyT_ok i)) h
theorem dw_and {k l : Bool} {rest : List Expr} (h : DT F a S S1 k) (h2 : k = true → DW F (.BoolOp .And (b :: rest) pos) S1 S2 l) (h0 : k = false → S1 = S2 := by intro _; rfl) : DW F (.BoolOp .And (a :: b :: rest) pos) S S2 (k && l) :=
  dw_of (fun i => pw_and (anyT_ok i) (anyW_ok i)) fun σ G H c Q q => h σ G H c _ fun G1 H1 m => by
    cases k with
    | true => rw [if_pos rfl]; exact h2 rfl σ G1 H1 m.cx _ fun G2 H2 m2 => q G2 H2 (m.trans m2)
    | false => rw [if_neg Bool.false_ne_true]; cases h0 rfl; exact q G1 H1 m
theorem dw_or {k l : Bool} {rest : List Expr} (h : DT F a S S1 k) (h2 : k = false → DW F (.BoolOp .Or (b :: rest) pos) S1 S2 l) (h0 : k = true → S1 = S2 := by intro _; rfl) : DW F (.BoolOp .Or (a :: b :: rest) pos) S S2 (k || l) :=
  dw_of (fun i => pw_or (anyT_ok i) (anyW_ok i)) fun σ G H c Q q => h σ G H c _ fun G1 H1 m => by
    cases k with
    | false => rw [if_neg Bool.false_ne_true]; exact h2 rfl σ G1 H1 m.cx _ fun G2 H2 m2 => q G2 H2 (m.trans m2)
    | true => rw [if_pos rfl]; cases h0 rfl; exact q G1 H1 m
theorem dt_not {k : Bool} (h : DT F a S S1 k) : DT F (.UnaryOp .Not a pos) S S1 (!k) := dt_of (fun i => pt_not (anyT_ok i)) fun σ G H c Q q => h σ G H c _ fun G2 H2 m => q G2 H2 m
theorem de_one {op : BoolOp} (h : DE F a S S1 d) : DE F (.BoolOp op [a] pos) S S1 d := de_of (fun i => pe_one (anyE_ok i)) h
theorem de_and {k l : Bool} {rest : List Expr} (h : DE F a S S1 (.bl k)) (h2 : k = true → DE F (.BoolOp .And (b :: rest) pos) S1 S2 (.bl l)) (h0 : k = false → S1 = S2 := by intro _; rfl) : DE F (.BoolOp .And (a :: b :: rest) pos) S S2 (.bl (k && l)) :=
  de_of (fun i => pe_and (anyE_ok i) (anyE_ok i)) fun σ G H c Q q => h σ G H c _ fun v G1 H1 m dv => by
    cases dv with
    | bl =>
      refine ⟨k, rfl, ?_⟩
      cases k with
      | true => rw [if_pos rfl]; exact h2 rfl σ G1 H1 m.cx _ fun v2 G2 H2 m2 d2 => q v2 G2 H2 (m.trans m2) d2
      | false => rw [if_neg Bool.false_ne_true]; cases h0 rfl; exact q _ G1 H1 m (.bl false)
theorem de_or {k l : Bool} {rest : List Expr} (h : DE F a S S1 (.bl k)) (h2 : k = false → DE F (.BoolOp .Or (b :: rest) pos) S1 S2 (.bl l)) (h0 : k = true → S1 = S2 := by intro _; rfl) : DE F (.BoolOp .Or (a :: b :: rest) pos) S S2 (.bl (k || l)) :=
  de_of (fun i => pe_or (anyE_ok i) (anyE_ok i)) fun σ G H c Q q => h σ G H c _ fun v G1 H1 m dv => by
    cases dv with
    | bl =>
      refine ⟨k, rfl, ?_⟩
      cases k with
      | false => rw [if_neg Bool.false_ne_true]; exact h2 rfl σ G1 H1 m.cx _ fun v2 G2 H2 m2 d2 => q v2 G2 H2 (m.trans m2) d2
      | true => rw [if_pos rfl]; cases h0 rfl; exact q _ G1 H1 m (.bl true)
theorem de_not {k : Bool} (h : DE F a S S1 (.bl k)) : DE F (.UnaryOp .Not a pos) S S1 (.bl (!k)) := de_of (fun i => pe_not (anyE_ok i)) fun σ G H c Q q => h σ G H c _ fun v G1 H1 m dv => by
  cases dv with
  | bl => exact ⟨k, rfl, q _ G1 H1 m (.bl _)⟩
theorem de_if {c : Expr} {k : Bool} (hc : DT F c S S1 k) (h1 : k = true → DE F a S1 S2 d) (h2 : k = false → DE F b S1 S2 d) : DE F (.IfExp c a b pos) S S2 d :=
  de_of (fun i => pe_ifExp (anyT_ok i) (anyE_ok i) (anyE_ok i)) fun σ G H cx Q q => hc σ G H cx _ fun G1 H1 m => by
    cases k with
    | true => rw [if_pos rfl]; exact h1 rfl σ G1 H1 m.cx _ fun v2 G2 H2 m2 d2 => q v2 G2 H2 (m.trans m2) d2
    | false => rw [if_neg Bool.false_ne_true]; exact h2 rfl σ G1 H1 m.cx _ fun v2 G2 H2 m2 d2 => q v2 G2 H2 (m.trans m2) d2
theorem da_nil : DA F [] S S [] := da_of (fun _ => pa_nil) fun _ _ _ c _ q => q _ _ _ (.refl c) .nil
theorem da_cons {es : List Expr} {ds : List D} (h : DE F e S S1 d) (hr : DA F es S1 S2 ds) (hs : ∀ i, starEach (e :: es) (F.X i).env = (false, eval e (F.X i).env) :: starEach es (F.X i).env := by intro _; rfl) : DA F (e :: es) S S2 (d :: ds) :=
  da_of (fun i => pa_cons (anyE_ok i) (anyA_ok i) (hs i)) fun σ G H c Q q => h σ G H c _ fun v G1 H1 m d1 => hr σ G1 H1 m.cx _ fun vs G2 H2 m2 d2 => q _ G2 H2 (m.trans m2) (.cons (d1.mono m2.go.gg) d2)
theorem dk_nil : DK F [] S S [] := dk_of (fun _ => pk_nil) fun _ _ _ c _ q => q _ _ _ (.refl c) .nil
theorem dk_cons {nm : Option Str} {kpos : Pos} {es : List Keyword} {ds : List D} (h : DE F e S S1 d) (hr : DK F es S1 S2 ds) : DK F (⟨nm, e, kpos⟩ :: es) S S2 (d :: ds) :=
  dk_of (fun i => pk_cons (anyE_ok i) (anyK_ok i)) fun σ G H c Q q => h σ G H c _ fun v G1 H1 m d1 => hr σ G1 H1 m.cx _ fun vs G2 H2 m2 d2 => q _ G2 H2 (m.trans m2) (.cons (d1.mono m2.go.gg) d2)
theorem de_tup {es : List Expr} {x1 : Nat} {ds : List D} (h : DA F es S S1 ds) (hl : ds.length ≤ sizeLine := by decide) : DE F (.Tuple es x1 pos) S S1 (.tup ds) :=
  de_of (fun i => pe_tup (anyA_ok i)) fun σ G H c Q q => h σ G H c _ fun vs G1 H1 m dl => ⟨by rw [dl.length]; exact hl, fun p hp => by
    have n := m.cx.new (o := .tup vs) hp
    exact q _ _ _ (m.trans n) (.tup (SqT.of upd_same) (dl.mono n.go.gg))⟩
theorem de_lst {es : List Expr} {ds : List D} (h : DA F es S S1 ds) (hl : ds.length ≤ sizeLine := by decide) : DE F (.List es pos) S S1 (.lst ds) :=
  de_of (fun i => pe_lst (anyA_ok i)) fun σ G H c Q q => h σ G H c _ fun vs G1 H1 m dl => ⟨by rw [dl.length]; exact hl, fun p hp => by
    have n := m.cx.new (o := .lst vs) hp
    exact q _ _ _ (m.trans n) (.lst (SqL.of upd_same) (dl.mono n.go.gg))⟩
theorem atI_den {C : Kc} {G : Hp} {vs : List V} {ds : List D} {i : Int} {d : D} (h : DenL C G vs ds) (e : atI ds i = some d) : ∃ v, atI vs i = some v ∧ Den C G v d := by
  unfold atI at e ⊢
  rw [h.length]
  cases q : ixN ds.length i with
  | none => rw [q] at e; cases e
  | some j =>
    rw [q] at e
    exact h.get e
theorem de_ixT {i : Int} {ds : List D} (ha : DE F a S S1 (.tup ds)) (hb : DE F b S1 S2 (.int i)) (hi : atI ds i = some d) (hs : PlainIx b := by intro _ _; rfl) : DE F (.Subscript a b pos) S S2 d :=
  de_of (te := tOp (rIxT F.C.K) (anyE F a) (anyE F b)) (fun j => by have := pe_ix (pos := pos) (ix_tup (X := F.X j)) (anyE_ok (e := a) j) (anyE_ok (e := b) j) hs; rw [F.hK j] at this; exact this)
    (ev_op (fun G H u v s hu hv Q q => by
      cases hu with
      | tup h l =>
        cases hv
        obtain ⟨w, h1, h2⟩ := atI_den l hi
        exact ⟨_, _, i, w, rfl, rfl, same_t s h, h1, q _ _ _ (.refl s) h2⟩) ha hb)
theorem de_ixL {i : Int} {ds : List D} (ha : DE F a S S1 (.lst ds)) (hb : DE F b S1 S2 (.int i)) (hi : atI ds i = some d) (hs : PlainIx b := by intro _ _; rfl) : DE F (.Subscript a b pos) S S2 d :=
  de_of (te := tOp (rIxL F.C.K) (anyE F a) (anyE F b)) (fun j => by have := pe_ix (pos := pos) (ix_list (X := F.X j)) (anyE_ok (e := a) j) (anyE_ok (e := b) j) hs; rw [F.hK j] at this; exact this)
    (ev_op (fun G H u v s hu hv Q q => by
      cases hu with
      | lst h l =>
        cases hv
        obtain ⟨w, h1, h2⟩ := atI_den l hi
        exact ⟨_, _, i, w, rfl, rfl, s.seq h, h1, q _ _ _ (.refl s) h2⟩) ha hb)
theorem ev_bag {C : Kc} {tb : TE} {j : Nat} {i : Int} {bb : Addr} {ds : List D} (hj : S.s[j]? = some (some .bag)) (hb : EvM C tb S S1 (.int i)) (hj1 : S1.g = some (bb, .lst ds)) (hg : S.g = some (bb, .lst ds)) (hi : atI ds i = some d) : EvM C (tOp (rIxL C.K) (tVar j) tb) S S1 d := fun σ G H c Q q =>
  ⟨_, c.bg j _ _ hg hj, hb σ G H c _ fun v G1 H1 m dv => by
    cases dv
    have z := m.cx.bag
    rw [hj1] at z
    obtain ⟨_, vs, z2, z3⟩ := z
    obtain ⟨w, h1, h2⟩ := atI_den z3 hi
    exact ⟨_, vs, i, w, rfl, rfl, SqL.of z2, h1, q _ _ _ m h2⟩⟩
theorem de_bagIx {j : Nat} {x : Str} {i : Int} {p : Pos} {bb : Addr} {ds : List D} (hj : S.s[j]? = some (some .bag)) (hb : DE F b S S1 (.int i)) (hj1 : S1.g = some (bb, .lst ds)) (hg : S.g = some (bb, .lst ds)) (hi : atI ds i = some d) (hs : PlainIx b := by intro _ _; rfl)
    (hN : ∀ i, (F.X i).N[j]? = some x := by intro _; rfl) (hv : ∀ i, Vis (F.X i).env.scope x := by intro _; first | exact Or.inl rfl | exact Or.inr (Or.inl rfl) | exact Or.inr (Or.inr rfl))
    (hd : (x == ("__debug__" : Str)) = false := by decide) (hcd : (x == ("__classdict__" : Str)) = false := by decide) : DE F (.Subscript (.Name x p) b pos) S S1 d :=
  de_of (te := tOp (rIxL F.C.K) (tVar j) (anyE F b)) (fun k => by have := pe_ix (pos := pos) (ix_list (X := F.X k)) (pe_var (pos := p) (hN k) (hv k) hd hcd) (anyE_ok (e := b) k) hs; rw [F.hK k] at this; exact this) (ev_bag hj hb hj1 hg hi)
def CaD (F : Fam) (f : Value) (xs : List D) (z : D) : Prop := ∃ r, (∀ i, CallR (F.X i) f r) ∧ RDL F.C r xs z
theorem ev_cb {C : Kc} {r : List V → Hp → VK → Prop} {ta : TA} {ds : List D} (hr : RDL C r ds z) (ha : EvA C ta S S1 ds) : EvM C (tCB r ta) S S1 z := fun σ G H c Q q =>
  ha σ G H c _ fun vs G1 H1 m dl => hr G1 H1 vs m.cx.sub dl Q fun w G2 H2 p d2 => q w G2 H2 (m.pu p) d2
theorem de_callB {x : Str} {id : String} {p : Pos} {es : List Expr} {ds : List D} (hm : F.mg x = none) (hv : bootBuiltins x = some (.builtin id)) (ha : DA F (e :: es) S S1 ds) (hr : CaD F (.builtin id) ds z)
    (hg : ∀ i, Gl (F.X i) x := by intro _; rfl) (hn : x ≠ "__name__" := by decide) (hdb : (x == ("__debug__" : Str)) = false := by decide)
    (he : ∀ i, starEach (e :: es) (F.X i).env = (false, eval e (F.X i).env) :: starEach es (F.X i).env := by intro _; rfl) (hpl : ∀ i, (backTo pos (starEach es (F.X i).env)).any (·.1) = false := by intro _; rfl) : DE F (.Call (.Name x p) (e :: es) [] pos) S S1 z := by
  obtain ⟨r, h1, h2⟩ := hr
  exact de_of (fun i => pe_callB (h1 i) (hg i) (by rw [F.hmg i]; exact hm) hv (anyA_ok i) hn hdb (he i) (hpl i)) (ev_cb h2 ha)
theorem de_callTy {x : Str} {T : String} {p : Pos} {es : List Expr} {ds : List D} (hm : F.mg x = none) (hv : bootBuiltins x = some (.type T)) (ha : DA F (e :: es) S S1 ds) (hr : CaD F (.type T) ds z)
    (hg : ∀ i, Gl (F.X i) x := by intro _; rfl) (hn : x ≠ "__name__" := by decide) (hdb : (x == ("__debug__" : Str)) = false := by decide)
    (he : ∀ i, starEach (e :: es) (F.X i).env = (false, eval e (F.X i).env) :: starEach es (F.X i).env := by intro _; rfl) (hpl : ∀ i, (backTo pos (starEach es (F.X i).env)).any (·.1) = false := by intro _; rfl) : DE F (.Call (.Name x p) (e :: es) [] pos) S S1 z := by
  obtain ⟨r, h1, h2⟩ := hr
  exact de_of (fun i => pe_callTy (h1 i) (hg i) (by rw [F.hmg i]; exact hm) hv (anyA_ok i) hn hdb (he i) (hpl i)) (ev_cb h2 ha)
theorem ca_abs {i : Int} : CaD F (.builtin "abs") [.int i] (.int (if i < 0 then -i else i)) := ⟨_, fun _ => call_abs, fun G H us s h Q q => by
  cases h with
  | cons h l => cases h; cases l; exact ⟨i, rfl, q _ _ _ (.refl s) (.int _)⟩⟩
theorem ca_int {i : Int} : CaD F (.type "int") [.int i] (.int i) := ⟨_, fun _ => call_int1, fun G H us s h Q q => by
  cases h with
  | cons h l => cases h; cases l; exact .inl ⟨i, rfl, q _ _ _ (.refl s) (.int _)⟩⟩
theorem ca_intB {k : Bool} : CaD F (.type "int") [.bl k] (.int (if k then 1 else 0)) := ⟨_, fun _ => call_int1, fun G H us s h Q q => by
  cases h with
  | cons h l => cases h; cases l; exact .inr ⟨k, rfl, q _ _ _ (.refl s) (.int _)⟩⟩
theorem ca_max [Calm F] {i j : Int} : CaD F (.builtin "max") [.int i, .int j] (.int (if j > i then j else i)) := ⟨_, fun k => call_max2 (F.calm k), fun G H us s h Q q => by
  cases h with
  | cons h l => cases l with
    | cons h2 l => cases h; cases h2; cases l; exact ⟨i, j, rfl, q _ _ _ (.refl s) (.int _)⟩⟩
theorem ca_min [Calm F] {i j : Int} : CaD F (.builtin "min") [.int i, .int j] (.int (if j < i then j else i)) := ⟨_, fun k => call_min2 (F.calm k), fun G H us s h Q q => by
  cases h with
  | cons h l => cases l with
    | cons h2 l => cases h; cases h2; cases l; exact ⟨i, j, rfl, q _ _ _ (.refl s) (.int _)⟩⟩
theorem ca_lenT {ds : List D} : CaD F (.builtin "len") [.tup ds] (.int ds.length) := ⟨fun xs H Q => ∃ p ys, xs = [.ref p] ∧ (SqL F.C.K H p ys ∨ SqT F.C.K H p ys) ∧ Q (.int ys.length) H, fun i => by have := call_len_seq (X := F.X i); rw [F.hK i] at this; exact this, fun G H us s h Q q => by
  cases h with
  | cons h l => cases h with
    | tup h1 h2 => cases l; exact ⟨_, _, rfl, .inr (same_t s h1), q _ _ _ (.refl s) (by rw [h2.length]; exact .int _)⟩⟩
theorem ca_lenL {ds : List D} : CaD F (.builtin "len") [.lst ds] (.int ds.length) := ⟨fun xs H Q => ∃ p ys, xs = [.ref p] ∧ (SqL F.C.K H p ys ∨ SqT F.C.K H p ys) ∧ Q (.int ys.length) H, fun i => by have := call_len_seq (X := F.X i); rw [F.hK i] at this; exact this, fun G H us s h Q q => by
  cases h with
  | cons h l => cases h with
    | lst h1 h2 => cases l; exact ⟨_, _, rfl, .inl (s.seq h1), q _ _ _ (.refl s) (by rw [h2.length]; exact .int _)⟩⟩
theorem ca_lenS {x : Str} (hx : x.length ≤ sizeLine) : CaD F (.builtin "len") [.str x] (.int x.length) := ⟨_, fun _ => call_len_str, fun G H us s h Q q => by
  cases h with
  | cons h l => cases h; cases l; exact ⟨x, rfl, hx, q _ _ _ (.refl s) (.int _)⟩⟩
end
end DL
namespace DL
open PySem L2
variable [TabL]
def spP (C : Kc) (R : List D → D → Prop) : Sp := fun vs H Q _ => ∃ (G : Hp) (ds : List D) (d : D), R ds d ∧ Sub G H ∧ DenL C G vs ds ∧ ∀ v G2 H2, Pu G H G2 H2 → Den C G2 v d → Q v H2
def spB (C : Kc) (R : List D → List D → D → List D → Prop) : Sp := fun vs H Q _ => ∃ (G : Hp) (b : Addr) (ws gv : List V) (ds gs : List D) (d : D) (gs' : List D), vs = .ref b :: ws ∧ R ds gs d gs' ∧ Sub G H ∧ G b = none ∧ H b = some (.lst gv) ∧ DenL C G gv gs ∧ DenL C G ws ds ∧
  ∀ v G2 H2 gv', Go (fun a => a = b) G H G2 H2 → Sub G2 H2 → G2 b = none → H2 b = some (.lst gv') → DenL C G2 gv' gs' → Den C G2 v d → Q v H2
def spO (C : Kc) (R : List D → List D → Prop) : Sp := fun vs H Q _ => ∃ (G : Hp) (ds es : List D), R ds es ∧ Sub G H ∧ DenL C G vs ds ∧ ∀ p ev G2 H2, Pu G H G2 H2 → H p = none → G2 p = none → H2 p = some (.lst ev) → DenL C G2 ev es → Q (.ref p) H2
def spI (C : Kc) (c : Nat) (R : List D → List (Str × D) → Prop) : Sp := fun vs H Q _ => ∃ (G : Hp) (b dx : Addr) (ws : List V) (ds : List D) (fs : List (Str × D)), vs = .ref b :: ws ∧ R ds fs ∧ Sub G H ∧ G b = none ∧ H b = some (.ins (C.cl c) dx []) ∧ DenL C G ws ds ∧
  ∀ G2 H2 dx2 fv, Go (fun a => a = b) G H G2 H2 → Sub G2 H2 → G2 b = none → H2 b = some (.ins (C.cl c) dx2 fv) → DenF C G2 fv fs → Q .non H2
def perm {α : Type} : List Nat → List α → List α
  | [], _ => []
  | i :: r, xs => match xs[i]? with
    | some x => x :: perm r xs
    | none => perm r xs
theorem DenL.perm {C : Kc} {G : Hp} {vs : List V} {ds : List D} (h : DenL C G vs ds) : ∀ ix : List Nat, DenL C G (perm ix vs) (perm ix ds)
  | [] => .nil
  | i :: r => by
    unfold DL.perm
    cases q : ds[i]? with
    | none =>
      have : vs[i]? = none := by
        rw [List.getElem?_eq_none_iff] at q ⊢
        rw [h.length]; exact q
      rw [this]
      exact DenL.perm h r
    | some d =>
      obtain ⟨v, h1, h2⟩ := h.get q
      rw [h1]
      exact .cons h2 (DenL.perm h r)
theorem Vals.perm {vs : List V} {us : List Value} (h : Vals vs us) : ∀ ix : List Nat, Vals (perm ix vs) (perm ix us)
  | [] => .nil
  | i :: r => by
    unfold DL.perm
    cases q : vs[i]? with
    | none => rw [h.none_of q]; exact Vals.perm h r
    | some d =>
      obtain ⟨v, h1, h2⟩ := h.get q
      rw [h1]
      exact .cons h2 (Vals.perm h r)
section
variable (P : Program) (w : World) (C : Kc) (mg : Str → Option Value) (base : Heap)
def Cal (k : Nat) (x : Str) (sp : Sp) : Prop := ∃ f fd ps, FnOk P w C.K mg base CX0 k f fd ps sp ∧ mg x = some (.ref f) ∧ PySem.W.keepIn C.K (.ref f) = true ∧ Binds C.K fd ps []
def Mak (k : Nat) (x : Str) (c : Nat) (R : List D → List (Str × D) → Prop) (dd : List D) : Prop := ∃ f fd ps ds dvs, FnOk P w C.K mg base CX0 k f fd ps (spI C c R) ∧ mg x = some (.ref (C.cl c)) ∧ Mk C.K (C.cl c) f ∧ Binds C.K fd ps ds ∧ Vals dvs ds ∧ (∀ G, DenL C G dvs dd) ∧ C.has c = true
def Met (k : Nat) (c : Nat) (m : Str) (sp : Sp) : Prop := ∃ f fd ps, FnOk P w C.K mg base CX0 k f fd ps sp ∧ Cls C.K (C.cl c) ∧ Meth C.K (C.cl c) m f ∧ Binds C.K fd ps []
end
section
variable {F : Fam} {S S1 S2 S3 : ST} {e a b : Expr} {d x y z : D} {pos p apos : Pos} {es : List Expr} {ds : List D} {k : Nat} {nm : Str} {kws : List Keyword}
theorem fn_at {i : F.I} {k : Nat} {f : Addr} {fd : FuncData} {ps : List Str} {sp : Sp} (G : FnOk F.P F.w F.C.K F.mg F.base CX0 k f fd ps sp) : FnOk (F.X i).prog (F.X i).w (F.X i).K (F.X i).mg (F.X i).base CX0 k f fd ps sp := by
  rw [F.hP, F.hw, F.hK, F.hmg, F.hbase]; exact G
theorem de_call [Calm F] {R : List D → D → Prop} (c : Cal F.P F.w F.C F.mg F.base k nm (spP F.C R)) (ha : DA F (e :: es) S S1 ds) (hR : R ds d) (hk : k ≤ F.k := by exact Nat.le_of_ble_eq_true rfl)
    (hg : ∀ i, Gl (F.X i) nm := by intro _; rfl) (hdb : (nm == ("__debug__" : Str)) = false := by decide)
    (he : ∀ i, starEach (e :: es) (F.X i).env = (false, eval e (F.X i).env) :: starEach es (F.X i).env := by intro _; rfl) (hpl : ∀ i, (backTo pos (starEach es (F.X i).env)).any (·.1) = false := by intro _; rfl) : DE F (.Call (.Name nm p) (e :: es) [] pos) S S1 d := by
  obtain ⟨f, fd, ps, G, hm, hkp, hb⟩ := c
  refine de_of (te := tCall (spP F.C R) [] E0 (anyA F (e :: es))) (fun i => pe_call (fn_at G) ((F.room i).mono hk) (hg i) (by rw [F.hmg i]; exact hm) (by rw [F.hK i]; exact hkp) (by rw [F.hK i]; exact hb) .nil pass0 (anyA_ok i) hdb (he i) (hpl i)) ?_
  intro σ G H cx Q q
  refine ha σ G H cx _ fun vs G1 H1 m dl => ?_
  rw [List.append_nil]
  exact ⟨G1, ds, d, hR, m.cx.sub, dl, fun v G2 H2 p dv => q v G2 H2 (m.pu p) dv⟩
theorem make_ev {C : Kc} {c : Nat} {R : List D → List (Str × D) → Prop} {fs : List (Str × D)} {σ : L2.St} {G H : Hp} {vs : List V} {E : XK} {Q : VK} (cx : Ctx C G H σ S) (hh : C.has c = true) (dl : DenL C G vs ds) (hR : R ds fs)
    (q : ∀ v G2 H2, Mv C σ S G H S G2 H2 → Den C G2 v (.obj c fs) → Q v H2) :
    ∀ x dx, H x = none → H dx = none → dx ≠ x → spI C c R (.ref x :: vs) (upd (upd H dx (.own x)) x (.ins (C.cl c) dx [])) (fun v H2 => v = .non ∧ Q (.ref x) H2) E := by
  intro x dx hx hdx ne
  have gx : G x = none := cx.sub.free hx
  have gd : G dx = none := cx.sub.free hdx
  have s1 : Same H (upd (upd H dx (.own x)) x (.ins (C.cl c) dx [])) := fun a o h => by
    rw [upd_ne (ne_of_none h hx), upd_ne (ne_of_none h hdx)]; exact h
  refine ⟨G, x, dx, vs, ds, fs, rfl, hR, cx.sub.trans s1, gx, upd_same, dl, fun G2 H2 dx2 fv go sub g2 h2 df => ⟨rfl, ?_⟩⟩
  have hk : KT H H2 := ⟨fun a o nt h => go.keep a o (ne_of_none h hx) nt (s1 a o h), fun a h => go.dom a (Same.dom0 s1 a h), fun t => go.tb (t.ext s1)⟩
  refine q (.ref x) (upd G2 x (.ins (C.cl c) dx2 fv)) H2 ?_ (.obj hh upd_same (df.mono fun a o h => by rw [upd_ne (ne_of_none h g2)]; exact h))
  refine cx.mv hk (fun a o h => ?_) (fun a o h => ?_) (fun a h1 hg => ?_)
  · rw [upd_ne (ne_of_none h gx)]; exact go.gg a o h
  · by_cases z : a = x
    · subst z; rw [upd_same] at h; cases h; exact h2
    · rw [upd_ne z] at h; exact sub a o h
  · have z : a ≠ x := fun z => h1 (by rw [z]; exact hx)
    rw [upd_ne z]
    exact go.fr a z (by
      rw [upd_ne z]
      by_cases z2 : a = dx
      · subst z2; rw [upd_same]; simp
      · rw [upd_ne z2]; exact h1) hg
theorem de_make [Calm F] {c : Nat} {R : List D → List (Str × D) → Prop} {dd : List D} {fs : List (Str × D)} (mk : Mak F.P F.w F.C F.mg F.base k nm c R dd) (ha : DA F (e :: es) S S1 ds) (hR : R (ds ++ dd) fs) (hk : k + 1 ≤ F.k := by exact Nat.le_of_ble_eq_true rfl)
    (hg : ∀ i, Gl (F.X i) nm := by intro _; rfl) (hdb : (nm == ("__debug__" : Str)) = false := by decide)
    (he : ∀ i, starEach (e :: es) (F.X i).env = (false, eval e (F.X i).env) :: starEach es (F.X i).env := by intro _; rfl) (hpl : ∀ i, (backTo pos (starEach es (F.X i).env)).any (·.1) = false := by intro _; rfl) : DE F (.Call (.Name nm p) (e :: es) [] pos) S S1 (.obj c fs) := by
  obtain ⟨f, fd, ps, dus, dvs, G, hm, M, hb, hv, hd, hh⟩ := mk
  refine de_of (te := tMake (F.C.cl c) (spI F.C c R) dvs E0 (anyA F (e :: es))) (fun i => pe_make (by rw [F.hK i]; exact M) (fn_at G) ((F.room i).mono hk) (hg i) (by rw [F.hmg i]; exact hm) (by rw [F.hK i]; exact hb) hv pass0 (anyA_ok i) hdb (he i) (hpl i)) ?_
  intro σ G H cx Q q
  refine ha σ G H cx _ fun vs G1 H1 m dl => ?_
  exact make_ev m.cx hh (dl.append (hd G1)) hR fun v G2 H2 m2 dv => q v G2 H2 (m.trans m2) dv
theorem ctx_bag {C : Kc} {σ : L2.St} {G H G2 H2 : Hp} {bb : Addr} {gs gs' : List D} {gv' : List V} (cx : Ctx C G H σ S) (hg : S.g = some (bb, .lst gs)) (go : Go (fun a => a = bb) G H G2 H2) (sub : Sub G2 H2) (g2 : G2 bb = none) (h2 : H2 bb = some (.lst gv')) (dl : DenL C G2 gv' gs') :
    Mv C σ S G H ⟨S.s, some (bb, .lst gs')⟩ G2 H2 := by
  refine ⟨go.mono fun a z => .inr ⟨.lst gs, by rw [z]; exact hg⟩, ⟨sub, cx.len, fun i d h => ?_, fun i ds h => ?_, cx.apart, fun i b o h h1 => ?_, ⟨g2, gv', h2, dl⟩, fun i b o ds h h1 => ?_⟩, fun a z => ?_⟩
  · obtain ⟨v, h1, h2⟩ := cx.im i d h
    exact ⟨v, h1, h2.mono go.gg⟩
  · obtain ⟨a, vs, h1, h3, h4, h5⟩ := cx.ow i ds h
    have na : a ≠ bb := fun z => cx.nob i bb _ ds hg h (by rw [← z]; exact h1)
    exact ⟨a, vs, h1, go.fr a na (by rw [h4]; simp) h3, go.keep a _ na h5.nt h4, h5.mono go.gg⟩
  · cases h; exact cx.bg i bb _ hg h1
  · cases h; exact cx.nob i bb _ ds hg h1
  · rcases z with z | ⟨o, z⟩
    · exact .inl z
    · cases z; exact .inr ⟨_, hg⟩
theorem pa_bag {j : Nat} {x : Str} (i : F.I) (hN : (F.X i).N[j]? = some x) (hv : Vis (F.X i).env.scope x) (hd : (x == ("__debug__" : Str)) = false) (hcd : (x == ("__classdict__" : Str)) = false) (hs : starEach (.Name x p :: es) (F.X i).env = (false, eval (.Name x p) (F.X i).env) :: starEach es (F.X i).env) :
    PA (F.X i) (.Name x p :: es) (tCons (tVar j) (anyA F es)) := pa_cons (pe_var hN hv hd hcd) (anyA_ok i) hs
theorem de_callBag [Calm F] {R : List D → List D → D → List D → Prop} {j : Nat} {x : Str} {bb : Addr} {gs gs' : List D} {q' : Pos} (c : Cal F.P F.w F.C F.mg F.base k nm (spB F.C R)) (hj : S.s[j]? = some (some .bag)) (hS : S.g.map (·.1) = some bb) (ha : DA F es S S1 ds) (hg : S1.g = some (bb, .lst gs)) (hR : R ds gs d gs') (hk : k ≤ F.k := by exact Nat.le_of_ble_eq_true rfl)
    (hN : ∀ i, (F.X i).N[j]? = some x := by intro _; rfl) (hv : ∀ i, Vis (F.X i).env.scope x := by intro _; first | exact Or.inl rfl | exact Or.inr (Or.inl rfl) | exact Or.inr (Or.inr rfl))
    (hd : (x == ("__debug__" : Str)) = false := by decide) (hcd : (x == ("__classdict__" : Str)) = false := by decide)
    (hgl : ∀ i, Gl (F.X i) nm := by intro _; rfl) (hdb : (nm == ("__debug__" : Str)) = false := by decide)
    (he : ∀ i, starEach (.Name x q' :: es) (F.X i).env = (false, eval (.Name x q') (F.X i).env) :: starEach es (F.X i).env := by intro _; rfl) (hpl : ∀ i, (backTo pos (starEach es (F.X i).env)).any (·.1) = false := by intro _; rfl) :
    DE F (.Call (.Name nm p) (.Name x q' :: es) [] pos) S ⟨S1.s, some (bb, .lst gs')⟩ d := by
  obtain ⟨f, fd, ps, G, hm, hkp, hb⟩ := c
  refine de_of (te := tCall (spB F.C R) [] E0 (tCons (tVar j) (anyA F es))) (fun i => pe_call (fn_at G) ((F.room i).mono hk) (hgl i) (by rw [F.hmg i]; exact hm) (by rw [F.hK i]; exact hkp) (by rw [F.hK i]; exact hb) .nil pass0 (pa_bag i (hN i) (hv i) hd hcd (he i)) hdb (he i) (hpl i)) ?_
  intro σ G H cx Q q
  have hb0 : σ[j]? = some (some (.ref bb)) := by
    cases e : S.g with
    | none => rw [e] at hS; cases hS
    | some bo =>
      obtain ⟨b0, o⟩ := bo
      rw [e] at hS
      cases hS
      exact cx.bg j _ o e hj
  refine ⟨_, hb0, ha σ G H cx _ fun vs G1 H1 m dl => ?_⟩
  have z := m.cx.bag
  rw [hg] at z
  obtain ⟨z1, gv, z2, z3⟩ := z
  refine ⟨G1, bb, vs, gv, ds, gs, d, gs', List.append_nil _, hR, m.cx.sub, z1, z2, z3, dl, fun v G2 H2 gv' go sub g2 h2 dl' dv => ?_⟩
  exact q v G2 H2 (m.trans (ctx_bag m.cx hg go sub g2 h2 dl')) dv
end
def famD (C : Kc) (mg : Str → Option Value) (base : Heap) (N : List Str) (nd : N.Nodup) (qual : Str) (sc : Scope) (f : Addr) (cdv : Value) (A : Around) (outer : List Env) (s : Shared) (H : Hp) (E : XK) (k : Nat) (hr : Room k (A.deeper (PyProof.Rows.envOfC qual sc s.heap.objs.size f cdv))) : Fam where
  I := Unit
  X := fun _ => (cxOf CX0 C.P C.w C.K mg base N qual sc f cdv A outer s H E).nox
  P := C.P
  w := C.w
  C := C
  mg := mg
  base := base
  N := N
  k := k
  hP := fun _ => rfl
  hw := fun _ => rfl
  hK := fun _ => rfl
  hmg := fun _ => rfl
  hbase := fun _ => rfl
  hN := fun _ => rfl
  nd := nd
  roomH := fun _ => ⟨hr.dp, hr.un⟩
  cP := rfl
  cw := rfl
instance {C : Kc} {mg : Str → Option Value} {base : Heap} {N : List Str} {nd : N.Nodup} {qual : Str} {sc : Scope} {f : Addr} {cdv : Value} {A : Around} {outer : List Env} {s : Shared} {H : Hp} {E : XK} {k : Nat} {hr : Room k (A.deeper (PyProof.Rows.envOfC qual sc s.heap.objs.size f cdv))} : Calm (famD C mg base N nd qual sc f cdv A outer s H E k hr) := ⟨fun _ => rfl, fun _ => hr.hd⟩
def start (N : List Str) (ds : List D) : List (Option DV) := ds.map (fun d => some (.imm d)) ++ List.replicate (N.length - ds.length) none
theorem start_get {N : List Str} {C : Kc} {G : Hp} {vs : List V} {ds : List D} (h : DenL C G vs ds) (i : Nat) (e : DV) (q : (start N ds)[i]? = some (some e)) : ∃ v d, (L2.start N vs)[i]? = some (some v) ∧ e = .imm d ∧ Den C G v d := by
  unfold start at q
  unfold L2.start
  rcases Nat.lt_or_ge i ds.length with hi | hi
  · rw [List.getElem?_append_left (by simpa using hi), List.getElem?_map] at q
    cases r : ds[i]? with
    | none => rw [r] at q; cases q
    | some d =>
      rw [r] at q
      obtain ⟨v, h1, h2⟩ := h.get r
      refine ⟨v, d, ?_, by simpa using q.symm, h2⟩
      rw [List.getElem?_append_left (by rw [List.length_map, h.length]; exact hi), List.getElem?_map, h1]
      rfl
  · rw [List.getElem?_append_right (by simpa using hi)] at q
    rw [List.getElem?_replicate] at q
    split at q <;> cases q
theorem ctx_start {N : List Str} {C : Kc} {G H : Hp} {vs : List V} {ds : List D} (s : Sub G H) (h : DenL C G vs ds) : Ctx C G H (L2.start N vs) ⟨start N ds, none⟩ where
  sub := s
  len := by simp [L2.start, start, h.length]
  im := fun i d q => by
    obtain ⟨v, d', h1, h2, h3⟩ := start_get h i _ q
    cases h2
    exact ⟨v, h1, h3⟩
  ow := fun i ds q => by obtain ⟨_, _, _, z, _⟩ := start_get h i _ q; cases z
  apart := fun i j ds es a q => by obtain ⟨_, _, _, z, _⟩ := start_get h i _ q; cases z
  bg := fun i b o z => by cases z
  bag := trivial
  nob := fun i b o ds z => by cases z
theorem oa_start {N : List Str} {C : Kc} {G : Hp} {vs : List V} {ds : List D} (h : DenL C G vs ds) (a : Addr) : ¬ OA C (L2.start N vs) ⟨start N ds, none⟩ a := fun z => by
  rcases z with ⟨i, es, q, _⟩ | ⟨o, z⟩
  · obtain ⟨_, _, _, z, _⟩ := start_get h i _ q; cases z
  · cases z
section
variable {P : Program} {w : World} {C : Kc} {mg : Str → Option Value} {base : Heap}
theorem fnP {x qual : Str} {st : Stmt} {f : Addr} {fd : FuncData} {N ps : List Str} {k : Nat} {R : List D → D → Prop} (F : Fun C.K x qual st f fd) (Sc : FnScope N ps (defScope st)) (len : ∀ ds d, R ds d → ds.length = ps.length)
    (body : ∀ ds d, R ds d → ∀ cdv A outer s H E hr, DS (famD C mg base N Sc.nd qual (defScope st) f cdv A outer s H E k hr) (defBody st) ⟨start N ds, none⟩ { rt := fun d' _ => d' = d, nx := fun _ => d = .non }) : FnOk C.P C.w C.K mg base CX0 (k + 1) f fd ps (spP C R) := by
  refine F.ok Sc (fun vs H Q E h => ?_) (fun cdv A outer s H vs Q E hr h => ?_)
  · obtain ⟨G, ds, d, hR, _, dl, _⟩ := h
    rw [dl.length]; exact len ds d hR
  · obtain ⟨G, ds, d, hR, sub, dl, q⟩ := h
    refine ⟨_, anyS_ok (F := famD C mg base N Sc.nd qual (defScope st) f cdv A outer s H E k hr) (), ?_⟩
    have key : ∀ σ2 S2 G2 H2, Mw C (L2.start N vs) ⟨start N ds, none⟩ G H σ2 S2 G2 H2 → Pu G H G2 H2 := fun σ2 S2 G2 H2 m =>
      ⟨⟨fun a o nt h => m.go.keep a o (oa_start dl a) nt h, m.go.dom, m.go.tb⟩, m.go.gg, m.cx.sub, fun a h1 h2 => m.go.fr a (oa_start dl a) h1 h2⟩
    refine body ds d hR cdv A outer s H E hr (L2.start N vs) G H (ctx_start sub dl) _ ⟨fun σ2 S2 G2 H2 m e => ?_, fun v d' σ2 S2 G2 H2 m dv e => ?_, fun _ _ _ _ _ e => e.elim, fun _ _ _ _ _ e => e.elim, fun _ _ _ _ _ _ _ _ _ _ _ _ e => e.elim, fun _ _ _ _ _ _ _ _ _ _ _ _ _ e => e.elim⟩
    · exact q .non G2 H2 (key _ _ _ _ m) (by rw [e]; exact .non)
    · cases e
      exact q v G2 H2 (key _ _ _ _ m) dv
theorem fnO {x qual : Str} {st : Stmt} {f : Addr} {fd : FuncData} {N ps : List Str} {k : Nat} {R : List D → List D → Prop} (F : Fun C.K x qual st f fd) (Sc : FnScope N ps (defScope st)) (len : ∀ ds es, R ds es → ds.length = ps.length)
    (body : ∀ ds es, R ds es → ∀ cdv A outer s H E hr, DS (famD C mg base N Sc.nd qual (defScope st) f cdv A outer s H E k hr) (defBody st) ⟨start N ds, none⟩ { ro := fun es' _ => es' = es }) : FnOk C.P C.w C.K mg base CX0 (k + 1) f fd ps (spO C R) := by
  refine F.ok Sc (fun vs H Q E h => ?_) (fun cdv A outer s H vs Q E hr h => ?_)
  · obtain ⟨G, ds, es, hR, _, dl, _⟩ := h
    rw [dl.length]; exact len ds es hR
  · obtain ⟨G, ds, es, hR, sub, dl, q⟩ := h
    refine ⟨_, anyS_ok (F := famD C mg base N Sc.nd qual (defScope st) f cdv A outer s H E k hr) (), ?_⟩
    refine body ds es hR cdv A outer s H E hr (L2.start N vs) G H (ctx_start sub dl) _ ⟨fun _ _ _ _ _ e => e.elim, fun _ _ _ _ _ _ _ _ e => e.elim, fun _ _ _ _ _ e => e.elim, fun _ _ _ _ _ e => e.elim, fun p ev es' σ2 S2 G2 H2 m h1 h2 h3 h4 e => ?_, fun _ _ _ _ _ _ _ _ _ _ _ _ _ e => e.elim⟩
    cases e
    exact q p ev G2 H2 ⟨⟨fun a o nt h => m.go.keep a o (oa_start dl a) nt h, m.go.dom, m.go.tb⟩, m.go.gg, m.cx.sub, fun a h1 h2 => m.go.fr a (oa_start dl a) h1 h2⟩ (h1.resolve_right (oa_start dl p)) h2 h3 h4
def startB (N : List Str) (ds : List D) : List (Option DV) := some .bag :: start N.tail ds
theorem ctx_startB {n : Str} {N : List Str} {G H : Hp} {b : Addr} {vs : List V} {ds : List D} {bo : BG} (s : Sub G H) (h : DenL C G vs ds) (hb : BagOk C G H (some (b, bo))) : Ctx C G H (L2.start (n :: N) (.ref b :: vs)) ⟨startB (n :: N) ds, some (b, bo)⟩ := by
  have e : L2.start (n :: N) (.ref b :: vs) = some (.ref b) :: L2.start N vs := by simp [L2.start]
  have c := ctx_start (N := N) s h
  rw [e]
  refine ⟨s, by simp [startB, c.len, start, L2.start, h.length], fun i d q => ?_, fun i es q => ?_, fun i j es fs a q => ?_, fun i b' o z q => ?_, hb, fun i b' o es z q => ?_⟩
  · cases i with
    | zero => cases q
    | succ i => simpa using c.im i d (by simpa [startB] using q)
  · cases i with
    | zero => cases q
    | succ i => simpa using c.ow i es (by simpa [startB] using q)
  · cases i with
    | zero => cases q
    | succ i => obtain ⟨_, _, _, z, _⟩ := start_get (N := N) h i _ (by simpa [startB] using q); cases z
  · cases z
    cases i with
    | zero => rfl
    | succ i => obtain ⟨_, _, _, z, _⟩ := start_get (N := N) h i _ (by simpa [startB] using q); cases z
  · cases i with
    | zero => cases q
    | succ i => obtain ⟨_, _, _, z, _⟩ := start_get (N := N) h i _ (by simpa [startB] using q); cases z
theorem oa_startB {n : Str} {N : List Str} {G : Hp} {b : Addr} {vs : List V} {ds : List D} {bo : BG} (h : DenL C G vs ds) (a : Addr) (z : OA C (L2.start (n :: N) (.ref b :: vs)) ⟨startB (n :: N) ds, some (b, bo)⟩ a) : a = b := by
  rcases z with ⟨i, es, q, _⟩ | ⟨o, z⟩
  · cases i with
    | zero => cases q
    | succ i => obtain ⟨_, _, _, z, _⟩ := start_get (N := N) h i _ (by simpa [startB] using q); cases z
  · cases z; rfl
theorem fnB {x qual : Str} {st : Stmt} {f : Addr} {fd : FuncData} {n : Str} {N ps : List Str} {k : Nat} {R : List D → List D → D → List D → Prop} (F : Fun C.K x qual st f fd) (Sc : FnScope (n :: N) ps (defScope st)) (len : ∀ ds gs d gs', R ds gs d gs' → ds.length + 1 = ps.length)
    (body : ∀ ds gs d gs', R ds gs d gs' → ∀ b cdv A outer s H E hr, DS (famD C mg base (n :: N) Sc.nd qual (defScope st) f cdv A outer s H E k hr) (defBody st) ⟨startB (n :: N) ds, some (b, .lst gs)⟩
      { rt := fun d' S => d' = d ∧ S.g = some (b, .lst gs'), nx := fun S => d = .non ∧ S.g = some (b, .lst gs') }) : FnOk C.P C.w C.K mg base CX0 (k + 1) f fd ps (spB C R) := by
  refine F.ok Sc (fun vs H Q E h => ?_) (fun cdv A outer s H vs Q E hr h => ?_)
  · obtain ⟨G, b, ws, gv, ds, gs, d, gs', rfl, hR, _, _, _, _, dl, _⟩ := h
    rw [List.length_cons, dl.length]; exact len ds gs d gs' hR
  · obtain ⟨G, b, ws, gv, ds, gs, d, gs', rfl, hR, sub, gb, hb, dg, dl, q⟩ := h
    refine ⟨_, anyS_ok (F := famD C mg base (n :: N) Sc.nd qual (defScope st) f cdv A outer s H E k hr) (), ?_⟩
    have fin : ∀ v σ2 S2 G2 H2, Mw C (L2.start (n :: N) (.ref b :: ws)) ⟨startB (n :: N) ds, some (b, .lst gs)⟩ G H σ2 S2 G2 H2 → S2.g = some (b, .lst gs') → Den C G2 v d → Q v H2 := fun v σ2 S2 G2 H2 m e dv => by
      have z := m.cx.bag
      rw [e] at z
      obtain ⟨z1, gv', z2, z3⟩ := z
      exact q v G2 H2 gv' (m.go.mono fun a => oa_startB dl a) m.cx.sub z1 z2 z3 dv
    refine body ds gs d gs' hR b cdv A outer s H E hr _ G H (ctx_startB sub dl ⟨gb, gv, hb, dg⟩) _ ⟨fun σ2 S2 G2 H2 m e => ?_, fun v d' σ2 S2 G2 H2 m dv e => ?_, fun _ _ _ _ _ e => e.elim, fun _ _ _ _ _ e => e.elim, fun _ _ _ _ _ _ _ _ _ _ _ _ e => e.elim, fun _ _ _ _ _ _ _ _ _ _ _ _ _ e => e.elim⟩
    · exact fin .non _ _ _ _ m e.2 (by rw [e.1]; exact .non)
    · exact fin v _ _ _ _ m e.2 (e.1 ▸ dv)
theorem fnID {x qual : Str} {st : Stmt} {dvs : List V} {kws : List (Str × V)} {f : Addr} {fd : FuncData} {c : Nat} {n : Str} {N ps : List Str} {k : Nat} {R : List D → List (Str × D) → Prop} (F : FunD C.K x qual (defArgs st) (defBody st) (defScope st) dvs kws f fd) (Sc : FnScope (n :: N) ps (defScope st)) (len : ∀ ds fs, R ds fs → ds.length + 1 = ps.length)
    (body : ∀ ds fs, R ds fs → ∀ b cdv A outer s H E hr, DS (famD C mg base (n :: N) Sc.nd qual (defScope st) f cdv A outer s H E k hr) (defBody st) ⟨startB (n :: N) ds, some (b, .ins c [])⟩
      { nx := fun S => S.g = some (b, .ins c fs) }) : FnOk C.P C.w C.K mg base CX0 (k + 1) f fd ps (spI C c R) := by
  refine F.ok Sc (fun vs H Q E h => ?_) (fun cdv A outer s H vs Q E hr h => ?_)
  · obtain ⟨G, b, dx, ws, ds, fs, rfl, hR, _, _, _, dl, _⟩ := h
    rw [List.length_cons, dl.length]; exact len ds fs hR
  · obtain ⟨G, b, dx, ws, ds, fs, rfl, hR, sub, gb, hb, dl, q⟩ := h
    refine ⟨_, PSs.nox (anyS_ok (F := famD C mg base (n :: N) Sc.nd qual (defScope st) f cdv A outer s H E k hr) ()), ?_⟩
    refine body ds fs hR b cdv A outer s H E hr _ G H (ctx_startB sub dl ⟨gb, dx, [], hb, .nil⟩) _ ⟨fun σ2 S2 G2 H2 m e => ?_, fun v d' σ2 S2 G2 H2 m dv e => e.elim, fun _ _ _ _ _ e => e.elim, fun _ _ _ _ _ e => e.elim, fun _ _ _ _ _ _ _ _ _ _ _ _ e => e.elim, fun _ _ _ _ _ _ _ _ _ _ _ _ _ e => e.elim⟩
    have z := m.cx.bag
    rw [e] at z
    obtain ⟨z1, dx2, fv, z2, z3⟩ := z
    exact q G2 H2 dx2 fv (m.go.mono fun a => oa_startB dl a) m.cx.sub z1 z2 z3
end
end DL
namespace DL
open PySem L2
variable [TabL]
section
variable {F : Fam} {S S1 S2 S3 : ST} {e a b : Expr} {d x y z : D} {pos p apos : Pos} {es : List Expr} {ds : List D} {k : Bool} {nm : Str} {P : Po} {rest t u : List Stmt} {st : Stmt} {M : ST → Prop}
theorem ds_nil (h : P.nx S) : DS F [] S P := ds_of (fun _ => pss_nil) fun σ G H c E m => m.nx σ S G H (.refl c) h
theorem ds_cons (h1 : D1 F st S { P with nx := M }) (h2 : ∀ S2, M S2 → DS F rest S2 P) : DS F (st :: rest) S P :=
  ds_of (te := tSeq (any1 F st) (anyS F rest)) (fun i => pss_cons (any1_ok i) (anyS_ok i)) fun σ G H c E m =>
    h1 σ G H c _ ⟨fun σ2 S2 G2 H2 a q => h2 S2 q σ2 G2 H2 a.cx E (m.move a), m.rt, m.bk, m.ct, m.ro, m.xc⟩
theorem ds_mono {P' : Po} {sts : List Stmt} (h : DS F sts S P) (h1 : ∀ S, P.nx S → P'.nx S) (h2 : ∀ d S, P.rt d S → P'.rt d S) (h3 : ∀ S, P.bk S → P'.bk S) (h4 : ∀ S, P.ct S → P'.ct S) (h5 : ∀ es S, P.ro es S → P'.ro es S := by intro _ _ z; exact z) (h6 : (∀ c fs S, ¬ P.xc c fs S) ∨ (P.W = P'.W ∧ ∀ c fs S, P.xc c fs S → P'.xc c fs S) := by first | exact Or.inl (fun _ _ _ z => z.elim) | exact Or.inr ⟨rfl, fun _ _ _ z => z⟩) : DS F sts S P' := fun σ G H c E m =>
  h σ G H c E ⟨fun σ2 S2 G2 H2 a q => m.nx _ _ _ _ a (h1 _ q), fun v d σ2 S2 G2 H2 a q r => m.rt _ _ _ _ _ _ a q (h2 _ _ r), fun σ2 S2 G2 H2 a q => m.bk _ _ _ _ a (h3 _ q), fun σ2 S2 G2 H2 a q => m.ct _ _ _ _ a (h4 _ q), fun p ev es σ2 S2 G2 H2 a r1 r2 r3 r4 q => m.ro _ _ _ _ _ _ _ a r1 r2 r3 r4 (h5 _ _ q), fun c fs dx fv σ2 S2 G2 H2 a r1 r2 r3 r4 q => by
    rcases h6 with n | ⟨ew, k⟩
    · exact absurd q (n _ _ _)
    · rw [ew]; exact m.xc c fs dx fv _ _ _ _ a r1 r2 r3 r4 (k _ _ _ q)⟩
theorem d1_ret (h : DE F e S S1 d) (q : P.rt d S1) : D1 F (.Return (some e) pos) S P := d1_of (te := tRet (anyE F e)) (fun i => ps_ret (anyE_ok i)) fun σ G H c E m =>
  h σ G H c _ fun v G1 H1 m1 dv => m.rt v d σ S1 G1 H1 m1.mw dv q
theorem d1_retO (h : DO F e S S1 ds) (q : P.ro ds S1) : D1 F (.Return (some e) pos) S P := d1_of (te := tRet (anyE F e)) (fun i => ps_ret (anyE_ok i)) fun σ G H c E m =>
  h σ G H c _ fun p ev G1 H1 m1 h1 h2 h3 h4 => m.ro p ev ds σ S1 G1 H1 m1.mw (.inl h1) h2 h3 h4 q
theorem ds_retO (h : DO F e S S1 ds) (q : P.ro ds S1) : DS F (.Return (some e) pos :: rest) S P := ds_cons (M := fun _ => False) (d1_retO h q) fun _ z => z.elim
theorem ds_ret (h : DE F e S S1 d) (q : P.rt d S1) : DS F (.Return (some e) pos :: rest) S P := ds_cons (M := fun _ => False) (d1_ret h q) fun _ z => z.elim
theorem d1_if {c : Expr} (hc : DT F c S S1 k) (h1 : k = true → DS F t S1 P) (h2 : k = false → DS F u S1 P) : D1 F (.If c t u pos) S P :=
  d1_of (te := tIfS (anyT F c) (anyS F t) (anyS F u)) (fun i => ps_if (anyT_ok i) (anyS_ok i) (anyS_ok i)) fun σ G H cx E m => hc σ G H cx _ fun G1 H1 m1 => by
    cases k with
    | true => rw [if_pos rfl]; exact h1 rfl σ G1 H1 m1.cx E (m.move m1.mw)
    | false => rw [if_neg Bool.false_ne_true]; exact h2 rfl σ G1 H1 m1.cx E (m.move m1.mw)
theorem ds_ifr {c : Expr} (hc : DT F c S S1 k) (h1 : k = true → DS F t S1 { P with nx := fun _ => False }) (h2 : k = false → DS F rest S1 P) : DS F (.If c t [] pos :: rest) S P :=
  ds_cons (M := fun S2 => S2 = S1 ∧ k = false) (d1_if hc (fun h => ds_mono (h1 h) (fun _ z => z.elim) (fun _ _ z => z) (fun _ z => z) fun _ z => z) fun h => ds_nil ⟨rfl, h⟩) fun _ ⟨z, h⟩ => z ▸ h2 h
theorem ds_if (M : ST → Prop) {c : Expr} (hc : DT F c S S1 k) (h1 : k = true → DS F t S1 { P with nx := M }) (h2 : k = false → DS F u S1 { P with nx := M }) (h3 : ∀ S2, M S2 → DS F rest S2 P) : DS F (.If c t u pos :: rest) S P :=
  ds_cons (M := M) (d1_if hc h1 h2) h3
theorem d1_set {j : Nat} {x : Str} {pos' : Pos} (he : DE F e S S1 d) (q : P.nx (S1.set j d)) (hN : ∀ i, (F.X i).N[j]? = some x := by intro _; rfl) (hx : ∀ i, Loc (F.X i).env.scope x := by intro _; first | exact Or.inl rfl | exact Or.inr rfl)
    (hs : ∀ i, swapsWith e (some (.Name x pos')) pos.line (F.X i).env = pure false := by intro _; rfl) (hf : ∀ i, (F.X i).fn x = true ∨ (F.X i).env.scope.names.lookup x = some .local := by intro _; first | exact .inl rfl | exact .inr rfl) : D1 F (.Assign [.Name x pos'] e pos) S P :=
  d1_of (te := tAsg (anyE F e) (gName j)) (fun i => ps_set (by rw [F.hN i]; exact F.nd) (hN i) (hx i) (anyE_ok i) (hs i) (hf i)) fun σ G H c E m => he σ G H c _ fun v G1 H1 m1 dv =>
    m.nx _ _ G1 H1 (m1.mw.trans (m1.cx.store dv)) q
theorem ds_set {j : Nat} {x : Str} {pos' : Pos} (he : DE F e S S1 d) (q : DS F rest (S1.set j d) P) (hN : ∀ i, (F.X i).N[j]? = some x := by intro _; rfl) (hx : ∀ i, Loc (F.X i).env.scope x := by intro _; first | exact Or.inl rfl | exact Or.inr rfl)
    (hs : ∀ i, swapsWith e (some (.Name x pos')) pos.line (F.X i).env = pure false := by intro _; rfl) (hf : ∀ i, (F.X i).fn x = true ∨ (F.X i).env.scope.names.lookup x = some .local := by intro _; first | exact .inl rfl | exact .inr rfl) : DS F (.Assign [.Name x pos'] e pos :: rest) S P :=
  ds_cons (M := fun S2 => S2 = S1.set j d) (d1_set he rfl hN hx hs hf) fun _ z => z ▸ q
def anyG (F : Fam) (tg : Expr) : TG := fun v σ H Q => ∃ g, (∀ i, PG (F.X i) tg g) ∧ g v σ H Q
theorem anyG_ok {tg : Expr} (i : F.I) : PG (F.X i) tg (anyG F tg) := by
  constructor
  intro pins s σ H v u Q I r h
  obtain ⟨g, h1, h2⟩ := h
  exact (h1 i).run pins s σ H v u Q I r h2
def Only (js : List Nat) (σ σ2 : L2.St) : Prop := ∀ vs : List Nat, (∀ j ∈ js, j ∈ vs) → wipe σ2 vs = wipe σ vs
theorem wipe_set_none (σ : L2.St) (j : Nat) (x : Option V) : ∀ vs : List Nat, (wipe (σ.set j x) vs).set j none = (wipe σ vs).set j none
  | [] => by unfold wipe; rw [List.set_set]
  | v :: vs => by
    unfold wipe
    by_cases h : v = j
    · subst h
      rw [List.set_set, List.set_set, wipe_set_none σ v x vs]
    · rw [List.set_comm _ _ h, wipe_set_none σ j x vs, List.set_comm _ _ h]
theorem wipe_set_in (σ : L2.St) (j : Nat) (x : Option V) : ∀ vs : List Nat, j ∈ vs → wipe (σ.set j x) vs = wipe σ vs
  | [], h => nomatch h
  | v :: vs, h => by
    unfold wipe
    by_cases e : v = j
    · subst e; exact wipe_set_none σ v x vs
    · have : j ∈ vs := by
        rcases List.mem_cons.mp h with z | z
        · exact absurd z.symm e
        · exact z
      rw [wipe_set_in σ j x vs this]
def DG (F : Fam) (tg : Expr) (d : D) (S S' : ST) (js : List Nat) : Prop := ∀ σ G H v, Ctx F.C G H σ S → Den F.C G v d → ∀ Q : L2.St → Hp → Prop, (∀ σ2 G2 H2, Mw F.C σ S G H σ2 S' G2 H2 → Only js σ σ2 → Q σ2 H2) → anyG F tg v σ H Q
def anyGs (F : Fam) (tg : List Expr) : TGs := fun v σ H Q => ∃ g, (∀ i, PGs (F.X i) tg g) ∧ g v σ H Q
theorem anyGs_ok {tg : List Expr} (i : F.I) : PGs (F.X i) tg (anyGs F tg) := by
  constructor
  intro pins s σ H v u Q I r h
  obtain ⟨g, h1, h2⟩ := h
  exact (h1 i).run pins s σ H v u Q I r h2
def DGs (F : Fam) (tg : List Expr) (ds : List D) (S S' : ST) (js : List Nat) : Prop := ∀ σ G H vs, Ctx F.C G H σ S → DenL F.C G vs ds → ∀ Q : L2.St → Hp → Prop, (∀ σ2 G2 H2, Mw F.C σ S G H σ2 S' G2 H2 → Only js σ σ2 → Q σ2 H2) → anyGs F tg vs σ H Q
theorem dg_name {j : Nat} {x : Str} (hN : ∀ i, (F.X i).N[j]? = some x := by intro _; rfl) (hx : ∀ i, Loc (F.X i).env.scope x := by intro _; first | exact Or.inl rfl | exact Or.inr rfl)
    (hf : ∀ i, (F.X i).fn x = true ∨ (F.X i).env.scope.names.lookup x = some .local := by intro _; first | exact .inl rfl | exact .inr rfl) : DG F (.Name x pos) d S (S.set j d) [j] := fun σ G H v c dv Q q =>
  ⟨gName j, fun i => pg_name (by rw [F.hN i]; exact F.nd) (hN i) (hx i) (hf i), q _ G H (c.store dv) fun vs h => wipe_set_in σ j _ vs (h j List.mem_cons_self)⟩
theorem dgs_nil : DGs F [] [] S S [] := fun σ G H vs c dv Q q => ⟨gNil, fun i => pgs_nil, by cases dv; exact ⟨rfl, q _ G H (.refl c) fun _ _ => rfl⟩⟩
theorem dgs_cons {tg : Expr} {tgs : List Expr} {js ks : List Nat} (h1 : DG F tg d S S1 js) (h2 : DGs F tgs ds S1 S2 ks) (hs : ∀ i, PGs (F.X i) (tg :: tgs) (gCons (anyG F tg) (anyGs F tgs)) := by intro i; exact pgs_cons (anyG_ok i) (anyGs_ok i)) : DGs F (tg :: tgs) (d :: ds) S S2 (js ++ ks) := fun σ G H vs c dv Q q =>
  ⟨gCons (anyG F tg) (anyGs F tgs), hs, by
    cases dv with
    | cons hd hl => exact ⟨_, _, rfl, h1 σ G H _ c hd _ fun σ1 G1 H1 m1 o1 => h2 σ1 G1 H1 _ m1.cx (hl.mono m1.go.gg) Q fun σ2 G2 H2 m2 o2 => q σ2 G2 H2 (m1.trans m2) fun vs h => (o2 vs fun j hj => h j (List.mem_append_right _ hj)).trans (o1 vs fun j hj => h j (List.mem_append_left _ hj))⟩⟩
theorem dg_tup {tgs : List Expr} {kk : Nat} {js : List Nat} (h : DGs F tgs ds S S1 js) (hp : ∀ i, PG (F.X i) (.Tuple tgs kk pos) (gTup (F.X i).K ds.length (anyGs F tgs)) := by intro i; exact pg_tup (Fam.calm _ i) (anyGs_ok i)) : DG F (.Tuple tgs kk pos) (.tup ds) S S1 js := fun σ G H v c dv Q q =>
  ⟨gTup F.C.K ds.length (anyGs F tgs), fun i => by have := hp i; rw [F.hK i] at this; exact this, by
    cases dv with
    | tup h1 h2 => exact ⟨_, _, rfl, same_t c.sub h1, h2.length, h σ G H _ c h2 Q q⟩⟩
theorem ds_asg {tg : Expr} {js : List Nat} (he : DE F e S S1 d) (hg : DG F tg d S1 S2 js) (q : DS F rest S2 P)
    (ho : ∀ i, PS (F.X i) (.Assign [tg] e pos) (tAsg (anyE F e) (anyG F tg)) := by intro i; exact ps_asg (anyE_ok i) (anyG_ok i)) : DS F (.Assign [tg] e pos :: rest) S P :=
  ds_cons (M := fun S3 => S3 = S2) (d1_of (te := tAsg (anyE F e) (anyG F tg)) ho fun σ G H c E m => he σ G H c _ fun v G1 H1 m1 dv => hg σ G1 H1 v m1.cx dv _ fun σ2 G2 H2 m2 _ => m.nx _ _ _ _ (m1.mw.trans m2) rfl) fun _ z => z ▸ q
end
end DL
namespace DL
open PySem L2
variable [TabL]
section
variable {F : Fam} {S S1 S2 S3 : ST} {e a b c : Expr} {d x y z : D} {pos p apos : Pos} {es : List Expr} {ds : List D} {k : Bool} {nm : Str} {P : Po} {rest t u : List Stmt} {st : Stmt} {M : ST → Prop}
theorem Fam.ndX (F : Fam) (o : F.I) : (F.X o).N.Nodup := by rw [F.hN o]; exact F.nd
theorem ctx_bagSet {C : Kc} {σ : L2.St} {G H : Hp} {bb : Addr} {o o' : BG} {ho : HO} (cx : Ctx C G H σ S) (hg : S.g = some (bb, o)) (g2 : G bb = none) (hb : BagOk C G (upd H bb ho) (some (bb, o'))) : Mv C σ S G H ⟨S.s, some (bb, o')⟩ G (upd H bb ho) := by
  have ne : ∀ a, ¬ OA C σ S a → a ≠ bb := fun a n z => n (.inr ⟨o, by rw [z]; exact hg⟩)
  have tb : LamX.Tabs TabL.T H → LamX.Tabs TabL.T (upd H bb ho) := fun t => by
    have z := cx.bag
    rw [hg] at z
    cases o with
    | lst => obtain ⟨_, _, z2, _⟩ := z; exact tabs_upd t z2 nt_lst nc_lst
    | ins => obtain ⟨_, _, _, z2, _⟩ := z; exact tabs_upd t z2 nt_ins nc_ins
    | xd => obtain ⟨_, _, z2, _⟩ := z; exact tabs_upd t z2 nt_xd nc_xd
  refine ⟨⟨fun a u n _ h => by rw [upd_ne (ne a n)]; exact h, fun _ _ h => h, fun _ _ _ h => h, fun a h => by
    by_cases z : a = bb
    · rw [z, upd_same]; simp
    · rw [upd_ne z]; exact h, tb⟩, ⟨⟨fun a u h => ?_, tb cx.sub.t, cx.sub.n⟩, cx.len, cx.im, fun i ds h => ?_, cx.apart, fun i b o2 h h1 => ?_, hb, fun i b o2 ds h h1 => ?_⟩, fun a z => ?_⟩
  · have na : a ≠ bb := fun z => by rw [z, g2] at h; cases h
    rw [upd_ne na]; exact cx.sub _ _ h
  · obtain ⟨a, vs, h1, h3, h4, h5⟩ := cx.ow i ds h
    have na : a ≠ bb := fun z => cx.nob i bb _ ds hg h (by rw [← z]; exact h1)
    exact ⟨a, vs, h1, h3, by rw [upd_ne na]; exact h4, h5⟩
  · cases h; exact cx.bg i bb _ hg h1
  · cases h; exact cx.nob i bb _ ds hg h1
  · rcases z with z | ⟨o2, z⟩
    · exact .inl z
    · cases z; exact .inr ⟨_, hg⟩
theorem ds_bagSet {j : Nat} {x : Str} {i : Int} {n : Nat} {q1 : Pos} {bb : Addr} {gs : List D} (he : DE F e S S1 d) (hj : S1.s[j]? = some (some .bag)) (hb : DE F b S1 S1 (.int i)) (hg : S1.g = some (bb, .lst gs)) (hi : ixN gs.length i = some n) (q : DS F rest ⟨S1.s, some (bb, .lst (gs.set n d))⟩ P)
    (hN : ∀ i, (F.X i).N[j]? = some x := by intro _; rfl) (hv : ∀ i, Vis (F.X i).env.scope x := by intro _; first | exact Or.inl rfl | exact Or.inr (Or.inl rfl) | exact Or.inr (Or.inr rfl))
    (hd : (x == ("__debug__" : Str)) = false := by decide) (hcd : (x == ("__classdict__" : Str)) = false := by decide)
    (hp : ∀ i, PS (F.X i) (.Assign [.Subscript (.Name x q1) b p] e pos) (tAsg (anyE F e) (gSub (tVar j) (anyE F b) rSetL)) := by
      intro i; exact ps_asg (anyE_ok i) (pg_sub (pv _) (anyE_ok i) set_list)) :
    DS F (.Assign [.Subscript (.Name x q1) b p] e pos :: rest) S P := by
  refine ds_cons (M := fun S3 => S3 = ⟨S1.s, some (bb, .lst (gs.set n d))⟩) (d1_of (te := tAsg (anyE F e) (gSub (tVar j) (anyE F b) rSetL)) hp ?_) fun _ z => z ▸ q
  intro σ G H c E m
  refine he σ G H c _ fun v G1 H1 m1 dv => ⟨_, m1.cx.bg j _ _ hg hj, ?_⟩
  refine hb σ G1 H1 m1.cx _ fun w G2 H2 m2 dw => ?_
  cases dw
  have z := m2.cx.bag
  rw [hg] at z
  obtain ⟨z1, gv, z2, z3⟩ := z
  refine ⟨bb, gv, i, n, rfl, rfl, z2, by rw [z3.length]; exact hi, ?_⟩
  exact m.nx _ _ _ _ (m1.mw.trans (m2.mw.trans (ctx_bagSet (o' := .lst (gs.set n d)) m2.cx hg z1 ⟨z1, _, upd_same, z3.set (dv.mono m2.go.gg) n⟩).mw)) rfl
theorem ds_fld {j : Nat} {x f : Str} {q1 q2 : Pos} {bb : Addr} {cn : Nat} {fs : List (Str × D)} (he : DE F e S S1 d) (hj : S1.s[j]? = some (some .bag)) (hg : S1.g = some (bb, .ins cn fs)) (hc : Cls F.C.K (F.C.cl cn)) (hn : NoAttr F.C.K (F.C.cl cn) f) (q : DS F rest ⟨S1.s, some (bb, .ins cn (putD f d fs))⟩ P) (hl : fs.length < 1000 := by decide)
    (hN : ∀ i, (F.X i).N[j]? = some x := by intro _; rfl) (hv : ∀ i, Vis (F.X i).env.scope x := by intro _; first | exact Or.inl rfl | exact Or.inr (Or.inl rfl) | exact Or.inr (Or.inr rfl))
    (hd : (x == ("__debug__" : Str)) = false := by decide) (hcd : (x == ("__classdict__" : Str)) = false := by decide)
    (hs : ∀ i, swapsWith e (some (.Attribute (.Name x q1) f q2)) pos.line (F.X i).env = pure false := by intro _; rfl) : DS F (.Assign [.Attribute (.Name x q1) f q2] e pos :: rest) S P := by
  refine ds_cons (M := fun S3 => S3 = ⟨S1.s, some (bb, .ins cn (putD f d fs))⟩) (d1_of (te := sFld F.C.K (tVar j) (anyE F e) f) (fun i => by have := ps_fld (f := f) (pos := pos) (pos' := q2) (pe_var (pos := q1) (hN i) (hv i) hd hcd) (anyE_ok (e := e) i) (hs i); rw [F.hK i] at this; exact this) ?_) fun _ z => z ▸ q
  intro σ G H c E m
  refine he σ G H c _ fun v G1 H1 m1 dv => ⟨_, m1.cx.bg j _ _ hg hj, ?_⟩
  have z := m1.cx.bag
  rw [hg] at z
  obtain ⟨z1, dx, gv, z2, z3⟩ := z
  refine ⟨bb, _, dx, gv, rfl, z2, hc, hn, by rw [z3.length]; exact hl, ?_⟩
  exact m.nx _ _ _ _ (m1.mw.trans (ctx_bagSet (o' := .ins cn (putD f d fs)) m1.cx hg z1 ⟨z1, dx, _, upd_same, z3.put dv⟩).mw) rfl
theorem Ctx.storeO {C : Kc} {G H : Hp} {σ : L2.St} {S : ST} {i : Nat} {q : Addr} {vs : HO} {ds : MO} (c : Ctx C G H σ S) (gq : G q = none) (hq : H q = some vs) (dl : MOk C G q vs ds) (hi : i < S.s.length) (no : ∀ (j : Nat) es, S.s[j]? = some (some (.own es)) → σ[j]? ≠ some (some (.ref q))) (nb : ∀ o, S.g ≠ some (q, o)) :
    Ctx C G H (σ.set i (some (.ref q))) (S.setM i ds) := by
  have hi2 : i < σ.length := by rw [c.len]; exact hi
  have key : ∀ (j : Nat) (o : DV), i ≠ j → (S.setM i ds).s[j]? = some (some o) → S.s[j]? = some (some o) := fun j o ij q => by rw [ST.setM, List.getElem?_set_ne ij] at q; exact q
  have self : (S.setM i ds).s[i]? = some (some (.own ds)) := List.getElem?_set_self hi
  have selfσ : (σ.set i (some (V.ref q)))[i]? = some (some (.ref q)) := List.getElem?_set_self hi2
  refine ⟨c.sub, by simp [ST.setM, c.len], fun j e r => ?_, fun j e r => ?_, fun j k' es fs a r1 r2 r3 r4 => ?_, fun j b o hg r => ?_, c.bag, fun j b o es hg r => ?_⟩
  · by_cases ij : i = j
    · subst ij; rw [self] at r; cases r
    · rw [List.getElem?_set_ne ij]; exact c.im j e (key j _ ij r)
  · by_cases ij : i = j
    · subst ij; rw [self] at r; cases r; exact ⟨q, vs, selfσ, gq, hq, dl⟩
    · rw [List.getElem?_set_ne ij]; exact c.ow j e (key j _ ij r)
  · by_cases ij : i = j
    · by_cases ik : i = k'
      · exact ij.symm.trans ik
      · subst ij
        rw [selfσ] at r3; cases r3
        rw [List.getElem?_set_ne ik] at r4
        exact absurd r4 (no k' fs (key k' _ ik r2))
    · by_cases ik : i = k'
      · subst ik
        rw [selfσ] at r4; cases r4
        rw [List.getElem?_set_ne ij] at r3
        exact absurd r3 (no j es (key j _ ij r1))
      · rw [List.getElem?_set_ne ij] at r3
        rw [List.getElem?_set_ne ik] at r4
        exact c.apart j k' es fs a (key j _ ij r1) (key k' _ ik r2) r3 r4
  · by_cases ij : i = j
    · subst ij; rw [self] at r; cases r
    · rw [List.getElem?_set_ne ij]; exact c.bg j b o hg (key j _ ij r)
  · by_cases ij : i = j
    · subst ij; rw [selfσ]; intro z; cases z; exact nb o hg
    · rw [List.getElem?_set_ne ij]; exact c.nob j b o es hg (key j _ ij r)
theorem ds_setO {j : Nat} {x : Str} {pos' : Pos} (he : DO F e S S1 ds) (q : DS F rest (S1.setO j ds) P) (hj : j < S1.s.length := by decide) (hN : ∀ i, (F.X i).N[j]? = some x := by intro _; rfl) (hx : ∀ i, Loc (F.X i).env.scope x := by intro _; first | exact Or.inl rfl | exact Or.inr rfl)
    (hs : ∀ i, swapsWith e (some (.Name x pos')) pos.line (F.X i).env = pure false := by intro _; rfl) (hf : ∀ i, (F.X i).fn x = true ∨ (F.X i).env.scope.names.lookup x = some .local := by intro _; first | exact .inl rfl | exact .inr rfl) : DS F (.Assign [.Name x pos'] e pos :: rest) S P := by
  refine ds_cons (M := fun S2 => S2 = S1.setO j ds) (d1_of (te := tAsg (anyE F e) (gName j)) (fun i => ps_set (by rw [F.hN i]; exact F.nd) (hN i) (hx i) (anyE_ok i) (hs i) (hf i)) ?_) fun _ z => z ▸ q
  intro σ G H c E m
  refine he σ G H c _ fun q vs G1 H1 m1 hq gq hq1 dl => m.nx _ _ G1 H1 ?_ rfl
  have noS : ∀ (j : Nat) es, S1.s[j]? = some (some (.own es)) → σ[j]? ≠ some (some (.ref q)) := fun j es r z => by
    rcases m1.oa q (.inl ⟨j, es, r, z⟩) with ⟨j', es', r', z'⟩ | ⟨o, r'⟩
    · obtain ⟨a, vs, h1, _, h2, _⟩ := c.ow j' es' r'
      rw [z'] at h1; cases h1; rw [hq] at h2; cases h2
    · have z := c.bag
      rw [r'] at z
      cases o with
      | lst => obtain ⟨_, _, h2, _⟩ := z; rw [hq] at h2; cases h2
      | ins => obtain ⟨_, _, _, h2, _⟩ := z; rw [hq] at h2; cases h2
      | xd => obtain ⟨_, _, h2, _⟩ := z; rw [hq] at h2; cases h2
  have noB : ∀ o, S1.g ≠ some (q, o) := fun o r => by
    rcases m1.oa q (.inr ⟨o, r⟩) with ⟨j', es', r', z'⟩ | ⟨o, r'⟩
    · obtain ⟨a, vs, h1, _, h2, _⟩ := c.ow j' es' r'
      rw [z'] at h1; cases h1; rw [hq] at h2; cases h2
    · have z := c.bag
      rw [r'] at z
      cases o with
      | lst => obtain ⟨_, _, h2, _⟩ := z; rw [hq] at h2; cases h2
      | ins => obtain ⟨_, _, _, h2, _⟩ := z; rw [hq] at h2; cases h2
      | xd => obtain ⟨_, _, h2, _⟩ := z; rw [hq] at h2; cases h2
  have cx2 := m1.cx.storeO (i := j) gq hq1 (.lst dl) hj noS noB
  refine ⟨m1.go, cx2, fun a z => ?_⟩
  rcases z with ⟨j', es, r1, r2⟩ | ⟨o, r⟩
  · by_cases ij : j = j'
    · subst ij
      rw [List.getElem?_set_self (by rw [m1.cx.len]; exact hj)] at r2
      cases r2
      exact .inr hq
    · have r1' : (S1.s.set j (some (.own (.lst ds))))[j']? = some (some (.own es)) := r1
      rw [List.getElem?_set_ne ij] at r1'
      rw [List.getElem?_set_ne ij] at r2
      exact .inl (m1.oa a (.inl ⟨j', es, r1', r2⟩))
  · exact .inl (m1.oa a (.inr ⟨o, r⟩))
theorem do_lst {es : List Expr} {ds : List D} (h : DA F es S S1 ds) (hl : ds.length ≤ sizeLine := by decide) : DO F (.List es pos) S S1 ds :=
  do_of (fun i => pe_lst (anyA_ok i)) fun σ G H c Q q => h σ G H c _ fun vs G1 H1 m dl => ⟨by rw [dl.length]; exact hl, fun p hp => by
    have sm : Same H1 (upd H1 p (.lst vs)) := fun a u h => by rw [upd_ne (ne_of_none h hp)]; exact h
    have hp0 : H p = none := back_none m.go hp
    have g1 : G1 p = none := m.cx.sub.free hp
    exact q p vs G1 _ (m.trans (m.cx.mv (Same.kt sm) (fun _ _ h => h) (m.cx.sub.trans sm) fun _ _ h => h)) hp0 g1 upd_same dl⟩
end
end DL
namespace DL
open PySem L2
variable [TabL]
section
variable {F : Fam} {S S1 S2 S3 : ST} {e a b c tg iter : Expr} {d x y z : D} {pos p apos : Pos} {es : List Expr} {ds : List D} {k : Bool} {nm : Str} {P : Po} {rest t u body : List Stmt} {st : Stmt} {M : ST → Prop}
theorem Ctx.putO {C : Kc} {G H : Hp} {σ : L2.St} {S : ST} {j : Nat} {a : Addr} {vs' : HO} {ds ds' : MO} (c : Ctx C G H σ S) (hj : S.s[j]? = some (some (.own ds))) (ha : σ[j]? = some (some (.ref a))) (ga : G a = none) (dl : MOk C G a vs' ds') :
    Mv C σ S G H (S.setM j ds') G (upd H a vs') := by
  have hjl : j < S.s.length := by
    rcases Nat.lt_or_ge j S.s.length with z | z
    · exact z
    · rw [List.getElem?_eq_none z] at hj; cases hj
  have self : (S.setM j ds').s[j]? = some (some (.own ds')) := List.getElem?_set_self hjl
  have key : ∀ (i : Nat) (o : DV), j ≠ i → (S.setM j ds').s[i]? = some (some o) → S.s[i]? = some (some o) := fun i o ij q => by rw [ST.setM, List.getElem?_set_ne ij] at q; exact q
  have own : ∀ (i : Nat) es, (S.setM j ds').s[i]? = some (some (.own es)) → ∃ es', S.s[i]? = some (some (.own es')) := fun i es q => by
    by_cases ij : j = i
    · subst ij; exact ⟨ds, hj⟩
    · exact ⟨es, key i _ ij q⟩
  have oa : ∀ x, OA C σ (S.setM j ds') x → OA C σ S x := fun x z => by
    rcases z with ⟨i, es, r1, r2⟩ | z
    · obtain ⟨es', r⟩ := own i es r1
      exact .inl ⟨i, es', r, r2⟩
    · exact .inr z
  have na : ∀ x, ¬ OA C σ S x → x ≠ a := fun x n z => n (.inl ⟨j, ds, hj, by rw [z]; exact ha⟩)
  have tb : LamX.Tabs TabL.T H → LamX.Tabs TabL.T (upd H a _) := fun t => by
    obtain ⟨a', o', r1, _, r3, r4⟩ := c.ow j ds hj
    rw [ha] at r1
    cases r1
    exact tabs_upd (o' := vs') t r3 r4.nt r4.nc
  refine ⟨⟨fun x o n _ h => by rw [upd_ne (na x n)]; exact h, fun _ _ h => h, fun _ _ _ h => h, fun x h => ?_, tb⟩, ⟨⟨fun x o h => ?_, tb c.sub.t, c.sub.n⟩, by simp [ST.setM, c.len], fun i d q => ?_, fun i es q => ?_, fun i i' es es' q q1 q2 q3 q4 => ?_, fun i b o hg q => ?_, ?_, fun i b o es hg q => ?_⟩, oa⟩
  · by_cases z : x = a
    · rw [z, upd_same]; simp
    · rw [upd_ne z]; exact h
  · have z : x ≠ a := fun z => by rw [z, ga] at h; cases h
    rw [upd_ne z]; exact c.sub _ _ h
  · by_cases ij : j = i
    · subst ij; rw [self] at q; cases q
    · exact c.im i d (key i _ ij q)
  · by_cases ij : j = i
    · subst ij; rw [self] at q; cases q; exact ⟨a, vs', ha, ga, upd_same, dl⟩
    · obtain ⟨a', ws, h1, h2, h3, h4⟩ := c.ow i es (key i _ ij q)
      have z : a' ≠ a := fun z => ij (c.apart j i ds es a hj (key i _ ij q) ha (by rw [← z]; exact h1))
      exact ⟨a', ws, h1, h2, by rw [upd_ne z]; exact h3, h4⟩
  · obtain ⟨e1, r1⟩ := own i es q1
    obtain ⟨e2, r2⟩ := own i' es' q2
    exact c.apart i i' e1 e2 q r1 r2 q3 q4
  · by_cases ij : j = i
    · subst ij; rw [self] at q; cases q
    · exact c.bg i b o hg (key i _ ij q)
  · have nb : ∀ b o, S.g = some (b, o) → b ≠ a := fun b o hg z => c.nob j b o ds hg hj (by rw [z]; exact ha)
    have z := c.bag
    show BagOk C G (upd H a vs') S.g
    cases q : S.g with
    | none => trivial
    | some bo =>
      obtain ⟨b, o⟩ := bo
      rw [q] at z
      cases o with
      | lst es => obtain ⟨h1, ws, h2, h3⟩ := z; exact ⟨h1, ws, by rw [upd_ne (nb b _ q)]; exact h2, h3⟩
      | ins cc fs => obtain ⟨h1, dx, ws, h2, h3⟩ := z; exact ⟨h1, dx, ws, by rw [upd_ne (nb b _ q)]; exact h2, h3⟩
      | xd es => obtain ⟨h1, ws, h2, h3⟩ := z; exact ⟨h1, ws, by rw [upd_ne (nb b _ q)]; exact h2, h3⟩
  · obtain ⟨e1, r1⟩ := own i es q
    exact c.nob i b o e1 hg r1
theorem ds_append {j : Nat} {x : Str} {q1 cpos : Pos} {gs : List D} (he : DE F e S S1 d) (hj0 : ∃ es, S.s[j]? = some (some (.own (.lst es)))) (hj : S1.s[j]? = some (some (.own (.lst gs)))) (q : DS F rest (S1.setO j (gs ++ [d])) P) (hl : gs.length < sizeLine)
    (hp : ∀ i, PE (F.X i) (.Call (.Attribute (.Name x q1) "append" apos) [e] [] cpos) (tBM (F.X i).K "list" rAppend (tVar j) (tCons (anyE F e) tNil)) := by
      intro i; exact pe_bm PySem.F.plainAttrs_list PySem.F.slot_list_append PySem.F.type_list_append mt_append (pv _) (pa_cons (anyE_ok i) pa_nil))
    (hs : ∀ i, swapsWith (.Call (.Attribute (.Name x q1) "append" apos) [e] [] cpos) none pos.line (F.X i).env = pure false := by intro _; rfl) : DS F (.Expr (.Call (.Attribute (.Name x q1) "append" apos) [e] [] cpos) pos :: rest) S P := by
  refine ds_cons (M := fun S3 => S3 = S1.setO j (gs ++ [d])) (d1_of (te := tDrop (tBM F.C.K "list" rAppend (tVar j) (tCons (anyE F e) tNil))) (fun i => ps_expr (by have := hp i; rw [F.hK i] at this; exact this) (hs i)) ?_) fun _ z => z ▸ q
  intro σ G H c E m
  obtain ⟨es, hj0⟩ := hj0
  obtain ⟨a0, _, s1, _, s3, s4⟩ := c.ow j _ hj0
  obtain ⟨vs0, rfl, _⟩ := s4.isL
  refine ⟨.ref a0, s1, .inl ⟨rfl, vs0, SqL.of s3⟩, ?_⟩
  refine he σ G H c _ fun v G1 H1 m1 dv => ?_
  obtain ⟨a, _, h1, h2, h3, h4⟩ := m1.cx.ow j _ hj
  rw [s1] at h1; cases h1
  obtain ⟨vs, e4, h5⟩ := h4.isL
  subst e4
  clear h4
  have h4 := h5
  refine ⟨a0, vs, v, rfl, rfl, h3, by rw [h4.length]; exact hl, ?_⟩
  exact m.nx _ _ _ _ (m1.mw.trans (m1.cx.putO hj s1 h2 (.lst (h4.append (.cons dv .nil)))).mw) rfl
theorem Ctx.freeze {C : Kc} {G H : Hp} {σ : L2.St} {S : ST} {j : Nat} {a : Addr} {vs : HO} {ds : MO} (c : Ctx C G H σ S) (hj : S.s[j]? = some (some (.own ds))) (ha : σ[j]? = some (some (.ref a))) (ga : G a = none) (h3 : H a = some vs) (dl : MOk C G a vs ds) :
    Mv C σ S G H (S.set j (dOf ds)) (upd G a vs) H := by
  have hjl : j < S.s.length := by
    rcases Nat.lt_or_ge j S.s.length with z | z
    · exact z
    · rw [List.getElem?_eq_none z] at hj; cases hj
  have gg : Same G (upd G a vs) := fun x o h => by rw [upd_ne (ne_of_none h ga)]; exact h
  have self : (S.set j (dOf ds)).s[j]? = some (some (.imm (dOf ds))) := List.getElem?_set_self hjl
  have key : ∀ (i : Nat) (o : DV), j ≠ i → (S.set j (dOf ds)).s[i]? = some (some o) → S.s[i]? = some (some o) := fun i o ij q => by rw [ST.set, List.getElem?_set_ne ij] at q; exact q
  have keyO : ∀ (i : Nat) es, (S.set j (dOf ds)).s[i]? = some (some (.own es)) → j ≠ i ∧ S.s[i]? = some (some (.own es)) := fun i es q => by
    by_cases ij : j = i
    · subst ij; rw [self] at q; cases q
    · exact ⟨ij, key i _ ij q⟩
  refine ⟨⟨fun _ _ _ _ h => h, gg, fun x n h g => ?_, fun _ h => h, fun t => t⟩, ⟨⟨fun x o h => ?_, c.sub.t, fun p hp => by rw [upd_ne (tabs_ne c.sub.t h3 dl.nt p hp)]; exact c.sub.n p hp⟩, by simp [ST.set, c.len], fun i d q => ?_, fun i es q => ?_, fun i i' es es' x q1 q2 q3 q4 => ?_, fun i b o hg q => ?_, ?_, fun i b o es hg q => ?_⟩, fun x z => ?_⟩
  · have : x ≠ a := fun z => n (.inl ⟨j, ds, hj, by rw [z]; exact ha⟩)
    rw [upd_ne this]; exact g
  · by_cases z : x = a
    · subst z; rw [upd_same] at h; cases h; exact h3
    · rw [upd_ne z] at h; exact c.sub _ _ h
  · by_cases ij : j = i
    · subst ij; rw [self] at q; cases q; exact ⟨.ref a, ha, (dl.mono gg).den upd_same⟩
    · obtain ⟨v, h1, h2⟩ := c.im i d (key i _ ij q)
      exact ⟨v, h1, h2.mono gg⟩
  · obtain ⟨ij, q⟩ := keyO i es q
    obtain ⟨a', ws, h1, h2, h3, h4⟩ := c.ow i es q
    have z : a' ≠ a := fun z => ij (c.apart j i ds es a hj q ha (by rw [← z]; exact h1))
    exact ⟨a', ws, h1, by rw [upd_ne z]; exact h2, h3, h4.mono gg⟩
  · exact c.apart i i' es es' x (keyO i es q1).2 (keyO i' es' q2).2 q3 q4
  · by_cases ij : j = i
    · subst ij; rw [self] at q; cases q
    · exact c.bg i b o hg (key i _ ij q)
  · have nb : ∀ b o, S.g = some (b, o) → b ≠ a := fun b o hg z => c.nob j b o ds hg hj (by rw [z]; exact ha)
    have z := c.bag
    show BagOk C (upd G a vs) H S.g
    cases q : S.g with
    | none => trivial
    | some bo =>
      obtain ⟨b, o⟩ := bo
      rw [q] at z
      cases o with
      | lst es => obtain ⟨h1, ws, h2, h3⟩ := z; exact ⟨by rw [upd_ne (nb b _ q)]; exact h1, ws, h2, h3.mono gg⟩
      | ins cc fs => obtain ⟨h1, dx, ws, h2, h3⟩ := z; exact ⟨by rw [upd_ne (nb b _ q)]; exact h1, dx, ws, h2, h3.mono gg⟩
      | xd es => obtain ⟨h1, ws, h2, h3⟩ := z; exact ⟨by rw [upd_ne (nb b _ q)]; exact h1, ws, h2, h3.mono gg⟩
  · exact c.nob i b o es hg (keyO i es q).2
  · rcases z with ⟨i, es, r1, r2⟩ | z
    · exact .inl ⟨i, es, (keyO i es r1).2, r2⟩
    · exact .inr z
structure ItD (C : Kc) (J : It) (G0 : Hp) (ds : List D) : Prop where
  go : ∀ i G H, i < ds.length → Same G0 G → Sub G H → J.go i H
  yld : ∀ i d G H x H', ds[i]? = some d → Same G0 G → Sub G H → J.yld i H x H' → ∃ G', Pu G H G' H' ∧ Den C G' x d
  stop : ∀ i G H, ds.length ≤ i → Same G0 G → Sub G H → J.stop i H
theorem ItD.mono {C : Kc} {J : It} {G0 G1 : Hp} {ds : List D} (h : ItD C J G0 ds) (e : Same G0 G1) : ItD C J G1 ds :=
  ⟨fun i G H hi s => h.go i G H hi (e.trans s), fun i d G H x H' hd s => h.yld i d G H x H' hd (e.trans s), fun i G H hi s => h.stop i G H hi (e.trans s)⟩
def anyI (F : Fam) (tg iter : Expr) : TI := fun σ H R => ∃ wi, (∀ i, PI (F.X i) tg iter wi) ∧ wi σ H R
theorem anyI_ok {tg iter : Expr} (i : F.I) : PI (F.X i) tg iter (anyI F tg iter) := ⟨fun pins s σ H R I h => let ⟨wi, h1, h2⟩ := h; (h1 i).run pins s σ H R I h2⟩
def DI (F : Fam) (tg iter : Expr) (S S1 : ST) (ds : List D) : Prop := ∀ σ G H, Ctx F.C G H σ S → ∀ R : It → Hp → Prop, (∀ J G2 H2, Mv F.C σ S G H S1 G2 H2 → ItD F.C J G2 ds → R J H2) → anyI F tg iter σ H R
theorem di_of {wi : TI} (h : ∀ i, PI (F.X i) tg iter wi) (v : ∀ σ G H, Ctx F.C G H σ S → ∀ R : It → Hp → Prop, (∀ J G2 H2, Mv F.C σ S G H S1 G2 H2 → ItD F.C J G2 ds → R J H2) → wi σ H R) : DI F tg iter S S1 ds := fun σ G H c R q => ⟨wi, h, v σ G H c R q⟩
theorem itd_list {C : Kc} {G0 : Hp} {a : Addr} {vs : List V} (h : SqL C.K G0 a vs) (dl : DenL C G0 vs ds) : ItD C (Itl C.K a) G0 ds where
  go := fun i G H hi s s2 => by
    obtain ⟨v, h1, _⟩ := dl.get (List.getElem?_eq_getElem hi)
    exact ⟨vs, v, s2.seq (s.seq h), h1⟩
  yld := fun i d G H x H' hd s s2 hy => by
    obtain ⟨rfl, hy⟩ := hy
    obtain ⟨v, h1, h2⟩ := dl.get hd
    have := hy vs (s2.seq (s.seq h))
    rw [h1] at this; cases this
    exact ⟨G, .refl s2, h2.mono s⟩
  stop := fun i G H hi s s2 => ⟨vs, s2.seq (s.seq h), by rw [dl.length]; exact hi⟩
theorem itd_tup {C : Kc} {G0 : Hp} {a : Addr} {vs : List V} (h : SqT C.K G0 a vs) (dl : DenL C G0 vs ds) : ItD C (Itt C.K a) G0 ds where
  go := fun i G H hi s s2 => by
    obtain ⟨v, h1, _⟩ := dl.get (List.getElem?_eq_getElem hi)
    exact ⟨vs, v, same_t s2 (same_t s h), h1⟩
  yld := fun i d G H x H' hd s s2 hy => by
    obtain ⟨rfl, hy⟩ := hy
    obtain ⟨v, h1, h2⟩ := dl.get hd
    have := hy vs (same_t s2 (same_t s h))
    rw [h1] at this; cases this
    exact ⟨G, .refl s2, h2.mono s⟩
  stop := fun i G H hi s s2 => ⟨vs, same_t s2 (same_t s h), by rw [dl.length]; exact hi⟩
theorem di_list (h : DE F iter S S1 (.lst ds)) : DI F tg iter S S1 ds := di_of (wi := iList F.C.K (anyE F iter)) (fun i => by have := pi_list (tg := tg) (anyE_ok (e := iter) i); rw [F.hK i] at this; exact this) fun σ G H c R q => h σ G H c _ fun v G1 H1 m dv => by
  cases dv with
  | @lst a vs _ h1 h2 => exact ⟨_, rfl, ⟨vs, m.cx.sub.seq h1⟩, q _ _ _ m (itd_list h1 h2)⟩
theorem di_tup (h : DE F iter S S1 (.tup ds)) : DI F tg iter S S1 ds := di_of (wi := iTup F.C.K (anyE F iter)) (fun i => by have := pi_tup (tg := tg) (anyE_ok (e := iter) i); rw [F.hK i] at this; exact this) fun σ G H c R q => h σ G H c _ fun v G1 H1 m dv => by
  cases dv with
  | @tup a vs _ h1 h2 => exact ⟨_, rfl, ⟨vs, same_t m.cx.sub h1⟩, q _ _ _ m (itd_tup h1 h2)⟩
def rangeD (lo : Int) (n : Nat) : List D := (List.range n).map fun (i : Nat) => D.int (lo + i)
theorem rangeD_length (lo : Int) (n : Nat) : (rangeD lo n).length = n := by simp [rangeD]
theorem rangeD_get {lo : Int} {n i : Nat} {d : D} (h : (rangeD lo n)[i]? = some d) : i < n ∧ d = .int (lo + i) := by
  unfold rangeD at h
  rw [List.getElem?_map] at h
  cases q : (List.range n)[i]? with
  | none => rw [q] at h; cases h
  | some j =>
    rw [q] at h
    rw [List.getElem?_eq_some_iff] at q
    obtain ⟨h1, h2⟩ := q
    rw [List.getElem_range] at h2
    subst h2
    exact ⟨by simpa using h1, by simpa using h.symm⟩
theorem itd_range {C : Kc} {G0 : Hp} {lo : Int} {n : Nat} : ItD C (Itr lo n) G0 (rangeD lo n) where
  go := fun i G H hi s s2 => by rw [rangeD_length] at hi; exact hi
  yld := fun i d G H x H' hd s s2 hy => by
    obtain ⟨rfl, rfl⟩ := hy
    obtain ⟨_, rfl⟩ := rangeD_get hd
    exact ⟨G, .refl s2, .int _⟩
  stop := fun i G H hi s s2 => by rw [rangeD_length] at hi; exact hi
theorem di_range1 {i : Int} {q1 : Pos} (hm : F.mg "range" = none) (h : DE F e S S1 (.int i)) (h1 : -(2 ^ 62) ≤ i) (h2 : i < 2 ^ 62) (hg : ∀ l, Gl (F.X l) "range" := by intro _; rfl) (hs : ∀ l, starEach [e] (F.X l).env = [(false, eval e (F.X l).env)] := by intro _; rfl) : DI F tg (.Call (.Name "range" p) [e] [] q1) S S1 (rangeD 0 i.toNat) :=
  di_of (wi := iRng1 (tCons (anyE F e) tNil)) (fun l => pi_range1 (hg l) (by rw [F.hmg l]; exact hm) (pa_cons (anyE_ok l) pa_nil (hs l)) (hs l)) fun σ G H c R q => h σ G H c _ fun v G1 H1 m dv => by
    cases dv
    exact ⟨i, rfl, h1, h2, q _ _ _ m itd_range⟩
theorem ds_for (I : Nat → ST → Prop) (M : ST → Prop) (hi : DI F tg iter S S1 ds) (h0 : I 0 S1) (hb : ∀ i S d, ds[i]? = some d → I i S → ∃ S' js, DG F tg d S S' js ∧ DS F body S' { P with nx := I (i + 1), ct := I (i + 1), bk := M }) (hd : ∀ S, I ds.length S → M S) (hr : ∀ S2, M S2 → DS F rest S2 P)
    (hp : ∀ i, PassesOwn (model (F.X i).prog (F.X i).w) (F.X i).A (F.X i).env (F.X i).xe := by intro _; exact PassesOwn.never)
    (hf : ∀ i, PS (F.X i) (.For tg iter body [] pos) (tFor (anyI F tg iter) (anyG F tg) (anyS F body)) := by intro i; exact ps_for PassesOwn.never (Fam.calm _ i) (anyI_ok i) (anyG_ok i) (anyS_ok i)) : DS F (.For tg iter body [] pos :: rest) S P := by
  refine ds_cons (M := M) (d1_of (te := tFor (anyI F tg iter) (anyG F tg) (anyS F body)) hf ?_) hr
  intro σ0 G0 H0 c0 E m
  refine hi σ0 G0 H0 c0 _ fun J G1 H1 m1 it => ?_
  refine ⟨fun i m' σ H => i ≤ ds.length ∧ m' = ds.length - i ∧ ∃ S' G, Mw F.C σ0 S1 G1 H1 σ S' G H ∧ I i S', ⟨_, Nat.zero_le _, rfl, S1, G1, .refl m1.cx, h0⟩, ?_⟩
  rintro i m' σ H ⟨hle, rfl, S', G, mw, hI⟩
  by_cases hlt : i < ds.length
  · refine .inr ⟨it.go i G H hlt mw.go.gg mw.cx.sub, fun σ' H' => ∃ S2 G2, Mw F.C σ0 S1 G1 H1 σ' S2 G2 H' ∧ I (i + 1) S2, fun σ' H' ⟨S2, G2, a, b⟩ => ⟨_, by omega, hlt, rfl, S2, G2, a, b⟩, fun x H' hy => ?_⟩
    obtain ⟨G', pu, dx⟩ := it.yld i _ G H x H' (List.getElem?_eq_getElem hlt) mw.go.gg mw.cx.sub hy
    obtain ⟨S3, js, hg, hbd⟩ := hb i S' _ (List.getElem?_eq_getElem hlt) hI
    have m2 := mw.cx.pu pu
    refine hg σ G' H' x m2.cx dx _ fun σ2 G2 H2 m3 _ => ?_
    have all := (mw.trans m2.mw).trans m3
    have mm := m.move (m1.mw.trans all)
    exact hbd σ2 G2 H2 m3.cx _ ⟨fun σ3 S3 G3 H3 a q => ⟨S3, G3, all.trans a, q⟩, mm.rt, mm.nx, fun σ3 S3 G3 H3 a q => ⟨S3, G3, all.trans a, q⟩, mm.ro, mm.xc⟩
  · have e : i = ds.length := by omega
    subst e
    exact .inl ⟨it.stop _ G H (Nat.le_refl _) mw.go.gg mw.cx.sub, m.nx _ _ _ _ (m1.mw.trans mw) (hd S' hI)⟩
end
end DL
namespace DL
open PySem L2
variable [TabL]
def dkey : D → Option NestedKey
  | .tup ds => (nkDs ds).bind fun ks => if (NestedKey.tup ks).depth ≤ 8 then some (.tup ks) else none
  | _ => none
def dlook (k : NestedKey) : List (D × D) → Option D
  | [] => none
  | (kd, v) :: r => if nkD kd = some k then some v else dlook k r
def dput (k : NestedKey) (v : D) : List (D × D) → List (D × D)
  | [] => []
  | (kd, u) :: r => (if nkD kd = some k then (kd, v) else (kd, u)) :: dput k v r
def dstore (k : NestedKey) (kd v : D) (xs : List (D × D)) : List (D × D) := if (dlook k xs).isSome then dput k v xs else xs ++ [(kd, v)]
theorem dkey_eq {d : D} {k : NestedKey} (h : dkey d = some k) : nkD d = some k ∧ k.depth ≤ 8 ∧ ∃ ds, d = .tup ds := by
  cases d with
  | tup ds =>
    replace h : ((nkDs ds).bind fun ks => if (NestedKey.tup ks).depth ≤ 8 then some (NestedKey.tup ks) else none) = some k := h
    cases q : nkDs ds with
    | none => rw [q] at h; cases h
    | some ks =>
      rw [q] at h
      replace h : (if (NestedKey.tup ks).depth ≤ 8 then some (NestedKey.tup ks) else none) = some k := h
      split at h
      · rename_i h8
        cases h
        exact ⟨by show (nkDs ds).map _ = _; rw [q]; rfl, h8, ds, rfl⟩
      · cases h
  | _ => cases h
theorem nkh_nums {K : PySem.W.Frag} {H : Hp} {vs : List V} {ks : List NestedKey} {a : Addr} (h : SqT K H a vs) (l : vs.length = ks.length) (q : ∀ (i : Nat) v k, vs[i]? = some v → ks[i]? = some k → ND.NkH K H v k) : ND.NkH K H (.ref a) (.tup ks) := by
  cases vs with
  | nil =>
    cases ks with
    | nil => exact .nil h
    | cons _ _ => cases l
  | cons v vs =>
    cases ks with
    | nil => cases l
    | cons k ks => exact .cons h (q 0 v k rfl rfl) (fun i v k a b => q (i + 1) v k (by simpa using a) (by simpa using b)) (Nat.succ.inj l)
mutual
theorem nk_den {C : Kc} {G H : Hp} (s : Same G H) : ∀ {d : D} {v : V} {k : NestedKey}, Den C G v d → nkD d = some k → ND.NkH C.K H v k
  | .non, _, _, h, q => by cases h; cases q; exact .non
  | .bl b, _, _, h, q => by cases h; cases q; exact .bl b
  | .int i, _, _, h, q => by cases h; cases q; exact .int i
  | .str x, _, _, h, q => by cases h; cases q; exact .str x
  | .tup ds, _, k, h, q => by
    cases h with
    | @tup a xs _ h1 h2 =>
      cases e : nkDs ds with
      | none => rw [show nkD (.tup ds) = (nkDs ds).map .tup from rfl, e] at q; cases q
      | some ks =>
        rw [show nkD (.tup ds) = (nkDs ds).map .tup from rfl, e] at q
        cases q
        obtain ⟨l, z⟩ := nk_dens s h2 e
        exact nkh_nums (same_t s h1) l z
  | .lst _, _, _, _, q => by cases q
  | .obj _ _, _, _, _, q => by cases q
  | .cst _, _, _, _, q => by cases q
  | .dic _, _, _, _, q => by cases q
theorem nk_dens {C : Kc} {G H : Hp} (s : Same G H) : ∀ {ds : List D} {vs : List V} {ks : List NestedKey}, DenL C G vs ds → nkDs ds = some ks → vs.length = ks.length ∧ ∀ (i : Nat) v k, vs[i]? = some v → ks[i]? = some k → ND.NkH C.K H v k
  | [], _, _, h, q => by cases h; cases q; exact ⟨rfl, fun i v k a _ => by simp at a⟩
  | d :: ds, _, ks, h, q => by
    cases h with
    | @cons v _ vs _ h1 h2 =>
      cases e1 : nkD d with
      | none => rw [show nkDs (d :: ds) = (nkD d).bind fun k => (nkDs ds).map (k :: ·) from rfl, e1] at q; cases q
      | some k =>
        cases e2 : nkDs ds with
        | none => rw [show nkDs (d :: ds) = (nkD d).bind fun k => (nkDs ds).map (k :: ·) from rfl, e1, e2] at q; cases q
        | some ks' =>
          rw [show nkDs (d :: ds) = (nkD d).bind fun k => (nkDs ds).map (k :: ·) from rfl, e1, e2] at q
          cases q
          obtain ⟨l, z⟩ := nk_dens s h2 e2
          refine ⟨congrArg (· + 1) l, fun i v' k' a b => ?_⟩
          cases i with
          | zero => cases a; cases b; exact nk_den s h1 e1
          | succ i => exact z i v' k' (by simpa using a) (by simpa using b)
end
theorem kh_den {C : Kc} {G H : Hp} (s : Same G H) : ∀ {kds : List (D × D)} {xs : List ND.NEnt}, DenN C G xs kds → ND.KH C.K H xs
  | _, _, .nil => fun x hx => by cases hx
  | _, _, .cons h1 h2 h3 _ _ l => fun x hx => by
    rcases List.mem_cons.mp hx with e | e
    · subst e; exact ⟨nk_den s h3 h1, h2⟩
    · exact kh_den s l x e
theorem at_den {C : Kc} {G : Hp} {k : NestedKey} : ∀ {kds : List (D × D)} {xs : List ND.NEnt}, DenN C G xs kds → match dlook k kds with
    | none => atKey xs k = none
    | some d => ∃ p v, atKey xs k = some p ∧ RelV v p.2 ∧ Den C G v d
  | _, _, .nil => rfl
  | _, _, @DenN.cons _ _ k' b u v kd d xs ds h1 h2 h3 h4 h5 l => by
    have ih := at_den (k := k) l
    unfold dlook
    by_cases e : k' = k
    · subst e
      rw [if_pos h1]
      exact ⟨(b, u), v, by simp [atKey], h4, h5⟩
    · rw [if_neg (fun z => e (Option.some.inj (h1.symm.trans z)))]
      have r : atKey ((k', b, u) :: xs) k = atKey xs k := by simp [atKey, e]
      rw [r]
      exact ih
theorem at_is {C : Kc} {G : Hp} {k : NestedKey} {kds : List (D × D)} {xs : List ND.NEnt} (h : DenN C G xs kds) : (atKey xs k).isSome = (dlook k kds).isSome := by
  have := at_den (k := k) h
  cases q : dlook k kds with
  | none => rw [q] at this; rw [show atKey xs k = none from this]; rfl
  | some d => rw [q] at this; obtain ⟨p, v, e, _⟩ := this; rw [e]; rfl
theorem DenN.length {C : Kc} {G : Hp} : ∀ {kds : List (D × D)} {xs : List ND.NEnt}, DenN C G xs kds → xs.length = kds.length
  | _, _, .nil => rfl
  | _, _, .cons _ _ _ _ _ l => by rw [List.length_cons, List.length_cons, DenN.length l]
section
variable {F : Fam} {S S1 S2 : ST} {e a b : Expr} {d x y z : D} {pos p : Pos} {P : Po} {rest : List Stmt}
theorem od_nd {neg : Bool} {op : CmpOp} {kds : List (D × D)} {k : NestedKey} (hop : ∀ i, (F.X i).A.units + 64 < cLine → OpR (F.X i) (compareOp op) (ND.rNIn (F.X i).K (F.X i).prog (F.X i).w neg)) (hk : dkey x = some k) : OpD F (compareOp op) x (.dic kds) (.bl (if neg then !(dlook k kds).isSome else (dlook k kds).isSome)) :=
  ⟨ND.rNIn F.C.K F.C.P F.C.w neg, fun i => by have := hop i (F.units i); rw [F.hK i, F.hP i, F.hw i] at this; rw [F.cP, F.cw]; exact this, fun G H u v s hu hv Q q => by
    obtain ⟨h1, h2, ds, rfl⟩ := dkey_eq hk
    have h3 := nk_den s.s hu h1
    cases hu with
    | @tup b xs _ t1 t2 =>
      cases hv with
      | @dN a od ys _ g1 g2 => exact ⟨b, a, od, ys, k, rfl, rfl, s _ _ g1, kh_den s g2, h3, h2, by rw [at_is g2]; exact q _ _ _ (.refl s) (.bl _)⟩⟩
theorem od_ndIn {kds : List (D × D)} {k : NestedKey} (hk : dkey x = some k) : OpD F (compareOp .In) x (.dic kds) (.bl (dlook k kds).isSome) := od_nd (neg := false) (fun i h => ND.or_nin h) hk
theorem ca_lenN {kds : List (D × D)} : CaD F (.builtin "len") [.dic kds] (.int kds.length) := ⟨ND.rNLen F.C.K F.C.P F.C.w, fun i => by
  have z := ND.cr_nlen (X := F.X i)
  rw [F.hK i, F.hP i, F.hw i, ← F.cP, ← F.cw] at z
  exact z, fun G H us s h Q q => by
  cases h with
  | cons h l => cases h with
    | dN h1 h2 => cases l; exact ⟨_, _, _, rfl, s _ _ h1, kh_den s h2, by rw [DenN.length h2]; exact q _ _ _ (.refl s) (.int _)⟩⟩
end
end DL
namespace DL
open PySem L2
variable [TabL]
def Fam.blk (F : Fam) (scope : Scope) : Fam where
  I := F.I × (Shared × Hp × Addr × List (Str × Addr) × List Addr)
  X := fun j => (F.X j.1).blk j.2.1 j.2.2.1 scope (compEnvC scope j.2.2.2.2.1 j.2.2.2.1 (F.X j.1).env) j.2.2.2.2.2
  P := F.P
  w := F.w
  C := F.C
  mg := F.mg
  base := F.base
  N := F.N
  k := F.k
  hP := fun i => F.hP i.1
  hw := fun i => F.hw i.1
  hK := fun i => F.hK i.1
  hmg := fun i => F.hmg i.1
  hbase := fun i => F.hbase i.1
  hN := fun i => F.hN i.1
  nd := F.nd
  roomH := fun i => F.roomH i.1
  cP := F.cP
  cw := F.cw
instance {F : Fam} [Calm F] {scope : Scope} : Calm (F.blk scope) := ⟨fun i => F.calm i.1, fun i => Calm.h i.1⟩
def hidS (s : List (Option DV)) : List Nat → List (Option DV)
  | [] => s
  | v :: vs => (hidS s vs).set v none
theorem hidS_length (s : List (Option DV)) : ∀ vs, (hidS s vs).length = s.length
  | [] => by simp [hidS]
  | v :: vs => by unfold hidS; rw [List.length_set, hidS_length s vs]
theorem hidS_get {s : List (Option DV)} {i : Nat} {o : DV} : ∀ {vs : List Nat}, (hidS s vs)[i]? = some (some o) → s[i]? = some (some o) ∧ i ∉ vs
  | [], h => ⟨h, by simp⟩
  | v :: vs, h => by
    unfold hidS at h
    by_cases e : v = i
    · subst e
      rcases Nat.lt_or_ge v (hidS s vs).length with z | z
      · rw [List.getElem?_set_self z] at h; cases h
      · rw [List.getElem?_eq_none (by simpa using z)] at h; cases h
    · rw [List.getElem?_set_ne e] at h
      obtain ⟨h1, h2⟩ := hidS_get h
      exact ⟨h1, by simp only [List.mem_cons, not_or]; exact ⟨fun z => e z.symm, h2⟩⟩
theorem hidS_keep {s : List (Option DV)} {i : Nat} : ∀ {vs : List Nat}, i ∉ vs → (hidS s vs)[i]? = s[i]?
  | [], _ => rfl
  | v :: vs, h => by
    unfold hidS
    have h2 : i ≠ v ∧ i ∉ vs := by simpa using h
    rw [List.getElem?_set_ne (Ne.symm h2.1)]
    exact hidS_keep h2.2
theorem wipe_keep {σ : L2.St} {i : Nat} : ∀ {vs : List Nat}, i ∉ vs → (wipe σ vs)[i]? = σ[i]?
  | [], _ => rfl
  | v :: vs, h => by
    unfold wipe
    have h2 : i ≠ v ∧ i ∉ vs := by simpa using h
    rw [List.getElem?_set_ne (Ne.symm h2.1)]
    exact wipe_keep h2.2
theorem Ctx.hid {C : Kc} {G H : Hp} {σ : L2.St} {S : ST} (c : Ctx C G H σ S) (vs : List Nat) : Ctx C G H (wipe σ vs) ⟨hidS S.s vs, S.g⟩ where
  sub := c.sub
  len := by rw [wipe_length, hidS_length]; exact c.len
  im := fun i d h => by obtain ⟨h1, h2⟩ := hidS_get h; rw [wipe_keep h2]; exact c.im i d h1
  ow := fun i es h => by obtain ⟨h1, h2⟩ := hidS_get h; rw [wipe_keep h2]; exact c.ow i es h1
  apart := fun i j es fs a h h' q q' => by
    obtain ⟨h1, h2⟩ := hidS_get h
    obtain ⟨h3, h4⟩ := hidS_get h'
    rw [wipe_keep h2] at q
    rw [wipe_keep h4] at q'
    exact c.apart i j es fs a h1 h3 q q'
  bg := fun i b o hg h => by obtain ⟨h1, h2⟩ := hidS_get h; rw [wipe_keep h2]; exact c.bg i b o hg h1
  bag := c.bag
  nob := fun i b o es hg h => by obtain ⟨h1, h2⟩ := hidS_get h; rw [wipe_keep h2]; exact c.nob i b o es hg h1
theorem oa_hid {C : Kc} {σ : L2.St} {S : ST} {vs : List Nat} {a : Addr} (z : OA C (wipe σ vs) ⟨hidS S.s vs, S.g⟩ a) : OA C σ S a := by
  rcases z with ⟨i, es, r, q⟩ | z
  · obtain ⟨h1, h2⟩ := hidS_get r
    rw [wipe_keep h2] at q
    exact .inl ⟨i, es, h1, q⟩
  · exact .inr z
def KeepOwn (s : List (Option DV)) (vs : List Nat) (T : ST) : Prop := ∀ (i : Nat) es, s[i]? = some (some (.own es)) → i ∉ vs ∧ T.s[i]? = some (some (.own es))
theorem Ctx.outer {C : Kc} {G H G2 H2 : Hp} {σ σ2 : L2.St} {S T : ST} {vs : List Nat} (c : Ctx C G H σ S) (m : Mw C (wipe σ vs) ⟨hidS S.s vs, S.g⟩ G H σ2 T G2 H2) (hg : T.g.map (·.1) = S.g.map (·.1)) (ko : KeepOwn S.s vs T) (hσ : wipe σ2 vs = wipe σ vs) : Mv C σ S G H ⟨S.s, T.g⟩ G2 H2 := by
  have ad : ∀ b o, T.g = some (b, o) → ∃ o', S.g = some (b, o') := fun b o h => by
    rw [h] at hg
    cases q : S.g with
    | none => rw [q] at hg; cases hg
    | some bo => obtain ⟨b', o'⟩ := bo; rw [q] at hg; cases hg; exact ⟨o', rfl⟩
  have eσ : ∀ i, i ∉ vs → σ2[i]? = σ[i]? := fun i h => by
    rw [← wipe_keep (σ := σ2) h, hσ, wipe_keep h]
  refine ⟨m.go.mono fun a z => oa_hid z, ⟨m.cx.sub, c.len, fun i d h => ?_, fun i es h => ?_, c.apart, fun i b o h h1 => ?_, m.cx.bag, fun i b o es h h1 => ?_⟩, fun a z => ?_⟩
  · obtain ⟨v, h1, h2⟩ := c.im i d h
    exact ⟨v, h1, h2.mono m.go.gg⟩
  · obtain ⟨n, t⟩ := ko i es h
    obtain ⟨a, o, h1, h2, h3, h4⟩ := m.cx.ow i es t
    rw [eσ i n] at h1
    exact ⟨a, o, h1, h2, h3, h4⟩
  · obtain ⟨o', r⟩ := ad b o h
    exact c.bg i b o' r h1
  · obtain ⟨o', r⟩ := ad b o h
    exact c.nob i b o' es r h1
  · rcases z with z | ⟨o, z⟩
    · exact .inl z
    · obtain ⟨o', r⟩ := ad a o z
      exact .inr ⟨o', r⟩
theorem wipe_wipe (σ : L2.St) (vs : List Nat) : wipe (wipe σ vs) vs = wipe σ vs := by
  have key : ∀ (us : List Nat) (τ : L2.St), (∀ v ∈ us, v ∈ vs) → wipe (wipe τ us) vs = wipe τ vs := fun us => by
    induction us with
    | nil => intro τ _; rfl
    | cons u us ih =>
      intro τ h
      show wipe ((wipe τ us).set u none) vs = wipe τ vs
      rw [wipe_set_in _ u none vs (h u List.mem_cons_self)]
      exact ih τ fun v hv => h v (List.mem_cons_of_mem _ hv)
  exact key vs σ fun _ h => h
theorem ctx_priv {C : Kc} {G H : Hp} {σ : L2.St} {S : ST} {q : Addr} {o o' : HO} (c : Ctx C G H σ S) (gq : G q = none) (no : ∀ (j : Nat) es, S.s[j]? = some (some (.own es)) → σ[j]? ≠ some (some (.ref q))) (nb : ∀ o, S.g ≠ some (q, o)) (hq : H q = some o) (n1 : NT o) (n2 : NC o) : Ctx C G (upd H q o') σ S where
  sub := ⟨fun a u h => by
    have : a ≠ q := fun z => by rw [z, gq] at h; cases h
    rw [upd_ne this]; exact c.sub a u h, tabs_upd c.sub.t hq n1 n2, c.sub.n⟩
  len := c.len
  im := c.im
  ow := fun i es h => by
    obtain ⟨a, ws, h1, h2, h3, h4⟩ := c.ow i es h
    have : a ≠ q := fun z => no i es h (by rw [← z]; exact h1)
    exact ⟨a, ws, h1, h2, by rw [upd_ne this]; exact h3, h4⟩
  apart := c.apart
  bg := c.bg
  bag := by
    have z := c.bag
    cases r : S.g with
    | none => trivial
    | some bo =>
      obtain ⟨b, bo⟩ := bo
      have nq : b ≠ q := fun e => nb bo (by rw [r, e])
      rw [r] at z
      cases bo with
      | lst es => obtain ⟨h1, ws, h2, h3⟩ := z; exact ⟨h1, ws, by rw [upd_ne nq]; exact h2, h3⟩
      | ins cc fs => obtain ⟨h1, dx, ws, h2, h3⟩ := z; exact ⟨h1, dx, ws, by rw [upd_ne nq]; exact h2, h3⟩
      | xd es => obtain ⟨h1, ws, h2, h3⟩ := z; exact ⟨h1, ws, by rw [upd_ne nq]; exact h2, h3⟩
  nob := c.nob
section
variable {F : Fam} {S S1 S2 S3 : ST} {e a b c tg iter elt : Expr} {d x y z : D} {pos p apos : Pos} {es : List Expr} {ds : List D} {k : Bool} {nm : Str} {P : Po} {rest t u body : List Stmt} {st : Stmt} {M : ST → Prop} {ifs : List Expr} {scope : Scope} {own : List (Str × Nat)}
def anyTs (F : Fam) (ifs : List Expr) : TT := fun σ H Q => ∃ te, (∀ i, PTs (F.X i) ifs te) ∧ te σ H Q
theorem anyTs_ok {ifs : List Expr} (i : F.I) : PTs (F.X i) ifs (anyTs F ifs) := ⟨fun pins s σ H Q I h => let ⟨te, h1, h2⟩ := h; (h1 i).run pins s σ H Q I h2⟩
def DTs (F : Fam) (ifs : List Expr) (S S' : ST) (b : Bool) : Prop := EvT F.C (anyTs F ifs) S S' b
theorem dts_nil : DTs F [] S S true := fun σ G H c Q q => ⟨tYes, fun _ => pts_nil, q G H (.refl c)⟩
theorem dts_one {k : Bool} (h : DT F c S S1 k) : DTs F [c] S S1 k := fun σ G H cx Q q => ⟨anyT F c, fun i => pts_one (anyT_ok i), h σ G H cx Q q⟩
def Turn1 (F : Fam) (tg : Expr) (ifs : List Expr) (elt : Expr) (vs : List Nat) (s : List (Option DV)) (d : D) (g : Option (Addr × BG)) (out : List D) (g' : Option (Addr × BG)) (out' : List D) : Prop :=
  ∃ T1 T2 b js, DG F tg d ⟨hidS s vs, g⟩ T1 js ∧ (∀ j ∈ js, j ∈ vs) ∧ DTs F ifs T1 T2 b ∧ (b = true → ∃ T3 y, DE F elt T2 T3 y ∧ T3.g = g' ∧ KeepOwn s vs T3 ∧ out' = out ++ [y] ∧ out.length < sizeLine) ∧ (b = false → T2.g = g' ∧ KeepOwn s vs T2 ∧ out' = out)
theorem ev_lc {vs0 : List Nat} (hi : DI F tg iter S S1 ds) (gO : Nat → Option (Addr × BG)) (out : Nat → List D) (hg0 : gO 0 = S1.g) (ho0 : out 0 = []) (hga : ∀ i, (gO i).map (·.1) = S1.g.map (·.1))
    (step : ∀ i d, ds[i]? = some d → Turn1 (F.blk scope) tg ifs elt vs0 S1.s d (gO i) (out i) (gO (i + 1)) (out (i + 1))) :
    ∀ σ G H, Ctx F.C G H σ S → ∀ Q : VK, (∀ q vs G2 H2, Mv F.C σ S G H ⟨S1.s, gO ds.length⟩ G2 H2 → H q = none → G2 q = none → H2 q = some (.lst vs) → DenL F.C G2 vs (out ds.length) → Q (.ref q) H2) →
      tLc (anyI F tg iter) (anyG (F.blk scope) tg) (anyTs (F.blk scope) ifs) (anyE (F.blk scope) elt) vs0 σ H Q := by
  intro σ G0 H0 c0 Q q
  refine hi σ G0 H0 c0 _ fun J G1 H1 m1 it => ?_
  intro Da hD
  have gD : G1 Da = none := m1.cx.sub.free hD
  have hD0 : H0 Da = none := by
    cases r : H0 Da with
    | none => rfl
    | some o => exact absurd hD (m1.go.dom Da (by rw [r]; simp))
  refine ⟨fun i m' H => i ≤ ds.length ∧ m' = ds.length - i ∧ ∃ G vs, Mv F.C σ S1 G1 H1 ⟨S1.s, gO i⟩ G H ∧ G Da = none ∧ H Da = some (.lst vs) ∧ DenL F.C G vs (out i), ⟨_, Nat.zero_le _, rfl, G1, [], ?_, gD, upd_same, by rw [ho0]; exact .nil⟩, ?_⟩
  · have sm : Same H1 (upd H1 Da (.lst [])) := fun a o h => by rw [upd_ne (ne_of_none h hD)]; exact h
    have := m1.cx.mv (Same.kt sm) (fun _ _ h => h) (m1.cx.sub.trans sm) fun _ _ h => h
    rw [hg0]
    exact this
  · rintro i m' H ⟨hle, rfl, G, vs, mv, gDi, hDi, dl⟩
    by_cases hlt : i < ds.length
    · refine .inr ⟨it.go i G H hlt mv.go.gg mv.cx.sub, fun H' => ∃ G' vs', Mv F.C σ S1 G1 H1 ⟨S1.s, gO (i + 1)⟩ G' H' ∧ G' Da = none ∧ H' Da = some (.lst vs') ∧ DenL F.C G' vs' (out (i + 1)), fun H' z => ⟨_, by omega, hlt, rfl, z⟩, fun x H' hy => ?_⟩
      obtain ⟨G', pu, dx⟩ := it.yld i _ G H x H' (List.getElem?_eq_getElem hlt) mv.go.gg mv.cx.sub hy
      obtain ⟨T1, T2, b, js, hg, hjs, ht, h1, h2⟩ := step i _ (List.getElem?_eq_getElem hlt)
      have m2 := mv.cx.pu pu
      refine hg (wipe σ vs0) G' H' x (m2.cx.hid _) dx _ fun σ2 G2 H2 m3 only => ⟨(only _ hjs).trans (by
        have := only _ hjs
        exact wipe_wipe σ _), ?_⟩
      refine ht σ2 G2 H2 m3.cx _ fun G3 H3 m4 => ?_
      have nD : ∀ o, gO i ≠ some (Da, o) := fun o z => by
        have r := hga i
        rw [z] at r
        cases r2 : S1.g with
        | none => rw [r2] at r; cases r
        | some bo =>
          obtain ⟨b', o'⟩ := bo
          rw [r2] at r
          cases r
          have z2 := m1.cx.bag
          rw [r2] at z2
          cases o' with
          | lst => obtain ⟨_, _, z3, _⟩ := z2; rw [hD] at z3; cases z3
          | ins => obtain ⟨_, _, _, z3, _⟩ := z2; rw [hD] at z3; cases z3
          | xd => obtain ⟨_, _, z3, _⟩ := z2; rw [hD] at z3; cases z3
      have nOA : ¬ OA F.C (wipe σ vs0) ⟨hidS S1.s vs0, gO i⟩ Da := fun z => by
        rcases oa_hid (S := ⟨S1.s, gO i⟩) z with ⟨j, es, r, z⟩ | ⟨o, z⟩
        · obtain ⟨a', _, r1, r2, r3, _⟩ := m1.cx.ow j es r
          rw [r1] at z; cases z
          rw [hD] at r3; cases r3
        · exact nD o z
      have hDp : H' Da = some (.lst vs) := pu.hh.k _ _ nt_lst hDi
      have gDp : G' Da = none := pu.fr Da (by rw [hDi]; simp) gDi
      cases b with
      | false =>
        rw [if_neg Bool.false_ne_true]
        obtain ⟨e1, ko, e2⟩ := h2 rfl
        have mm := m3.trans m4.mw
        have mo := m2.cx.outer mm (by rw [e1]; exact (hga (i + 1)).trans (hga i).symm) ko ((only _ hjs).trans (wipe_wipe σ _))
        rw [e1] at mo
        refine ⟨G3, vs, (mv.trans m2).trans mo, mm.go.fr Da nOA (by rw [hDp]; simp) gDp, mm.go.keep Da _ nOA nt_lst hDp, ?_⟩
        rw [e2]
        exact (dl.mono pu.gg).mono mm.go.gg
      | true =>
        rw [if_pos rfl]
        obtain ⟨T3, y, he, e1, ko, e2, e3⟩ := h1 rfl
        refine he σ2 G3 H3 m4.cx _ fun v G4 H4 m5 dv => ?_
        have mm := (m3.trans m4.mw).trans m5.mw
        have mo := m2.cx.outer mm (by rw [e1]; exact (hga (i + 1)).trans (hga i).symm) ko ((only _ hjs).trans (wipe_wipe σ _))
        rw [e1] at mo
        have k1 := mm.go.keep Da _ nOA nt_lst hDp
        have k2 := mm.go.fr Da nOA (by rw [hDp]; simp) gDp
        refine ⟨vs, k1, by rw [dl.length]; exact e3, G4, vs ++ [v], ?_, k2, upd_same, ?_⟩
        · have mf := (mv.trans m2).trans mo
          refine ⟨⟨fun a o n nt h => ?_, mf.go.gg, mf.go.fr, fun a h => ?_, fun t => tabs_upd (mf.go.tb t) k1 nt_lst nc_lst⟩, ?_, mf.oa⟩
          · have na : a ≠ Da := fun z => by rw [z, hD] at h; cases h
            rw [upd_ne na]; exact mf.go.keep a o n nt h
          · by_cases na : a = Da
            · rw [na, upd_same]; simp
            · rw [upd_ne na]; exact mf.go.dom a h
          exact ctx_priv mo.cx k2 (fun j es r z => by
            obtain ⟨a', _, r1, r2, r3, _⟩ := m1.cx.ow j es r
            rw [r1] at z; cases z
            rw [hD] at r3; cases r3) (fun o z => by
              have r := hga (i + 1)
              have z' : gO (i + 1) = some (Da, o) := z
              rw [z'] at r
              cases r2 : S1.g with
              | none => rw [r2] at r; cases r
              | some bo =>
                obtain ⟨b', o'⟩ := bo
                rw [r2] at r
                cases r
                have z2 := m1.cx.bag
                rw [r2] at z2
                cases o' with
                | lst => obtain ⟨_, _, z3, _⟩ := z2; rw [hD] at z3; cases z3
                | ins => obtain ⟨_, _, _, z3, _⟩ := z2; rw [hD] at z3; cases z3
                | xd => obtain ⟨_, _, z3, _⟩ := z2; rw [hD] at z3; cases z3) k1 nt_lst nc_lst
        · rw [e2]
          exact ((dl.mono pu.gg).mono mm.go.gg).append (.cons dv .nil)
    · have e : i = ds.length := by omega
      subst e
      exact .inl ⟨it.stop _ G H (Nat.le_refl _) mv.go.gg mv.cx.sub, q Da vs G H (m1.trans mv) hD0 gDi hDi dl⟩
end
end DL
namespace DL
open PySem L2
variable [TabL]
theorem Mv.freezeNew {C : Kc} {σ : L2.St} {S S' : ST} {G H G2 H2 : Hp} {q : Addr} {oq : HO} (c : Ctx C G H σ S) (m : Mv C σ S G H S' G2 H2) (hq : H q = none) (gq : G2 q = none) (h2 : H2 q = some oq) : Mv C σ S G H S' (upd G2 q oq) H2 := by
  have gg : Same G2 (upd G2 q oq) := fun a o h => by rw [upd_ne (ne_of_none h gq)]; exact h
  have nOA : ¬ OA C σ S q := fun z => by
    rcases z with ⟨j, es, r1, r2⟩ | ⟨o, r⟩
    · obtain ⟨a, ws, h1, _, h3, _⟩ := c.ow j es r1
      rw [r2] at h1; cases h1; rw [hq] at h3; cases h3
    · have z := c.bag
      rw [r] at z
      cases o with
      | lst => obtain ⟨_, _, h3, _⟩ := z; rw [hq] at h3; cases h3
      | ins => obtain ⟨_, _, _, h3, _⟩ := z; rw [hq] at h3; cases h3
      | xd => obtain ⟨_, _, h3, _⟩ := z; rw [hq] at h3; cases h3
  refine ⟨⟨m.go.keep, m.go.gg.trans gg, fun a n h g => ?_, m.go.dom, m.go.tb⟩, ⟨⟨fun a o h => ?_, m.cx.sub.t, fun p hp => by rw [upd_ne (fun z => tabs_there c.sub.t p hp (by rw [z]; exact hq))]; exact m.cx.sub.n p hp⟩, m.cx.len, fun i d h => ?_, fun i es h => ?_, m.cx.apart, m.cx.bg, ?_, m.cx.nob⟩, m.oa⟩
  · have na : a ≠ q := fun z => h (by rw [z]; exact hq)
    rw [upd_ne na]; exact m.go.fr a n h g
  · by_cases na : a = q
    · subst na; rw [upd_same] at h; cases h; exact h2
    · rw [upd_ne na] at h; exact m.cx.sub a o h
  · obtain ⟨v, r1, r2⟩ := m.cx.im i d h
    exact ⟨v, r1, r2.mono gg⟩
  · obtain ⟨a, ws, r1, r2, r3, r4⟩ := m.cx.ow i es h
    have na : a ≠ q := fun z => nOA (m.oa q (.inl ⟨i, es, h, by rw [← z]; exact r1⟩))
    exact ⟨a, ws, r1, by rw [upd_ne na]; exact r2, r3, r4.mono gg⟩
  · have z := m.cx.bag
    cases r : S'.g with
    | none => trivial
    | some bo =>
      obtain ⟨b, o⟩ := bo
      have nb : b ≠ q := fun e => nOA (m.oa q (.inr ⟨o, by rw [r, e]⟩))
      rw [r] at z
      cases o with
      | lst es => obtain ⟨h1, ws, h2, h3⟩ := z; exact ⟨by rw [upd_ne nb]; exact h1, ws, h2, h3.mono gg⟩
      | ins cc fs => obtain ⟨h1, dx, ws, h2, h3⟩ := z; exact ⟨by rw [upd_ne nb]; exact h1, dx, ws, h2, h3.mono gg⟩
      | xd es => obtain ⟨h1, ws, h2, h3⟩ := z; exact ⟨by rw [upd_ne nb]; exact h1, ws, h2, h3.mono gg⟩
section
variable {F : Fam} {S S1 S2 S3 : ST} {e a b c tg iter elt : Expr} {d x y z : D} {pos p apos : Pos} {es : List Expr} {ds : List D} {k : Bool} {nm : Str} {P : Po} {rest t u body : List Stmt} {st : Stmt} {M : ST → Prop} {ifs : List Expr} {scope : Scope} {own : List (Str × Nat)}
theorem ev_freeze {C : Kc} {te : TE} (h : EvO C te S S1 ds) : EvM C te S S1 (.lst ds) := fun σ G H c Q q => h σ G H c Q fun p vs G2 H2 m hp gp h2 dl => by
  have m2 := m.freezeNew c hp gp h2
  exact q _ _ _ m2 (.lst (SqL.of upd_same) (dl.mono fun a o h => by rw [upd_ne (ne_of_none h gp)]; exact h))
theorem de_do (h : DO F e S S1 ds) : DE F e S S1 (.lst ds) := ev_freeze h
mutual
def toP : D → PyData
  | .non => .none
  | .bl b => .bool b
  | .int i => .int i
  | .str x => .str x
  | .tup xs => .tuple (toPs xs)
  | .lst xs => .list (toPs xs)
  | .obj _ _ => .none
  | .dic _ => .none
  | .dik _ => .none
  | .dim _ => .none
  | .cst _ => .none
def toPs : List D → List PyData
  | [] => []
  | x :: xs => toP x :: toPs xs
end
mutual
def okP : D → Bool
  | .non => true
  | .bl _ => true
  | .int _ => true
  | .str _ => true
  | .tup xs => okPs xs
  | .lst xs => okPs xs
  | .obj _ _ => false
  | .dic _ => false
  | .dik _ => false
  | .dim _ => false
  | .cst _ => false
def okPs : List D → Bool
  | [] => true
  | x :: xs => okP x && okPs xs
end
mutual
theorem Den.dp {C : Kc} {G H : Hp} (s : Same G H) : ∀ {v : V} {d : D}, Den C G v d → okP d = true → Dp C.K H v (toP d)
  | _, _, .non, _ => by unfold toP; exact .non
  | _, _, .bl b, _ => by unfold toP; exact .bl b
  | _, _, .int i, _ => by unfold toP; exact .int i
  | _, _, .str x, _ => by unfold toP; exact .str x
  | _, _, .tup h l, k => by
    unfold okP at k
    unfold toP
    exact .tup (same_t s h) (DenL.dp s l k)
  | _, _, .lst h l, k => by
    unfold okP at k
    unfold toP
    exact .lst (s.seq h) (DenL.dp s l k)
  | _, _, .obj _ _ _, k => by unfold okP at k; cases k
  | _, _, .cst _, k => by unfold okP at k; cases k
  | _, _, .dN _ _, k => by unfold okP at k; cases k
  | _, _, .dK _ _, k => by unfold okP at k; cases k
  | _, _, .dM _ _, k => by unfold okP at k; cases k
theorem DenL.dp {C : Kc} {G H : Hp} (s : Same G H) : ∀ {v : List V} {d : List D}, DenL C G v d → okPs d = true → DpAll C.K H v (toPs d)
  | _, _, .nil, _ => by unfold toPs; exact .nil
  | _, _, .cons h l, k => by
    unfold okPs at k
    rw [Bool.and_eq_true] at k
    unfold toPs
    exact .cons (Den.dp s h k.1) (DenL.dp s l k.2)
end
theorem od_eqP (h1 : okP x = true) (h2 : okP y = true) (h3 : SeqAt.shaped (toP x) = true) (h4 : SeqAt.shaped (toP y) = true) : OpD F (compareOp .Eq) x y (.bl (PyData.eqv (toP x) (toP y))) :=
  ⟨rEqD F.C.K, fun i => by have := op_eqD (X := F.X i) (F.units i); rw [F.hK i] at this; exact this, fun G H u v s hu hv Q q => ⟨_, _, hu.dp s h1, hv.dp s h2, h3, h4, q _ _ _ (.refl s) (.bl _)⟩⟩
theorem od_neP (h1 : okP x = true) (h2 : okP y = true) (h3 : SeqAt.shaped (toP x) = true) (h4 : SeqAt.shaped (toP y) = true) : OpD F (compareOp .NotEq) x y (.bl (!PyData.eqv (toP x) (toP y))) :=
  ⟨rNeD F.C.K, fun i => by have := op_neD (X := F.X i) (F.units i); rw [F.hK i] at this; exact this, fun G H u v s hu hv Q q => ⟨_, _, hu.dp s h1, hv.dp s h2, h3, h4, q _ _ _ (.refl s) (.bl _)⟩⟩
def tyD (C : Kc) : D → Value
  | .non => .type "NoneType"
  | .bl _ => .type "bool"
  | .int _ => .type "int"
  | .str _ => .type "str"
  | .tup _ => .type "tuple"
  | .lst _ => .type "list"
  | .obj c _ => .ref (C.cl c)
  | .cst _ => .none
  | .dic _ => .type "dict"
  | .dik _ => .type "dict"
  | .dim _ => .type "dict"
structure InsF (K : PySem.W.Frag) (c : Addr) : Prop where
  cl : Cls K c
  ha : PySem.W.findIn K (.ref c) "__class__" = some (some (.builtin "object.__class__"))
  hn : PySem.W.specialIn K (.builtin "object.__class__") "__get__" = some (some (.builtin "getset_descriptor.__get__"))
  htk : PySem.W.takesIn K (.builtin "object.__class__") = some true
  hm : PySem.W.mroIn K c (.type "object") = some true
def plD : D → Bool
  | .cst _ => false
  | .dic _ => false
  | .dik _ => false
  | .dim _ => false
  | _ => true
theorem Den.tyX {C : Kc} {G H : Hp} (s : Same G H) {v : V} {d : D} (h : Den C G v d) (ho : ∀ c fs, d = .obj c fs → C.has c = true → InsF C.K (C.cl c)) (hc : plD d = true) : TyX C.K H v (tyD C d) := by
  cases h with
  | non => exact .base .non
  | bl b => exact .base (.bl b)
  | int i => exact .base (.int i)
  | str x => exact .base (.str x)
  | tup h l =>
    rcases same_t s h with (h | ⟨o, h⟩) | ⟨o, _, _, h, h', _⟩
    · exact .base (.tup h)
    · exact .fTuple h
    · exact .kTuple h h'
  | lst h l =>
    rcases s.seq h with (h | ⟨o, h⟩) | ⟨o, _, _, h, h', _⟩
    · exact .base (.lst h)
    · exact .base (.frz h)
    · exact .kList h h'
  | obj q h l => have := ho _ _ rfl q; exact .base (.ins (s _ _ h) this.cl this.ha this.hn this.htk this.hm)
  | cst v => cases hc
  | dN h l => cases hc
  | dK h l => cases hc
  | dM h l => cases hc
theorem ca_isi {cv : V} {u : Value} {k : Bool} (hc : ClsV cv u) (ho : ∀ c fs, x = .obj c fs → F.C.has c = true → InsF F.C.K (F.C.cl c)) (hn : plD x = true) (hk : PySem.W.kitOne F.C.K (tyD F.C x) u = some k) : CaD F (.builtin "isinstance") [x, .cst cv] (.bl k) :=
  ⟨rIsi F.C.K, fun i => by have := call_isi (X := F.X i); rw [F.hK i] at this; exact this, fun G H us s h Q q => by
    cases h with
    | cons h l => cases l with
      | cons h2 l => cases l; cases h2; exact ⟨_, _, _, _, k, rfl, hc, h.tyX s ho hn, hk, q _ _ _ (.refl s) (.bl _)⟩⟩
theorem ca_isiD {cv : V} {u : Value} {k : Bool} {kvs : List (D × D)} (hc : ClsV cv u) (hk : PySem.W.kitOne F.C.K (.type "dict") u = some k) : CaD F (.builtin "isinstance") [.dic kvs, .cst cv] (.bl k) :=
  ⟨fun xs H Q => ∃ (a : Addr) (o : Obj) (es : List ND.NEnt), xs = [.ref a, cv] ∧ H a = some (ND.NDO F.C.P F.C.w a o es) ∧ Q (.bl k) H, fun i => by
    intro pins s σ H xs us Q I r h
    obtain ⟨a, o, es, rfl, ha, q⟩ := h
    obtain ⟨u1, u2, rfl, r1, r2⟩ := vals2 r
    have e2 := hc.eq r2
    subst e2
    cases (show u1 = Value.ref a from r1)
    obtain ⟨⟨_, _, _, _, _, h1, h2, _, _⟩, _, _⟩ := I.hok a _ ha
    exact PySem.W.kia_one (PySem.W.kitx_dict (K := (F.X i).K)) I.kIn ⟨o, h1, h2.1⟩ (by rw [F.hK i]; exact hk) (fun z => nomatch z) fun tk => ⟨.bl k, H, I.tok tk, rfl, q⟩, fun G H us s h Q q => by
    cases h with
    | cons h l => cases l with
      | cons h2 l => cases l; cases h2; cases h with
        | dN h1 h3 => exact ⟨_, _, _, rfl, s _ _ h1, q _ _ _ (.refl s) (.bl _)⟩⟩
theorem denL_bl {C : Kc} {G : Hp} : ∀ {vs : List V} {bs : List Bool}, DenL C G vs (bs.map D.bl) → vs = bs.map V.bl
  | _, [], .nil => rfl
  | _, b :: bs, .cons h l => by cases h; rw [denL_bl l]; rfl
theorem denL_int {C : Kc} {G : Hp} : ∀ {vs : List V} {bs : List Int}, DenL C G vs (bs.map D.int) → vs = bs.map V.int
  | _, [], .nil => rfl
  | _, b :: bs, .cons h l => by cases h; rw [denL_int l]; rfl
theorem denL_str {C : Kc} {G : Hp} : ∀ {vs : List V} {bs : List Str}, DenL C G vs (bs.map D.str) → vs = bs.map V.str
  | _, [], .nil => rfl
  | _, b :: bs, .cons h l => by cases h; rw [denL_str l]; rfl
theorem ca_all [Calm F] {bs : List Bool} : CaD F (.builtin "all") [.lst (bs.map D.bl)] (.bl (bs.all id)) := ⟨rAll F.C.K, fun i => by have := cr_all (X := F.X i) (F.calm i); rw [F.hK i] at this; exact this, fun G H us s h Q q => by
  cases h with
  | cons h l => cases h with
    | lst h1 h2 => cases l; exact ⟨_, bs, rfl, by rw [← denL_bl h2]; exact s.seq h1, q _ _ _ (.refl s) (.bl _)⟩⟩
end
end DL
namespace DLO
open PySem PySem.W PySem.SeqAt PySem.Calls PyProof.Rows
open AutoSeq1 (wpAny_loadPart')
section
variable {M : Model} {prog : Program} {w : World} {A : Around} {E : Value → Shared → Prop} {s : Shared} {K : Frag} {x y C b f : Addr} {ox oy : Obj} {od od' : Option Obj} {dx : Addr} {i : Int} {t : Tok}
theorem int_eq_ref {Q : Fin → Shared → Prop} (hb : s.heap.get? b = some (instObj C dx)) (h : Q (.done (.ret .notImplemented)) s) : wpAny M A (Builtin.«int.__eq__» ⟨[.int i t, .ref b], []⟩) Q E s := by
  obtain ⟨hp, g, d, tk, os⟩ := s
  wp_walk using wpAny_loadPart' hb
  exact h
theorem eqR {Q : Value → Shared → Prop} (hu : A.units < cLine) (X : K.In s.heap) (J : InstAt s.heap y (instObj C dx) C od) (hs : findIn K (.ref C) "__eq__" = some (some (.ref f))) (hf : isFn K (.ref f) = true) (hsub : subIn K (.ref C) (.type "int") = some false)
    (h : wpAny (model prog w) A (call (.ref f) [.ref y, .int i t]) (PySem.W.CmpBack Q) E s) : wpAny (model prog w) A (richCompare .Eq (.int i t) (.ref y)) Q E s := by
  have one : wpAny (model prog w) A (tryCompare (.int i t) "__eq__" (.ref y)) (fun r s' => r = none ∧ s' = s) E s :=
    wpAny_tryCompare_declines (typeIs_int s i t) F.slot_int_eq (wpAny_call (codeAny_call_builtin F.slot_int_eq.plain F.entry_int_eq (F.slot_int_eq.check _ _ _ _ _ _ _ _ (typeIs_int s i t) (F.args_int_eq_2 _ _) (int_eq_ref J.at_ ⟨rfl, rfl, rfl⟩))))
  have two : wpAny (model prog w) A (tryCompare (.ref y) "__eq__" (.int i t)) (fun r s' => ∃ v, r = some v ∧ Q v s') E s := by
    unfold tryCompare
    refine wpAny_bind (ifBound_K X J hs hf (wpAny_mono h (fun v s' hv => ?_) fun _ _ e => e))
    cases v <;> first | exact hv.elim | exact wpAny_pure ⟨_, rfl, hv⟩
  have hot : oneThing? .Eq (.int i t) (.ref y) = none := rfl
  simp only [richCompare, cmpInfo_Eq, hot]
  refine wpAny_holding (wpAny_bind (wpAny_cRoomFor hu ?_))
  refine wpAny_bind (wpAny_typeOf (typeIs_int s i t) ?_)
  refine wpAny_bind (J.type.here ?_)
  have hne : (Value.type "int" != Value.ref C) = true := by
    rw [bne_iff_ne]; intro q; cases q
  rw [hne]
  refine wpAny_bind ((looks_subIn X hsub).here ?_)
  simp only [Bool.false_eq_true, if_false, Bool.not_false, if_true]
  refine wpAny_bind (m := tryCompare (.int i t) _ (.ref y)) (wpAny_mono one (fun r s1 z => ?_) fun _ _ e => e)
  obtain ⟨rfl, rfl⟩ := z
  refine wpAny_bind (m := tryCompare (.ref y) _ (.int i t)) (wpAny_mono two (fun r s2 z => ?_) fun _ _ e => e)
  obtain ⟨v, rfl, hq⟩ := z
  exact wpAny_pure hq
theorem objNe_own {v : Value} {Q : Fin → Shared → Prop} (hu : A.units < cLine) (X : K.In s.heap) (I : InstAt s.heap x ox C od) (hs : findIn K (.ref C) "__eq__" = some (some (.ref f))) (hf : isFn K (.ref f) = true)
    (h : wpAny (model prog w) A (call (.ref f) [.ref x, v]) (fun r s' => ∃ b, r = .bool b ∧ Q (.done (.ret (.bool (!b)))) s') E s) : wpAny (model prog w) A (Builtin.«object.__ne__» ⟨[.ref x, v], []⟩) Q E s := by
  have one := ifBound_K (M := model prog w) (args := [v]) (Q := fun r s' => ∃ b, r = some (.bool b) ∧ Q (.done (.ret (.bool (!b)))) s') X I hs hf (wpAny_mono h (fun r s' hr => by obtain ⟨b, rfl, hq⟩ := hr; exact ⟨b, rfl, hq⟩) fun _ _ e => e)
  obtain ⟨hp, g, d, tk, os⟩ := s
  unfold Builtin.«object.__ne__»
  repeat (first
    | with_reducible refine wpAny_cRoomFor hu ?_
    | (refine wpAny_bind (m := callSpecialIfBound? (.ref x) (Str.ofString "__eq__") [v])
        (wpAny_mono one (fun r s' hr => by
          obtain ⟨b, rfl, hq⟩ := hr
          repeat (first | exact hq | exact wpAny_pure hq | exact wpAny_truthy_bool hq | (refine wpAny_bind (m := truthy (.bool _)) (wpAny_truthy_bool ?_)) | wp_step)) fun _ _ e => e))
    | wp_step)
theorem ifBound_objNe {args : List Value} {Q : Option Value → Shared → Prop} (X : K.In s.heap) (I : InstAt s.heap x ox C od) (hs : findIn K (.ref C) "__ne__" = some (some (.builtin "object.__ne__")))
    (h : wpAny M A (call (.builtin "object.__ne__") (.ref x :: args)) (fun v => Q (some v)) E s) : wpAny M A (callSpecialIfBound? (.ref x) "__ne__" args) Q E s := by
  simp only [callSpecialIfBound?, bindSpecialIfBound?]
  refine wpAny_holding (wpAny_bind (wpAny_bind (wpAny_bind (I.type.here ((PySem.W.looks_findIn X hs).here ?_)))))
  refine wpAny_bind (wpAny_askSetting (wpAny_ite ?_))
  have fin : wpAny M A (call (.builtin "object.__ne__") ([.ref x] ++ args) >>= fun v => pure (some v)) Q E s := wpAny_bind (wpAny_mono h (fun v s' h' => wpAny_pure h') fun _ _ h' => h')
  split
  · exact wpAny_bind (wpAny_of_eq (F.cmp_object.ne.bind _) (wpAny_pure (by exact fin)))
  · exact wpAny_tryCatch (wpAny_bind (wpAny_of_eq (F.cmp_object.ne.bind _) (wpAny_pure (by exact fin))))
theorem neO {v tb : Value} {Q : Value → Shared → Prop} (hu : A.units + 1 < cLine) (X : K.In s.heap) (I : InstAt s.heap x ox C od) (hb : Looks (model prog w) s.heap (typeOf v) tb) (hn : notFirst K C tb = true) (hm : mroIn K C (.type "object") = some true)
    (hne : findIn K (.ref C) "__ne__" = some (some (.builtin "object.__ne__"))) (hs : findIn K (.ref C) "__eq__" = some (some (.ref f))) (hf : isFn K (.ref f) = true)
    (h : wpAny (model prog w) A.in1 (call (.ref f) [.ref x, v]) (fun r s' => ∃ b, r = .bool b ∧ Q (.bool (!b)) s') E s) : wpAny (model prog w) A (richCompare .NotEq (.ref x) v) Q E s := by
  have one : wpAny (model prog w) A (tryCompare (.ref x) "__ne__" v) (fun r s' => ∃ b, r = some (.bool b) ∧ Q (.bool b) s') E s := by
    unfold tryCompare
    refine wpAny_bind (ifBound_objNe X I hne (wpAny_call (codeAny_call_builtin F.cmp_object.ne.plain F.cmpEntry_ne (PySem.W.check_slot F.cmpKind_ne F.cmpSplit_ne (I.type.andThen (PySem.W.looks_mroIn X hm)) (F.cmpArgs_ne _ _) (objNe_own (A := A.in1) hu X I hs hf (wpAny_mono h (fun r s' hr => ?_) fun _ _ e => e))))))
    obtain ⟨b, rfl, hq⟩ := hr
    first | exact ⟨b, rfl, wpAny_pure ⟨_, rfl, hq⟩⟩ | exact ⟨b, rfl, ⟨_, rfl, hq⟩⟩
  unfold richCompare
  simp only [oneThing_ref]
  refine wpAny_holding (wpAny_bind (wpAny_cRoomFor (Nat.lt_of_succ_lt hu) ?_))
  rw [cmpInfo_NotEq]
  dsimp only
  refine wpAny_bind (I.type.here (wpAny_bind (hb.here ?_)))
  split
  · rename_i q
    have e : subIn K tb (.ref C) = some false := by
      rcases Bool.or_eq_true_iff.mp hn with e | e
      · rw [beq_iff_eq.mp e] at q; simp at q
      · exact beq_iff_eq.mp e
    refine wpAny_bind ((looks_subIn X e).here ?_)
    simp only [Bool.false_eq_true, if_false]
    refine wpAny_bind (wpAny_mono one (fun r s' z => ?_) fun _ _ e => e)
    obtain ⟨b, rfl, hq⟩ := z
    exact wpAny_pure hq
  · refine wpAny_bind (wpAny_pure ?_)
    simp only [Bool.false_eq_true, if_false]
    refine wpAny_bind (wpAny_mono one (fun r s' z => ?_) fun _ _ e => e)
    obtain ⟨b, rfl, hq⟩ := z
    exact wpAny_pure hq
end
end DLO
namespace DL
open PySem L2
variable [TabL]
theorem back_of {X : Cx} {pins : List (Addr × Obj)} {σ : L2.St} {Q : VK} {A : Around} {c : Sem Value} {s : Shared} {M : Model} {E : Value → Shared → Prop} (h : wpAny M A c (EP X pins σ Q) E s) : wpAny M A c (PySem.W.CmpBack (EP X pins σ Q)) E s := by
  refine wpAny_mono h (fun v s' q => ?_) fun _ _ e => e
  cases v with
  | notImplemented =>
    obtain ⟨z, _, _, r, _⟩ := q
    cases z with
    | int => obtain ⟨_, r⟩ := r; cases r
    | str => obtain ⟨_, r⟩ := r; cases r
    | byt => obtain ⟨_, r⟩ := r; cases r
    | flt => obtain ⟨_, r⟩ := r; cases r
    | non => cases r
    | bl => cases r
    | ref => cases r
    | ty => cases r
  | _ => exact q
structure OpF (K : PySem.W.Frag) (C : Addr) : Prop where
  sf : PySem.W.selfFirst K C = true
  ic : PySem.W.subIn K (.type "int") (.ref C) = some false
  ci : PySem.W.subIn K (.ref C) (.type "int") = some false
structure IntF (K : PySem.W.Frag) (op : Operator) : Prop where
  ex : ∃ fo ro, PySem.W.findIn K (.type "int") (PySem.dunder op.info.2) = some fo ∧ PySem.W.findIn K (.type "int") (dunderR op.info.2) = some ro ∧ ((fo.isSome && !isSeqSlot fo) || (ro.isSome && !isSeqSlot ro)) = true
section
variable {F : Fam} {S S1 S2 S3 : ST} {e a b c tg iter elt : Expr} {d x y z : D} {pos p apos : Pos} {es : List Expr} {ds : List D} {k : Nat} {nm : Str} {P : Po} {rest : List Stmt} {cn : Nat} {fs gs : List (Str × D)} {R R' : List D → D → Prop} {op : Operator} {m m' : Str}
theorem inst_of {X : Cx} {pins : List (Addr × Obj)} {σ : L2.St} {H : Hp} {s : Shared} {a C dx : Addr} {vs : List (Str × V)} (I : Inv X pins σ H s) (h : H a = some (.ins C dx vs)) : ∃ od, PySem.W.InstAt s.heap a (PySem.W.instObj C dx) C (some od) := by
  obtain ⟨mA, J, _⟩ := ins_get I.hok h
  obtain ⟨od, J, _⟩ := J.look
  exact ⟨od, J⟩
theorem looks_ty {X : Cx} {pins : List (Addr × Obj)} {σ : L2.St} {H : Hp} {s : Shared} {x : V} {u t : Value} (I : Inv X pins σ H s) (r : RelV x u) (ty : TyX X.K H x t) (M : Model) : PySem.W.Looks M s.heap (typeOf u) t := by
  obtain ⟨P, Z, hp, _⟩ := kit_of I r ty
  exact Z.ty M s.heap I.kIn hp
theorem od_eqO [Calm F] {kb : Bool} (mt : Met F.P F.w F.C F.mg F.base k cn "__eq__" (spP F.C R)) (hk : k ≤ F.k) (ho : ∀ c fs, y = .obj c fs → F.C.has c = true → InsF F.C.K (F.C.cl c)) (hn : plD y = true) (hf : PySem.W.notFirst F.C.K (F.C.cl cn) (tyD F.C y) = true) (hR : R [.obj cn fs, y] (.bl kb)) : OpD F (compareOp .Eq) (.obj cn fs) y (.bl kb) := by
  obtain ⟨f, fd, ps, G, hc, hme, hb⟩ := mt
  refine ⟨fun x y' H Q => ∃ a dx vs, x = .ref a ∧ H a = some (.ins (F.C.cl cn) dx vs) ∧ TyX F.C.K H y' (tyD F.C y) ∧ spP F.C R [x, y'] H Q E0, fun l => ?_, fun G H u v s hu hv Q q => ?_⟩
  · intro pins s σ H x y' v u Q I rx ry h
    obtain ⟨a, dx, vs, rfl, ha, ty, hsp⟩ := h
    cases rx
    obtain ⟨od, J⟩ := inst_of I ha
    obtain ⟨mm, hFr⟩ := I.fr
    show wpAny _ _ (richCompare .Eq _ _) _ _ _
    refine PySem.W.cmp_K (op := .Eq) (F.units0 l) hFr I.ok.mod.kin J (looks_ty I ry (by rw [F.hK l]; exact ty) _) (by rw [F.hK l]; exact hf) (by rw [F.hK l]; exact hme.at_) (by rw [F.hK l]; exact hme.fn) (back_of ?_)
    exact run_fn (vs := [.ref a, y']) (dvs := []) (fn_at G) ((F.room l).mono hk) (by rw [F.hK l]; exact hb) .nil pass0 I (.cons rfl (.cons ry .nil)) hsp
  · have hu' := hu
    cases hu with
    | obj _ h1 h2 => exact ⟨_, _, _, rfl, s _ _ h1, hv.tyX s ho hn, G, _, _, hR, s, .cons hu' (.cons hv .nil), q⟩
theorem run_in1 {X : Cx} {pins : List (Addr × Obj)} {σ : L2.St} {H : Hp} {s : Shared} {Q : VK} {us : List Value} {vs : List V} {f : Addr} {fd : FuncData} {ps : List Str} {sp : Sp} (G : FnOk X.prog X.w X.K X.mg X.base CX0 k f fd ps sp) (hr : Room (k + 1) X.A) (hb : Binds X.K fd ps []) (I : Inv X pins σ H s) (r : Vals vs us) (h : sp vs H Q E0) :
    wpAny (model X.prog X.w) X.A.in1 (call (.ref f) us) (EP X pins σ Q) X.xe s := by
  have hl : (us ++ []).length = ps.length := by rw [List.append_nil, ← r.length]; exact G.len _ _ _ _ h
  refine wpAny_call (codeAny_mono (G.run X.A.in1 X.stack s H ⟨us, []⟩ us vs Q E0 hr.in1 I.env0.in1 (by have := hb s us I.kIn hl; rw [List.append_nil] at this; exact this) r h) fun r s' hq => ?_)
  cases r with
  | error e => exact hq.elim
  | ok fl =>
    cases fl with
    | ret u => exact I.after hq
    | next => exact False.elim hq
    | brk => exact False.elim hq
    | cont => exact False.elim hq
theorem od_neO [Calm F] {kb : Bool} (mt : Met F.P F.w F.C F.mg F.base k cn "__eq__" (spP F.C R)) (hk : k + 1 ≤ F.k) (ho : ∀ c fs, y = .obj c fs → F.C.has c = true → InsF F.C.K (F.C.cl c)) (hn : plD y = true) (hf : PySem.W.notFirst F.C.K (F.C.cl cn) (tyD F.C y) = true) (hi : InsF F.C.K (F.C.cl cn)) (hne : PySem.W.findIn F.C.K (.ref (F.C.cl cn)) "__ne__" = some (some (.builtin "object.__ne__")))
    (hR : R [.obj cn fs, y] (.bl kb)) : OpD F (compareOp .NotEq) (.obj cn fs) y (.bl (!kb)) := by
  obtain ⟨f, fd, ps, G, hc, hme, hb⟩ := mt
  refine ⟨fun x y' H Q => ∃ a dx vs, x = .ref a ∧ H a = some (.ins (F.C.cl cn) dx vs) ∧ TyX F.C.K H y' (tyD F.C y) ∧ spP F.C R [x, y'] H (fun v H' => ∃ b, v = .bl b ∧ Q (.bl (!b)) H') E0, fun l => ?_, fun G H u v s hu hv Q q => ?_⟩
  · intro pins s σ H x y' v u Q I rx ry h
    obtain ⟨a, dx, vs, rfl, ha, ty, hsp⟩ := h
    cases rx
    obtain ⟨od, J⟩ := inst_of I ha
    show wpAny _ _ (richCompare .NotEq _ _) _ _ _
    refine DLO.neO (by have := (F.roomH l).un; omega) I.kIn J (looks_ty I ry (by rw [F.hK l]; exact ty) _) (by rw [F.hK l]; exact hf) (by rw [F.hK l]; exact hi.hm) (by rw [F.hK l]; exact hne) (by rw [F.hK l]; exact hme.at_) (by rw [F.hK l]; exact hme.fn) ?_
    refine wpAny_mono (run_in1 (vs := [.ref a, y']) (fn_at G) ((F.room l).mono hk) (by rw [F.hK l]; exact hb) I (.cons rfl (.cons ry .nil)) hsp) (fun w s' hw => ?_) fun _ _ e => e
    obtain ⟨w', H', I', rw', b, rfl, q⟩ := hw
    cases rw'
    exact ⟨b, rfl, .bl (!b), H', I', rfl, q⟩
  · have hu' := hu
    cases hu with
    | obj _ h1 h2 => exact ⟨_, _, _, rfl, s _ _ h1, hv.tyX s ho hn, G, _, _, hR, s, .cons hu' (.cons hv .nil), fun v G2 H2 p dv => by cases dv; exact ⟨kb, rfl, q _ _ _ p (.bl _)⟩⟩
theorem od_eqR2 [Calm F] {i : Int} {kb : Bool} (mt : Met F.P F.w F.C F.mg F.base k cn "__eq__" (spP F.C R)) (hk : k ≤ F.k) (hF : OpF F.C.K (F.C.cl cn)) (hR : R [.obj cn fs, .int i] (.bl kb)) : OpD F (compareOp .Eq) (.int i) (.obj cn fs) (.bl kb) := by
  obtain ⟨f, fd, ps, G, hc, hme, hb⟩ := mt
  refine ⟨fun x y H Q => ∃ a j dx vs, y = .ref a ∧ x = .int j ∧ H a = some (.ins (F.C.cl cn) dx vs) ∧ spP F.C R [y, x] H Q E0, fun l => ?_, fun G H u v s hu hv Q q => ?_⟩
  · intro pins s σ H x y v u Q I rx ry h
    obtain ⟨a, j, dx, vs, rfl, rfl, ha, hsp⟩ := h
    cases ry
    obtain ⟨t, rfl⟩ := rx
    obtain ⟨od, J⟩ := inst_of I ha
    show wpAny _ _ (richCompare .Eq _ _) _ _ _
    refine DLO.eqR (F.units0 l) I.kIn J (by rw [F.hK l]; exact hme.at_) (by rw [F.hK l]; exact hme.fn) (by rw [F.hK l]; exact hF.ci) (back_of ?_)
    exact run_fn (vs := [.ref a, .int j]) (dvs := []) (fn_at G) ((F.room l).mono hk) (by rw [F.hK l]; exact hb) .nil pass0 I (.cons rfl (.cons ⟨t, rfl⟩ .nil)) hsp
  · have hu' := hu
    have hv' := hv
    cases hv with
    | obj _ h1 h2 => cases hu with
      | int => exact ⟨_, _, _, _, rfl, rfl, s _ _ h1, G, _, _, hR, s, .cons hv' (.cons hu' .nil), q⟩
theorem do_call [Calm F] {R : List D → List D → Prop} {gs : List D} (c : Cal F.P F.w F.C F.mg F.base k nm (spO F.C R)) (ha : DA F (e :: es) S S1 ds) (hR : R ds gs) (hk : k ≤ F.k := by exact Nat.le_of_ble_eq_true rfl)
    (hg : ∀ i, Gl (F.X i) nm := by intro _; rfl) (hdb : (nm == ("__debug__" : Str)) = false := by decide)
    (he : ∀ i, starEach (e :: es) (F.X i).env = (false, eval e (F.X i).env) :: starEach es (F.X i).env := by intro _; rfl) (hpl : ∀ i, (backTo pos (starEach es (F.X i).env)).any (·.1) = false := by intro _; rfl) : DO F (.Call (.Name nm p) (e :: es) [] pos) S S1 gs := by
  obtain ⟨f, fd, ps, G, hm, hkp, hb⟩ := c
  refine do_of (te := tCall (spO F.C R) [] E0 (anyA F (e :: es))) (fun i => pe_call (fn_at G) ((F.room i).mono hk) (hg i) (by rw [F.hmg i]; exact hm) (by rw [F.hK i]; exact hkp) (by rw [F.hK i]; exact hb) .nil pass0 (anyA_ok i) hdb (he i) (hpl i)) ?_
  intro σ G H cx Q q
  refine ha σ G H cx _ fun vs G1 H1 m dl => ?_
  refine ⟨G1, ds, gs, hR, m.cx.sub, by rw [List.append_nil]; exact dl, fun p ev G2 H2 pu hp g2 h2 de => ?_⟩
  have hp0 : H p = none := by
    cases r : H p with
    | none => rfl
    | some o => exact absurd hp (m.go.dom p (by rw [r]; simp))
  exact q p ev G2 H2 (m.pu pu) hp0 g2 h2 de
end
end DL
namespace L2
open PySem PySem.Spec PyProof.Rows
def rCatK (K : PySem.W.Frag) : R2 := fun x y H Q => ∃ a b xs ys, x = V.ref a ∧ y = V.ref b ∧ SqL K H a xs ∧ SqL K H b ys ∧ xs.length + ys.length ≤ sizeLine ∧ ∀ p, H p = none → Q (.ref p) (upd H p (.lst (xs ++ ys)))
theorem op_catK {X : Cx} : OpR X (binaryOp .Add) (rCatK X.K) := by
  intro pins s σ H x y v u Q I rx ry h
  obtain ⟨l, b, xs, zs, rfl, rfl, hH, hB, hz, q⟩ := h
  cases rx
  cases ry
  obtain ⟨its, r, ⟨⟨cls, dd, data, sl⟩, n, ho, hc, hdd, hd⟩, _⟩ := I.list hH
  obtain ⟨its2, r2, ⟨⟨cls2, dd2, data2, sl2⟩, n2, ho2, hc2, hdd2, hd2⟩, _⟩ := I.list hB
  simp only at hc hd hc2 hd2
  subst hc hd hc2 hd2
  refine concat_meets ⟨_, ho, rfl⟩ ⟨_, ho2, rfl⟩ noFill_list_add seq_list_add PySem.F.slot_list_add PySem.F.entry_list_add (PySem.F.args_list_add_2 _ _) (list_addW l b its.toArray its2.toArray n n2 dd dd2 sl sl2 (by rw [List.size_toArray, List.size_toArray, ← r.length, ← r2.length]; exact hz)) ⟨ho, ho2, ?_⟩
  have ea : its.toArray ++ its2.toArray = (its ++ its2).toArray := by simp
  rw [ea]
  exact ⟨.ref _, _, I.lnew (t' := s.toks) (r.append r2) (by rw [List.length_append]; omega), rfl, q _ I.fresh⟩
end L2
namespace DL
open PySem L2
variable [TabL]
section
variable {F : Fam} {S S1 S2 S3 : ST} {e a b c : Expr} {d x y z : D} {pos p apos : Pos} {es : List Expr} {ds : List D} {k : Bool} {nm : Str} {P : Po} {rest : List Stmt}
theorem de_ixS {i : Int} {t : Str} {cc : Nat} (ha : DE F a S S1 (.str t)) (hb : DE F b S1 S2 (.int i)) (hl : t.length ≤ sizeLine) (hi : atI t.cps.toList i = some cc) (hs : PlainIx b := by intro _ _; rfl) : DE F (.Subscript a b pos) S S2 (.str ⟨#[cc]⟩) :=
  de_of (te := tOp rIxS (anyE F a) (anyE F b)) (fun j => pe_ix (pos := pos) (ix_str (X := F.X j)) (anyE_ok (e := a) j) (anyE_ok (e := b) j) hs)
    (ev_op (fun G H u v s hu hv Q q => by
      cases hu; cases hv
      exact ⟨t, i, cc, rfl, rfl, hl, hi, q _ _ _ (.refl s) (.str _)⟩) ha hb)
def anyO (F : Fam) (o : Option Expr) : TO := fun σ H Q => ∃ te, (∀ i, PO (F.X i) o te) ∧ te σ H Q
theorem anyO_ok {o : Option Expr} (i : F.I) : PO (F.X i) o (anyO F o) := ⟨fun pins s σ H Q I h => let ⟨te, h1, h2⟩ := h; (h1 i).run pins s σ H Q I h2⟩
def DOp (F : Fam) (o : Option Expr) (S S' : ST) (i : Option Int) : Prop := ∀ σ G H, Ctx F.C G H σ S → ∀ Q : Option Int → Hp → Prop, (∀ G2 H2, Mv F.C σ S G H S' G2 H2 → Q i H2) → anyO F o σ H Q
theorem do_none : DOp F none S S none := fun σ G H c Q q => ⟨tNoPart, fun _ => po_none, q G H (.refl c)⟩
theorem do_some {i : Int} (h : DE F e S S1 (.int i)) : DOp F (some e) S S1 (some i) := fun σ G H c Q q => ⟨tPart (anyE F e), fun l => po_some (anyE_ok l), h σ G H c _ fun v G1 H1 m dv => by cases dv; exact ⟨i, rfl, q G1 H1 m⟩⟩
def cutD (xs : List D) (lo hi : Option Int) : List D := (xs.drop (HT.sIx xs.length 0 lo)).take (HT.sIx xs.length xs.length hi - HT.sIx xs.length 0 lo)
theorem DenL.cut {C : Kc} {G : Hp} {vs : List V} {ds : List D} (h : DenL C G vs ds) (lo hi : Option Int) : DenL C G (cutV vs lo hi) (cutD ds lo hi) := by
  unfold cutV cutD
  rw [h.length]
  exact (h.drop _).take _
variable {lo hi : Option Expr} {l h : Option Int} {p2 : Pos}
theorem do_sliceL (ha : DE F e S S1 (.lst ds)) (hl : DOp F lo S1 S2 l) (hh : DOp F hi S2 S3 h) : DO F (.Subscript e (.Slice lo hi none p2) pos) S S3 (cutD ds l h) :=
  do_of (te := tSl (rSlL F.C.K) (anyE F e) (anyO F lo) (anyO F hi)) (fun i => by have := pe_slice (p2 := p2) (pos := pos) (sl_list (X := F.X i)) (anyE_ok (e := e) i) (anyO_ok (o := lo) i) (anyO_ok (o := hi) i); rw [F.hK i] at this; exact this) fun σ G H c Q q =>
    ha σ G H c _ fun v G1 H1 m1 dv => hl σ G1 H1 m1.cx _ fun G2 H2 m2 => hh σ G2 H2 m2.cx _ fun G3 H3 m3 => by
      cases dv with
      | @lst o vs _ h1 h2 =>
        have m := (m1.trans m2).trans m3
        refine ⟨o, vs, rfl, m3.cx.sub.seq (m3.go.gg.seq (m2.go.gg.seq h1)), fun p hp => ?_⟩
        have sm : Same H3 (upd H3 p (.lst (cutV vs l h))) := fun a u hh => by rw [upd_ne (ne_of_none hh hp)]; exact hh
        exact q p _ G3 _ (m.trans (m3.cx.mv (Same.kt sm) (fun _ _ h => h) (m3.cx.sub.trans sm) fun _ _ h => h)) (back_none m.go hp) (m3.cx.sub.free hp) upd_same (((h2.mono m2.go.gg).mono m3.go.gg).cut l h)
theorem de_sliceL (ha : DE F e S S1 (.lst ds)) (hl : DOp F lo S1 S2 l) (hh : DOp F hi S2 S3 h) : DE F (.Subscript e (.Slice lo hi none p2) pos) S S3 (.lst (cutD ds l h)) := de_do (do_sliceL ha hl hh)
theorem de_sliceT (ha : DE F e S S1 (.tup ds)) (hl : DOp F lo S1 S2 l) (hh : DOp F hi S2 S3 h) : DE F (.Subscript e (.Slice lo hi none p2) pos) S S3 (.tup (cutD ds l h)) :=
  de_of (te := tSl (rSlA F.C.K) (anyE F e) (anyO F lo) (anyO F hi)) (fun i => by have := pe_slice (p2 := p2) (pos := pos) (sl_tupA (X := F.X i)) (anyE_ok (e := e) i) (anyO_ok (o := lo) i) (anyO_ok (o := hi) i); rw [F.hK i] at this; exact this) fun σ G H c Q q =>
    ha σ G H c _ fun v G1 H1 m1 dv => hl σ G1 H1 m1.cx _ fun G2 H2 m2 => hh σ G2 H2 m2.cx _ fun G3 H3 m3 => by
      cases dv with
      | @tup o vs _ h1 h2 =>
        have m := (m1.trans m2).trans m3
        have h1' := same_t m3.go.gg (same_t m2.go.gg h1)
        have h2' := (h2.mono m2.go.gg).mono m3.go.gg
        refine ⟨o, vs, rfl, same_t m3.cx.sub h1', fun w => ?_, fun _ p hp => ?_⟩
        · have e : cutV vs l h = vs := by unfold cutV; rw [w.1, w.2]; simp
          have := h2'.cut l h
          rw [e] at this
          exact q _ _ _ m (.tup h1' this)
        · have pn := m3.cx.pu (Pu.new (o := .tup (cutV vs l h)) m3.cx.sub hp)
          exact q _ _ _ (m.trans pn) (.tup (SqT.of upd_same) ((h2'.cut l h).mono pn.go.gg))
theorem de_sliceS {t : Str} (ha : DE F e S S1 (.str t)) (hl : DOp F lo S1 S2 l) (hh : DOp F hi S2 S3 h) (hz : t.length ≤ sizeLine) : DE F (.Subscript e (.Slice lo hi none p2) pos) S S3 (.str (cutS t l h)) :=
  de_of (te := tSl rSlS (anyE F e) (anyO F lo) (anyO F hi)) (fun i => pe_slice (p2 := p2) (pos := pos) (sl_str (X := F.X i)) (anyE_ok (e := e) i) (anyO_ok (o := lo) i) (anyO_ok (o := hi) i)) fun σ G H c Q q =>
    ha σ G H c _ fun v G1 H1 m1 dv => hl σ G1 H1 m1.cx _ fun G2 H2 m2 => hh σ G2 H2 m2.cx _ fun G3 H3 m3 => by
      cases dv
      exact ⟨t, rfl, hz, q _ _ _ ((m1.trans m2).trans m3) (.str _)⟩
theorem od_addS {i j : Str} (h : i.length + j.length ≤ sizeLine) : OpD F (binaryOp .Add) (.str i) (.str j) (.str (i ++ j)) := ⟨_, fun _ => op_add_str, fun G H u v s hu hv Q q => by
  cases hu; cases hv
  exact ⟨i, j, rfl, rfl, h, q _ _ _ (.refl s) (.str _)⟩⟩
theorem od_catT {xs ys : List D} (h : xs.length + ys.length ≤ sizeLine) : OpD F (binaryOp .Add) (.tup xs) (.tup ys) (.tup (xs ++ ys)) :=
  ⟨rCatA F.C.K, fun i => by have := op_catA (X := F.X i); rw [F.hK i] at this; exact this, fun G H u v s hu hv Q q => by
    cases hu with
    | @tup a vs _ h1 h2 => cases hv with
      | @tup b ws _ h3 h4 =>
        refine ⟨a, b, vs, ws, rfl, rfl, same_t s h1, same_t s h3, by rw [h2.length, h4.length]; exact h, fun e => ?_, fun _ e => ?_, fun _ _ p hp => ?_⟩
        · subst e
          cases h2
          exact q _ _ _ (.refl s) (.tup h3 h4)
        · subst e
          cases h4
          exact q _ _ _ (.refl s) (by rw [List.append_nil]; exact .tup h1 h2)
        · exact q _ _ _ (Pu.new s hp) (.tup (SqT.of upd_same) ((h2.append h4).mono (Pu.new s hp).gg))⟩
theorem od_catL {xs ys : List D} (h : xs.length + ys.length ≤ sizeLine) : OpD F (binaryOp .Add) (.lst xs) (.lst ys) (.lst (xs ++ ys)) :=
  ⟨rCatK F.C.K, fun i => by have := op_catK (X := F.X i); rw [F.hK i] at this; exact this, fun G H u v s hu hv Q q => by
    cases hu with
    | @lst a vs _ h1 h2 => cases hv with
      | @lst b ws _ h3 h4 =>
        exact ⟨a, b, vs, ws, rfl, rfl, s.seq h1, s.seq h3, by rw [h2.length, h4.length]; exact h, fun p hp => q _ _ _ (Pu.new s hp) (.lst (SqL.of upd_same) ((h2.append h4).mono (Pu.new s hp).gg))⟩⟩
end
end DL
namespace DL
open PySem L2
variable [TabL]
def spLaw (K : PySem.W.Frag) : Sp := fun vs H Q _ => ∃ (a : Addr) (ns : List Int), vs = [.ref a] ∧ ns.length ≤ 63 ∧ LamX.Tabs TabL.T H ∧ SqL K H a (ns.map V.int) ∧ ∀ H', Q (.bl true) H'
def noTab (H : Hp) : Hp := fun a => if (TabL.T.map (·.1)).contains a = true then none else H a
theorem noTab_sub {H : Hp} (t : LamX.Tabs TabL.T H) : Sub (noTab H) H := ⟨fun a o h => by
  unfold noTab at h
  split at h
  · cases h
  · exact h, t, fun p hp => by
  unfold noTab
  rw [if_pos (by rw [List.contains_iff_mem]; exact List.mem_map.mpr ⟨p, hp, rfl⟩)]⟩
theorem noTab_at {H : Hp} (t : LamX.Tabs TabL.T H) {a : Addr} {o : HO} (h : H a = some o) (n : NT o) : noTab H a = some o := by
  unfold noTab
  rw [if_neg fun z => ?_]
  · exact h
  · rw [List.contains_iff_mem] at z
    obtain ⟨p, hp, e⟩ := List.mem_map.mp z
    exact tabs_ne t h n p hp e
theorem noTab_seq {K : PySem.W.Frag} {H : Hp} (t : LamX.Tabs TabL.T H) {a : Addr} {xs : List V} (h : SqL K H a xs) : SqL K (noTab H) a xs := by
  rcases h with (h | ⟨o, h⟩) | h
  · exact .inl (.inl (noTab_at t h nt_lst))
  · exact .inl (.inr ⟨o, noTab_at t h fun _ z => nomatch z⟩)
  · exact .inr h
theorem denL_ints {C : Kc} {G : Hp} : ∀ ns : List Int, DenL C G (ns.map V.int) (ns.map D.int)
  | [] => .nil
  | n :: ns => .cons (.int n) (denL_ints ns)
section
variable {P : Program} {w : World} {C : Kc} {mg : Str → Option Value} {base : Heap} {f : Addr} {fd : FuncData} {k : Nat} {ps : List Str}
variable {x qual : Str} {st : Stmt} {sp : Sp}
theorem cal_mk (ok : FnOk P w C.K mg base CX0 k f fd ps sp) (F : Fun C.K x qual st f fd) (b : Binds C.K fd ps []) (hm : mg x = some (.ref f)) : Cal P w C mg base k x sp := ⟨f, fd, ps, ok, hm, F.kp, b⟩
theorem Fun.kbn (F : Fun C.K x qual st f fd) (n : Nat) (ks : List Str) (ix : List Nat)
    (h : ∀ (kV doc pm : Value) (an : Option Addr) (cdv ct : Value) (us ws : List Value), us.length = n → ws.length = ks.length → bindArgs (PySem.W.fnOf x qual (defArgs st) (defBody st) (defScope st) .none kV doc pm an cdv ct) ⟨us, ks.zip ws⟩ = pure (ps.zip (us ++ perm ix ws))) :
    KBn C.K fd ps n ks (fun us ws => us ++ perm ix ws) (fun vs zs => vs ++ perm ix zs) := by
  obtain ⟨oc, od, kV, doc, pm, an, cdv, ct, osl, rfl, lk, hcd⟩ := F.ex
  exact ⟨fun s us ws X l1 l2 => .of_eq (h kV doc pm an cdv ct us ws l1 l2), fun r1 r2 => r1.append (DL.Vals.perm r2 ix)⟩
end
end DL
namespace DL
open PySem L2
variable [TabL]
section
variable {F : Fam} {S S1 S2 S3 : ST} {e a b c : Expr} {d x y z : D} {pos p apos : Pos} {es : List Expr} {ds : List D} {k : Nat} {nm : Str} {P : Po} {rest : List Stmt} {cn : Nat} {fs : List (Str × D)} {R : List D → D → Prop}
theorem od_eqS {i j : Str} : OpD F (compareOp .Eq) (.str i) (.str j) (.bl (decide (i = j))) := ⟨_, fun _ => op_eq, fun G H u v s hu hv Q q => by
  cases hu; cases hv
  refine ⟨rfl, ?_⟩
  have e : decide (V.str i = V.str j) = decide (i = j) := by
    by_cases h : i = j
    · rw [decide_eq_true h, decide_eq_true (by rw [h])]
    · rw [decide_eq_false h, decide_eq_false (by intro z; exact h (V.str.inj z))]
  rw [e]
  exact q _ _ _ (.refl s) (.bl _)⟩
theorem od_neS {i j : Str} : OpD F (compareOp .NotEq) (.str i) (.str j) (.bl (!decide (i = j))) := ⟨_, fun _ => op_ne, fun G H u v s hu hv Q q => by
  cases hu; cases hv
  refine ⟨rfl, ?_⟩
  have e : decide (V.str i = V.str j) = decide (i = j) := by
    by_cases h : i = j
    · rw [decide_eq_true h, decide_eq_true (by rw [h])]
    · rw [decide_eq_false h, decide_eq_false (by intro z; exact h (V.str.inj z))]
  rw [e]
  exact q _ _ _ (.refl s) (.bl _)⟩
theorem ca_strI {i : Int} (h : i.natAbs.log2 < 1920) : CaD F (.type "str") [.int i] (.str (toString i)) := ⟨_, fun _ => call_str_int, fun G H us s hl Q q => by
  cases hl with
  | cons h1 l => cases h1; cases l; exact ⟨i, rfl, h, q _ _ _ (.refl s) (.str _)⟩⟩
theorem run_in2 {X : Cx} {pins : List (Addr × Obj)} {σ : L2.St} {H : Hp} {s : Shared} {Q : VK} {us : List Value} {vs : List V} {f : Addr} {fd : FuncData} {ps : List Str} {sp : Sp} (G : FnOk X.prog X.w X.K X.mg X.base CX0 k f fd ps sp) (hr : Room (k + 2) X.A) (hb : Binds X.K fd ps []) (I : Inv X pins σ H s) (r : Vals vs us) (h : sp vs H Q E0) :
    wpAny (model X.prog X.w) X.A.in1.in1 (call (.ref f) us) (EP X pins σ Q) X.xe s := by
  have hl : (us ++ []).length = ps.length := by rw [List.append_nil, ← r.length]; exact G.len _ _ _ _ h
  refine wpAny_call (codeAny_mono (G.run X.A.in1.in1 X.stack s H ⟨us, []⟩ us vs Q E0 hr.in1.in1 I.env0.in1.in1 (by have := hb s us I.kIn hl; rw [List.append_nil] at this; exact this) r h) fun r s' hq => ?_)
  cases r with
  | error e => exact hq.elim
  | ok fl =>
    cases fl with
    | ret u => exact I.after hq
    | next => exact False.elim hq
    | brk => exact False.elim hq
    | cont => exact False.elim hq
theorem ca_strO [Calm F] {t : Str} (mt : Met F.P F.w F.C F.mg F.base k cn "__str__" (spP F.C R)) (hk : k + 2 ≤ F.k) (hR : R [.obj cn fs] (.str t)) : CaD F (.type "str") [.obj cn fs] (.str t) := by
  obtain ⟨f, fd, ps, G, hc, hme, hb⟩ := mt
  refine ⟨fun xs H Q => ∃ a dx vs, xs = [.ref a] ∧ H a = some (.ins (F.C.cl cn) dx vs) ∧ spP F.C R [.ref a] H (fun v H' => ∃ b, v = .str b ∧ Q (.str b) H') E0, fun l => ?_, fun G H us s hu Q q => ?_⟩
  · intro pins s σ H xs us Q I rx h
    obtain ⟨a, dx, vs, rfl, ha, hsp⟩ := h
    cases rx with
    | cons r0 r1 =>
      cases r1
      cases r0
      obtain ⟨od, J⟩ := inst_of I ha
      refine PySem.W.kso_call ((F.room l).mono hk).in1.in1.units0 I.kIn J (by rw [F.hK l]; exact hme.at_) (by rw [F.hK l]; exact hme.fn) ?_
      refine wpAny_mono (run_in2 (vs := [.ref a]) (fn_at G) ((F.room l).mono hk) (by rw [F.hK l]; exact hb) I (.cons rfl .nil) hsp) (fun w s' hw => ?_) fun _ _ e => e
      obtain ⟨w', H', I', rw', b, rfl, q⟩ := hw
      obtain ⟨tk, rfl⟩ := rw'
      exact ⟨.str b, H', I', ⟨tk, rfl⟩, q⟩
  · cases hu with
    | cons h0 l0 =>
      have h0' := h0
      cases l0
      cases h0 with
      | obj _ h1 h2 => exact ⟨_, _, _, rfl, s _ _ h1, G, _, _, hR, s, .cons h0' .nil, fun v G2 H2 p dv => by cases dv; exact ⟨t, rfl, q _ _ _ p (.str _)⟩⟩
theorem de_fmtI {i : Int} (h : DE F e S S1 (.int i)) (hz : i.natAbs.log2 < 1920) : DE F (.FormattedValue e (-1) none pos) S S1 (.str (toString i)) :=
  de_of (te := tFmt (anyE F e)) (fun l => pe_fmt (anyE_ok l)) fun σ G H c Q q => h σ G H c _ fun v G1 H1 m dv => by cases dv; exact .inr ⟨i, rfl, hz, q _ _ _ m (.str _)⟩
theorem de_fmtS {t : Str} (h : DE F e S S1 (.str t)) (hz : t.length ≤ sizeLine) : DE F (.FormattedValue e (-1) none pos) S S1 (.str t) :=
  de_of (te := tFmt (anyE F e)) (fun l => pe_fmt (anyE_ok l)) fun σ G H c Q q => h σ G H c _ fun v G1 H1 m dv => by cases dv; exact .inl ⟨t, rfl, hz, q _ _ _ m (.str _)⟩
theorem de_join1 (h : DE F e S S1 d) : DE F (.JoinedStr [e] pos) S S1 d :=
  de_of (te := anyE F e) (fun l => pe_joined1 (anyE_ok l)) fun σ G H c Q q => h σ G H c Q q
def DJ (F : Fam) (es : List Expr) (acc : Str) (S S' : ST) (out : Str) : Prop := ∀ σ G H, Ctx F.C G H σ S → ∀ Q : Str → Hp → Prop, (∀ G2 H2, Mv F.C σ S G H S' G2 H2 → Q out H2) → tJs (es.map (anyE F)) acc σ H Q
theorem dj_nil {acc : Str} : DJ F [] acc S S acc := fun σ G H c Q q => q G H (.refl c)
theorem dj_cons {acc t out : Str} (h : DE F e S S1 (.str t)) (hz : (acc ++ t).length ≤ sizeLine) (hr : DJ F es (acc ++ t) S1 S2 out) : DJ F (e :: es) acc S S2 out := fun σ G H c Q q =>
  h σ G H c _ fun v G1 H1 m dv => by
    cases dv
    exact ⟨t, rfl, hz, hr σ G1 H1 m.cx Q fun G2 H2 m2 => q G2 H2 (m.trans m2)⟩
theorem pj_any (i : F.I) : ∀ es : List Expr, PJ (F.X i) es (es.map (anyE F))
  | [] => .nil
  | _ :: es => .cons (anyE_ok i) (pj_any i es)
theorem de_join {v1 v2 : Expr} {out : Str} (h : DJ F (v1 :: v2 :: es) Str.empty S S1 out) : DE F (.JoinedStr (v1 :: v2 :: es) pos) S S1 (.str out) :=
  de_of (fun i => pe_joined (pj_any i (v1 :: v2 :: es))) fun σ G H c Q q => h σ G H c _ fun G2 H2 m => q _ _ _ m (.str _)
theorem dg_lst {tgs : List Expr} {kk : Nat} {js : List Nat} (h : DGs F tgs ds S S1 js) (hp : ∀ i, PG (F.X i) (.Tuple tgs kk pos) (gLst (F.X i).K ds.length (anyGs F tgs)) := by intro i; exact pg_lst (Fam.calm _ i) (anyGs_ok i)) : DG F (.Tuple tgs kk pos) (.lst ds) S S1 js := fun σ G H v c dv Q q =>
  ⟨gLst F.C.K ds.length (anyGs F tgs), fun i => by have := hp i; rw [F.hK i] at this; exact this, by
    cases dv with
    | lst h1 h2 => exact ⟨_, _, rfl, c.sub.seq h1, h2.length, h σ G H _ c h2 Q q⟩⟩
end
end DL
namespace DL
open PySem PySem.Spec PyProof.Rows L2
variable [TabL]
structure FnG (P : Program) (w : World) (K : PySem.W.Frag) (mg : Str → Option Value) (base : Heap) (k : Nat) (f : Addr) (fd : FuncData) (ps : List Str) (sp : Sp) : Prop where
  size : ∀ vs H Q E, sp vs H Q E → vs.length = ps.length
  runs : ∀ (A : Around), Room k A → A.guards = some [] → ∀ (outer : List Env) (s : Shared) (H : Hp), Env0 P w K mg base A outer s H → ∀ (args : Args) (us : List Value), BindsTo s fd args (ps.zip us) → ∀ (vs : List V) (Q : VK) (E : XK), Vals vs us → sp vs H Q E → codeAny (model P w) A (.call (.ref f) args) (CR CX0 outer P w H s Q E) s
section
variable {P : Program} {w : World} {K : PySem.W.Frag} {mg : Str → Option Value} {base : Heap} {k : Nat} {f : Addr} {fd : FuncData} {ps : List Str} {sp sp' : Sp}
theorem FnG.of (F : FnOk P w K mg base CX0 k f fd ps sp) : FnG P w K mg base k f fd ps sp := ⟨F.len, fun A hr _ outer s H e args us b vs Q E r q => F.run A outer s H args us vs Q E hr e b r q⟩
theorem FnG.imp (F : FnG P w K mg base k f fd ps sp) (h : ∀ vs H Q E, sp' vs H Q E → sp vs H Q E) : FnG P w K mg base k f fd ps sp' := ⟨fun vs H Q E q => F.size vs H Q E (h _ _ _ _ q), fun A hr hA outer s H e args us b vs Q E r q => F.runs A hr hA outer s H e args us b vs Q E r (h _ _ _ _ q)⟩
theorem okG {x qual : Str} {st : Stmt} {N : List Str} (F : Fun K x qual st f fd) (Sc : FnScope N ps (defScope st)) (len : ∀ vs H Q E, sp vs H Q E → vs.length = ps.length)
    (hbody : ∀ (cdv : Value) (A : Around) (outer : List Env) (s : Shared) (H : Hp) (vs : List V) (Q : VK) (E : XK), Room k (A.deeper (PyProof.Rows.envOfC qual (defScope st) s.heap.objs.size f cdv)) → (A.guards = some [] ∧ fd.code = cdv) → sp vs H Q E →
      ∃ t, PSs (cxOf CX0 P w K mg base N qual (defScope st) f cdv A outer s H E).nox (defBody st) t ∧ t { nx := fun _ H' => Q .non H', rt := Q } (L2.start N vs) H) : FnG P w K mg base (k + 1) f fd ps sp := by
  obtain ⟨oc, od, kV, doc, pm, an, cdv, ct, osl, rfl, lk, hcd⟩ := F.ex
  refine ⟨len, fun A hr hA outer s H en args us b vs Q E r q => ?_⟩
  have kept : ∀ a o, base.get? a = some o → s.heap.get? a = some o := fun a o h => (en.bs a o h).1
  have hK : K.In s.heap := en.mod.kin.keeps kept
  refine codeAny_call_function hr.depth (hK _ _ lk) rfl Sc.co Sc.gen rfl (PySem.W.codeRec_of hK hcd) (b _ _ _ _ ?_)
  refine wpAny_newFunctionEnv_cells Sc.kind ?_ ?_
  · rintro ⟨n, v⟩ hy
    exact (Sc.par n (List.of_mem_zip hy).1).imp id fun c => ⟨c, PySem.W.cellsFrom_some _ _ _ (.inl c)⟩
  · rintro env rfl s1 x1
    refine ⟨(en.mod.nolimit.keeps kept).keeps x1.toInCall.keep, codeAny_func ?_⟩
    obtain ⟨t, h1, h2⟩ := hbody cdv A outer s H vs Q E (hr.deeper _) ⟨hA, rfl⟩ q
    have J0 := inv_start (CX := CX0) (E := E) Sc hr.hd en (len _ _ _ _ q) r x1
    refine wpAny_mono (h1.nox.run [] s1 (L2.start N vs) H _ J0 h2) (fun fl s2 z => ?_) fun _ _ z => z
    cases fl with
    | next => obtain ⟨_, H2, J, z⟩ := z; exact ⟨.non, H2, J.os, J.bare, J.base, J.hok, rfl, z⟩
    | ret u => obtain ⟨v, _, H2, J, rv, z⟩ := z; exact ⟨v, H2, J.os, J.bare, J.base, J.hok, rv, z⟩
    | brk => obtain ⟨_, _, _, z⟩ := z; exact z.elim
    | cont => obtain ⟨_, _, _, z⟩ := z; exact z.elim
theorem run_fnG {X : Cx} {pins : List (Addr × Obj)} {σ : L2.St} {H : Hp} {s : Shared} {Q : VK} {us : List Value} {vs : List V} (hA : X.A.guards = some []) (F : FnG X.prog X.w X.K X.mg X.base k f fd ps sp) (hr : Room k X.A) (hb : Binds X.K fd ps []) (I : Inv X pins σ H s) (r : Vals vs us) (h : sp vs H Q E0) :
    wpAny (model X.prog X.w) X.A (call (.ref f) us) (EP X pins σ Q) X.xe s := by
  have hl : (us ++ []).length = ps.length := by rw [List.append_nil, ← r.length]; exact F.size _ _ _ _ h
  have bd := hb s us I.kIn hl
  rw [List.append_nil] at bd
  refine wpAny_call (codeAny_mono (F.runs X.A hr hA X.stack s H I.env0 ⟨us, []⟩ us bd vs Q E0 r h) fun z s2 hz => ?_)
  cases z with
  | error _ => exact hz.elim
  | ok fl => cases fl with
    | ret _ => exact I.after hz
    | next => exact hz.elim
    | brk => exact hz.elim
    | cont => exact hz.elim
theorem pe_callG {X : Cx} {x : Str} {p pos : Pos} {e : Expr} {es : List Expr} {t : TA} (hA : X.A.guards = some []) (F : FnG X.prog X.w X.K X.mg X.base k f fd ps sp) (hr : Room k X.A) (hg : Gl X x) (hm : X.mg x = some (.ref f)) (hk : PySem.W.keepIn X.K (.ref f) = true) (hb : Binds X.K fd ps []) (_ : Vals ([] : List V) []) (_ : True) (ha : PA X (e :: es) t)
    (hdb : (x == ("__debug__" : Str)) = false) (he : starEach (e :: es) X.env = (false, eval e X.env) :: starEach es X.env) (hpl : (backTo pos (starEach es X.env)).any (·.1) = false) : PE X (.Call (.Name x p) (e :: es) [] pos) (tCall sp [] E0 t) :=
  ⟨fun pins s σ H Q I h => wpAny_Call_Name_kw (ld_glob I hg hm (PySem.W.callWith_K (h₀ := X.base) I.ok.mod.kin hk (thn (ha.run pos pins s σ H _ I h) fun us s1 ⟨vs, H1, I1, r, q⟩ => ⟨I1.kIn, run_fnG hA F hr hb I1 r (by have q1 : sp (vs ++ []) H1 Q E0 := q; rw [List.append_nil] at q1; exact q1)⟩) he hpl) hdb)⟩
end
def CalG (P : Program) (w : World) (C : Kc) (mg : Str → Option Value) (base : Heap) (k : Nat) (x : Str) (sp : Sp) : Prop := ∃ f fd ps, FnG P w C.K mg base k f fd ps sp ∧ mg x = some (.ref f) ∧ PySem.W.keepIn C.K (.ref f) = true ∧ Binds C.K fd ps []
section
variable {F : Fam} {S S1 S2 S3 : ST} {e a b : Expr} {d x y z : D} {pos p apos : Pos} {es : List Expr} {ds : List D} {k : Nat} {nm : Str}
theorem fn_atG {i : F.I} {f : Addr} {fd : FuncData} {ps : List Str} {sp : Sp} (G : FnG F.P F.w F.C.K F.mg F.base k f fd ps sp) : FnG (F.X i).prog (F.X i).w (F.X i).K (F.X i).mg (F.X i).base k f fd ps sp := by
  rw [F.hP, F.hw, F.hK, F.hmg, F.hbase]; exact G
theorem de_callNewG [Calm F] (hG : ∀ i, (F.X i).A.guards = some []) {R : List D → List D → D → List D → Prop} {gs gs' : List D} (c : CalG F.P F.w F.C F.mg F.base k nm (spB F.C R)) (ha : DO F e S S1 gs) (hR : R [] gs d gs') (hk : k ≤ F.k := by exact Nat.le_of_ble_eq_true rfl)
    (hg : ∀ i, Gl (F.X i) nm := by intro _; rfl) (hdb : (nm == ("__debug__" : Str)) = false := by decide)
    (he : ∀ i, starEach [e] (F.X i).env = (false, eval e (F.X i).env) :: starEach [] (F.X i).env := by intro _; rfl) (hpl : ∀ i, (backTo pos (starEach [] (F.X i).env)).any (·.1) = false := by intro _; rfl) : DE F (.Call (.Name nm p) [e] [] pos) S S1 d := by
  obtain ⟨f, fd, ps, G, hm, hkp, hb⟩ := c
  refine de_of (te := tCall (spB F.C R) [] E0 (tCons (anyE F e) tNil)) (fun i => pe_callG (hG i) (fn_atG G) ((F.room i).mono hk) (hg i) (by rw [F.hmg i]; exact hm) (by rw [F.hK i]; exact hkp) (by rw [F.hK i]; exact hb) .nil trivial (pa_cons (anyE_ok i) pa_nil (he i)) hdb (he i) (hpl i)) ?_
  intro σ G H cx Q q
  refine ha σ G H cx _ fun p vs G1 H1 m hp g1 h1 dl => ?_
  have nOA : ¬ OA F.C σ S1 p := fun z => by
    rcases m.oa p z with ⟨j, es, r1, r2⟩ | ⟨o, r⟩
    · obtain ⟨a, ws, q1, _, q3, _⟩ := cx.ow j es r1
      rw [r2] at q1; cases q1; rw [hp] at q3; cases q3
    · have z := cx.bag
      rw [r] at z
      cases o with
      | lst => obtain ⟨_, _, h3, _⟩ := z; rw [hp] at h3; cases h3
      | ins => obtain ⟨_, _, _, h3, _⟩ := z; rw [hp] at h3; cases h3
      | xd => obtain ⟨_, _, h3, _⟩ := z; rw [hp] at h3; cases h3
  refine ⟨G1, p, [], vs, [], gs, d, gs', rfl, hR, m.cx.sub, g1, h1, dl, .nil, fun v G2 H2 gv' go sub g2 h2 dl' dv => ?_⟩
  refine q v G2 H2 ⟨⟨fun a o n nt h => ?_, m.go.gg.trans go.gg, fun a n h g => ?_, fun a h => go.dom a (m.go.dom a h), fun t => go.tb (m.go.tb t)⟩, ?_, m.oa⟩ dv
  · have na : a ≠ p := fun z => by rw [z, hp] at h; cases h
    exact go.keep a o na nt (m.go.keep a o n nt h)
  · have na : a ≠ p := fun z => h (by rw [z]; exact hp)
    exact go.fr a na (m.go.dom a h) (m.go.fr a n h g)
  · have c1 := m.cx
    have nb : ∀ o, S1.g ≠ some (p, o) := fun o r => nOA (.inr ⟨o, r⟩)
    refine ⟨sub, c1.len, fun i d h => ?_, fun i es h => ?_, c1.apart, c1.bg, ?_, c1.nob⟩
    · obtain ⟨v, h1, h2⟩ := c1.im i d h
      exact ⟨v, h1, h2.mono go.gg⟩
    · obtain ⟨a, ws, r1, r2, r3, r4⟩ := c1.ow i es h
      have na : a ≠ p := fun z => nOA (.inl ⟨i, es, h, by rw [← z]; exact r1⟩)
      exact ⟨a, ws, r1, go.fr a na (by rw [r3]; simp) r2, go.keep a _ na r4.nt r3, r4.mono go.gg⟩
    · have z := c1.bag
      cases r : S1.g with
      | none => trivial
      | some bo =>
        obtain ⟨b, o⟩ := bo
        have nq : b ≠ p := fun e => nb o (by rw [r, e])
        rw [r] at z
        cases o with
        | lst es => obtain ⟨h1, ws, h2, h3⟩ := z; exact ⟨go.fr b nq (by rw [h2]; simp) h1, ws, go.keep b _ nq nt_lst h2, h3.mono go.gg⟩
        | ins cc fs => obtain ⟨h1, dx, ws, h2, h3⟩ := z; exact ⟨go.fr b nq (by rw [h2]; simp) h1, dx, ws, go.keep b _ nq nt_ins h2, h3.mono go.gg⟩
        | xd es => obtain ⟨h1, ws, h2, h3⟩ := z; exact ⟨go.fr b nq (by rw [h2]; simp) h1, ws, go.keep b _ nq nt_xd h2, h3.mono go.gg⟩
end
section
variable {P : Program} {w : World} {C : Kc} {mg : Str → Option Value} {base : Heap}
theorem fnPG {x qual : Str} {st : Stmt} {f : Addr} {fd : FuncData} {N ps : List Str} {k : Nat} {R : List D → D → Prop} (F : Fun C.K x qual st f fd) (Sc : FnScope N ps (defScope st)) (len : ∀ ds d, R ds d → ds.length = ps.length)
    (body : ∀ ds d, R ds d → ∀ cdv A outer s H E hr, (A.guards = some [] ∧ fd.code = cdv) → DS (famD C mg base N Sc.nd qual (defScope st) f cdv A outer s H E k hr) (defBody st) ⟨start N ds, none⟩ { rt := fun d' _ => d' = d, nx := fun _ => d = .non }) : FnG C.P C.w C.K mg base (k + 1) f fd ps (spP C R) := by
  refine okG F Sc (fun vs H Q E h => ?_) (fun cdv A outer s H vs Q E hr hA h => ?_)
  · obtain ⟨G, ds, d, hR, _, dl, _⟩ := h
    rw [dl.length]; exact len ds d hR
  · obtain ⟨G, ds, d, hR, sub, dl, q⟩ := h
    refine ⟨_, anyS_ok (F := famD C mg base N Sc.nd qual (defScope st) f cdv A outer s H E k hr) (), ?_⟩
    have key : ∀ σ2 S2 G2 H2, Mw C (L2.start N vs) ⟨start N ds, none⟩ G H σ2 S2 G2 H2 → Pu G H G2 H2 := fun σ2 S2 G2 H2 m =>
      ⟨⟨fun a o nt h => m.go.keep a o (oa_start dl a) nt h, m.go.dom, m.go.tb⟩, m.go.gg, m.cx.sub, fun a h1 h2 => m.go.fr a (oa_start dl a) h1 h2⟩
    refine body ds d hR cdv A outer s H E hr hA (L2.start N vs) G H (ctx_start sub dl) _ ⟨fun σ2 S2 G2 H2 m e => ?_, fun v d' σ2 S2 G2 H2 m dv e => ?_, fun _ _ _ _ _ e => e.elim, fun _ _ _ _ _ e => e.elim, fun _ _ _ _ _ _ _ _ _ _ _ _ e => e.elim, fun _ _ _ _ _ _ _ _ _ _ _ _ _ e => e.elim⟩
    · exact q .non G2 H2 (key _ _ _ _ m) (by rw [e]; exact .non)
    · cases e
      exact q v G2 H2 (key _ _ _ _ m) dv
theorem fnBG {x qual : Str} {st : Stmt} {f : Addr} {fd : FuncData} {n : Str} {N ps : List Str} {k : Nat} {R : List D → List D → D → List D → Prop} (F : Fun C.K x qual st f fd) (Sc : FnScope (n :: N) ps (defScope st)) (len : ∀ ds gs d gs', R ds gs d gs' → ds.length + 1 = ps.length)
    (body : ∀ ds gs d gs', R ds gs d gs' → ∀ b cdv A outer s H E hr, (A.guards = some [] ∧ fd.code = cdv) → DS (famD C mg base (n :: N) Sc.nd qual (defScope st) f cdv A outer s H E k hr) (defBody st) ⟨startB (n :: N) ds, some (b, .lst gs)⟩
      { rt := fun d' S => d' = d ∧ S.g = some (b, .lst gs'), nx := fun S => d = .non ∧ S.g = some (b, .lst gs') }) : FnG C.P C.w C.K mg base (k + 1) f fd ps (spB C R) := by
  refine okG F Sc (fun vs H Q E h => ?_) (fun cdv A outer s H vs Q E hr hA h => ?_)
  · obtain ⟨G, b, ws, gv, ds, gs, d, gs', rfl, hR, _, _, _, _, dl, _⟩ := h
    rw [List.length_cons, dl.length]; exact len ds gs d gs' hR
  · obtain ⟨G, b, ws, gv, ds, gs, d, gs', rfl, hR, sub, gb, hb, dg, dl, q⟩ := h
    refine ⟨_, anyS_ok (F := famD C mg base (n :: N) Sc.nd qual (defScope st) f cdv A outer s H E k hr) (), ?_⟩
    have fin : ∀ v σ2 S2 G2 H2, Mw C (L2.start (n :: N) (.ref b :: ws)) ⟨startB (n :: N) ds, some (b, .lst gs)⟩ G H σ2 S2 G2 H2 → S2.g = some (b, .lst gs') → Den C G2 v d → Q v H2 := fun v σ2 S2 G2 H2 m e dv => by
      have z := m.cx.bag
      rw [e] at z
      obtain ⟨z1, gv', z2, z3⟩ := z
      exact q v G2 H2 gv' (m.go.mono fun a => oa_startB dl a) m.cx.sub z1 z2 z3 dv
    refine body ds gs d gs' hR b cdv A outer s H E hr hA _ G H (ctx_startB sub dl ⟨gb, gv, hb, dg⟩) _ ⟨fun σ2 S2 G2 H2 m e => ?_, fun v d' σ2 S2 G2 H2 m dv e => ?_, fun _ _ _ _ _ e => e.elim, fun _ _ _ _ _ e => e.elim, fun _ _ _ _ _ _ _ _ _ _ _ _ e => e.elim, fun _ _ _ _ _ _ _ _ _ _ _ _ _ e => e.elim⟩
    · exact fin .non _ _ _ _ m e.2 (by rw [e.1]; exact .non)
    · exact fin v _ _ _ _ m e.2 (e.1 ▸ dv)
theorem calG_mk {f : Addr} {fd : FuncData} {k : Nat} {ps : List Str} {x qual : Str} {st : Stmt} {sp : Sp} (ok : FnG P w C.K mg base k f fd ps sp) (F : Fun C.K x qual st f fd) (b : Binds C.K fd ps []) (hm : mg x = some (.ref f)) : CalG P w C mg base k x sp := ⟨f, fd, ps, ok, hm, F.kp, b⟩
theorem law_ofG {f : Addr} {fd : FuncData} {k : Nat} {ps : List Str} {R : List D → D → Prop} (h : FnG P w C.K mg base k f fd ps (spP C R)) (hR : ∀ is : List Int, is.length ≤ 63 → R [.lst (is.map D.int)] (.bl true)) : FnG P w C.K mg base k f fd ps (spLaw C.K) :=
  h.imp fun vs H Q E ⟨a, ns, e, hl, hT, hS, q⟩ => ⟨noTab H, _, _, hR ns hl, noTab_sub hT, by subst e; exact .cons (.lst (noTab_seq hT hS) (denL_ints ns)) .nil, fun v G2 H2 _ d => by cases d; exact q _⟩
end
section
variable {P : Program} {w : World} {K : PySem.W.Frag} {mg mb : Str → Option Value} {s : Shared} {H : Hp} {a : Addr} {vs : List Value} {ns : List Int}
end
end DL
namespace DL
open PySem PySem.Spec PyProof.Rows L2
variable [TabL]
structure Rep (n W : Nat) (d : D) : Prop where
  ok : okP d = true
  sh : (toP d).showable = true
  ls : (toP d).leavesShort 100 = true
  nd : (toP d).hasDict = false
  dp : (toP d).depth ≤ n
  wt : (toP d).weight ≤ W
  cl : (toP d).canLay0 = true
structure RepL (n W : Nat) (d : List D) : Prop where
  ok : okPs d = true
  sh : PyData.showableAll (toPs d) = true
  ls : PyData.leavesShortAll 100 (toPs d) = true
  nd : PyData.hasDictAll (toPs d) = false
  dp : PyData.depthAll (toPs d) ≤ n
  wt : PyData.weightAll (toPs d) ≤ W
  cl : PyData.canLayAll0 (toPs d) = true
theorem rep_bl (b : Bool) : Rep 0 0 (.bl b) := ⟨rfl, rfl, rfl, rfl, Nat.le_refl _, Nat.le_refl _, rfl⟩
theorem rep_str {x : Str} {n : Nat} (h : ∀ c ∈ x.cps.toList, c < 1114112) (hn : x.length ≤ n) : Rep 0 n (.str x) :=
  ⟨rfl, rfl, by
    show (x.cps.toList.all fun c => decide (c < 16 ^ 8)) = true
    rw [List.all_eq_true]
    intro c hc
    have := h c hc
    exact decide_eq_true (by omega), rfl, Nat.le_refl _, hn, by
    show x.cps.all (· < 0x110000) = true
    rw [Array.all_eq_true_iff_forall_mem]
    intro c hc
    exact decide_eq_true (h c (Array.mem_toList_iff.mpr hc))⟩
theorem rep_nil {n : Nat} : RepL n 0 [] := ⟨rfl, rfl, rfl, rfl, Nat.zero_le _, Nat.le_refl _, rfl⟩
theorem rep_cons {n W W' : Nat} {d : D} {ds : List D} (h : Rep n W d) (r : RepL n W' ds) : RepL n (W + 1 + W') (d :: ds) := by
  refine ⟨?_, ?_, ?_, ?_, ?_, ?_, ?_⟩
  · show (okP d && okPs ds) = true; rw [h.ok, r.ok]; rfl
  · show (PyData.showable (toP d) && PyData.showableAll (toPs ds)) = true; rw [h.sh, r.sh]; rfl
  · show (PyData.leavesShort 100 (toP d) && PyData.leavesShortAll 100 (toPs ds)) = true; rw [h.ls, r.ls]; rfl
  · show (PyData.hasDict (toP d) || PyData.hasDictAll (toPs ds)) = false; rw [h.nd, r.nd]; rfl
  · show Nat.max (toP d).depth (PyData.depthAll (toPs ds)) ≤ n; exact Nat.max_le.mpr ⟨h.dp, r.dp⟩
  · show (toP d).weight + 1 + PyData.weightAll (toPs ds) ≤ _; have := h.wt; have := r.wt; omega
  · show (PyData.canLay0 (toP d) && PyData.canLayAll0 (toPs ds)) = true; rw [h.cl, r.cl]; rfl
theorem Rep.mono {n W n' W' : Nat} {d : D} (h : Rep n W d) (h1 : n ≤ n') (h2 : W ≤ W') : Rep n' W' d := ⟨h.ok, h.sh, h.ls, h.nd, Nat.le_trans h.dp h1, Nat.le_trans h.wt h2, h.cl⟩
theorem RepL.mono {n W n' W' : Nat} {d : List D} (h : RepL n W d) (h1 : n ≤ n') (h2 : W ≤ W') : RepL n' W' d := ⟨h.ok, h.sh, h.ls, h.nd, Nat.le_trans h.dp h1, Nat.le_trans h.wt h2, h.cl⟩
theorem rep_all {n W : Nat} : ∀ {ds : List D}, (∀ d ∈ ds, Rep n W d) → RepL n ((W + 1) * ds.length) ds
  | [], _ => rep_nil
  | d :: ds, h => (rep_cons (h d List.mem_cons_self) (rep_all fun x hx => h x (List.mem_cons_of_mem _ hx))).mono (Nat.le_refl _) (by rw [List.length_cons, Nat.mul_succ]; omega)
theorem rep_tup {n W : Nat} {ds : List D} (h : RepL n W ds) : Rep (n + 1) W (.tup ds) := ⟨h.ok, h.sh, h.ls, h.nd, by show PyData.depthAll (toPs ds) + 1 ≤ n + 1; have := h.dp; omega, h.wt, h.cl⟩
theorem rep_lst {n W : Nat} {ds : List D} (h : RepL n W ds) : Rep (n + 1) W (.lst ds) := ⟨h.ok, h.sh, h.ls, h.nd, by show PyData.depthAll (toPs ds) + 1 ≤ n + 1; have := h.dp; omega, h.wt, h.cl⟩
theorem Rep.shaped {n W : Nat} {d : D} (h : Rep n W d) (hn : n ≤ 60 := by decide) : SeqAt.shaped (toP d) = true := by
  have := h.dp
  show ((toP d).canLay0 && decide ((toP d).depth ≤ 64)) = true
  rw [h.cl, decide_eq_true (by omega)]; rfl
def isSeqD : D → Bool
  | .tup _ => true
  | .lst _ => true
  | _ => false
section
variable {F : Fam} {S S1 S2 S3 : ST} {e a b c tg iter : Expr} {d x y z : D} {pos p apos : Pos} {es : List Expr} {ds : List D} {k : Nat} {nm : Str} {P : Po} {rest : List Stmt} {cn : Nat} {fs : List (Str × D)} {R : List D → D → Prop}
theorem ca_repr {n W : Nat} (hG : ∀ i, (F.X i).A.guards = some []) (h : Rep n W d) (hq : isSeqD d = true) (hn : n ≤ 60 := by decide) (hW : W ≤ 100000 := by decide) : CaD F (.builtin "repr") [d] (.str (toP d).shown) := by
  refine ⟨fun xs H Q => ∃ v, xs = [v] ∧ Dp F.C.K H v (toP d) ∧ Q (.str (toP d).shown) H, fun i => ?_, fun G H us s hu Q q => ?_⟩
  · intro pins s σ H xs us Q I rx hx
    obtain ⟨v, rfl, hd, q⟩ := hx
    cases rx with
    | @cons _ u _ _ r0 r1 =>
      cases r1
      have hd' : Dp (F.X i).K H v (toP d) := by rw [F.hK i]; exact hd
      obtain ⟨as, rd⟩ := Dp.reads I _ _ _ hd' r0
      have hr := (F.units i)
      have hsz := PyData.shown_le 100 (by decide) (toP d) h.ls
      have hwt := h.wt
      have hdp := h.dp
      have hu : ∃ ad, u = .ref ad := by
        cases d with
        | tup xs =>
          have hd2 : Dp F.C.K H v (.tuple (toPs xs)) := hd
          cases hd2
          cases r0
          exact ⟨_, rfl⟩
        | lst xs =>
          have hd2 : Dp F.C.K H v (.list (toPs xs)) := hd
          cases hd2
          cases r0
          exact ⟨_, rfl⟩
        | _ => cases hq
      obtain ⟨ad, rfl⟩ := hu
      refine repr_of_reads' rd h.sh (fun z => by rw [h.nd] at z; cases z) (hG i) (by omega) (fun _ _ z => z) (fun h' t tk kp => ⟨.str _, H, I.kept kp, ⟨t, rfl⟩, q⟩) ?_
      have e : sizeLine = 16777216 := by decide
      omega
  · cases hu with
    | cons h0 l => cases l; exact ⟨_, rfl, h0.dp s h.ok, q _ _ _ (.refl s) (.str _)⟩
theorem od_ltS {i j : Str} : OpD F (compareOp .Lt) (.str i) (.str j) (.bl (decide (i.cps.toList < j.cps.toList))) := ⟨_, fun _ => op_lt_str, fun G H u v s hu hv Q q => by
  cases hu; cases hv
  exact ⟨i, j, rfl, rfl, q _ _ _ (.refl s) (.bl _)⟩⟩
def signsD (x : Str) : List D := x.cps.toList.map fun c => D.str ⟨#[c]⟩
theorem itd_str {C : Kc} {G : Hp} {x : Str} : ItD C (Its x) G (signsD x) where
  go := fun i _ _ hi _ _ => by
    unfold signsD at hi
    rw [List.length_map] at hi
    exact hi
  yld := fun i d G H v H' hd s s2 hy => by
    obtain ⟨rfl, c, hc, rfl⟩ := hy
    unfold signsD at hd
    rw [List.getElem?_map, Array.getElem?_toList, hc] at hd
    cases hd
    exact ⟨G, .refl s2, .str _⟩
  stop := fun i _ _ hi _ _ => by
    unfold signsD at hi
    rw [List.length_map] at hi
    exact hi
theorem di_str {t : Str} (h : DE F iter S S1 (.str t)) : DI F tg iter S S1 (signsD t) := di_of (wi := iStr (anyE F iter)) (fun i => pi_str (tg := tg) (anyE_ok (e := iter) i)) fun σ G H c R q => h σ G H c _ fun v G1 H1 m dv => by
  cases dv
  exact ⟨t, rfl, q _ _ _ m itd_str⟩
theorem flat_ints {is : List Int} : (is.map V.int).all flatV = true := by simp [flatV]
theorem in_ints {i : Int} {is : List Int} : inV (.int i) (is.map V.int) = decide (i ∈ is) := by
  unfold inV
  rw [List.any_map]
  have : ∀ x : Int, eqV (.int x) (.int i) = decide (x = i) := fun x => by
    show decide _ = _
    first | rfl | simp
  induction is with
  | nil => simp
  | cons x r ih =>
    rw [List.any_cons, ih]
    show (eqV (.int x) (.int i) || _) = _
    rw [this]
    simp [List.mem_cons, eq_comm]
theorem ca_lenO [Calm F] {i : Int} (mt : Met F.P F.w F.C F.mg F.base k cn "__len__" (spP F.C R)) (hk : k + 1 ≤ F.k) (hR : R [.obj cn fs] (.int i)) (h0 : 0 ≤ i) (h1 : i < 2 ^ 63) : CaD F (.builtin "len") [.obj cn fs] (.int i) := by
  obtain ⟨f, fd, ps, G, hc, hme, hb⟩ := mt
  refine ⟨fun xs H Q => ∃ a dx vs, xs = [.ref a] ∧ H a = some (.ins (F.C.cl cn) dx vs) ∧ spP F.C R [.ref a] H (fun v H' => v = .int i ∧ Q (.int i) H') E0, fun l => ?_, fun G H us s hu Q q => ?_⟩
  · intro pins s σ H xs us Q I rx h
    obtain ⟨a, dx, vs, rfl, ha, hsp⟩ := h
    cases rx with
    | cons r0 r1 =>
      cases r1
      cases r0
      obtain ⟨od, J⟩ := inst_of I ha
      obtain ⟨mm, hFr⟩ := I.fr
      refine PySem.W.len_K hFr I.ok.mod.kin J (by rw [F.hK l]; exact hme.at_) (by rw [F.hK l]; exact hme.fn) ?_
      refine wpAny_mono (run_in1 (vs := [.ref a]) (fn_at G) ((F.room l).mono hk) (by rw [F.hK l]; exact hb) I (.cons rfl .nil) hsp) (fun w s' hw => ?_) fun _ _ e => e
      obtain ⟨w', H', I', rw', rfl, q⟩ := hw
      obtain ⟨tk, rfl⟩ := rw'
      exact ⟨⟨h0, h1⟩, .int i, H', I'.tok _, ⟨_, rfl⟩, q⟩
  · cases hu with
    | cons h0 l0 =>
      have h0' := h0
      cases l0
      cases h0 with
      | obj _ h1 h2 => exact ⟨_, _, _, rfl, s _ _ h1, G, _, _, hR, s, .cons h0' .nil, fun v G2 H2 p dv => by cases dv; exact ⟨rfl, q _ _ _ p (.int _)⟩⟩
end
end DL
namespace DLE
open PySem PySem.Spec PyProof.Rows L2
end DLE
namespace DL
open PySem L2
variable [TabL]
section
variable {F : Fam} {S S1 S2 S3 : ST} {e : Expr} {p : Pos} {ds : List D}
end
end DL
namespace DL
open PySem L2
variable [TabL]
section
variable {F : Fam} {x y : D} {ds : List D}
end
theorem take_one {α : Type} {l : List α} {i : Nat} {x : α} (h : l[i]? = some x) : l.take (i + 1) = l.take i ++ [x] := by
  rw [List.take_succ, h]; rfl
theorem bb_isinstance : bootBuiltins "isinstance" = some (.builtin "isinstance") := by decide +kernel
theorem bb_abs : bootBuiltins "abs" = some (.builtin "abs") := by decide +kernel
theorem bb_len : bootBuiltins "len" = some (.builtin "len") := by decide +kernel
theorem bb_max : bootBuiltins "max" = some (.builtin "max") := by decide +kernel
theorem bb_min : bootBuiltins "min" = some (.builtin "min") := by decide +kernel
theorem bb_all : bootBuiltins "all" = some (.builtin "all") := by decide +kernel
theorem bb_repr : bootBuiltins "repr" = some (.builtin "repr") := by decide +kernel
theorem bb_int : bootBuiltins "int" = some (.type "int") := by decide +kernel
theorem bb_bool : bootBuiltins "bool" = some (.type "bool") := by decide +kernel
theorem bb_str : bootBuiltins "str" = some (.type "str") := by decide +kernel
end DL
namespace DL
open PySem L2
variable [TabL]
section
variable {F : Fam} {S S1 S2 S3 : ST} {a b : Expr} {p p2 pos q1 : Pos} {i j : Int}
end
end DL
namespace ND
open PySem PySem.Spec PyProof.Rows L2
section
variable {X : Cx} {pins : List (Addr × Obj)} {σ : L2.St} {H : Hp} {s : Shared}
def tyN (P : Program) (w : World) : V → Hp → Prop := fun x H => ∃ (a : Addr) (o : Obj) (xs : List NEnt), x = .ref a ∧ H a = some (NDO P w a o xs)
end
end ND
namespace DL
open PySem L2
variable [TabL]
section
variable {F : Fam} {S S1 S2 S3 : ST} {e : Expr} {p : Pos} {ds : List D}
end
end DL
namespace ND
open PySem PySem.Spec PyProof.Rows L2
section
variable {X : Cx}
end
end ND
namespace DL
open PySem L2
variable [TabL]
section
variable {F : Fam} {S S1 S2 S3 : ST} {kx vx tg iter : Expr} {pos p : Pos} {ds : List D} {P : Po} {rest : List Stmt} {ifs : List Expr} {scope : Scope} {own : List (Str × Nat)}
end
end DL
namespace ND
open PySem PySem.Spec PyProof.Rows L2
section
variable {X : Cx} {pins : List (Addr × Obj)} {σ : L2.St} {H : Hp} {s : Shared}
end
end ND
namespace DL
open PySem L2
variable [TabL]
section
variable {F : Fam} {S S1 S2 S3 : ST} {e b tg : Expr} {p pos : Pos} {ds : List D} {d : D}
inductive PairsD : List D → List (D × D) → List (D × D) → Prop where
  | nil (acc : List (D × D)) : PairsD [] acc acc
  | cons {kd vd : D} {k : NestedKey} {ds : List D} {acc r : List (D × D)} : dkey kd = some k → PairsD ds (dstore k kd vd acc) r → PairsD (.tup [kd, vd] :: ds) acc r
end
end DL
namespace KD
open PySem PySem.Spec PyProof.Rows L2
section
variable {X : Cx} {pins : List (Addr × Obj)} {σ : L2.St} {H : Hp} {s : Shared}
end
end KD
namespace DL
open PySem L2 PyProof.Rows
variable [TabL]
def kOf : D → Option Key
  | .int i => some (.inl i)
  | .str x => some (.inr x)
  | _ => none
def klook (kds : List (Key × D)) (k : Key) : Option D := (kds.find? fun kv => decide (kv.1 = k)).map (·.2)
def kput (kds : List (Key × D)) (k : Key) (d : D) : List (Key × D) := if (kds.any fun kv => decide (kv.1 = k)) = true then kds.map (fun kv => if kv.1 = k then (kv.1, d) else kv) else kds ++ [(k, d)]
section
variable {C : Kc} {G : Hp}
theorem DenK.length : ∀ {xs : List (Key × V)} {kds : List (Key × D)}, DenK C G xs kds → xs.length = kds.length
  | _, _, .nil => rfl
  | _, _, .cons _ l => by rw [List.length_cons, List.length_cons, DenK.length l]
theorem DenK.is (k : Key) : ∀ {xs : List (Key × V)} {kds : List (Key × D)}, DenK C G xs kds → (valV xs k).isSome = (klook kds k).isSome
  | _, _, .nil => rfl
  | _, _, .cons (k := j) (v := v) (d := d) (vs := vs) (ds := ds) _ l => by
    have ih := DenK.is k l
    unfold valV klook at ih ⊢
    rw [List.find?_cons, List.find?_cons]
    by_cases z : j = k
    · simp [z]
    · simp only [z, decide_false]; exact ih
theorem DenK.any (k : Key) : ∀ {xs : List (Key × V)} {kds : List (Key × D)}, DenK C G xs kds → (xs.any fun kv => decide (kv.1 = k)) = kds.any fun kv => decide (kv.1 = k)
  | _, _, .nil => rfl
  | _, _, .cons _ l => by rw [List.any_cons, List.any_cons, DenK.any k l]
theorem DenK.snoc {k : Key} {v : V} {d : D} (h : Den C G v d) : ∀ {xs : List (Key × V)} {kds : List (Key × D)}, DenK C G xs kds → DenK C G (xs ++ [(k, v)]) (kds ++ [(k, d)])
  | _, _, .nil => .cons h .nil
  | _, _, .cons h1 l => .cons h1 (DenK.snoc h l)
theorem DenK.repl {k : Key} {v : V} {d : D} (h : Den C G v d) : ∀ {xs : List (Key × V)} {kds : List (Key × D)}, DenK C G xs kds → DenK C G (xs.map fun kv => if kv.1 = k then (kv.1, v) else kv) (kds.map fun kv => if kv.1 = k then (kv.1, d) else kv)
  | _, _, .nil => .nil
  | _, _, .cons (k := j) h1 l => by
    rw [List.map_cons, List.map_cons]
    by_cases z : j = k
    · rw [if_pos z, if_pos z]; exact .cons h (DenK.repl h l)
    · rw [if_neg z, if_neg z]; exact .cons h1 (DenK.repl h l)
theorem DenK.put {k : Key} {v : V} {d : D} (h : Den C G v d) {xs : List (Key × V)} {kds : List (Key × D)} (l : DenK C G xs kds) : DenK C G (putK xs k v) (kput kds k d) := by
  unfold putK kput
  rw [l.any k]
  split
  · exact l.repl h
  · exact l.snoc h
end
section
variable {F : Fam} {S S1 S2 S3 : ST} {e b tg : Expr} {p pos : Pos} {ds : List D} {d x : D}
inductive PairsK : List D → List (Key × D) → List (Key × D) → Prop where
  | nil (acc : List (Key × D)) : PairsK [] acc acc
  | cons {kd vd : D} {k : Key} {ds : List D} {acc r : List (Key × D)} : kOf kd = some k → PairsK ds (kput acc k vd) r → PairsK (.tup [kd, vd] :: ds) acc r
end
end DL
namespace SL
open PySem L2 DL
variable [TabL]
inductive O (α : Type) where
  | ok (a : α) | exc (c : Nat) (fs : List D) | bad
def O.bind {α β : Type} (o : O α) (f : α → O β) : O β := match o with
  | .ok a => f a
  | .exc c fs => .exc c fs
  | .bad => .bad
@[simp] theorem O.bind_ok {α β : Type} (a : α) (f : α → O β) : (O.ok a).bind f = f a := rfl
@[simp] theorem O.bind_exc {α β : Type} (c : Nat) (fs : List D) (f : α → O β) : (O.exc c fs : O α).bind f = .exc c fs := rfl
@[simp] theorem O.bind_bad {α β : Type} (f : α → O β) : (O.bad : O α).bind f = .bad := rfl
theorem O.bind_eq {α β : Type} {o : O α} {f : α → O β} {b : β} (h : o.bind f = .ok b) : ∃ a, o = .ok a ∧ f a = .ok b := by
  cases o with
  | ok a => exact ⟨a, rfl, h⟩
  | exc c fs => cases h
  | bad => cases h
theorem O.bind_assoc {α β γ : Type} (o : O α) (f : α → O β) (g : β → O γ) : (o.bind f).bind g = o.bind fun a => (f a).bind g := by
  cases o <;> rfl
def O.cons (o : O D) (os : O (List D)) : O (List D) := o.bind fun d => os.bind fun ds => .ok (d :: ds)
@[simp] theorem O.cons_ok (a : D) (as : List D) : O.cons (.ok a) (.ok as) = .ok (a :: as) := rfl
def asB : D → O Bool
  | .bl b => .ok b
  | _ => .bad
@[simp] theorem asB_bl (b : Bool) : asB (.bl b) = .ok b := rfl
theorem asB_eq {d : D} {b : Bool} (h : asB d = .ok b) : d = .bl b := by
  cases d <;> first | (cases h; rfl) | cases h
def tr (o : O Bool) : O D := o.bind fun b => .ok (.bl b)
@[simp] theorem tr_ok (b : Bool) : tr (.ok b) = .ok (.bl b) := rfl
theorem tr_eq {o : O Bool} {d : D} (h : tr o = .ok d) : ∃ b, o = .ok b ∧ d = .bl b := by
  obtain ⟨b, h1, h2⟩ := O.bind_eq h
  cases h2
  exact ⟨b, h1, rfl⟩
def O.ite {α : Type} (o : O Bool) (x y : O α) : O α := o.bind fun b => bif b then x else y
@[simp] theorem O.ite_true {α : Type} (x y : O α) : O.ite (.ok true) x y = x := rfl
@[simp] theorem O.ite_false {α : Type} (x y : O α) : O.ite (.ok false) x y = y := rfl
theorem O.ite_eq {α : Type} {o : O Bool} {x y : O α} {a : α} (h : O.ite o x y = .ok a) : (o = .ok true ∧ x = .ok a) ∨ (o = .ok false ∧ y = .ok a) := by
  obtain ⟨b, h1, h2⟩ := O.bind_eq h
  cases b with
  | true => exact .inl ⟨h1, h2⟩
  | false => exact .inr ⟨h1, h2⟩
def l1 {α : Type} (f : D → O α) : List D → O α
  | [a] => f a
  | _ => .bad
def l2 {α : Type} (f : D → D → O α) : List D → O α
  | [a, b] => f a b
  | _ => .bad
def l3 {α : Type} (f : D → D → D → O α) : List D → O α
  | [a, b, c] => f a b c
  | _ => .bad
def l4 {α : Type} (f : D → D → D → D → O α) : List D → O α
  | [a, b, c, d] => f a b c d
  | _ => .bad
def l5 {α : Type} (f : D → D → D → D → D → O α) : List D → O α
  | [a, b, c, d, e] => f a b c d e
  | _ => .bad
def l6 {α : Type} (f : D → D → D → D → D → D → O α) : List D → O α
  | [a, b, c, d, e, g] => f a b c d e g
  | _ => .bad
@[simp] theorem l1_ap {α : Type} (f : D → O α) (a : D) : l1 f [a] = f a := rfl
@[simp] theorem l2_ap {α : Type} (f : D → D → O α) (a b : D) : l2 f [a, b] = f a b := rfl
@[simp] theorem l3_ap {α : Type} (f : D → D → D → O α) (a b c : D) : l3 f [a, b, c] = f a b c := rfl
@[simp] theorem l4_ap {α : Type} (f : D → D → D → D → O α) (a b c d : D) : l4 f [a, b, c, d] = f a b c d := rfl
@[simp] theorem l5_ap {α : Type} (f : D → D → D → D → D → O α) (a b c d e : D) : l5 f [a, b, c, d, e] = f a b c d e := rfl
@[simp] theorem l6_ap {α : Type} (f : D → D → D → D → D → D → O α) (a b c d e g : D) : l6 f [a, b, c, d, e, g] = f a b c d e g := rfl
def un2 {α : Type} (d : D) (f : D → D → O α) : O α := match d with
  | .tup [a, b] => f a b
  | .lst [a, b] => f a b
  | _ => .bad
def un3 {α : Type} (d : D) (f : D → D → D → O α) : O α := match d with
  | .tup [a, b, c] => f a b c
  | .lst [a, b, c] => f a b c
  | _ => .bad
@[simp] theorem un2_tup {α : Type} (a b : D) (f : D → D → O α) : un2 (.tup [a, b]) f = f a b := rfl
@[simp] theorem un2_lst {α : Type} (a b : D) (f : D → D → O α) : un2 (.lst [a, b]) f = f a b := rfl
@[simp] theorem un3_tup {α : Type} (a b c : D) (f : D → D → D → O α) : un3 (.tup [a, b, c]) f = f a b c := rfl
@[simp] theorem un3_lst {α : Type} (a b c : D) (f : D → D → D → O α) : un3 (.lst [a, b, c]) f = f a b c := rfl
def DEp (F : Fam) (e : Expr) (S : ST) (o : O D) : Prop := ∀ d, o = .ok d → DE F e S S d
def DTp (F : Fam) (e : Expr) (S : ST) (o : O Bool) : Prop := ∀ b, o = .ok b → DT F e S S b
def DWp (F : Fam) (e : Expr) (S : ST) (o : O Bool) : Prop := ∀ b, o = .ok b → DW F e S S b
def DAp (F : Fam) (es : List Expr) (S : ST) (o : O (List D)) : Prop := ∀ ds, o = .ok ds → DA F es S S ds ∧ ds.length = es.length
def DKp (F : Fam) (ks : List Keyword) (S : ST) (o : O (List D)) : Prop := ∀ ds, o = .ok ds → DK F ks S S ds ∧ ds.length = ks.length
def DOp (F : Fam) (e : Expr) (S : ST) (o : O (List D)) : Prop := ∀ ds, o = .ok ds → DO F e S S ds
def DIp (F : Fam) (tg it : Expr) (S : ST) (o : O (List D)) : Prop := ∀ ds, o = .ok ds → DI F tg it S S ds
def OpS (F : Fam) (op : Operator) (p : D → D → O D) : Prop := ∀ x y z, p x y = .ok z → OpD F (binaryOp op) x y z
def CmS (F : Fam) (op : CmpOp) (p : D → D → O Bool) : Prop := ∀ x y z, p x y = .ok z → OpD F (compareOp op) x y (.bl z)
def UnS (F : Fam) (op : UnaryOp) (p : D → O D) : Prop := ∀ x z, p x = .ok z → UnD F (unaryOp op) x z
def CaS (F : Fam) (f : Value) (φ : List D → O D) : Prop := ∀ ds z, φ ds = .ok z → CaD F f ds z
section
variable {F : Fam} {S : ST} {e a b c : Expr} {d : D} {pos p : Pos} {oa ob oc oe : O D} {o ot ou : O Bool} {es : List Expr} {os : O (List D)}
theorem p_ok (h : DE F e S S d) : DEp F e S (.ok d) := fun _ q => by cases q; exact h
theorem p_var {j : Nat} {x : Str} (h : S.s[j]? = some (some (.imm d))) (hN : ∀ i, (F.X i).N[j]? = some x := by intro _; rfl)
    (hv : ∀ i, Vis (F.X i).env.scope x := by intro _; first | exact Or.inl rfl | exact Or.inr (Or.inl rfl) | exact Or.inr (Or.inr rfl))
    (hd : (x == ("__debug__" : Str)) = false := by decide) (hcd : (x == ("__classdict__" : Str)) = false := by decide) : DEp F (.Name x pos) S (.ok d) := p_ok (de_var h hN hv hd hcd)
theorem p_int {i : Int} {k : Nat} : DEp F (.Constant (.int i) k pos) S (.ok (.int i)) := p_ok de_int
theorem p_bl {i : Bool} {k : Nat} : DEp F (.Constant (.bool i) k pos) S (.ok (.bl i)) := p_ok de_bl
theorem p_non {k : Nat} : DEp F (.Constant .none k pos) S (.ok .non) := p_ok de_non
theorem p_str {i : Str} {k : Nat} : DEp F (.Constant (.str i) k pos) S (.ok (.str i)) := p_ok de_str
theorem p_glob {x : Str} {v : V} {u : Value} (hm : F.mg x = some u) (r : RelV v u) (hd : ∀ G, Den F.C G v d) (hg : ∀ i, Gl (F.X i) x := by intro _; rfl) (hb : (x == ("__debug__" : Str)) = false := by decide) : DEp F (.Name x pos) S (.ok d) := p_ok (de_glob hm r hd hg hb)
theorem p_op {op : Operator} {q : D → D → O D} (hr : OpS F op q) (ha : DEp F a S oa) (hb : DEp F b S ob) : DEp F (.BinOp a op b pos) S (oa.bind fun x => ob.bind fun y => q x y) := fun z h => by
  obtain ⟨x, h1, h⟩ := O.bind_eq h
  obtain ⟨y, h2, h⟩ := O.bind_eq h
  exact de_op (ha x h1) (hb y h2) (hr x y z h)
theorem p_un {op : UnaryOp} {q : D → O D} (hr : UnS F op q) (ha : DEp F a S oa) : DEp F (.UnaryOp op a pos) S (oa.bind q) := fun z h => by
  obtain ⟨x, h1, h⟩ := O.bind_eq h
  exact de_un (ha x h1) (hr x z h)
theorem t_cmp {op : CmpOp} {q : D → D → O Bool} (hr : CmS F op q) (ha : DEp F a S oa) (hb : DEp F b S ob) (hm : behindInMarks op b = false := by first | exact nomark _ | rfl) : DTp F (.Compare a [op] [b] pos) S (oa.bind fun x => ob.bind fun y => q x y) := fun z h => by
  obtain ⟨x, h1, h⟩ := O.bind_eq h
  obtain ⟨y, h2, h⟩ := O.bind_eq h
  exact dt_cmp (ha x h1) (hb y h2) (hr x y z h) hm
theorem p_cmp {op : CmpOp} {q : D → D → O Bool} (hr : CmS F op q) (ha : DEp F a S oa) (hb : DEp F b S ob) (hm : behindInMarks op b = false := by first | exact nomark _ | rfl) : DEp F (.Compare a [op] [b] pos) S (tr (oa.bind fun x => ob.bind fun y => q x y)) := fun z h => by
  obtain ⟨k, h0, e0⟩ := tr_eq h
  subst e0
  clear h
  have h := h0
  obtain ⟨x, h1, h⟩ := O.bind_eq h
  obtain ⟨y, h2, h⟩ := O.bind_eq h
  exact de_cmp (ha x h1) (hb y h2) (hr x y k h) hm
def chainO (oa ob oc : O D) (q r : D → D → O Bool) : O Bool := oa.bind fun x => ob.bind fun y => O.ite (q x y) (oc.bind fun z => r y z) (.ok false)
@[simp] theorem chainO_ok (x y z : D) (q r : D → D → O Bool) : chainO (.ok x) (.ok y) (.ok z) q r = O.ite (q x y) (r y z) (.ok false) := rfl
theorem t_val (h : DEp F e S oe) (he : ∀ i whole, isTrue e (F.X i).env whole = (do let v ← whole; standAt e.pos; holding [v] (truthy v)) := by intro _ _; rfl) : DTp F e S (oe.bind asB) := fun k q => by
  obtain ⟨x, h1, q⟩ := O.bind_eq q
  cases asB_eq q
  exact dt_val (h _ h1) he
theorem t_w (h : DWp F e S o) : DTp F e S o := fun k q => dt_w (h k q)
theorem w_and1 (h : DTp F a S o) : DWp F (.BoolOp .And [a] pos) S o := fun k q => dw_and1 (h k q)
theorem w_or1 (h : DTp F a S o) : DWp F (.BoolOp .Or [a] pos) S o := fun k q => dw_or1 (h k q)
theorem w_and {rest : List Expr} (h : DTp F a S ot) (h2 : DWp F (.BoolOp .And (b :: rest) pos) S ou) : DWp F (.BoolOp .And (a :: b :: rest) pos) S (O.ite ot ou (.ok false)) := fun k q => by
  rcases O.ite_eq q with ⟨h3, q⟩ | ⟨h3, q⟩
  · exact dw_and (k := true) (l := k) (h _ h3) (fun _ => h2 _ q)
  · cases q; exact dw_and (k := false) (l := false) (h _ h3) (fun z => nomatch z)
theorem w_or {rest : List Expr} (h : DTp F a S ot) (h2 : DWp F (.BoolOp .Or (b :: rest) pos) S ou) : DWp F (.BoolOp .Or (a :: b :: rest) pos) S (O.ite ot (.ok true) ou) := fun k q => by
  rcases O.ite_eq q with ⟨h3, q⟩ | ⟨h3, q⟩
  · cases q; exact dw_or (k := true) (l := false) (h _ h3) (fun z => nomatch z)
  · exact dw_or (k := false) (l := k) (h _ h3) (fun _ => h2 _ q)
theorem t_not (h : DTp F a S o) : DTp F (.UnaryOp .Not a pos) S (o.bind fun k => .ok (!k)) := fun k q => by
  obtain ⟨x, h1, q⟩ := O.bind_eq q
  cases q
  exact dt_not (h _ h1)
theorem p_one {op : BoolOp} (h : DEp F a S oa) : DEp F (.BoolOp op [a] pos) S oa := fun d q => de_one (h d q)
theorem p_and {rest : List Expr} (h : DEp F a S oa) (h2 : DEp F (.BoolOp .And (b :: rest) pos) S ob) : DEp F (.BoolOp .And (a :: b :: rest) pos) S (tr (O.ite (oa.bind asB) (ob.bind asB) (.ok false))) := fun d q => by
  obtain ⟨k, q0, e0⟩ := tr_eq q
  subst e0
  clear q
  have q := q0
  rcases O.ite_eq q with ⟨h3, q⟩ | ⟨h3, q⟩
  · obtain ⟨x, h1, h3⟩ := O.bind_eq h3
    obtain ⟨y, h4, q⟩ := O.bind_eq q
    cases asB_eq h3
    cases asB_eq q
    exact de_and (k := true) (l := k) (h _ h1) (fun _ => h2 _ h4)
  · obtain ⟨x, h1, h3⟩ := O.bind_eq h3
    cases asB_eq h3
    cases q
    exact de_and (k := false) (l := false) (h _ h1) (fun z => nomatch z)
theorem p_or {rest : List Expr} (h : DEp F a S oa) (h2 : DEp F (.BoolOp .Or (b :: rest) pos) S ob) : DEp F (.BoolOp .Or (a :: b :: rest) pos) S (tr (O.ite (oa.bind asB) (.ok true) (ob.bind asB))) := fun d q => by
  obtain ⟨k, q0, e0⟩ := tr_eq q
  subst e0
  clear q
  have q := q0
  rcases O.ite_eq q with ⟨h3, q⟩ | ⟨h3, q⟩
  · obtain ⟨x, h1, h3⟩ := O.bind_eq h3
    cases asB_eq h3
    cases q
    exact de_or (k := true) (l := false) (h _ h1) (fun z => nomatch z)
  · obtain ⟨x, h1, h3⟩ := O.bind_eq h3
    obtain ⟨y, h4, q⟩ := O.bind_eq q
    cases asB_eq h3
    cases asB_eq q
    exact de_or (k := false) (l := k) (h _ h1) (fun _ => h2 _ h4)
theorem p_not (h : DEp F a S oa) : DEp F (.UnaryOp .Not a pos) S (tr ((oa.bind asB).bind fun k => .ok (!k))) := fun d q => by
  obtain ⟨k, q0, e0⟩ := tr_eq q
  subst e0
  clear q
  have q := q0
  obtain ⟨l, h3, q⟩ := O.bind_eq q
  obtain ⟨x, h1, h3⟩ := O.bind_eq h3
  cases asB_eq h3
  cases q
  exact de_not (h _ h1)
theorem p_ifx (hc : DTp F c S ot) (h1 : DEp F a S oa) (h2 : DEp F b S ob) : DEp F (.IfExp c a b pos) S (O.ite ot oa ob) := fun d q => by
  rcases O.ite_eq q with ⟨h3, q⟩ | ⟨h3, q⟩
  · exact de_if (k := true) (hc _ h3) (fun _ => h1 _ q) (fun z => nomatch z)
  · exact de_if (k := false) (hc _ h3) (fun z => nomatch z) (fun _ => h2 _ q)
theorem a_nil : DAp F [] S (.ok []) := fun ds q => by cases q; exact ⟨da_nil, rfl⟩
theorem a_cons (h : DEp F e S oe) (hr : DAp F es S os) (hs : ∀ i, starEach (e :: es) (F.X i).env = (false, eval e (F.X i).env) :: starEach es (F.X i).env := by intro _; rfl) : DAp F (e :: es) S (O.cons oe os) := fun ds q => by
  obtain ⟨x, h1, q⟩ := O.bind_eq q
  obtain ⟨xs, h2, q⟩ := O.bind_eq q
  cases q
  obtain ⟨h3, h4⟩ := hr xs h2
  exact ⟨da_cons (h x h1) h3 hs, by rw [List.length_cons, List.length_cons, h4]⟩
theorem kw_nil : DKp F [] S (.ok []) := fun ds q => by cases q; exact ⟨dk_nil, rfl⟩
theorem kw_cons {nm : Option Str} {kpos : Pos} {ks : List Keyword} (h : DEp F e S oe) (hr : DKp F ks S os) : DKp F (⟨nm, e, kpos⟩ :: ks) S (O.cons oe os) := fun ds q => by
  obtain ⟨x, h1, q⟩ := O.bind_eq q
  obtain ⟨xs, h2, q⟩ := O.bind_eq q
  cases q
  obtain ⟨h3, h4⟩ := hr xs h2
  exact ⟨dk_cons (h x h1) h3, by rw [List.length_cons, List.length_cons, h4]⟩
theorem p_tup {x1 : Nat} (h : DAp F es S os) (hl : es.length ≤ 1000 := by decide) : DEp F (.Tuple es x1 pos) S (os.bind fun ds => .ok (.tup ds)) := fun d q => by
  obtain ⟨ds, h1, q⟩ := O.bind_eq q
  cases q
  obtain ⟨h3, h4⟩ := h ds h1
  exact de_tup h3 (Nat.le_trans (by rw [h4]; exact hl) (by decide))
theorem p_lst (h : DAp F es S os) (hl : es.length ≤ 1000 := by decide) : DEp F (.List es pos) S (os.bind fun ds => .ok (.lst ds)) := fun d q => by
  obtain ⟨ds, h1, q⟩ := O.bind_eq q
  cases q
  obtain ⟨h3, h4⟩ := h ds h1
  exact de_lst h3 (Nat.le_trans (by rw [h4]; exact hl) (by decide))
theorem o_lst (h : DAp F es S os) (hl : es.length ≤ 1000 := by decide) : DOp F (.List es pos) S os := fun ds q => by
  obtain ⟨h3, h4⟩ := h ds q
  exact do_lst h3 (Nat.le_trans (by rw [h4]; exact hl) (by decide))
theorem p_do (h : DOp F e S os) : DEp F e S (os.bind fun ds => .ok (.lst ds)) := fun d q => by
  obtain ⟨ds, h1, q⟩ := O.bind_eq q
  cases q
  exact de_do (h ds h1)
def spF (C : Kc) (φ : List D → O D) : Sp := spP C fun ds d => φ ds = .ok d
section
variable {k : Nat} {nm : Str} {kws : List Keyword} {φ : List D → O D}
theorem p_call [Calm F] (cl : Cal F.P F.w F.C F.mg F.base k nm (spF F.C φ)) (ha : DAp F (e :: es) S os) (hk : k ≤ F.k := by exact Nat.le_of_ble_eq_true rfl)
    (hg : ∀ i, Gl (F.X i) nm := by intro _; rfl) (hdb : (nm == ("__debug__" : Str)) = false := by decide)
    (he : ∀ i, starEach (e :: es) (F.X i).env = (false, eval e (F.X i).env) :: starEach es (F.X i).env := by intro _; rfl) (hpl : ∀ i, (backTo pos (starEach es (F.X i).env)).any (·.1) = false := by intro _; rfl) : DEp F (.Call (.Name nm p) (e :: es) [] pos) S (os.bind φ) := fun d q => by
  obtain ⟨ds, h1, q⟩ := O.bind_eq q
  exact de_call cl (ha ds h1).1 q hk hg hdb he hpl
theorem p_make [Calm F] {cn : Nat} {ψ : List D → O (List (Str × D))} {dd : List D} (mk : Mak F.P F.w F.C F.mg F.base k nm cn (fun ds fs => ψ ds = .ok fs) dd) (ha : DAp F (e :: es) S os) (hk : k + 1 ≤ F.k := by exact Nat.le_of_ble_eq_true rfl)
    (hg : ∀ i, Gl (F.X i) nm := by intro _; rfl) (hdb : (nm == ("__debug__" : Str)) = false := by decide)
    (he : ∀ i, starEach (e :: es) (F.X i).env = (false, eval e (F.X i).env) :: starEach es (F.X i).env := by intro _; rfl) (hpl : ∀ i, (backTo pos (starEach es (F.X i).env)).any (·.1) = false := by intro _; rfl) : DEp F (.Call (.Name nm p) (e :: es) [] pos) S (os.bind fun ds => (ψ (ds ++ dd)).bind fun fs => .ok (.obj cn fs)) := fun d q => by
  obtain ⟨ds, h1, q⟩ := O.bind_eq q
  obtain ⟨fs, h2, q⟩ := O.bind_eq q
  cases q
  exact de_make mk (ha ds h1).1 h2 hk hg hdb he hpl
theorem p_callB {id : String} (hm : F.mg nm = none) (hv : bootBuiltins nm = some (.builtin id)) (hr : CaS F (.builtin id) φ) (ha : DAp F (e :: es) S os)
    (hg : ∀ i, Gl (F.X i) nm := by intro _; rfl) (hn : nm ≠ "__name__" := by decide) (hdb : (nm == ("__debug__" : Str)) = false := by decide)
    (he : ∀ i, starEach (e :: es) (F.X i).env = (false, eval e (F.X i).env) :: starEach es (F.X i).env := by intro _; rfl) (hpl : ∀ i, (backTo pos (starEach es (F.X i).env)).any (·.1) = false := by intro _; rfl) : DEp F (.Call (.Name nm p) (e :: es) [] pos) S (os.bind φ) := fun d q => by
  obtain ⟨ds, h1, q⟩ := O.bind_eq q
  exact de_callB hm hv (ha ds h1).1 (hr ds d q) hg hn hdb he hpl
theorem p_callTy {T : String} (hm : F.mg nm = none) (hv : bootBuiltins nm = some (.type T)) (hr : CaS F (.type T) φ) (ha : DAp F (e :: es) S os)
    (hg : ∀ i, Gl (F.X i) nm := by intro _; rfl) (hn : nm ≠ "__name__" := by decide) (hdb : (nm == ("__debug__" : Str)) = false := by decide)
    (he : ∀ i, starEach (e :: es) (F.X i).env = (false, eval e (F.X i).env) :: starEach es (F.X i).env := by intro _; rfl) (hpl : ∀ i, (backTo pos (starEach es (F.X i).env)).any (·.1) = false := by intro _; rfl) : DEp F (.Call (.Name nm p) (e :: es) [] pos) S (os.bind φ) := fun d q => by
  obtain ⟨ds, h1, q⟩ := O.bind_eq q
  exact de_callTy hm hv (ha ds h1).1 (hr ds d q) hg hn hdb he hpl
theorem p_isi {T : Expr} {cv : V} {q : D → O Bool} (hm : F.mg "isinstance" = none) (hT : DE F T S S (.cst cv)) (hr : ∀ x k, q x = .ok k → CaD F (.builtin "isinstance") [x, .cst cv] (.bl k)) (ha : DEp F a S oa)
    (hg : ∀ i, Gl (F.X i) "isinstance" := by intro _; rfl)
    (he : ∀ i, starEach [a, T] (F.X i).env = (false, eval a (F.X i).env) :: starEach [T] (F.X i).env := by intro _; rfl) (he2 : ∀ i, starEach [T] (F.X i).env = (false, eval T (F.X i).env) :: starEach [] (F.X i).env := by intro _; rfl) (hpl : ∀ i, (backTo pos (starEach [T] (F.X i).env)).any (·.1) = false := by intro _; rfl) : DEp F (.Call (.Name "isinstance" p) [a, T] [] pos) S (tr (oa.bind q)) := fun d h => by
  obtain ⟨k, h0, e0⟩ := tr_eq h
  subst e0
  clear h
  have h := h0
  obtain ⟨x, h1, h⟩ := O.bind_eq h
  exact de_callB hm bb_isinstance (da_cons (ha x h1) (da_cons hT da_nil he2) he) (hr x k h) hg (by decide) (by decide) he hpl
end
end
end SL
namespace SL
open PySem L2 DL
variable [TabL]
instance (i j : Int) : Decidable (CMul i j) := by unfold CMul; infer_instance
instance (i j : Int) : Decidable (CMulW i j) := by unfold CMulW; infer_instance
instance (i j : Int) : Decidable (CDivW i j) := by unfold CDivW; infer_instance
instance (i j : Int) : Decidable (CPow i j) := by unfold CPow; infer_instance
def CDivM (_ j : Int) : Prop := j < 0 ∧ j.natAbs.log2 < 9000
instance (i j : Int) : Decidable (CDivM i j) := by unfold CDivM; infer_instance
theorem op_fdivM {X : Cx} : OpR X (binaryOp .FloorDiv) (rI CDivM fun i j => .int (i.fdiv j)) := opI fun i j _ _ _ _ _ hc q => PyProof.Rows.floordiv_int (by have := hc.1; omega) q (.inl (PyProof.noPylong_of_log2 hc.2))
def mulOk (i j : Int) : Bool := decide (CMul i j ∨ CMulW i j)
def b_add : D → D → O D
  | .int i, .int j => .ok (.int (i + j))
  | .str i, .str j => if i.length + j.length ≤ 1000000 then .ok (.str (i ++ j)) else .bad
  | .tup xs, .tup ys => if xs.length + ys.length ≤ 1000000 then .ok (.tup (xs ++ ys)) else .bad
  | .lst xs, .lst ys => if xs.length + ys.length ≤ 1000000 then .ok (.lst (xs ++ ys)) else .bad
  | _, _ => .bad
def b_sub : D → D → O D
  | .int i, .int j => .ok (.int (i - j))
  | _, _ => .bad
def b_mul : D → D → O D
  | .int i, .int j => if mulOk i j then .ok (.int (i * j)) else .bad
  | .tup xs, .int k => if 1 ≤ xs.length ∧ 2 ≤ k ∧ k ≤ 1000 ∧ xs.length ≤ 1000 then .ok (.tup (List.replicate k.toNat xs).flatten) else .bad
  | .str t, .int k => if k = 0 then .ok (.str Str.empty) else if k = 1 then .ok (.str t) else .bad
  | _, _ => .bad
def b_fdiv : D → D → O D
  | .int i, .int j => if CDivW i j then .ok (.int (i / j)) else if CDivM i j then .ok (.int (i.fdiv j)) else .bad
  | _, _ => .bad
def b_mod : D → D → O D
  | .int i, .int j => if 0 < j then .ok (.int (i % j)) else .bad
  | _, _ => .bad
def b_pow : D → D → O D
  | .int i, .int j => if CPow i j then .ok (.int (i ^ j.toNat)) else .bad
  | _, _ => .bad
def b_neg : D → O D
  | .int i => .ok (.int (-i))
  | _ => .bad
def c_lt : D → D → O Bool
  | .int i, .int j => .ok (decide (i < j))
  | .str i, .str j => .ok (decide (i.cps.toList < j.cps.toList))
  | _, _ => .bad
def c_le : D → D → O Bool
  | .int i, .int j => .ok (decide (i ≤ j))
  | .str i, .str j => .ok (!decide (j.cps.toList < i.cps.toList))
  | _, _ => .bad
def c_gt : D → D → O Bool
  | .int i, .int j => .ok (decide (j < i))
  | .str i, .str j => .ok (decide (j.cps.toList < i.cps.toList))
  | _, _ => .bad
def c_ge : D → D → O Bool
  | .int i, .int j => .ok (decide (j ≤ i))
  | .str i, .str j => .ok (!decide (i.cps.toList < j.cps.toList))
  | _, _ => .bad
def eqOk (d : D) : Bool := okP d && SeqAt.shaped (toP d)
def c_eq : D → D → O Bool
  | .int i, .int j => .ok (decide (i = j))
  | .str i, .str j => .ok (decide (i = j))
  | .bl i, .bl j => .ok (decide (i = j))
  | x, y => if eqOk x && eqOk y then .ok (PyData.eqv (toP x) (toP y)) else .bad
def c_ne (x y : D) : O Bool := (c_eq x y).bind fun k => .ok (!k)
def isNon : D → Bool
  | .non => true
  | _ => false
def isCst : D → Bool
  | .cst _ => true
  | .dic _ => true
  | .dik _ => true
  | .dim _ => true
  | _ => false
def isOdd : D → Bool
  | .cst _ => true
  | _ => false
def c_is : D → D → O Bool
  | .bl i, .bl j => .ok (decide (i = j))
  | x, .non => if isOdd x then .bad else .ok (isNon x)
  | _, _ => .bad
def ints? : List D → Option (List Int)
  | [] => some []
  | .int i :: r => (ints? r).map (i :: ·)
  | _ :: _ => none
def strs? : List D → Option (List Str)
  | [] => some []
  | .str i :: r => (strs? r).map (i :: ·)
  | _ :: _ => none
def bls? : List D → Option (List Bool)
  | [] => some []
  | .bl i :: r => (bls? r).map (i :: ·)
  | _ :: _ => none
@[simp] theorem ints?_map (is : List Int) : ints? (is.map D.int) = some is := by
  induction is with
  | nil => rfl
  | cons i r ih => show (ints? (r.map D.int)).map (i :: ·) = _; rw [ih]; rfl
@[simp] theorem strs?_map (is : List Str) : strs? (is.map D.str) = some is := by
  induction is with
  | nil => rfl
  | cons i r ih => show (strs? (r.map D.str)).map (i :: ·) = _; rw [ih]; rfl
@[simp] theorem bls?_map (is : List Bool) : bls? (is.map D.bl) = some is := by
  induction is with
  | nil => rfl
  | cons i r ih => show (bls? (r.map D.bl)).map (i :: ·) = _; rw [ih]; rfl
theorem ints?_eq : ∀ {ds : List D} {is : List Int}, ints? ds = some is → ds = is.map D.int
  | [], _, h => by cases h; rfl
  | d :: r, is, h => by
    cases d with
    | int i =>
      have h' : (ints? r).map (i :: ·) = some is := h
      cases q : ints? r with
      | none => rw [q] at h'; cases h'
      | some js => rw [q] at h'; cases h'; rw [List.map_cons, ints?_eq q]
    | _ => cases h
theorem strs?_eq : ∀ {ds : List D} {is : List Str}, strs? ds = some is → ds = is.map D.str
  | [], _, h => by cases h; rfl
  | d :: r, is, h => by
    cases d with
    | str i =>
      have h' : (strs? r).map (i :: ·) = some is := h
      cases q : strs? r with
      | none => rw [q] at h'; cases h'
      | some js => rw [q] at h'; cases h'; rw [List.map_cons, strs?_eq q]
    | _ => cases h
theorem bls?_eq : ∀ {ds : List D} {is : List Bool}, bls? ds = some is → ds = is.map D.bl
  | [], _, h => by cases h; rfl
  | d :: r, is, h => by
    cases d with
    | bl i =>
      have h' : (bls? r).map (i :: ·) = some is := h
      cases q : bls? r with
      | none => rw [q] at h'; cases h'
      | some js => rw [q] at h'; cases h'; rw [List.map_cons, bls?_eq q]
    | _ => cases h
def op2 {α β : Type} (o : Option α) (f : α → O β) : O β := match o with
  | some a => f a
  | none => .bad
@[simp] theorem op2_some {α β : Type} (a : α) (f : α → O β) : op2 (some a) f = f a := rfl
theorem op2_eq {α β : Type} {o : Option α} {f : α → O β} {b : β} (h : op2 o f = .ok b) : ∃ a, o = some a ∧ f a = .ok b := by
  cases o with
  | none => cases h
  | some a => exact ⟨a, rfl, h⟩
def c_in : D → D → O Bool
  | .int i, .tup ds => op2 (ints? ds) fun is => .ok (decide (i ∈ is))
  | .int i, .lst ds => op2 (ints? ds) fun is => .ok (decide (i ∈ is))
  | .str i, .tup ds => op2 (strs? ds) fun is => .ok (decide (i ∈ is))
  | .str i, .lst ds => op2 (strs? ds) fun is => .ok (decide (i ∈ is))
  | .str i, .str j => match i.cps.toList with
    | [c] => .ok (decide (c ∈ j.cps.toList))
    | _ => .bad
  | x, .lst ds => if eqOk x && eqOk (.lst ds) then .ok (ds.any fun z => PyData.eqv (toP z) (toP x)) else .bad
  | .tup ds, .dic kds => op2 (dkey (.tup ds)) fun k => .ok (dlook k kds).isSome
  | _, _ => .bad
section
variable {F : Fam}
theorem sl6 {n : Nat} (h : n ≤ 1000000) : n ≤ sizeLine := Nat.le_trans h (by decide)
theorem s_add : OpS F .Add b_add := fun x y z h => by
  unfold b_add at h
  split at h
  · cases h; exact od_add
  · split at h
    · cases h; exact od_addS (sl6 (by assumption))
    · cases h
  · split at h
    · cases h; exact od_catT (sl6 (by assumption))
    · cases h
  · split at h
    · cases h; exact od_catL (sl6 (by assumption))
    · cases h
  · cases h
theorem s_sub : OpS F .Sub b_sub := fun x y z h => by
  unfold b_sub at h
  split at h
  · cases h; exact od_sub
  · cases h
theorem od_repT {xs : List D} {k : Int} (h1 : xs ≠ []) (h2 : 2 ≤ k) (h3 : k ≤ 1000) (h4 : xs.length ≤ 1000) : OpD F (binaryOp .Mult) (.tup xs) (.int k) (.tup (List.replicate k.toNat xs).flatten) :=
  ⟨rRepT F.C.K, fun i => by have := op_repT (X := F.X i); rw [F.hK i] at this; exact this, fun G H u v s hu hv Q q => by
    cases hu with
    | @tup a vs _ g1 g2 =>
      cases hv
      refine ⟨a, k, vs, rfl, rfl, same_t s g1, fun e => h1 ?_, h2, h3, by rw [g2.length]; exact h4, fun p hp => ?_⟩
      · have := g2.length
        rw [e] at this
        exact List.length_eq_zero_iff.mp this.symm
      · have pu := Pu.new (o := .tup (List.replicate k.toNat vs).flatten) s hp
        refine q _ _ _ pu (.tup (SqT.of upd_same) (DenL.mono pu.gg ?_))
        generalize k.toNat = n
        induction n with
        | zero => exact .nil
        | succ n ih => rw [List.replicate_succ, List.replicate_succ, List.flatten_cons, List.flatten_cons]; exact g2.append ih⟩
theorem od_mulW {i j : Int} (h : CMulW i j) : OpD F (binaryOp .Mult) (.int i) (.int j) (.int (i * j)) := ⟨_, fun _ => op_mulW, rd_I h fun _ => .int _⟩
theorem od_fdivW {i j : Int} (h : CDivW i j) : OpD F (binaryOp .FloorDiv) (.int i) (.int j) (.int (i / j)) := ⟨_, fun _ => op_fdivW, rd_I h fun _ => .int _⟩
def rStrMul : R2 := fun x y H Q => ∃ t k, x = .str t ∧ y = .int k ∧ ((k = 0 ∧ Q (.str Str.empty) H) ∨ (k = 1 ∧ Q (.str t) H))
theorem op_strMul {X : Cx} : OpR X (binaryOp .Mult) rStrMul := by
  intro pins s σ H x y v u Q I rx ry h
  obtain ⟨t, k, rfl, rfl, h⟩ := h
  obtain ⟨tk, rfl⟩ := rx
  obtain ⟨tu, rfl⟩ := ry
  rcases h with ⟨rfl, q⟩ | ⟨rfl, q⟩
  · exact PySem.P.mul_str_none (by decide) (by decide) ⟨.str Str.empty, H, I.tok _, ⟨_, rfl⟩, q⟩
  · exact PySem.P.mul_str (by decide) (fun h1 h2 => absurd h2 (by simp)) (fun h1 h2 => absurd h2 (by simp)) (by
      rw [if_neg (by decide), if_pos (by simp)]
      exact ⟨.str t, H, I, ⟨_, rfl⟩, q⟩)
theorem od_strMul {t t' : Str} {k : Int} (h : (k = 0 ∧ t' = Str.empty) ∨ (k = 1 ∧ t' = t)) : OpD F (binaryOp .Mult) (.str t) (.int k) (.str t') := ⟨rStrMul, fun _ => op_strMul, fun G H u v s hu hv Q q => by
  cases hu; cases hv
  rcases h with ⟨h, rfl⟩ | ⟨h, rfl⟩
  · exact ⟨_, _, rfl, rfl, .inl ⟨h, q _ _ _ (.refl s) (.str _)⟩⟩
  · exact ⟨_, _, rfl, rfl, .inr ⟨h, q _ _ _ (.refl s) (.str _)⟩⟩⟩
theorem s_mul : OpS F .Mult b_mul := fun x y z h => by
  unfold b_mul at h
  split at h
  · split at h
    · rename_i hm
      cases h
      rcases of_decide_eq_true hm with q | q
      · exact od_mul q
      · exact od_mulW q
    · cases h
  · split at h
    · rename_i hm
      cases h
      exact od_repT (fun e => by rw [e] at hm; exact absurd hm.1 (by decide)) hm.2.1 hm.2.2.1 hm.2.2.2
    · cases h
  · split at h
    · cases h; exact od_strMul (.inl ⟨by assumption, rfl⟩)
    · split at h
      · cases h; exact od_strMul (.inr ⟨by assumption, rfl⟩)
      · cases h
  · cases h
theorem s_fdiv : OpS F .FloorDiv b_fdiv := fun x y z h => by
  unfold b_fdiv at h
  split at h
  · split at h
    · cases h; exact od_fdivW (by assumption)
    · split at h
      · cases h; exact ⟨_, fun _ => op_fdivM, rd_I (by assumption) fun _ => .int _⟩
      · cases h
  · cases h
theorem s_mod : OpS F .Mod b_mod := fun x y z h => by
  unfold b_mod at h
  split at h
  · split at h
    · cases h; exact od_mod (by assumption)
    · cases h
  · cases h
theorem s_pow : OpS F .Pow b_pow := fun x y z h => by
  unfold b_pow at h
  split at h
  · split at h
    · cases h; exact od_pow (by assumption)
    · cases h
  · cases h
theorem s_neg : UnS F .USub b_neg := fun x z h => by
  unfold b_neg at h
  split at h
  · cases h; exact ud_neg
  · cases h
theorem od_gtS {i j : Str} : OpD F (compareOp .Gt) (.str i) (.str j) (.bl (decide (j.cps.toList < i.cps.toList))) := ⟨_, fun _ => op_gt_str, fun G H u v s hu hv Q q => by
  cases hu; cases hv
  exact ⟨i, j, rfl, rfl, q _ _ _ (.refl s) (.bl _)⟩⟩
theorem od_geS {i j : Str} : OpD F (compareOp .GtE) (.str i) (.str j) (.bl (!decide (i.cps.toList < j.cps.toList))) := ⟨_, fun _ => op_ge_str, fun G H u v s hu hv Q q => by
  cases hu; cases hv
  exact ⟨i, j, rfl, rfl, q _ _ _ (.refl s) (.bl _)⟩⟩
theorem s_lt : CmS F .Lt c_lt := fun x y z h => by
  unfold c_lt at h
  split at h
  · cases h; exact od_lt
  · cases h; exact od_ltS
  · cases h
theorem s_gt : CmS F .Gt c_gt := fun x y z h => by
  unfold c_gt at h
  split at h
  · cases h; exact od_gt
  · cases h; exact od_gtS
  · cases h
theorem s_ge : CmS F .GtE c_ge := fun x y z h => by
  unfold c_ge at h
  split at h
  · cases h; exact od_ge
  · cases h; exact od_geS
  · cases h
theorem eqOk_of {d : D} (h : eqOk d = true) : okP d = true ∧ SeqAt.shaped (toP d) = true := by
  unfold eqOk at h
  exact Bool.and_eq_true_iff.mp h
theorem s_eq : CmS F .Eq c_eq := fun x y z h => by
  unfold c_eq at h
  split at h
  · cases h; exact od_eqI
  · cases h; exact od_eqS
  · cases h; exact od_eqB
  · split at h
    · rename_i hm
      cases h
      obtain ⟨h1, h2⟩ := Bool.and_eq_true_iff.mp hm
      exact od_eqP (eqOk_of h1).1 (eqOk_of h2).1 (eqOk_of h1).2 (eqOk_of h2).2
    · cases h
theorem s_ne : CmS F .NotEq c_ne := fun x y z h => by
  obtain ⟨k, h1, e⟩ := O.bind_eq h
  clear h
  have h := h1
  clear h1
  cases e
  unfold c_eq at h
  split at h
  · cases h; exact od_neI
  · cases h; exact od_neS
  · cases h; exact od_neB
  · split at h
    · rename_i hm
      cases h
      obtain ⟨h1, h2⟩ := Bool.and_eq_true_iff.mp hm
      exact od_neP (eqOk_of h1).1 (eqOk_of h2).1 (eqOk_of h1).2 (eqOk_of h2).2
    · cases h
theorem den_non {C : Kc} {G : Hp} {u : V} {x : D} (h : Den C G u x) (hc : isOdd x = false) : decide (u = .non) = isNon x := by
  cases h <;> first | rfl | cases hc | (simp [isNon]; done)
theorem od_isN {x : D} (hc : isOdd x = false) : OpD F (compareOp .Is) x .non (.bl (isNon x)) := ⟨_, fun _ => op_isN, fun G H u v s hu hv Q q => by
  cases hv
  refine ⟨rfl, ?_⟩
  rw [den_non hu hc]
  exact q _ _ _ (.refl s) (.bl _)⟩
theorem od_isB {i j : Bool} : OpD F (compareOp .Is) (.bl i) (.bl j) (.bl (decide (i = j))) := ⟨_, fun _ => op_isBl, fun G H u v s hu hv Q q => by
  cases hu; cases hv
  exact ⟨i, j, rfl, rfl, q _ _ _ (.refl s) (.bl _)⟩⟩
theorem s_is : CmS F .Is c_is := fun x y z h => by
  unfold c_is at h
  split at h
  · cases h; exact od_isB
  · split at h
    · cases h
    · rename_i hm
      cases h
      exact od_isN (by simpa using hm)
  · cases h
theorem flat_strs {is : List Str} : (is.map V.str).all flatV = true := by simp [flatV]
theorem in_strs {i : Str} {is : List Str} : inV (.str i) (is.map V.str) = decide (i ∈ is) := by
  unfold inV
  rw [List.any_map]
  have : ∀ x : Str, eqV (.str x) (.str i) = decide (x = i) := fun x => by
    show decide _ = _
    first | rfl | simp
  induction is with
  | nil => simp
  | cons x r ih =>
    rw [List.any_cons, ih]
    show (eqV (.str x) (.str i) || _) = _
    rw [this]
    simp [List.mem_cons, eq_comm]
theorem od_inG {n : Bool} {op : CmpOp} {x : D} {v : V} {ds : List D} {b : Bool} (hop : ∀ i, OpR (F.X i) (compareOp op) (rIn (F.X i).K n)) (hx : ∀ G u, Den F.C G u x → u = v) (hf : flatV v = true) (hd : ∀ G us, DenL F.C G us ds → us.all flatV = true ∧ inV v us = b) (d : D) (hdd : d = .tup ds ∨ d = .lst ds) : OpD F (compareOp op) x d (.bl (if n then !b else b)) :=
  ⟨rIn F.C.K n, fun i => by have := hop i; rw [F.hK i] at this; exact this, fun G H u w s hu hv Q q => by
    cases hx G u hu
    rcases hdd with rfl | rfl
    · cases hv with
      | @tup a vs _ h1 h2 =>
        obtain ⟨z1, z2⟩ := hd G vs h2
        refine ⟨a, vs, rfl, .inr (same_t s h1), hf, z1, ?_⟩
        rw [z2]
        exact q _ _ _ (.refl s) (.bl _)
    · cases hv with
      | @lst a vs _ h1 h2 =>
        obtain ⟨z1, z2⟩ := hd G vs h2
        refine ⟨a, vs, rfl, .inl (s.seq h1), hf, z1, ?_⟩
        rw [z2]
        exact q _ _ _ (.refl s) (.bl _)⟩
theorem od_inIs {i : Int} {is : List Int} {n : Bool} {op : CmpOp} (hop : ∀ i, OpR (F.X i) (compareOp op) (rIn (F.X i).K n)) (d : D) (hd : d = .tup (is.map D.int) ∨ d = .lst (is.map D.int)) : OpD F (compareOp op) (.int i) d (.bl (if n then !decide (i ∈ is) else decide (i ∈ is))) :=
  od_inG hop (fun G u h => by cases h; rfl) rfl (fun G us h => by have e := denL_int h; subst e; exact ⟨flat_ints, in_ints⟩) d hd
theorem od_inSs {i : Str} {is : List Str} {n : Bool} {op : CmpOp} (hop : ∀ i, OpR (F.X i) (compareOp op) (rIn (F.X i).K n)) (d : D) (hd : d = .tup (is.map D.str) ∨ d = .lst (is.map D.str)) : OpD F (compareOp op) (.str i) d (.bl (if n then !decide (i ∈ is) else decide (i ∈ is))) :=
  od_inG hop (fun G u h => by cases h; rfl) rfl (fun G us h => by have e := denL_str h; subst e; exact ⟨flat_strs, in_strs⟩) d hd
theorem od_sign {i : Str} {c : Nat} {j : Str} (h : i.cps.toList = [c]) : OpD F (compareOp .In) (.str i) (.str j) (.bl (decide (c ∈ j.cps.toList))) := ⟨_, fun _ => op_in_sign, fun G H u v s hu hv Q q => by
  cases hu; cases hv
  refine ⟨c, j, ?_, rfl, q _ _ _ (.refl s) (.bl _)⟩
  obtain ⟨a⟩ := i
  have e : a = #[c] := Array.toList_inj.mp h
  rw [e]⟩
end
end SL
namespace SL
open PySem L2 DL
variable [TabL]
section
variable {F : Fam}
theorem od_inL {x : D} {ds : List D} (h1 : eqOk x = true) (h2 : eqOk (.lst ds) = true) : OpD F (compareOp .In) x (.lst ds) (.bl (ds.any fun z => PyData.eqv (toP z) (toP x))) :=
  ⟨rInD F.C.K, fun i => by
      have := op_inD (X := F.X i) (by have := (F.roomH i).un; omega)
      rw [F.hK i] at this; exact this, fun G H u v s hu hv Q q => by
    refine ⟨toP x, toPs ds, hu.dp s (eqOk_of h1).1, hv.dp s (eqOk_of h2).1, (eqOk_of h1).2, (eqOk_of h2).2, ?_⟩
    have e : ((toPs ds).any fun z => PyData.eqv z (toP x)) = ds.any fun z => PyData.eqv (toP z) (toP x) := by
      clear h2 hv q
      induction ds with
      | nil => rfl
      | cons a r ih => show (PyData.eqv (toP a) (toP x) || (toPs r).any fun z => PyData.eqv z (toP x)) = _; rw [ih]; rfl
    rw [e]
    exact q _ _ _ (.refl s) (.bl _)⟩
theorem s_in : CmS F .In c_in := fun x y z h => by
  unfold c_in at h
  split at h
  · obtain ⟨is, h1, h⟩ := op2_eq h
    cases h
    exact od_inIs (n := false) (fun _ => op_in_seq) _ (.inl (by rw [ints?_eq h1]))
  · obtain ⟨is, h1, h⟩ := op2_eq h
    cases h
    exact od_inIs (n := false) (fun _ => op_in_seq) _ (.inr (by rw [ints?_eq h1]))
  · obtain ⟨is, h1, h⟩ := op2_eq h
    cases h
    exact od_inSs (n := false) (fun _ => op_in_seq) _ (.inl (by rw [strs?_eq h1]))
  · obtain ⟨is, h1, h⟩ := op2_eq h
    cases h
    exact od_inSs (n := false) (fun _ => op_in_seq) _ (.inr (by rw [strs?_eq h1]))
  · split at h
    · cases h; exact od_sign (by assumption)
    · cases h
  · split at h
    · rename_i hm
      cases h
      obtain ⟨h1, h2⟩ := Bool.and_eq_true_iff.mp hm
      exact od_inL h1 h2
    · cases h
  · obtain ⟨k, h1, h⟩ := op2_eq h
    cases h
    exact od_ndIn h1
  · cases h
end
def bi_abs : List D → O D
  | [.int i] => .ok (.int (if i < 0 then -i else i))
  | _ => .bad
def maxL : List Int → Option Int
  | [] => none
  | a :: r => some (r.foldl (fun m x => if x > m then x else m) a)
def minL : List Int → Option Int
  | [] => none
  | a :: r => some (r.foldl (fun m x => if x < m then x else m) a)
def bi_max : List D → O D
  | [.int i, .int j] => .ok (.int (if j > i then j else i))
  | [.lst ds] => op2 (ints? ds) fun is => op2 (maxL is) fun m => .ok (.int m)
  | _ => .bad
def bi_min : List D → O D
  | [.int i, .int j] => .ok (.int (if j < i then j else i))
  | [.lst ds] => op2 (ints? ds) fun is => op2 (minL is) fun m => .ok (.int m)
  | _ => .bad
def bi_len : List D → O D
  | [.tup ds] => .ok (.int ds.length)
  | [.lst ds] => .ok (.int ds.length)
  | [.str t] => if t.length ≤ 1000000 then .ok (.int t.length) else .bad
  | [.dic kvs] => .ok (.int kvs.length)
  | _ => .bad
def bi_all : List D → O D
  | [.lst ds] => op2 (bls? ds) fun bs => .ok (.bl (bs.all id))
  | _ => .bad
def bi_int : List D → O D
  | [.int i] => .ok (.int i)
  | [.bl b] => .ok (.int (if b then 1 else 0))
  | [.str t] => if t.length ≤ 640 then op2 (intText? t) fun n => .ok (.int n) else .bad
  | _ => .bad
def bi_str : List D → O D
  | [.int i] => if i.natAbs.log2 < 1920 then .ok (.str (toString i)) else .bad
  | [.str t] => .ok (.str t)
  | _ => .bad
def bi_tuple : List D → O D
  | [.lst ds] => .ok (.tup ds)
  | [.tup ds] => .ok (.tup ds)
  | _ => .bad
def repB (d : D) : Bool := isSeqD d && okP d && (toP d).showable && (toP d).leavesShort 100 && !(toP d).hasDict && decide ((toP d).depth ≤ 60) && decide ((toP d).weight ≤ 100000) && (toP d).canLay0
def bi_repr : List D → O D
  | [d] => if repB d then .ok (.str (toP d).shown) else .bad
  | _ => .bad
theorem maxL_is {is : List Int} {m : Int} (h : maxL is = some m) : m ∈ is ∧ ∀ y ∈ is, y ≤ m := by
  cases is with
  | nil => cases h
  | cons a r =>
    cases h
    have key : ∀ (l : List Int) (m0 : Int), (l.foldl (fun m x => if x > m then x else m) m0 = m0 ∨ l.foldl (fun m x => if x > m then x else m) m0 ∈ l) ∧ m0 ≤ l.foldl (fun m x => if x > m then x else m) m0 ∧ ∀ y ∈ l, y ≤ l.foldl (fun m x => if x > m then x else m) m0 := by
      intro l
      induction l with
      | nil => intro m0; simp
      | cons x l ih =>
        intro m0
        obtain ⟨h1, h2, h3⟩ := ih (if x > m0 then x else m0)
        rw [List.foldl_cons]
        refine ⟨?_, ?_, ?_⟩
        · rcases h1 with h1 | h1
          · by_cases hx : x > m0
            · rw [if_pos hx] at h1 ⊢; right; rw [h1]; exact List.mem_cons_self
            · rw [if_neg hx] at h1 ⊢; left; exact h1
          · right; exact List.mem_cons_of_mem _ h1
        · refine Int.le_trans ?_ h2
          split <;> omega
        · intro y hy
          rcases List.mem_cons.mp hy with rfl | hy
          · refine Int.le_trans ?_ h2
            split <;> omega
          · exact h3 y hy
    obtain ⟨h1, h2, h3⟩ := key r a
    refine ⟨?_, ?_⟩
    · rcases h1 with h1 | h1
      · rw [h1]; exact List.mem_cons_self
      · exact List.mem_cons_of_mem _ h1
    · intro y hy
      rcases List.mem_cons.mp hy with rfl | hy
      · exact h2
      · exact h3 y hy
theorem minL_is {is : List Int} {m : Int} (h : minL is = some m) : m ∈ is ∧ ∀ y ∈ is, m ≤ y := by
  cases is with
  | nil => cases h
  | cons a r =>
    cases h
    have key : ∀ (l : List Int) (m0 : Int), (l.foldl (fun m x => if x < m then x else m) m0 = m0 ∨ l.foldl (fun m x => if x < m then x else m) m0 ∈ l) ∧ l.foldl (fun m x => if x < m then x else m) m0 ≤ m0 ∧ ∀ y ∈ l, l.foldl (fun m x => if x < m then x else m) m0 ≤ y := by
      intro l
      induction l with
      | nil => intro m0; simp
      | cons x l ih =>
        intro m0
        obtain ⟨h1, h2, h3⟩ := ih (if x < m0 then x else m0)
        rw [List.foldl_cons]
        refine ⟨?_, ?_, ?_⟩
        · rcases h1 with h1 | h1
          · by_cases hx : x < m0
            · rw [if_pos hx] at h1 ⊢; right; rw [h1]; exact List.mem_cons_self
            · rw [if_neg hx] at h1 ⊢; left; exact h1
          · right; exact List.mem_cons_of_mem _ h1
        · refine Int.le_trans h2 ?_
          split <;> omega
        · intro y hy
          rcases List.mem_cons.mp hy with rfl | hy
          · refine Int.le_trans h2 ?_
            split <;> omega
          · exact h3 y hy
    obtain ⟨h1, h2, h3⟩ := key r a
    refine ⟨?_, ?_⟩
    · rcases h1 with h1 | h1
      · rw [h1]; exact List.mem_cons_self
      · exact List.mem_cons_of_mem _ h1
    · intro y hy
      rcases List.mem_cons.mp hy with rfl | hy
      · exact h2
      · exact h3 y hy
section
variable {F : Fam}
theorem s_abs : CaS F (.builtin "abs") bi_abs := fun ds z h => by
  unfold bi_abs at h
  split at h
  · cases h; exact ca_abs
  · cases h
theorem ca_maxL [Calm F] {is : List Int} {m : Int} (h : maxL is = some m) : CaD F (.builtin "max") [.lst (is.map D.int)] (.int m) := ⟨rMax F.C.K, fun i => by have := cr_max (X := F.X i) (F.calm i); rw [F.hK i] at this; exact this, fun G H us s hu Q q => by
  cases hu with
  | cons h0 l => cases h0 with
    | @lst a vs _ h1 h2 =>
      cases l
      have e := denL_int h2
      subst e
      obtain ⟨z1, z2⟩ := maxL_is h
      refine ⟨a, is, rfl, s.seq h1, List.length_pos_of_mem z1, fun m' y1 y2 => ?_⟩
      have : m' = m := Int.le_antisymm (z2 m' y1) (y2 m z1)
      rw [this]
      exact q _ _ _ (.refl s) (.int _)⟩
theorem ca_minL [Calm F] {is : List Int} {m : Int} (h : minL is = some m) : CaD F (.builtin "min") [.lst (is.map D.int)] (.int m) := ⟨rMin F.C.K, fun i => by have := cr_min (X := F.X i) (F.calm i); rw [F.hK i] at this; exact this, fun G H us s hu Q q => by
  cases hu with
  | cons h0 l => cases h0 with
    | @lst a vs _ h1 h2 =>
      cases l
      have e := denL_int h2
      subst e
      obtain ⟨z1, z2⟩ := minL_is h
      refine ⟨a, is, rfl, s.seq h1, List.length_pos_of_mem z1, fun m' y1 y2 => ?_⟩
      have : m' = m := Int.le_antisymm (y2 m z1) (z2 m' y1)
      rw [this]
      exact q _ _ _ (.refl s) (.int _)⟩
theorem s_max [Calm F] : CaS F (.builtin "max") bi_max := fun ds z h => by
  unfold bi_max at h
  split at h
  · cases h; exact ca_max
  · obtain ⟨is, h1, h⟩ := op2_eq h
    obtain ⟨m, h2, h⟩ := op2_eq h
    cases h
    rw [ints?_eq h1]
    exact ca_maxL h2
  · cases h
theorem s_min [Calm F] : CaS F (.builtin "min") bi_min := fun ds z h => by
  unfold bi_min at h
  split at h
  · cases h; exact ca_min
  · obtain ⟨is, h1, h⟩ := op2_eq h
    obtain ⟨m, h2, h⟩ := op2_eq h
    cases h
    rw [ints?_eq h1]
    exact ca_minL h2
  · cases h
theorem s_len : CaS F (.builtin "len") bi_len := fun ds z h => by
  unfold bi_len at h
  split at h
  · cases h; exact ca_lenT
  · cases h; exact ca_lenL
  · split at h
    · cases h; exact ca_lenS (sl6 (by assumption))
    · cases h
  · cases h; exact ca_lenN
  · cases h
theorem s_all [Calm F] : CaS F (.builtin "all") bi_all := fun ds z h => by
  unfold bi_all at h
  split at h
  · obtain ⟨bs, h1, h⟩ := op2_eq h
    cases h
    rw [bls?_eq h1]
    exact ca_all
  · cases h
theorem ca_intS {t : Str} {n : Int} (h1 : t.length ≤ 640) (h2 : intText? t = some n) : CaD F (.type "int") [.str t] (.int n) := ⟨_, fun _ => call_int_str, fun G H us s h Q q => by
  cases h with
  | cons h l => cases h; cases l; exact ⟨t, n, rfl, h2, h1, q _ _ _ (.refl s) (.int _)⟩⟩
theorem s_int : CaS F (.type "int") bi_int := fun ds z h => by
  unfold bi_int at h
  split at h
  · cases h; exact ca_int
  · cases h; exact ca_intB
  · split at h
    · obtain ⟨n, h1, h⟩ := op2_eq h
      cases h
      exact ca_intS (by assumption) h1
    · cases h
  · cases h
theorem ca_strS {t : Str} : CaD F (.type "str") [.str t] (.str t) := ⟨_, fun _ => SkE.call_str_str, fun G H us s h Q q => by
  cases h with
  | cons h l => cases h; cases l; exact ⟨t, rfl, q _ _ _ (.refl s) (.str _)⟩⟩
theorem s_str : CaS F (.type "str") bi_str := fun ds z h => by
  unfold bi_str at h
  split at h
  · split at h
    · cases h; exact ca_strI (by assumption)
    · cases h
  · cases h; exact ca_strS
  · cases h
theorem repB_of {d : D} (h : repB d = true) : isSeqD d = true ∧ Rep 60 100000 d := by
  unfold repB at h
  simp only [Bool.and_eq_true, decide_eq_true_eq, Bool.not_eq_true'] at h
  obtain ⟨⟨⟨⟨⟨⟨⟨h1, h2⟩, h3⟩, h4⟩, h5⟩, h6⟩, h7⟩, h8⟩ := h
  exact ⟨h1, h2, h3, h4, h5, h6, h7, h8⟩
theorem repB_mk {n W : Nat} {d : D} (h : Rep n W d) (hq : isSeqD d = true) (hn : n ≤ 60 := by decide) (hW : W ≤ 100000 := by decide) : repB d = true := by
  unfold repB
  have h1 := h.dp
  have h2 := h.wt
  rw [hq, h.ok, h.sh, h.ls, h.nd, h.cl, decide_eq_true (by omega), decide_eq_true (by omega)]
  rfl
theorem s_repr (hG : ∀ i, (F.X i).A.guards = some []) : CaS F (.builtin "repr") bi_repr := fun ds z h => by
  unfold bi_repr at h
  split at h
  · split at h
    · rename_i hm
      cases h
      obtain ⟨h1, h2⟩ := repB_of hm
      exact ca_repr hG h2 h1
    · cases h
  · cases h
end
def tyN : D → Option String
  | .non => some "NoneType"
  | .bl _ => some "bool"
  | .int _ => some "int"
  | .str _ => some "str"
  | .tup _ => some "tuple"
  | .lst _ => some "list"
  | .dic _ => some "dict"
  | _ => none
def isiB (T : String) (d : D) : O Bool := match d with
  | .obj _ _ => .ok false
  | .cst _ => .bad
  | .dic _ => op2 (kitB "dict" T) fun b => .ok b
  | d => op2 (tyN d) fun t => op2 (kitB t T) fun b => .ok b
def isiC (c : Nat) (d : D) : O Bool := match d with
  | .obj c' _ => .ok (decide (c' = c))
  | .cst _ => .bad
  | .dik _ => .bad
  | .dim _ => .bad
  | .dic _ => .ok false
  | _ => .ok false
def ix : D → D → O D
  | .tup ds, .int i => op2 (atI ds i) .ok
  | .lst ds, .int i => op2 (atI ds i) .ok
  | .str t, .int i => if t.length ≤ 1000000 then op2 (atI t.cps.toList i) fun c => .ok (.str ⟨#[c]⟩) else .bad
  | _, _ => .bad
def cut (d : D) (lo hi : Option Int) : O D := match d with
  | .tup ds => .ok (.tup (cutD ds lo hi))
  | .lst ds => .ok (.lst (cutD ds lo hi))
  | .str t => if t.length ≤ 1000000 then .ok (.str (cutS t lo hi)) else .bad
  | _ => .bad
def fld (f : Str) (cs : List Nat) (d : D) : O D := match d with
  | .obj c fs => if c ∈ cs then op2 (fs.lookup f) .ok else .bad
  | _ => .bad
def asI : D → O Int
  | .int i => .ok i
  | _ => .bad
@[simp] theorem asI_int (i : Int) : asI (.int i) = .ok i := rfl
theorem asI_eq {d : D} {i : Int} (h : asI d = .ok i) : d = .int i := by
  cases d <;> first | (cases h; rfl) | cases h
section
variable {F : Fam} {S : ST} {e a b c : Expr} {pos p p2 : Pos} {oa ob : O D} {lo hi : Option Expr} {ol oh : O (Option Int)}
theorem p_ix (ha : DEp F a S oa) (hb : DEp F b S ob) (hs : PlainIx b := by intro _ _; rfl) : DEp F (.Subscript a b pos) S (oa.bind fun x => ob.bind fun y => ix x y) := fun d h => by
  obtain ⟨x, h1, h⟩ := O.bind_eq h
  obtain ⟨y, h2, h⟩ := O.bind_eq h
  unfold ix at h
  split at h
  · obtain ⟨z, h3, h⟩ := op2_eq h
    cases h
    exact de_ixT (ha _ h1) (hb _ h2) h3 hs
  · obtain ⟨z, h3, h⟩ := op2_eq h
    cases h
    exact de_ixL (ha _ h1) (hb _ h2) h3 hs
  · split at h
    · obtain ⟨z, h3, h⟩ := op2_eq h
      cases h
      exact de_ixS (ha _ h1) (hb _ h2) (sl6 (by assumption)) h3 hs
    · cases h
  · cases h
def DXp (F : Fam) (o : Option Expr) (S : ST) (r : O (Option Int)) : Prop := ∀ i, r = .ok i → DL.DOp F o S S i
theorem x_none : DXp F none S (.ok none) := fun i h => by cases h; exact do_none
theorem x_some (h : DEp F e S oa) : DXp F (some e) S (oa.bind fun x => (asI x).bind fun i => .ok (some i)) := fun i q => by
  obtain ⟨x, h1, q⟩ := O.bind_eq q
  obtain ⟨j, h2, q⟩ := O.bind_eq q
  cases asI_eq h2
  cases q
  exact do_some (h _ h1)
theorem p_slice (ha : DEp F a S oa) (hl : DXp F lo S ol) (hh : DXp F hi S oh) : DEp F (.Subscript a (.Slice lo hi none p2) pos) S (oa.bind fun x => ol.bind fun l => oh.bind fun h => cut x l h) := fun d q => by
  obtain ⟨x, h1, q⟩ := O.bind_eq q
  obtain ⟨l, h2, q⟩ := O.bind_eq q
  obtain ⟨h, h3, q⟩ := O.bind_eq q
  unfold cut at q
  split at q
  · cases q; exact de_sliceT (ha _ h1) (hl _ h2) (hh _ h3)
  · cases q; exact de_sliceL (ha _ h1) (hl _ h2) (hh _ h3)
  · split at q
    · cases q; exact de_sliceS (ha _ h1) (hl _ h2) (hh _ h3) (sl6 (by assumption))
    · cases q
  · cases q
theorem de_fldH {cs : List Nat} {f : Str} {cn : Nat} {fs : List (Str × D)} {d : D} (hT : ∀ c ∈ cs, F.C.has c = true → Cls F.C.K (F.C.cl c) ∧ NoAttr F.C.K (F.C.cl c) f) (h : DE F e S S (.obj cn fs)) (hc : cn ∈ cs) (hl : fs.lookup f = some d)
    (hb : ∀ i, attributeBase e f (F.X i).env (eval e (F.X i).env) = eval e (F.X i).env) : DE F (.Attribute e f pos) S S d :=
  de_of (te := tFld F.C.K (anyE F e) f) (fun i => by have := pe_fld (pos := pos) (anyE_ok (e := e) i) (hb i); rw [F.hK i] at this; exact this) fun σ G H cx Q q => h σ G H cx _ fun v G1 H1 m dv => by
    cases dv with
    | @obj a dx _ vs _ hq ha hf =>
      obtain ⟨w, h1, h2⟩ := hf.look hl
      obtain ⟨t1, t2⟩ := hT cn hc hq
      exact ⟨a, _, dx, vs, w, rfl, m.cx.sub _ _ ha, t1, t2, h1, q _ _ _ m h2⟩
theorem p_fld {cs : List Nat} {f : Str} (hT : ∀ c ∈ cs, F.C.has c = true → Cls F.C.K (F.C.cl c) ∧ NoAttr F.C.K (F.C.cl c) f) (ha : DEp F e S oa)
    (hb : ∀ i, attributeBase e f (F.X i).env (eval e (F.X i).env) = eval e (F.X i).env := by intro _; rfl) : DEp F (.Attribute e f pos) S (oa.bind (fld f cs)) := fun d h => by
  obtain ⟨x, h1, h⟩ := O.bind_eq h
  unfold fld at h
  split at h
  · split at h
    · obtain ⟨y, h2, h⟩ := op2_eq h
      cases h
      exact de_fldH hT (ha _ h1) (by assumption) h2 hb
    · cases h
  · cases h
theorem isi_ok {T : String} {x : D} {k : Bool} (hI : ∀ c, F.C.has c = true → InsF F.C.K (F.C.cl c)) (hO : ∀ c, F.C.has c = true → PySem.W.kitOne F.C.K (.ref (F.C.cl c)) (.type T) = some false) (h : isiB T x = .ok k) : CaD F (.builtin "isinstance") [x, .cst (.ty T)] (.bl k) := by
  unfold isiB at h
  split at h
  · rename_i c fs
    cases h
    by_cases hc : F.C.has c = true
    · exact ca_isi (.ty T) (fun _ _ e q => hI _ q) rfl (hO c hc)
    · refine ⟨fun _ _ _ => False, fun _ => fun _ _ _ _ _ _ _ _ _ z => z.elim, fun G H us s hu Q q => ?_⟩
      cases hu with
      | cons h0 _ => cases h0 with
        | obj hq => exact hc hq
  · cases h
  · obtain ⟨b, h4, h⟩ := op2_eq h
    cases h
    exact ca_isiD (.ty T) (kit_ty h4)
  · rename_i h1 h2 h2'
    have hp : plD x = true := by cases x <;> first | rfl | exact absurd rfl (h2 _) | exact absurd rfl (h2' _) | (exfalso; simp [tyN, op2] at h)
    obtain ⟨t, h3, h⟩ := op2_eq h
    obtain ⟨b, h4, h⟩ := op2_eq h
    cases h
    refine ca_isi (.ty T) (fun c fs e _ => absurd e (h1 c fs)) hp ?_
    have : tyD F.C x = .type t := by cases x <;> first | (cases h3; rfl) | cases h3
    rw [this]
    exact kit_ty h4
theorem isi_own {cn : Nat} {x : D} {k : Bool} (hI : ∀ c, F.C.has c = true → InsF F.C.K (F.C.cl c)) (hh : F.C.has cn = true) (hO : ∀ c, F.C.has c = true → c ≠ cn → PySem.W.kitOne F.C.K (.ref (F.C.cl c)) (.ref (F.C.cl cn)) = some false)
    (hB : ∀ T ∈ ["NoneType", "bool", "int", "str", "tuple", "list", "dict"], PySem.W.kitOne F.C.K (.type T) (.ref (F.C.cl cn)) = some false) (h : isiC cn x = .ok k) : CaD F (.builtin "isinstance") [x, .cst (.ref (F.C.cl cn))] (.bl k) := by
  unfold isiC at h
  split at h
  · rename_i c fs
    cases h
    by_cases hc : F.C.has c = true
    · refine ca_isi (.own _) (fun _ _ e q => hI _ q) rfl ?_
      by_cases e : c = cn
      · subst e
        rw [decide_eq_true rfl]
        show (if (Value.ref (F.C.cl c) == Value.ref (F.C.cl c)) = true then some true else _) = _
        rw [if_pos (by simp)]
      · rw [decide_eq_false e]
        exact hO c hc e
    · refine ⟨fun _ _ _ => False, fun _ => fun _ _ _ _ _ _ _ _ _ z => z.elim, fun G H us s hu Q q => ?_⟩
      cases hu with
      | cons h0 _ => cases h0 with
        | obj hq => exact hc hq
  · cases h
  · cases h
  · cases h
  · cases h
    exact ca_isiD (.own _) (hB "dict" (by decide))
  · rename_i h1 h2 h3 h4 h2'
    have hp : plD x = true := by cases x <;> first | rfl | exact absurd rfl (h2 _) | exact absurd rfl (h3 _) | exact absurd rfl (h4 _) | exact absurd rfl (h2' _)
    cases h
    refine ca_isi (.own _) (fun c fs e _ => absurd e (h1 c fs)) hp ?_
    cases x <;> first | exact hB _ (by decide) | exact absurd rfl (h1 _ _) | exact absurd rfl (h2 _) | exact absurd rfl (h3 _) | exact absurd rfl (h4 _) | exact absurd rfl (h2' _)
end
end SL
namespace DL
open PySem L2
variable [TabL]
section
variable {F : Fam} {S S1 S2 S3 : ST} {e a b c tg iter : Expr} {pos : Pos} {P : Po} {rest body : List Stmt} {M : ST → Prop}
theorem ds_whileN (I : Nat → ST → Prop) (M : ST → Prop) {n : Nat} (h0 : I n S)
    (hs : ∀ n S, I n S → ∃ k S1, DT F c S S1 k ∧ (k = true → DS F body S1 { P with nx := fun S2 => ∃ n', n' < n ∧ I n' S2, ct := fun S2 => ∃ n', n' < n ∧ I n' S2, bk := M }) ∧ (k = false → M S1))
    (hr : ∀ S2, M S2 → DS F rest S2 P) (hp : ∀ i, PassesOwn (model (F.X i).prog (F.X i).w) (F.X i).A (F.X i).env (F.X i).xe := by intro _; exact PassesOwn.never) : DS F (.While c body [] pos :: rest) S P := by
  refine ds_cons (M := M) (d1_of (te := tWhile (anyT F c) (anyS F body)) (fun i => ps_while (hp i) (anyT_ok i) (anyS_ok i)) ?_) hr
  intro σ0 G0 H0 c0 E m
  refine ⟨fun m' σ H => ∃ S' G, Mw F.C σ0 S G0 H0 σ S' G H ∧ I m' S', ⟨n, S, G0, .refl c0, h0⟩, ?_⟩
  rintro m' σ H ⟨S', G, mw, hI⟩
  obtain ⟨k, S1, hc, h1, h2⟩ := hs m' S' hI
  refine hc σ G H mw.cx _ fun G1 H1 m1 => ?_
  cases k with
  | false =>
    rw [if_neg Bool.false_ne_true]
    exact m.nx _ _ _ _ (mw.trans m1.mw) (h2 rfl)
  | true =>
    rw [if_pos rfl]
    refine ⟨fun σ' H' => ∃ n' S2 G2, n' < m' ∧ Mw F.C σ0 S G0 H0 σ' S2 G2 H' ∧ I n' S2, fun σ' H' ⟨n', S2, G2, l, a, b⟩ => ⟨n', l, S2, G2, a, b⟩, ?_⟩
    have mm := m.move (mw.trans m1.mw)
    exact h1 rfl σ G1 H1 m1.cx _ ⟨fun σ2 S2 G2 H2 a ⟨n', l, q⟩ => ⟨n', S2, G2, l, (mw.trans m1.mw).trans a, q⟩, mm.rt, mm.nx, fun σ2 S2 G2 H2 a ⟨n', l, q⟩ => ⟨n', S2, G2, l, (mw.trans m1.mw).trans a, q⟩, mm.ro, mm.xc⟩
inductive WkL : List (Option DV) → List (Option DV) → Prop where
  | nil : WkL [] []
  | keep {x : Option DV} {xs ys : List (Option DV)} : WkL xs ys → WkL (x :: xs) (x :: ys)
  | drop {x : Option DV} {xs ys : List (Option DV)} : WkL xs ys → WkL (x :: xs) (none :: ys)
structure Wk (S S' : ST) : Prop where
  s : WkL S.s S'.s
  g : S.g = S'.g
theorem WkL.refl : ∀ xs, WkL xs xs
  | [] => .nil
  | _ :: xs => .keep (WkL.refl xs)
theorem Wk.refl (S : ST) : Wk S S := ⟨.refl _, rfl⟩
theorem WkL.len {xs ys : List (Option DV)} (h : WkL xs ys) : xs.length = ys.length := by
  induction h with
  | nil => rfl
  | keep _ ih => simp [ih]
  | drop _ ih => simp [ih]
theorem WkL.get {xs ys : List (Option DV)} (h : WkL xs ys) : ∀ {i : Nat} {o : DV}, ys[i]? = some (some o) → xs[i]? = some (some o) := by
  induction h with
  | nil => intro i o q; simp at q
  | keep _ ih =>
    intro i o q
    cases i with
    | zero => simpa using q
    | succ i => simpa using ih (by simpa using q)
  | drop _ ih =>
    intro i o q
    cases i with
    | zero => simp at q
    | succ i => simpa using ih (by simpa using q)
theorem Wk.mw {C : Kc} {G H : Hp} {σ : L2.St} (w : Wk S S1) (c : Ctx C G H σ S) : Mw C σ S G H σ S1 G H := by
  obtain ⟨w, g⟩ := w
  refine ⟨.refl, ⟨c.sub, c.len.trans w.len, fun i d h => c.im i d (w.get h), fun i m h => c.ow i m (w.get h), fun i j m n a h h' => c.apart i j m n a (w.get h) (w.get h'), fun i b o hg h => c.bg i b o (g.trans hg) (w.get h), g ▸ c.bag, fun i b o m hg h => c.nob i b o m (g.trans hg) (w.get h)⟩, fun a z => .inl ?_⟩
  rcases z with ⟨i, m, h, q⟩ | ⟨o, h⟩
  · exact .inl ⟨i, m, w.get h, q⟩
  · exact .inr ⟨o, g.trans h⟩
theorem ds_wk {sts : List Stmt} (w : Wk S S1) (h : DS F sts S1 P) : DS F sts S P := fun σ G H c E m =>
  let mw := w.mw c
  h σ G H mw.cx E (m.move mw)
theorem dg_wk {d : D} {js : List Nat} (w : Wk S S1) (h : DG F tg d S1 S2 js) : DG F tg d S S2 js := fun σ G H v c dv Q q =>
  let mw := w.mw c
  h σ G H v mw.cx dv Q fun σ2 G2 H2 m o => q σ2 G2 H2 (mw.trans m) o
theorem Wk.mv {C : Kc} {G H : Hp} {σ : L2.St} (w : Wk S S1) (c : Ctx C G H σ S) : Mv C σ S G H S1 G H := by
  have m := w.mw c
  refine ⟨m.go, m.cx, fun a z => ?_⟩
  obtain ⟨w, g⟩ := w
  rcases z with ⟨i, m, h, q⟩ | ⟨o, h⟩
  · exact .inl ⟨i, m, w.get h, q⟩
  · exact .inr ⟨o, g.trans h⟩
theorem dt_wk {k : Bool} (w : Wk S S1) (h : DT F c S1 S2 k) : DT F c S S2 k := fun σ G H cx Q q =>
  let mv := w.mv cx
  h σ G H mv.cx Q fun G2 H2 m => q G2 H2 (mv.trans m)
theorem ds_fz {sts : List Stmt} {j : Nat} {m : MO} (hj : S.s[j]? = some (some (.own m))) (h : DS F sts (S.set j (dOf m)) P) : DS F sts S P := fun σ G H c E me => by
  obtain ⟨a, o, h1, h2, h3, h4⟩ := c.ow j m hj
  have mv := c.freeze hj h1 h2 h3 h4
  exact h σ _ H mv.cx E (me.move mv.mw)
open Classical in
open Classical in
end
end DL
namespace SL
open PySem L2 DL
variable [TabL]
def atomB : D → Bool
  | .non => true
  | .bl _ => true
  | .int _ => true
  | .str _ => true
  | _ => false
def atomO (o : O D) : O D := o.bind fun d => bif atomB d then .ok d else .bad
@[simp] theorem atomO_non : atomO (.ok .non) = .ok .non := rfl
@[simp] theorem atomO_bl (b : Bool) : atomO (.ok (.bl b)) = .ok (.bl b) := rfl
@[simp] theorem atomO_int (i : Int) : atomO (.ok (.int i)) = .ok (.int i) := rfl
@[simp] theorem atomO_str (i : Str) : atomO (.ok (.str i)) = .ok (.str i) := rfl
def DSk {R : Type} (F : Fam) (sts : List Stmt) (S : ST) (m : O R) (P : R → Po) : Prop := ∀ r, m = .ok r → DS F sts S (P r)
def PF : D → Po := fun r => { rt := fun d' _ => d' = r, nx := fun _ => r = .non }
def PN : List D → Po := fun r => { ro := fun es' _ => es' = r }
def PI (b : Addr) (c : Nat) : List (Str × D) → Po := fun r => { nx := fun S => S.g = some (b, .ins c r) }
def PJ {T : Type} (mk : T → ST) : T → Po := fun t => { nx := fun S' => Wk S' (mk t) }
def PB {T : Type} (mk : T → ST) : T → Po := fun t => { nx := fun S' => Wk S' (mk t), ct := fun S' => Wk S' (mk t) }
inductive Fl (T R : Type) where
  | nx (t : T) | bk (t : T) | rt (r : R)
def PL {T R : Type} (P : R → Po) (mk : T → ST) : Fl T R → Po
  | .nx t => { nx := fun S' => Wk S' (mk t), ct := fun S' => Wk S' (mk t) }
  | .bk t => { bk := fun S' => Wk S' (mk t) }
  | .rt r => { P r with nx := fun _ => False, bk := fun _ => False, ct := fun _ => False }
def forO {T : Type} (f : T → D → O T) : List D → T → O T
  | [], t => .ok t
  | d :: ds, t => (f t d).bind fun t' => forO f ds t'
def loopO {T R : Type} (f : T → D → O (Fl T R)) : List D → T → O (Fl T R)
  | [], t => .ok (.nx t)
  | d :: ds, t => (f t d).bind fun
    | .nx t' => loopO f ds t'
    | .bk t' => .ok (.bk t')
    | .rt r => .ok (.rt r)
def thenO {T R : Type} (o : O (Fl T R)) (k : T → O R) : O R := o.bind fun
  | .nx t => k t
  | .bk t => k t
  | .rt r => .ok r
@[simp] theorem thenO_nx {T R : Type} (t : T) (k : T → O R) : thenO (.ok (.nx t)) k = k t := rfl
@[simp] theorem thenO_bk {T R : Type} (t : T) (k : T → O R) : thenO (.ok (.bk t)) k = k t := rfl
@[simp] theorem thenO_rt {T R : Type} (r : R) (k : T → O R) : thenO (.ok (.rt r)) k = .ok r := rfl
def whileO {T : Type} (c : T → O Bool) (f : T → O T) : Nat → T → O T
  | 0, _ => .bad
  | n + 1, t => O.ite (c t) ((f t).bind fun t' => whileO c f n t') (.ok t)
def sized {α : Type} (n : Nat) (m : O α) : O α := if n ≤ 1000000 then m else .bad
theorem sized_eq {α : Type} {n : Nat} {m : O α} {a : α} (h : sized n m = .ok a) : n ≤ 1000000 ∧ m = .ok a := by
  unfold sized at h
  split at h
  · exact ⟨by assumption, h⟩
  · cases h
theorem sized_ok {α : Type} {n : Nat} {m : O α} (h : n ≤ 1000000) : sized n m = m := if_pos h
theorem forO_take {T : Type} {f : T → D → O T} : ∀ {ds : List D} {t0 te : T}, forO f ds t0 = .ok te → ∀ i, ∃ t, forO f (ds.take i) t0 = .ok t
  | ds, t0, te, h, 0 => ⟨t0, rfl⟩
  | [], t0, te, h, i + 1 => ⟨t0, rfl⟩
  | d :: ds, t0, te, h, i + 1 => by
    obtain ⟨t', h1, h2⟩ := O.bind_eq (show (f t0 d).bind (fun t' => forO f ds t') = _ from h)
    obtain ⟨t, ht⟩ := forO_take h2 i
    exact ⟨t, by show (f t0 d).bind (fun t' => forO f (ds.take i) t') = _; rw [h1]; exact ht⟩
theorem forO_append {T : Type} {f : T → D → O T} : ∀ (xs ys : List D) (t0 : T), forO f (xs ++ ys) t0 = (forO f xs t0).bind fun t => forO f ys t
  | [], ys, t0 => rfl
  | d :: xs, ys, t0 => by
    show (f t0 d).bind (fun t' => forO f (xs ++ ys) t') = ((f t0 d).bind fun t' => forO f xs t').bind fun t => forO f ys t
    rw [O.bind_assoc]
    congr 1
    funext t'
    exact forO_append xs ys t'
theorem loopO_append {T R : Type} {f : T → D → O (Fl T R)} : ∀ (xs ys : List D) (t0 : T), loopO f (xs ++ ys) t0 = (loopO f xs t0).bind fun
    | .nx t => loopO f ys t
    | .bk t => .ok (.bk t)
    | .rt r => .ok (.rt r)
  | [], ys, t0 => rfl
  | d :: xs, ys, t0 => by
    show (f t0 d).bind _ = ((f t0 d).bind _).bind _
    rw [O.bind_assoc]
    congr 1
    funext z
    cases z with
    | nx t' => exact loopO_append xs ys t'
    | bk t => rfl
    | rt r => rfl
section
variable {F : Fam} {S S1 : ST} {e a b c tg iter : Expr} {d : D} {pos p q1 cpos apos : Pos} {oa ob oe : O D} {ot : O Bool} {es : List Expr} {os oi : O (List D)} {rest t u body sts : List Stmt} {R T B : Type} {m m1 m2 : O R} {P : R → Po}
theorem k_fz {j : Nat} {mo : MO} (hj : S.s[j]? = some (some (.own mo))) (h : DSk F sts (S.set j (dOf mo)) m P) : DSk F sts S m P := fun r q => ds_fz hj (h r q)
theorem k_raise {cn : Nat} : DSk F sts S (os.bind fun ds => (.exc cn ds : O R)) P := fun r q => by
  obtain ⟨_, _, q⟩ := O.bind_eq q
  cases q
theorem k_retA {P : D → Po} (h : DEp F e S oe) (hP : ∀ d, (P d).rt d S := by intro _; rfl) : DSk F (.Return (some e) pos :: rest) S oe P := fun r q => ds_ret (h r q) (hP r)
theorem k_retN (h : DOp F e S os) : DSk F (.Return (some e) pos :: rest) S os PN := fun r q => ds_retO (h r q) rfl
theorem k_ret {ret : D → R} (h : DEp F e S oe) (hP : ∀ d, (P (ret d)).rt d S := by intro _; rfl) : DSk F (.Return (some e) pos :: rest) S (oe.bind fun d => .ok (ret d)) P := fun r q => by
  obtain ⟨d, h1, q⟩ := O.bind_eq q
  cases q
  exact ds_ret (h d h1) (hP d)
theorem k_ifr (ht : DTp F c S ot) (h1 : DSk F t S m1 (fun r => { P r with nx := fun _ => False })) (h2 : DSk F rest S m2 P) : DSk F (.If c t [] pos :: rest) S (O.ite ot m1 m2) P := fun r q => by
  rcases O.ite_eq q with ⟨h3, q⟩ | ⟨h3, q⟩
  · exact ds_ifr (k := true) (ht _ h3) (fun _ => h1 r q) (fun z => nomatch z)
  · exact ds_ifr (k := false) (ht _ h3) (fun z => nomatch z) (fun _ => h2 r q)
theorem k_ifj (mk : T → ST) {n1 n2 : O T} {mr : T → O R} (ht : DTp F c S ot) (h1 : DSk F t S n1 (PJ mk)) (h2 : DSk F u S n2 (PJ mk)) (hr : ∀ x, DSk F rest (mk x) (mr x) P) : DSk F (.If c t u pos :: rest) S ((O.ite ot n1 n2).bind mr) P := fun r q => by
  obtain ⟨x, q1, q⟩ := O.bind_eq q
  rcases O.ite_eq q1 with ⟨h3, q1⟩ | ⟨h3, q1⟩
  · exact ds_if (fun S' => Wk S' (mk x)) (k := true) (ht _ h3) (fun _ => ds_mono (h1 x q1) (fun _ z => z) (fun _ _ z => z.elim) (fun _ z => z.elim) (fun _ z => z.elim) (fun _ _ z => z.elim)) (fun z => nomatch z) (fun _ z => ds_wk z (hr x r q))
  · exact ds_if (fun S' => Wk S' (mk x)) (k := false) (ht _ h3) (fun z => nomatch z) (fun _ => ds_mono (h2 x q1) (fun _ z => z) (fun _ _ z => z.elim) (fun _ z => z.elim) (fun _ z => z.elim) (fun _ _ z => z.elim)) (fun _ z => ds_wk z (hr x r q))
theorem k_nilJ {mk : T → ST} {x : T} (w : Wk S (mk x)) : DSk F [] S (.ok x) (PJ mk) := fun r q => by cases q; exact ds_nil w
theorem k_nilB {mk : T → ST} {x : T} (w : Wk S (mk x)) : DSk F [] S (.ok x) (PB mk) := fun r q => by cases q; exact ds_nil w
theorem k_nilL {mk : T → ST} {x : T} (w : Wk S (mk x)) : DSk F [] S (.ok (.nx x)) (PL P mk) := fun r q => by cases q; exact ds_nil w
theorem k_set {j : Nat} {x : Str} {pos' : Pos} {mr : D → O R} (he : DEp F e S oe) (hr : ∀ d, DSk F rest (S.set j d) (mr d) P) (hN : ∀ i, (F.X i).N[j]? = some x := by intro _; rfl) (hx : ∀ i, Loc (F.X i).env.scope x := by intro _; first | exact Or.inl rfl | exact Or.inr rfl)
    (hs : ∀ i, swapsWith e (some (.Name x pos')) pos.line (F.X i).env = pure false := by intro _; rfl) (hf : ∀ i, (F.X i).fn x = true ∨ (F.X i).env.scope.names.lookup x = some .local := by intro _; first | exact .inl rfl | exact .inr rfl) : DSk F (.Assign [.Name x pos'] e pos :: rest) S (oe.bind mr) P := fun r q => by
  obtain ⟨d, h1, q⟩ := O.bind_eq q
  exact ds_set (he d h1) (hr d r q) hN hx hs hf
theorem k_setO {j : Nat} {x : Str} {pos' : Pos} {mr : List D → O R} (he : DOp F e S os) (hr : ∀ ds, DSk F rest (S.setO j ds) (mr ds) P) (hj : j < S.s.length := by exact Nat.le_of_ble_eq_true rfl) (hN : ∀ i, (F.X i).N[j]? = some x := by intro _; rfl) (hx : ∀ i, Loc (F.X i).env.scope x := by intro _; first | exact Or.inl rfl | exact Or.inr rfl)
    (hs : ∀ i, swapsWith e (some (.Name x pos')) pos.line (F.X i).env = pure false := by intro _; rfl) (hf : ∀ i, (F.X i).fn x = true ∨ (F.X i).env.scope.names.lookup x = some .local := by intro _; first | exact .inl rfl | exact .inr rfl) : DSk F (.Assign [.Name x pos'] e pos :: rest) S (os.bind mr) P := fun r q => by
  obtain ⟨ds, h1, q⟩ := O.bind_eq q
  exact ds_setO (he ds h1) (hr ds r q) hj hN hx hs hf
theorem k_append {j : Nat} {x : Str} {gs : List D} {mr : D → O R} (he : DEp F e S oe) (hj : S.s[j]? = some (some (.own (.lst gs)))) (hr : ∀ d, DSk F rest (S.setO j (gs ++ [d])) (mr d) P)
    (hp : ∀ i, PE (F.X i) (.Call (.Attribute (.Name x q1) "append" apos) [e] [] cpos) (tBM (F.X i).K "list" rAppend (tVar j) (tCons (anyE F e) tNil)) := by
      intro i; exact pe_bm PySem.F.plainAttrs_list PySem.F.slot_list_append PySem.F.type_list_append mt_append (pv _) (pa_cons (anyE_ok i) pa_nil))
    (hs : ∀ i, swapsWith (.Call (.Attribute (.Name x q1) "append" apos) [e] [] cpos) none pos.line (F.X i).env = pure false := by intro _; rfl) : DSk F (.Expr (.Call (.Attribute (.Name x q1) "append" apos) [e] [] cpos) pos :: rest) S (oe.bind fun d => sized gs.length (mr d)) P := fun r q => by
  obtain ⟨d, h1, q⟩ := O.bind_eq q
  obtain ⟨h2, q⟩ := sized_eq q
  exact ds_append (he d h1) ⟨gs, hj⟩ hj (hr d r q) (Nat.lt_of_le_of_lt h2 (by decide)) hp hs
theorem k_asg3 [Calm F] {i j l k2 : Nat} {n1 n2 n3 : Str} {px py pz pt : Pos} {mr : D → D → D → O R} (he : DEp F e S oe) (hr : ∀ x y z, DSk F rest (((S.set i x).set j y).set l z) (mr x y z) P)
    (h1 : ∀ o, (F.X o).N[i]? = some n1 := by intro _; rfl) (h2 : ∀ o, (F.X o).N[j]? = some n2 := by intro _; rfl) (h3 : ∀ o, (F.X o).N[l]? = some n3 := by intro _; rfl)
    (x1 : ∀ o, Loc (F.X o).env.scope n1 := by intro _; first | exact Or.inl rfl | exact Or.inr rfl) (x2 : ∀ o, Loc (F.X o).env.scope n2 := by intro _; first | exact Or.inl rfl | exact Or.inr rfl) (x3 : ∀ o, Loc (F.X o).env.scope n3 := by intro _; first | exact Or.inl rfl | exact Or.inr rfl)
    (f1 : ∀ o, (F.X o).fn n1 = true ∨ (F.X o).env.scope.names.lookup n1 = some .local := by intro _; first | exact .inl rfl | exact .inr rfl) (f2 : ∀ o, (F.X o).fn n2 = true ∨ (F.X o).env.scope.names.lookup n2 = some .local := by intro _; first | exact .inl rfl | exact .inr rfl) (f3 : ∀ o, (F.X o).fn n3 = true ∨ (F.X o).env.scope.names.lookup n3 = some .local := by intro _; first | exact .inl rfl | exact .inr rfl)
    (ho : ∀ o, PS (F.X o) (.Assign [.Tuple [.Name n1 px, .Name n2 py, .Name n3 pz] k2 pt] e pos) (tAsg (anyE F e) (anyG F (.Tuple [.Name n1 px, .Name n2 py, .Name n3 pz] k2 pt))) := by intro o; exact ps_asg (anyE_ok o) (anyG_ok o)) :
    DSk F (.Assign [.Tuple [.Name n1 px, .Name n2 py, .Name n3 pz] k2 pt] e pos :: rest) S (oe.bind fun d => un3 d mr) P := fun r q => by
  obtain ⟨d, g1, q⟩ := O.bind_eq q
  unfold un3 at q
  split at q
  · exact ds_asg (he _ g1) (dg_tup (dgs_cons (dg_name (j := i) h1 x1 f1) (dgs_cons (dg_name (j := j) h2 x2 f2) (dgs_cons (dg_name (j := l) h3 x3 f3) dgs_nil)))) (hr _ _ _ r q) ho
  · exact ds_asg (he _ g1) (dg_lst (dgs_cons (dg_name (j := i) h1 x1 f1) (dgs_cons (dg_name (j := j) h2 x2 f2) (dgs_cons (dg_name (j := l) h3 x3 f3) dgs_nil)))) (hr _ _ _ r q) ho
  · cases q
theorem k_for (mk : T → ST) {t0 : T} {β : D → O B} {st : T → B → ST} {mb : T → B → O T} {mr : T → O R} (hi : DIp F tg iter S oi) (w : Wk S (mk t0)) (hg : ∀ x d y, β d = .ok y → ∃ js, DG F tg d (mk x) (st x y) js)
    (hb : ∀ x y, DSk F body (st x y) (mb x y) (PB mk)) (hr : ∀ x, DSk F rest (mk x) (mr x) P)
    (hp : ∀ i, PassesOwn (model (F.X i).prog (F.X i).w) (F.X i).A (F.X i).env (F.X i).xe := by intro _; exact PassesOwn.never)
    (hf : ∀ i, PS (F.X i) (.For tg iter body [] pos) (tFor (anyI F tg iter) (anyG F tg) (anyS F body)) := by intro i; exact ps_for PassesOwn.never (Fam.calm _ i) (anyI_ok i) (anyG_ok i) (anyS_ok i)) :
    DSk F (.For tg iter body [] pos :: rest) S (oi.bind fun ds => (forO (fun x d => (β d).bind fun y => mb x y) ds t0).bind mr) P := fun r q => by
  obtain ⟨ds, h1, q⟩ := O.bind_eq q
  obtain ⟨te, h2, q⟩ := O.bind_eq q
  refine ds_for (fun i S' => ∃ x, forO (fun x d => (β d).bind fun y => mb x y) (ds.take i) t0 = .ok x ∧ Wk S' (mk x)) (fun S' => Wk S' (mk te)) (hi ds h1) ⟨t0, rfl, w⟩ (fun i S' d hd hI => ?_) (fun S' hI => ?_) (fun S' z => ds_wk z (hr te r q)) hp hf
  · obtain ⟨x, e1, wx⟩ := hI
    obtain ⟨x', e2⟩ := forO_take h2 (i + 1)
    have e3 := e2
    rw [take_one hd, forO_append, e1] at e3
    obtain ⟨x2, e4, e5⟩ := O.bind_eq (show ((β d).bind fun y => mb x y).bind (fun t' => forO _ [] t') = _ from e3)
    cases e5
    obtain ⟨y, e6, e7⟩ := O.bind_eq e4
    obtain ⟨js, g⟩ := hg x d y e6
    refine ⟨_, js, dg_wk wx g, ds_mono (hb x y _ e7) (fun S2 z => ⟨_, e2, z⟩) (fun _ _ z => z.elim) (fun _ z => z.elim) (fun S2 z => ⟨_, e2, z⟩) (fun _ _ z => z.elim)⟩
  · obtain ⟨x, e1, wx⟩ := hI
    rw [List.take_length, h2] at e1
    cases e1
    exact wx
theorem loopO_nx {f : T → D → O (Fl T R)} : ∀ {ds : List D} {t0 : T} {z : Fl T R}, loopO f ds t0 = .ok z → ∀ {i : Nat} {d : D} {x : T}, ds[i]? = some d → loopO f (ds.take i) t0 = .ok (.nx x) → ∃ y, f x d = .ok y ∧ loopO f (ds.take (i + 1)) t0 = (match y with
    | .nx t' => .ok (.nx t')
    | .bk t' => .ok (.bk t')
    | .rt r => .ok (.rt r)) ∧ (∀ t', y = .bk t' → z = .bk t') ∧ ∀ r, y = .rt r → z = .rt r := by
  intro ds t0 z h i d x hd hx
  have e : ds = ds.take i ++ d :: ds.drop (i + 1) := by
    have h1 := (List.getElem?_eq_some_iff.mp hd)
    obtain ⟨hlt, he⟩ := h1
    rw [← he]
    simp
  have h2 := h
  rw [e, loopO_append, hx] at h2
  obtain ⟨y, e1, e2⟩ := O.bind_eq (show (f x d).bind _ = _ from h2)
  refine ⟨y, e1, ?_, ?_, ?_⟩
  · rw [take_one hd, loopO_append, hx]
    show (f x d).bind _ = _
    rw [e1]
    cases y <;> rfl
  · intro t' q
    subst q
    cases e2; rfl
  · intro r q
    subst q
    cases e2; rfl
theorem k_while (mk : T → ST) (n : Nat) {t0 : T} {ct : T → O Bool} {mb : T → O T} {mr : T → O R} (w : Wk S (mk t0)) (hc : ∀ x, DTp F c (mk x) (ct x)) (hb : ∀ x, DSk F body (mk x) (mb x) (PB mk)) (hr : ∀ x, DSk F rest (mk x) (mr x) P)
    (hp : ∀ i, PassesOwn (model (F.X i).prog (F.X i).w) (F.X i).A (F.X i).env (F.X i).xe := by intro _; exact PassesOwn.never) : DSk F (.While c body [] pos :: rest) S ((whileO ct mb n t0).bind mr) P := fun r q => by
  obtain ⟨te, h2, q⟩ := O.bind_eq q
  refine ds_whileN (fun k S' => ∃ x, whileO ct mb k x = .ok te ∧ Wk S' (mk x)) (fun S' => Wk S' (mk te)) ⟨t0, h2, w⟩ (fun k S' hI => ?_) (fun S' z => ds_wk z (hr te r q)) hp
  obtain ⟨x, e1, wx⟩ := hI
  cases k with
  | zero => cases e1
  | succ k =>
    rcases O.ite_eq (show O.ite _ _ _ = _ from e1) with ⟨h3, h4⟩ | ⟨h3, h4⟩
    · refine ⟨true, mk x, dt_wk wx (hc x _ h3), fun _ => ?_, fun z => nomatch z⟩
      obtain ⟨x', h5, h6⟩ := O.bind_eq h4
      exact ds_mono (hb x x' h5) (fun S2 z => ⟨k, Nat.lt_succ_self k, x', h6, z⟩) (fun _ _ z => z.elim) (fun _ z => z.elim) (fun S2 z => ⟨k, Nat.lt_succ_self k, x', h6, z⟩) (fun _ _ z => z.elim)
    · exact ⟨false, mk x, dt_wk wx (hc x _ h3), fun z => (nomatch z), fun _ => by rw [O.ok.inj h4]; exact Wk.refl _⟩
end
end SL
namespace SL
open PySem L2 DL
variable [TabL]
def itD : D → O (List D)
  | .lst ds => .ok ds
  | .tup ds => .ok ds
  | .str t => .ok (signsD t)
  | _ => .bad
@[simp] theorem itD_lst (ds : List D) : itD (.lst ds) = .ok ds := rfl
@[simp] theorem itD_tup (ds : List D) : itD (.tup ds) = .ok ds := rfl
@[simp] theorem itD_str (t : Str) : itD (.str t) = .ok (signsD t) := rfl
def rg1 (d : D) : O (List D) := (asI d).bind fun i => if -(2 ^ 62) ≤ i ∧ i < 2 ^ 62 then .ok (rangeD 0 i.toNat) else .bad
section
variable {F : Fam} {S S1 S2 S3 : ST} {e : Expr} {p : Pos} {ds : List D}
end
def lcO (g : D → O (Option D)) : List D → O (List D)
  | [] => .ok []
  | d :: ds => (g d).bind fun o => (lcO g ds).bind fun r => .ok (o.toList ++ r)
def mapO (f : D → O D) (ds : List D) : O (List D) := sized ds.length (lcO (fun d => (f d).bind fun x => .ok (some x)) ds)
def filO (t : D → O Bool) (f : D → O D) (ds : List D) : O (List D) := sized ds.length (lcO (fun d => O.ite (t d) ((f d).bind fun x => .ok (some x)) (.ok none)) ds)
theorem lcO_append {g : D → O (Option D)} : ∀ (xs ys : List D), lcO g (xs ++ ys) = (lcO g xs).bind fun r => (lcO g ys).bind fun s => .ok (r ++ s)
  | [], ys => by
    show lcO g ys = (lcO g ys).bind fun s => .ok s
    cases lcO g ys <;> rfl
  | d :: xs, ys => by
    show (g d).bind _ = ((g d).bind _).bind _
    rw [O.bind_assoc]
    congr 1
    funext o
    rw [show lcO g (xs.append ys) = _ from lcO_append xs ys, O.bind_assoc, O.bind_assoc]
    congr 1
    funext r
    rw [O.bind_assoc]
    show _ = (lcO g ys).bind fun s => .ok ((o.toList ++ r) ++ s)
    congr 1
    funext s
    show O.ok (o.toList ++ (r ++ s)) = _
    rw [List.append_assoc]
theorem lcO_len {g : D → O (Option D)} : ∀ {xs r : List D}, lcO g xs = .ok r → r.length ≤ xs.length
  | [], r, h => by cases h; exact Nat.le_refl _
  | d :: xs, r, h => by
    obtain ⟨o, h1, h⟩ := O.bind_eq (show (g d).bind _ = _ from h)
    obtain ⟨s, h2, h⟩ := O.bind_eq h
    cases h
    have := lcO_len h2
    cases o <;> simp <;> omega
theorem lcO_take {g : D → O (Option D)} {ds r : List D} (h : lcO g ds = .ok r) (i : Nat) : ∃ s, lcO g (ds.take i) = .ok s := by
  have e : ds = ds.take i ++ ds.drop i := (List.take_append_drop i ds).symm
  rw [e, lcO_append] at h
  obtain ⟨s, h1, _⟩ := O.bind_eq h
  exact ⟨s, h1⟩
theorem lcO_map {f : D → O D} {g : D → D} : ∀ {ds : List D}, (∀ d ∈ ds, f d = .ok (g d)) → lcO (fun d => (f d).bind fun x => .ok (some x)) ds = .ok (ds.map g)
  | [], _ => rfl
  | d :: ds, h => by
    show ((f d).bind _).bind _ = _
    rw [h d List.mem_cons_self, lcO_map fun x hx => h x (List.mem_cons_of_mem _ hx)]
    rfl
theorem mapO_ok {f : D → O D} (g : D → D) {ds : List D} (h : ∀ d ∈ ds, f d = .ok (g d)) (hl : ds.length ≤ 1000000) : mapO f ds = .ok (ds.map g) := by
  unfold mapO
  rw [sized_ok hl, lcO_map h]
theorem lcO_fil {t : D → O Bool} {f : D → O D} {k : D → Bool} {g : D → D} : ∀ {ds : List D}, (∀ d ∈ ds, t d = .ok (k d)) → (∀ d ∈ ds, k d = true → f d = .ok (g d)) → lcO (fun d => O.ite (t d) ((f d).bind fun x => .ok (some x)) (.ok none)) ds = .ok ((ds.filter k).map g)
  | [], _, _ => rfl
  | d :: ds, h1, h2 => by
    have ih := lcO_fil (ds := ds) (fun x hx => h1 x (List.mem_cons_of_mem _ hx)) (fun x hx => h2 x (List.mem_cons_of_mem _ hx))
    show (O.ite (t d) _ _).bind _ = _
    rw [h1 d List.mem_cons_self, ih]
    cases q : k d with
    | true =>
      rw [O.ite_true, h2 d List.mem_cons_self q, List.filter_cons, q]
      rfl
    | false =>
      rw [List.filter_cons, q]
      rfl
theorem filO_ok {t : D → O Bool} {f : D → O D} (k : D → Bool) (g : D → D) {ds : List D} (h1 : ∀ d ∈ ds, t d = .ok (k d)) (h2 : ∀ d ∈ ds, k d = true → f d = .ok (g d)) (hl : ds.length ≤ 1000000) : filO t f ds = .ok ((ds.filter k).map g) := by
  unfold filO
  rw [sized_ok hl, lcO_fil h1 h2]
def noOwns (s : List (Option DV)) : List Nat → Bool
  | [] => true
  | v :: vs => (match s[v]? with
    | some (some (.own _)) => false
    | _ => true) && noOwns s vs
theorem noOwns_of {s : List (Option DV)} {i : Nat} {m : MO} : ∀ {vs : List Nat}, noOwns s vs = true → s[i]? = some (some (.own m)) → i ∉ vs
  | [], _, _ => by simp
  | v :: vs, h, q => by
    unfold noOwns at h
    rw [Bool.and_eq_true] at h
    simp only [List.mem_cons, not_or]
    refine ⟨fun e => ?_, noOwns_of h.2 q⟩
    subst e
    rw [q] at h
    exact absurd h.1 (by simp)
section
variable {F : Fam} {S S1 : ST} {e a b c tg iter elt : Expr} {d : D} {pos p p2 q1 cpos apos : Pos} {oa ob oe : O D} {ot : O Bool} {es : List Expr} {os oi : O (List D)} {rest t u body sts : List Stmt} {R T B : Type} {P : R → Po} {scope : Scope}
theorem i_val (h : DEp F iter S oe) : DIp F tg iter S (oe.bind itD) := fun ds q => by
  obtain ⟨x, h1, q⟩ := O.bind_eq q
  unfold itD at q
  split at q
  · cases q; exact di_list (h _ h1)
  · cases q; exact di_tup (h _ h1)
  · cases q; exact di_str (h _ h1)
  · cases q
theorem i_range1 (hm : F.mg "range" = none) (h : DEp F e S oe) (hg : ∀ l, Gl (F.X l) "range" := by intro _; rfl) (hs : ∀ l, starEach [e] (F.X l).env = [(false, eval e (F.X l).env)] := by intro _; rfl) : DIp F tg (.Call (.Name "range" p) [e] [] q1) S (oe.bind rg1) := fun ds q => by
  obtain ⟨x, h1, q⟩ := O.bind_eq q
  obtain ⟨i, h2, qq⟩ := O.bind_eq (show O.bind _ _ = _ from q)
  split at qq
  · rename_i hb
    have e0 := asI_eq h2
    subst e0
    rw [← O.ok.inj qq]
    exact di_range1 hm (h _ h1) hb.1 hb.2 hg hs
  · cases qq
def DTsp (F : Fam) (ifs : List Expr) (S : ST) (o : O Bool) : Prop := ∀ b, o = .ok b → DTs F ifs S S b
theorem ts_nil : DTsp F [] S (.ok true) := fun b q => by cases q; exact dts_nil
theorem ts_one (h : DTp F c S ot) : DTsp F [c] S ot := fun b q => dts_one (h b q)
theorem ev_lcG {ifs : List Expr} {vs : List Nat} {js : List Nat} {β : D → O B} {st : B → ST} {tt : B → O Bool} {el : B → O D} {ds r : List D} (hi : DI F tg iter S S ds)
    (hg : ∀ d y, β d = .ok y → DG (F.blk scope) tg d ⟨hidS S.s vs, S.g⟩ (st y) js) (hjs : ∀ j ∈ js, j ∈ vs) (hk : ∀ y, KeepOwn S.s vs (st y)) (hG : ∀ y, (st y).g = S.g)
    (ht : ∀ y, DTsp (F.blk scope) ifs (st y) (tt y)) (he : ∀ y, DEp (F.blk scope) elt (st y) (el y)) (hl : ds.length ≤ 1000000)
    (h : lcO (fun d => (β d).bind fun y => O.ite (tt y) ((el y).bind fun x => .ok (some x)) (.ok none)) ds = .ok r) :
    EvO F.C (tLc (anyI F tg iter) (anyG (F.blk scope) tg) (anyTs (F.blk scope) ifs) (anyE (F.blk scope) elt) vs) S S r := by
  have key : ∀ i, ∃ s, lcO (fun d => (β d).bind fun y => O.ite (tt y) ((el y).bind fun x => .ok (some x)) (.ok none)) (ds.take i) = .ok s := lcO_take h
  have out : ∃ out : Nat → List D, ∀ i, lcO (fun d => (β d).bind fun y => O.ite (tt y) ((el y).bind fun x => .ok (some x)) (.ok none)) (ds.take i) = .ok (out i) := ⟨fun i => (key i).choose, fun i => (key i).choose_spec⟩
  obtain ⟨out, ho⟩ := out
  have o0 : out 0 = [] := by have := ho 0; rw [List.take_zero] at this; exact (O.ok.inj this).symm
  have oe : out ds.length = r := by have := ho ds.length; rw [List.take_length, h] at this; exact (O.ok.inj this).symm
  have := ev_lc (elt := elt) (ifs := ifs) (scope := scope) (vs0 := vs) hi (fun _ => S.g) out rfl o0 (fun _ => rfl) (fun i d hd => by
    have e1 := ho (i + 1)
    rw [take_one hd, lcO_append, ho i] at e1
    obtain ⟨s, e2, e3⟩ := O.bind_eq (show (lcO _ [d]).bind _ = _ from e1)
    obtain ⟨o, e4, e5⟩ := O.bind_eq (show O.bind _ _ = _ from e2)
    obtain ⟨s0, e6, e7⟩ := O.bind_eq e5
    cases e6
    have e7' : s = o.toList := by cases e7; simp
    have e3' : out (i + 1) = out i ++ o.toList := by rw [← e7']; exact (O.ok.inj e3).symm
    obtain ⟨y, e8, e9⟩ := O.bind_eq e4
    have hlt : i < ds.length := (List.getElem?_eq_some_iff.mp hd).1
    have hlen : (out i).length < sizeLine := Nat.lt_of_le_of_lt (lcO_len (ho i)) (by rw [List.length_take]; exact Nat.lt_of_le_of_lt (Nat.le_trans (Nat.min_le_left _ _) (Nat.le_trans (Nat.le_of_lt hlt) hl)) (by decide))
    rcases O.ite_eq e9 with ⟨z1, z2⟩ | ⟨z1, z2⟩
    · obtain ⟨x, z3, z4⟩ := O.bind_eq z2
      cases z4
      exact ⟨_, _, true, js, hg d y e8, hjs, ht y _ z1, fun _ => ⟨_, x, he y x z3, hG y, hk y, e3', hlen⟩, fun z => nomatch z⟩
    · cases z2
      exact ⟨_, _, false, js, hg d y e8, hjs, ht y _ z1, fun z => (nomatch z), fun _ => ⟨hG y, hk y, by rw [e3']; simp⟩⟩)
  rw [oe] at this
  exact this
theorem keep_name {vs : List Nat} {j : Nat} {y : D} (hn : noOwns S.s vs = true) (hj : j ∈ vs) : KeepOwn S.s vs ((⟨hidS S.s vs, S.g⟩ : ST).set j y) := fun i m h => by
  have n := noOwns_of hn h
  refine ⟨n, ?_⟩
  show ((hidS S.s vs).set j (some (.imm y)))[i]? = _
  rw [List.getElem?_set_ne (show j ≠ i from fun z => n (by rw [← z]; exact hj)), hidS_keep n]
  exact h
def LcE (F : Fam) (scope : Scope) (S : ST) (elt tg iter : Expr) (ifs : List Expr) (own : List (Str × Nat)) (os : O (List D)) : Prop := ∀ r, os = .ok r → EvO F.C (tLc (anyI F tg iter) (anyG (F.blk scope) tg) (anyTs (F.blk scope) ifs) (anyE (F.blk scope) elt) (own.map (·.2))) S S r
theorem lc_map {x : Str} {xp : Pos} {j : Nat} {own : List (Str × Nat)} {f : D → O D} (hi : DIp F (.Name x xp) iter S oi) (he : ∀ d, DEp (F.blk scope) elt ((⟨hidS S.s (own.map (·.2)), S.g⟩ : ST).set j d) (f d)) (hn : noOwns S.s (own.map (·.2)) = true := by rfl) (hj : j ∈ own.map (·.2) := by decide)
    (hN : ∀ i, ((F.blk scope).X i).N[j]? = some x := by intro _; rfl) (hx : ∀ i, Loc ((F.blk scope).X i).env.scope x := by intro _; first | exact Or.inl rfl | exact Or.inr rfl)
    (hf : ∀ i, ((F.blk scope).X i).fn x = true ∨ ((F.blk scope).X i).env.scope.names.lookup x = some .local := by intro _; first | exact .inl rfl | exact .inr rfl) : LcE F scope S elt (.Name x xp) iter [] own (oi.bind (mapO f)) := fun r q => by
  obtain ⟨ds, h1, q⟩ := O.bind_eq q
  obtain ⟨h2, q⟩ := sized_eq q
  exact ev_lcG (β := .ok) (st := fun d => (⟨hidS S.s (own.map (·.2)), S.g⟩ : ST).set j d) (tt := fun _ => .ok true) (js := [j]) (hi ds h1) (fun d y z => by cases z; exact dg_name hN hx hf) (fun i z => by rw [List.mem_singleton.mp z]; exact hj) (fun y => keep_name hn hj) (fun y => rfl) (fun y => ts_nil) he h2 q
theorem lc_fil {x : Str} {xp : Pos} {j : Nat} {own : List (Str × Nat)} {k : D → O Bool} {f : D → O D} (hi : DIp F (.Name x xp) iter S oi) (ht : ∀ d, DTp (F.blk scope) c ((⟨hidS S.s (own.map (·.2)), S.g⟩ : ST).set j d) (k d)) (he : ∀ d, DEp (F.blk scope) elt ((⟨hidS S.s (own.map (·.2)), S.g⟩ : ST).set j d) (f d)) (hn : noOwns S.s (own.map (·.2)) = true := by rfl) (hj : j ∈ own.map (·.2) := by decide)
    (hN : ∀ i, ((F.blk scope).X i).N[j]? = some x := by intro _; rfl) (hx : ∀ i, Loc ((F.blk scope).X i).env.scope x := by intro _; first | exact Or.inl rfl | exact Or.inr rfl)
    (hf : ∀ i, ((F.blk scope).X i).fn x = true ∨ ((F.blk scope).X i).env.scope.names.lookup x = some .local := by intro _; first | exact .inl rfl | exact .inr rfl) : LcE F scope S elt (.Name x xp) iter [c] own (oi.bind (filO k f)) := fun r q => by
  obtain ⟨ds, h1, q⟩ := O.bind_eq q
  obtain ⟨h2, q⟩ := sized_eq q
  exact ev_lcG (β := .ok) (st := fun d => (⟨hidS S.s (own.map (·.2)), S.g⟩ : ST).set j d) (js := [j]) (hi ds h1) (fun d y z => by cases z; exact dg_name hN hx hf) (fun i z => by rw [List.mem_singleton.mp z]; exact hj) (fun y => keep_name hn hj) (fun y => rfl) (fun y => ts_one (ht y)) he h2 q
theorem o_lc [Calm F] {ifs : List Expr} {own : List (Str × Nat)} (ok : ∀ i, BlkOk (F.X i).N (F.X i).env.scope scope own) (h : LcE F scope S elt tg iter ifs own os) (hs : ∀ i x, foldedSetIterable iter (F.X i).env x = pure x := by intro _ _; rfl) : DOp F (.ListComp elt [⟨tg, iter, ifs, 0⟩] scope pos) S os := fun r q =>
  do_of (fun i => pe_lc (F.calm i) (by rw [F.hN i]; exact F.nd) (anyI_ok i) (ok i) (fun s H C cl fp => anyG_ok (F := F.blk scope) (i, s, H, C, cl, fp)) (fun s H C cl fp => anyTs_ok (F := F.blk scope) (i, s, H, C, cl, fp)) (fun s H C cl fp => anyE_ok (F := F.blk scope) (i, s, H, C, cl, fp)) (hs i)) (h r q)
theorem k_for1 (mk : T → ST) {t0 : T} {x : Str} {xp : Pos} {j : Nat} {mb : T → D → O T} {mr : T → O R} (hi : DIp F (.Name x xp) iter S oi) (w : Wk S (mk t0)) (hb : ∀ t d, DSk F body ((mk t).set j d) (mb t d) (PB mk)) (hr : ∀ t, DSk F rest (mk t) (mr t) P)
    (g1 : ∀ (d : D) (S : ST), DG F (.Name x xp) d S (S.set j d) [j] := by intro _ _; exact dg_name)
    (hp : ∀ i, PassesOwn (model (F.X i).prog (F.X i).w) (F.X i).A (F.X i).env (F.X i).xe := by intro _; first | exact PassesOwn.never | exact passes_of rfl)
    (hf : ∀ i, PS (F.X i) (.For (.Name x xp) iter body [] pos) (tFor (anyI F (.Name x xp) iter) (anyG F (.Name x xp)) (anyS F body)) := by intro i; first | exact ps_for PassesOwn.never (Fam.calm _ i) (anyI_ok i) (anyG_ok i) (anyS_ok i) | exact ps_for (passes_of rfl) (Fam.calm _ i) (anyI_ok i) (anyG_ok i) (anyS_ok i)) :
    DSk F (.For (.Name x xp) iter body [] pos :: rest) S (oi.bind fun ds => (forO mb ds t0).bind mr) P :=
  k_for mk (β := .ok) (st := fun t d => (mk t).set j d) (mb := mb) hi w (fun t d y z => by cases z; exact ⟨_, g1 _ _⟩) hb hr hp hf
end
end SL
namespace DL
open PySem L2
variable [TabL]
inductive StV (C : Kc) (G H0 H : Hp) : V → DV → Prop where
  | imm {v : V} {d : D} : Den C G v d → StV C G H0 H v (.imm d)
  | own {q : Addr} {o : HO} {m : MO} : H0 q = none → G q = none → H q = some o → MOk C G q o m → StV C G H0 H (.ref q) (.own m)
theorem fresh_oa {C : Kc} {G H : Hp} {σ : L2.St} {S : ST} (c : Ctx C G H σ S) {q : Addr} (h : H q = none) : ¬ OA C σ S q := fun z => by
  rcases z with ⟨j, es, r1, r2⟩ | ⟨o, r⟩
  · obtain ⟨a, _, q1, _, q3, _⟩ := c.ow j es r1
    rw [r2] at q1; cases q1; rw [h] at q3; cases q3
  · have z := c.bag
    rw [r] at z
    cases o with
    | lst => obtain ⟨_, _, h3, _⟩ := z; rw [h] at h3; cases h3
    | ins => obtain ⟨_, _, _, h3, _⟩ := z; rw [h] at h3; cases h3
    | xd => obtain ⟨_, _, h3, _⟩ := z; rw [h] at h3; cases h3
theorem StV.step {C : Kc} {G H0 H G2 H2 : Hp} {σ : L2.St} {S S2 : ST} {v : V} {x : DV} (h : StV C G H0 H v x) (n : ∀ q, H0 q = none → ¬ OA C σ S q) (m : Mv C σ S G H S2 G2 H2) : StV C G2 H0 H2 v x := by
  cases h with
  | imm h => exact .imm (h.mono m.go.gg)
  | own h1 h2 h3 h4 => exact .own h1 (m.go.fr _ (n _ h1) (by rw [h3]; simp) h2) (m.go.keep _ _ (n _ h1) h4.nt h3) (h4.mono m.go.gg)
theorem Ctx.storeV {C : Kc} {G H0 H : Hp} {σ : L2.St} {S : ST} {i : Nat} {v : V} {x : DV} (c : Ctx C G H σ S) (h : StV C G H0 H v x) (hi : i < S.s.length) (n : ∀ q, v = .ref q → H0 q = none → ¬ OA C σ S q) : Ctx C G H (σ.set i (some v)) ⟨S.s.set i (some x), S.g⟩ := by
  cases h with
  | imm h => exact (c.store h).cx
  | own h1 h2 h3 h4 => exact c.storeO h2 h3 h4 hi (fun j es r z => n _ rfl h1 (.inl ⟨j, es, r, z⟩)) fun o r => n _ rfl h1 (.inr ⟨o, r⟩)
theorem oa_storeV {C : Kc} {σ : L2.St} {S : ST} {i : Nat} {v : V} {x : DV} {a : Addr} (z : OA C (σ.set i (some v)) ⟨S.s.set i (some x), S.g⟩ a) : OA C σ S a ∨ (v = .ref a ∧ ∃ m, x = .own m) := by
  rcases z with ⟨j, es, r1, r2⟩ | ⟨o, r⟩
  · by_cases ij : i = j
    · subst ij
      have l1 : i < S.s.length := by
        rcases Nat.lt_or_ge i S.s.length with z | z
        · exact z
        · rw [List.getElem?_eq_none (by simpa using z)] at r1; cases r1
      have l2 : i < σ.length := by
        rcases Nat.lt_or_ge i σ.length with z | z
        · exact z
        · rw [List.getElem?_eq_none (by simpa using z)] at r2; cases r2
      rw [List.getElem?_set_self l1] at r1
      rw [List.getElem?_set_self l2] at r2
      cases r1
      cases r2
      exact .inr ⟨rfl, _, rfl⟩
    · rw [List.getElem?_set_ne ij] at r1 r2
      exact .inl (.inl ⟨j, es, r1, r2⟩)
  · exact .inl (.inr ⟨o, r⟩)
def EvV (C : Kc) (te : TE) (S S1 : ST) (x : DV) : Prop := ∀ σ G H, Ctx C G H σ S → ∀ Q : VK, (∀ v G2 H2, Mv C σ S G H S1 G2 H2 → StV C G2 H H2 v x → Q v H2) → te σ H Q
theorem evv_m {C : Kc} {te : TE} {S S1 : ST} {d : D} (h : EvM C te S S1 d) : EvV C te S S1 (.imm d) := fun σ G H c Q q => h σ G H c Q fun v G2 H2 m dv => q v G2 H2 m (.imm dv)
theorem par2 {C : Kc} {ta tb : TE} {S S1 S2 : ST} {x y : DV} {i j : Nat} {σ : L2.St} {G H : Hp} (c : Ctx C G H σ S) (ha : EvV C ta S S1 x) (hb : EvV C tb S1 S2 y) (hi : i < S2.s.length) (hj : j < S2.s.length) {K : V → V → Hp → Prop}
    (k : ∀ v w G2 H2, Same H2 H2 → Mw C σ S G H ((σ.set i (some v)).set j (some w)) ⟨(S2.s.set i (some x)).set j (some y), S2.g⟩ G2 H2 → K v w H2) : ta σ H fun v H1 => tb σ H1 fun w H2 => K v w H2 :=
  ha σ G H c _ fun v G1 H1 m1 s1 => hb σ G1 H1 m1.cx _ fun w G2 H2 m2 s2 => by
    have n0 : ∀ q, H q = none → ¬ OA C σ S q := fun q h => fresh_oa c h
    have n1 : ∀ q, H q = none → ¬ OA C σ S1 q := fun q h z => n0 q h (m1.oa q z)
    have n2 : ∀ q, H q = none → ¬ OA C σ S2 q := fun q h z => n1 q h (m2.oa q z)
    have n3 : ∀ q, H1 q = none → ¬ OA C σ S2 q := fun q h z => fresh_oa m1.cx h (m2.oa q z)
    have b0 : ∀ q, H1 q = none → H q = none := fun q h => by
      cases r : H q with
      | none => rfl
      | some o => exact absurd h (m1.go.dom q (by rw [r]; simp))
    have t1 := s1.step n1 m2
    have c1 := m2.cx.storeV (i := i) t1 hi (fun q _ h => n2 q h)
    have c2 := c1.storeV (i := j) s2 (by simpa using hj) (fun q e h z => by
      rcases oa_storeV z with z | ⟨e2, m, e3⟩
      · exact n3 q h z
      · subst e2 e3
        cases s1 with
        | own _ _ h3 _ => rw [h] at h3; cases h3)
    refine k v w G2 H2 (fun _ _ h => h) ⟨(m1.trans m2).go, c2, fun a z => ?_⟩
    rcases oa_storeV (S := ⟨S2.s.set i (some x), S2.g⟩) z with z | ⟨e, m, e2⟩
    · rcases oa_storeV z with z | ⟨e, m, e2⟩
      · exact .inl (m1.oa a (m2.oa a z))
      · subst e e2
        cases t1 with
        | own h => exact .inr h
    · subst e e2
      cases s2 with
      | own h => exact .inr (b0 _ h)
theorem Mw.side {C : Kc} {σ σ2 : L2.St} {S S2 : ST} {G H G2 H2 : Hp} {p : Addr} {o : HO} (m : Mw C σ S G H σ2 S2 G2 H2) (hp : H2 p = none) : Mw C σ S G H σ2 S2 G2 (upd H2 p o) := by
  have sm : Same H2 (upd H2 p o) := fun a u h => by rw [upd_ne (ne_of_none h hp)]; exact h
  exact m.trans (m.cx.mv (Same.kt sm) (fun _ _ h => h) (m.cx.sub.trans sm) fun _ _ h => h).mw
end DL
namespace SL
open PySem L2 DL
variable [TabL]
def DVp {α : Type} (F : Fam) (e : Expr) (S : ST) (κ : α → DV) (o : O α) : Prop := ∀ x, o = .ok x → EvV F.C (anyE F e) S S (κ x)
def kI : D → DV := .imm
section
variable {F : Fam} {S S1 : ST} {e a b c : Expr} {pos p : Pos} {oe : O D} {os : O (List D)} {rest : List Stmt} {R α β γ : Type} {P : R → Po} {κ : α → DV} {κ' : β → DV} {κ'' : γ → DV} {oa : O α} {ob : O β} {oc : O γ}
theorem v_e (h : DEp F e S oe) : DVp F e S kI oe := fun x q => evv_m (h x q)
theorem k_par2 [Calm F] {i j : Nat} {n1 n2 : Str} {px py pt : Pos} {kt k2 : Nat} {pt2 : Pos} {mr : α → β → O R} (ha : DVp F a S κ oa) (hb : DVp F b S κ' ob) (hr : ∀ x y, DSk F rest ⟨(S.s.set i (some (κ x))).set j (some (κ' y)), S.g⟩ (mr x y) P)
    (hi : i < S.s.length := by exact Nat.le_of_ble_eq_true rfl) (hj : j < S.s.length := by exact Nat.le_of_ble_eq_true rfl) (h1 : ∀ l, (F.X l).N[i]? = some n1 := by intro _; rfl) (h2 : ∀ l, (F.X l).N[j]? = some n2 := by intro _; rfl) (hij : i ≠ j := by decide)
    (hx : ∀ l, (F.X l).env.scope.names.lookup n1 = some .local := by intro _; rfl) (hy : ∀ l, (F.X l).env.scope.names.lookup n2 = some .local := by intro _; rfl)
    (hw : ∀ l, swappedStores [.Tuple [.Name n1 px, .Name n2 py] kt pt] (.Tuple [a, b] k2 pt2) (F.X l).env = pure (some [n1, n2]) := by intro _; rfl)
    (hs : ∀ l, swapsWithSole [.Tuple [.Name n1 px, .Name n2 py] kt pt] (.Tuple [a, b] k2 pt2) pos.line (F.X l).env = pure false := by intro _; rfl)
    (hst : ∀ i, starEach [a, b] (F.X i).env = (false, eval a (F.X i).env) :: starEach [b] (F.X i).env := by intro _; rfl) (hst2 : ∀ i, starEach [b] (F.X i).env = (false, eval b (F.X i).env) :: starEach [] (F.X i).env := by intro _; rfl) :
    DSk F (.Assign [.Tuple [.Name n1 px, .Name n2 py] kt pt] (.Tuple [a, b] k2 pt2) pos :: rest) S (oa.bind fun x => ob.bind fun y => mr x y) P := fun r q => by
  obtain ⟨x, q1, q⟩ := O.bind_eq q
  obtain ⟨y, q2, q⟩ := O.bind_eq q
  refine ds_cons (M := fun S3 => S3 = ⟨(S.s.set i (some (κ x))).set j (some (κ' y)), S.g⟩) (d1_of (te := tPar i j (tCons (anyE F a) (tCons (anyE F b) tNil))) (fun l => ps_par (F.calm l) (by rw [F.hN l]; exact F.nd) (h1 l) (h2 l) hij (hx l) (hy l) (pa_cons (anyE_ok l) (pa_cons (anyE_ok l) pa_nil (hst2 l)) (hst l)) (hw l) (hs l)) ?_) fun _ z => z ▸ hr x y r q
  intro σ G H c E m
  exact par2 c (ha x q1) (hb y q2) hi hj fun v w G2 H2 _ mw => ⟨v, w, rfl, m.nx _ _ _ _ mw rfl⟩
theorem k_parT2 {i j : Nat} {n1 n2 : Str} {px py pt : Pos} {kt k2 : Nat} {pt2 : Pos} {mr : α → β → O R} (ha : DVp F a S κ oa) (hb : DVp F b S κ' ob) (hr : ∀ x y, DSk F rest ⟨(S.s.set i (some (κ x))).set j (some (κ' y)), S.g⟩ (mr x y) P)
    (hi : i < S.s.length := by exact Nat.le_of_ble_eq_true rfl) (hj : j < S.s.length := by exact Nat.le_of_ble_eq_true rfl)
    (hp : ∀ o, PS (F.X o) (.Assign [.Tuple [.Name n1 px, .Name n2 py] kt pt] (.Tuple [a, b] k2 pt2) pos) (tAsg (tTup (tCons (anyE F a) (tCons (anyE F b) tNil))) (gTup (F.X o).K 2 (gCons (gName i) (gCons (gName j) gNil)))) := by
      intro o; exact ps_asg (pe_tup (pa_cons (anyE_ok o) (pa_cons (anyE_ok o) pa_nil))) (pg_tup (Fam.calm _ o) (pgs_cons (pg_name (Fam.ndX _ o) rfl (by first | exact Or.inl rfl | exact Or.inr rfl)) (pgs_cons (pg_name (Fam.ndX _ o) rfl (by first | exact Or.inl rfl | exact Or.inr rfl)) pgs_nil)))) :
    DSk F (.Assign [.Tuple [.Name n1 px, .Name n2 py] kt pt] (.Tuple [a, b] k2 pt2) pos :: rest) S (oa.bind fun x => ob.bind fun y => mr x y) P := fun r q => by
  obtain ⟨x, q1, q⟩ := O.bind_eq q
  obtain ⟨y, q2, q⟩ := O.bind_eq q
  refine ds_cons (M := fun S3 => S3 = ⟨(S.s.set i (some (κ x))).set j (some (κ' y)), S.g⟩) (d1_of (te := tAsg (tTup (tCons (anyE F a) (tCons (anyE F b) tNil))) (gTup F.C.K 2 (gCons (gName i) (gCons (gName j) gNil)))) (fun o => by have := hp o; rw [F.hK o] at this; exact this) ?_) fun _ z => z ▸ hr x y r q
  intro σ G H c E m
  exact par2 c (ha x q1) (hb y q2) hi hj fun v w G2 H2 _ mw => ⟨by show 2 ≤ sizeLine; decide, fun p hp => ⟨p, [v, w], rfl, SqT.of upd_same, rfl, v, [w], rfl, w, [], rfl, rfl, m.nx _ _ _ _ (mw.side hp) rfl⟩⟩
end
section
variable {P : Program} {w : World} {C : Kc} {mg : Str → Option Value} {base : Heap} {x qual : Str} {st : Stmt} {f : Addr} {fd : FuncData} {N ps : List Str} {k : Nat}
theorem fx {φ : List D → O D} (F : Fun C.K x qual st f fd) (Sc : FnScope N ps (defScope st)) (len : ∀ ds d, φ ds = .ok d → ds.length = ps.length)
    (body : ∀ ds cdv A outer s H E hr, DSk (famD C mg base N Sc.nd qual (defScope st) f cdv A outer s H E k hr) (defBody st) ⟨DL.start N ds, none⟩ (φ ds) PF) : FnOk C.P C.w C.K mg base CX0 (k + 1) f fd ps (spF C φ) :=
  fnP F Sc len fun ds d h cdv A outer s H E hr => body ds cdv A outer s H E hr d h
theorem fxG {φ : List D → O D} (F : Fun C.K x qual st f fd) (Sc : FnScope N ps (defScope st)) (len : ∀ ds d, φ ds = .ok d → ds.length = ps.length)
    (body : ∀ ds cdv A outer s H E hr, (A.guards = some [] ∧ fd.code = cdv) → DSk (famD C mg base N Sc.nd qual (defScope st) f cdv A outer s H E k hr) (defBody st) ⟨DL.start N ds, none⟩ (φ ds) PF) : FnG C.P C.w C.K mg base (k + 1) f fd ps (spF C φ) :=
  fnPG F Sc len fun ds d h cdv A outer s H E hr hA => body ds cdv A outer s H E hr hA d h
def spFN (C : Kc) (φ : List D → O (List D)) : Sp := spO C fun ds es => φ ds = .ok es
theorem fxN {φ : List D → O (List D)} (F : Fun C.K x qual st f fd) (Sc : FnScope N ps (defScope st)) (len : ∀ ds d, φ ds = .ok d → ds.length = ps.length)
    (body : ∀ ds cdv A outer s H E hr, DSk (famD C mg base N Sc.nd qual (defScope st) f cdv A outer s H E k hr) (defBody st) ⟨DL.start N ds, none⟩ (φ ds) PN) : FnOk C.P C.w C.K mg base CX0 (k + 1) f fd ps (spFN C φ) :=
  fnO F Sc len fun ds d h cdv A outer s H E hr => body ds cdv A outer s H E hr d h
theorem fxID {c : Nat} {n : Str} {ψ : List D → O (List (Str × D))} {dvs : List V} {kws : List (Str × V)} (F : FunD C.K x qual (defArgs st) (defBody st) (defScope st) dvs kws f fd) (Sc : FnScope (n :: N) ps (defScope st)) (len : ∀ ds fs, ψ ds = .ok fs → ds.length + 1 = ps.length)
    (body : ∀ ds b cdv A outer s H E hr, DSk (famD C mg base (n :: N) Sc.nd qual (defScope st) f cdv A outer s H E k hr) (defBody st) ⟨DL.startB (n :: N) ds, some (b, .ins c [])⟩ (ψ ds) (PI b c)) : FnOk C.P C.w C.K mg base CX0 (k + 1) f fd ps (spI C c fun ds fs => ψ ds = .ok fs) :=
  fnID F Sc len fun ds fs h b cdv A outer s H E hr => body ds b cdv A outer s H E hr fs h
end
theorem l1_len {α : Type} {f : D → O α} {ds : List D} {d : α} (h : l1 f ds = .ok d) : ds.length = 1 := by unfold l1 at h; split at h <;> first | rfl | cases h
theorem l2_len {α : Type} {f : D → D → O α} {ds : List D} {d : α} (h : l2 f ds = .ok d) : ds.length = 2 := by unfold l2 at h; split at h <;> first | rfl | cases h
section
variable {F : Fam} {sts : List Stmt} {R α : Type} {P : R → Po} {S : List D → ST}
theorem ar1 {f : D → O R} (h : ∀ a, DSk F sts (S [a]) (f a) P) : ∀ ds, DSk F sts (S ds) (l1 f ds) P := fun ds r q => by
  unfold l1 at q; split at q
  · exact h _ r q
  · cases q
theorem ar2 {f : D → D → O R} (h : ∀ a b, DSk F sts (S [a, b]) (f a b) P) : ∀ ds, DSk F sts (S ds) (l2 f ds) P := fun ds r q => by
  unfold l2 at q; split at q
  · exact h _ _ r q
  · cases q
end
end SL
namespace SL
open PySem L2 DL
variable [TabL]
abbrev M (α : Type) : Type := List D → O (α × List D)
def M.ret {α : Type} (a : α) : M α := fun g => .ok (a, g)
def M.up {α : Type} (o : O α) : M α := fun g => o.bind fun a => .ok (a, g)
def M.bind {α β : Type} (m : M α) (f : α → M β) : M β := fun g => (m g).bind fun r => f r.1 r.2
def M.ite {α : Type} (m : M Bool) (x y : M α) : M α := m.bind fun b => bif b then x else y
def M.cons (m : M D) (ms : M (List D)) : M (List D) := m.bind fun d => ms.bind fun ds => M.ret (d :: ds)
def M.tr (m : M Bool) : M D := m.bind fun b => M.ret (.bl b)
@[simp] theorem M.ret_ap {α : Type} (a : α) (g : List D) : M.ret a g = .ok (a, g) := rfl
@[simp] theorem M.up_ok {α : Type} (a : α) : M.up (.ok a) = M.ret a := rfl
@[simp] theorem M.up_ap {α : Type} (o : O α) (g : List D) : M.up o g = o.bind fun a => .ok (a, g) := rfl
@[simp] theorem M.bind_ap {α β : Type} (m : M α) (f : α → M β) (g : List D) : M.bind m f g = (m g).bind fun r => f r.1 r.2 := rfl
@[simp] theorem M.ret_bind {α β : Type} (a : α) (f : α → M β) : M.bind (M.ret a) f = f a := rfl
@[simp] theorem M.ite_ret {α : Type} (b : Bool) (x y : M α) : M.ite (M.ret b) x y = bif b then x else y := rfl
@[simp] theorem M.cons_ret (a : D) (as : List D) : M.cons (M.ret a) (M.ret as) = M.ret (a :: as) := rfl
@[simp] theorem M.tr_ret (b : Bool) : M.tr (M.ret b) = M.ret (.bl b) := rfl
theorem M.bind_eq {α β : Type} {m : M α} {f : α → M β} {g g' : List D} {b : β} (h : M.bind m f g = .ok (b, g')) : ∃ a g1, m g = .ok (a, g1) ∧ f a g1 = .ok (b, g') := by
  obtain ⟨⟨a, g1⟩, h1, h2⟩ := O.bind_eq h
  exact ⟨a, g1, h1, h2⟩
theorem M.up_eq {α : Type} {o : O α} {g g' : List D} {a : α} (h : M.up o g = .ok (a, g')) : o = .ok a ∧ g' = g := by
  obtain ⟨x, h1, h2⟩ := O.bind_eq h
  cases h2
  exact ⟨h1, rfl⟩
theorem M.ret_eq {α : Type} {x a : α} {g g' : List D} (h : M.ret x g = .ok (a, g')) : a = x ∧ g' = g := by
  have h' : O.ok (x, g) = .ok (a, g') := h
  cases h'
  exact ⟨rfl, rfl⟩
theorem M.ite_eq {α : Type} {m : M Bool} {x y : M α} {g g' : List D} {a : α} (h : M.ite m x y g = .ok (a, g')) : ∃ g1, (m g = .ok (true, g1) ∧ x g1 = .ok (a, g')) ∨ (m g = .ok (false, g1) ∧ y g1 = .ok (a, g')) := by
  obtain ⟨b, g1, h1, h2⟩ := M.bind_eq h
  cases b with
  | true => exact ⟨g1, .inl ⟨h1, h2⟩⟩
  | false => exact ⟨g1, .inr ⟨h1, h2⟩⟩
abbrev gB (s : List (Option DV)) (bb : Addr) (g : List D) : ST := ⟨s, some (bb, .lst g)⟩
def DEm (F : Fam) (bb : Addr) (e : Expr) (s : List (Option DV)) (m : M D) : Prop := ∀ g d g', m g = .ok (d, g') → DE F e (gB s bb g) (gB s bb g') d
def DTm (F : Fam) (bb : Addr) (e : Expr) (s : List (Option DV)) (m : M Bool) : Prop := ∀ g d g', m g = .ok (d, g') → DT F e (gB s bb g) (gB s bb g') d
def DAm (F : Fam) (bb : Addr) (es : List Expr) (s : List (Option DV)) (m : M (List D)) : Prop := ∀ g d g', m g = .ok (d, g') → DA F es (gB s bb g) (gB s bb g') d ∧ d.length = es.length
def DOm (F : Fam) (bb : Addr) (e : Expr) (s : List (Option DV)) (m : M (List D)) : Prop := ∀ g d g', m g = .ok (d, g') → DO F e (gB s bb g) (gB s bb g') d
def DIm (F : Fam) (bb : Addr) (tg e : Expr) (s : List (Option DV)) (m : M (List D)) : Prop := ∀ g d g', m g = .ok (d, g') → DI F tg e (gB s bb g) (gB s bb g') d
def DVm {α : Type} (F : Fam) (bb : Addr) (e : Expr) (s : List (Option DV)) (κ : α → DV) (m : M α) : Prop := ∀ g x g', m g = .ok (x, g') → EvV F.C (anyE F e) (gB s bb g) (gB s bb g') (κ x)
def DSm {R : Type} (F : Fam) (bb : Addr) (sts : List Stmt) (s : List (Option DV)) (m : M R) (P : R × List D → Po) : Prop := ∀ g, DSk F sts (gB s bb g) (m g) P
section
variable {F : Fam} {bb : Addr} {s : List (Option DV)} {e a b c tg iter elt : Expr} {pos p p2 q1 cpos apos : Pos} {ma mb mc me : M D} {oe : O D} {mt mu : M Bool} {ot : O Bool} {es : List Expr} {ms mi : M (List D)} {os : O (List D)} {rest t u body sts : List Stmt} {R T α β γ : Type} {P : R × List D → Po} {scope : Scope}
theorem e_up (h : ∀ g, DEp F e (gB s bb g) oe) : DEm F bb e s (M.up oe) := fun g d g' q => by
  obtain ⟨h1, rfl⟩ := M.up_eq q
  exact h _ d h1
theorem t_up (h : ∀ g, DTp F e (gB s bb g) ot) : DTm F bb e s (M.up ot) := fun g d g' q => by
  obtain ⟨h1, rfl⟩ := M.up_eq q
  exact h _ d h1
theorem a_up (h : ∀ g, DAp F es (gB s bb g) os) : DAm F bb es s (M.up os) := fun g d g' q => by
  obtain ⟨h1, rfl⟩ := M.up_eq q
  exact h _ d h1
theorem i_up (h : ∀ g, DIp F tg e (gB s bb g) os) : DIm F bb tg e s (M.up os) := fun g d g' q => by
  obtain ⟨h1, rfl⟩ := M.up_eq q
  exact h _ d h1
theorem me_op {op : Operator} {q : D → D → O D} (hr : OpS F op q) (ha : DEm F bb a s ma) (hb : DEm F bb b s mb) : DEm F bb (.BinOp a op b pos) s (ma.bind fun x => mb.bind fun y => M.up (q x y)) := fun g z g' h => by
  obtain ⟨x, g1, h1, h⟩ := M.bind_eq h
  obtain ⟨y, g2, h2, h⟩ := M.bind_eq h
  obtain ⟨h', e⟩ := M.up_eq h
  clear h
  subst e
  have h := h'
  exact de_op (ha _ _ _ h1) (hb _ _ _ h2) (hr x y z h)
theorem mt_cmp {op : CmpOp} {q : D → D → O Bool} (hr : CmS F op q) (ha : DEm F bb a s ma) (hb : DEm F bb b s mb) (hm : behindInMarks op b = false := by first | exact nomark _ | rfl) : DTm F bb (.Compare a [op] [b] pos) s (ma.bind fun x => mb.bind fun y => M.up (q x y)) := fun g z g' h => by
  obtain ⟨x, g1, h1, h⟩ := M.bind_eq h
  obtain ⟨y, g2, h2, h⟩ := M.bind_eq h
  obtain ⟨h', e⟩ := M.up_eq h
  clear h
  subst e
  have h := h'
  exact dt_cmp (ha _ _ _ h1) (hb _ _ _ h2) (hr x y z h) hm
theorem ma_cons (h : DEm F bb e s me) (hr : DAm F bb es s ms) (hs : ∀ i, starEach (e :: es) (F.X i).env = (false, eval e (F.X i).env) :: starEach es (F.X i).env := by intro _; rfl) : DAm F bb (e :: es) s (M.cons me ms) := fun g d g' q => by
  obtain ⟨x, g1, h1, q⟩ := M.bind_eq q
  obtain ⟨xs, g2, h2, q⟩ := M.bind_eq q
  obtain ⟨e1, e2⟩ := M.ret_eq q
  subst e1 e2
  obtain ⟨h3, h4⟩ := hr _ _ _ h2
  exact ⟨da_cons (h _ _ _ h1) h3 hs, by rw [List.length_cons, List.length_cons, h4]⟩
theorem mo_lst (h : DAm F bb es s ms) (hl : es.length ≤ 1000 := by decide) : DOm F bb (.List es pos) s ms := fun g d g' q => by
  obtain ⟨h3, h4⟩ := h _ _ _ q
  exact do_lst h3 (Nat.le_trans (by rw [h4]; exact hl) (by decide))
theorem me_do (h : DOm F bb e s ms) : DEm F bb e s (ms.bind fun ds => M.ret (.lst ds)) := fun g d g' q => by
  obtain ⟨ds, g1, h1, q⟩ := M.bind_eq q
  obtain ⟨e1, e2⟩ := M.ret_eq q
  subst e1 e2
  exact de_do (h _ _ _ h1)
theorem me_lst (h : DAm F bb es s ms) (hl : es.length ≤ 1000 := by decide) : DEm F bb (.List es pos) s (ms.bind fun ds => M.ret (.lst ds)) := me_do (mo_lst h hl)
theorem me_ix (ha : DEm F bb a s ma) (hb : DEm F bb b s mb) (hs : PlainIx b := by intro _ _; rfl) : DEm F bb (.Subscript a b pos) s (ma.bind fun x => mb.bind fun y => M.up (ix x y)) := fun g d g' h => by
  obtain ⟨x, g1, h1, h⟩ := M.bind_eq h
  obtain ⟨y, g2, h2, h⟩ := M.bind_eq h
  obtain ⟨h', e⟩ := M.up_eq h
  clear h
  subst e
  have h := h'
  unfold ix at h
  split at h
  · obtain ⟨z, h3, h⟩ := op2_eq h
    cases h
    exact de_ixT (ha _ _ _ h1) (hb _ _ _ h2) h3 hs
  · obtain ⟨z, h3, h⟩ := op2_eq h
    cases h
    exact de_ixL (ha _ _ _ h1) (hb _ _ _ h2) h3 hs
  · split at h
    · obtain ⟨z, h3, h⟩ := op2_eq h
      cases h
      exact de_ixS (ha _ _ _ h1) (hb _ _ _ h2) (sl6 (by assumption)) h3 hs
    · cases h
  · cases h
section
variable {k : Nat} {nm : Str} {φ : List D → O D}
theorem me_call [Calm F] (cl : Cal F.P F.w F.C F.mg F.base k nm (spF F.C φ)) (ha : DAm F bb (e :: es) s ms) (hk : k ≤ F.k := by exact Nat.le_of_ble_eq_true rfl)
    (hg : ∀ i, Gl (F.X i) nm := by intro _; rfl) (hdb : (nm == ("__debug__" : Str)) = false := by decide)
    (he : ∀ i, starEach (e :: es) (F.X i).env = (false, eval e (F.X i).env) :: starEach es (F.X i).env := by intro _; rfl) (hpl : ∀ i, (backTo pos (starEach es (F.X i).env)).any (·.1) = false := by intro _; rfl) : DEm F bb (.Call (.Name nm p) (e :: es) [] pos) s (ms.bind fun ds => M.up (φ ds)) := fun g d g' q => by
  obtain ⟨ds, g1, h1, q⟩ := M.bind_eq q
  obtain ⟨q', e⟩ := M.up_eq q
  clear q
  subst e
  have q := q'
  exact de_call cl (ha _ _ _ h1).1 q hk hg hdb he hpl
theorem me_callTy {T : String} (hm : F.mg nm = none) (hv : bootBuiltins nm = some (.type T)) (hr : CaS F (.type T) φ) (ha : DAm F bb (e :: es) s ms)
    (hg : ∀ i, Gl (F.X i) nm := by intro _; rfl) (hn : nm ≠ "__name__" := by decide) (hdb : (nm == ("__debug__" : Str)) = false := by decide)
    (he : ∀ i, starEach (e :: es) (F.X i).env = (false, eval e (F.X i).env) :: starEach es (F.X i).env := by intro _; rfl) (hpl : ∀ i, (backTo pos (starEach es (F.X i).env)).any (·.1) = false := by intro _; rfl) : DEm F bb (.Call (.Name nm p) (e :: es) [] pos) s (ms.bind fun ds => M.up (φ ds)) := fun g d g' q => by
  obtain ⟨ds, g1, h1, q⟩ := M.bind_eq q
  obtain ⟨q', e⟩ := M.up_eq q
  clear q
  subst e
  have q := q'
  exact de_callTy hm hv (ha _ _ _ h1).1 (hr ds d q) hg hn hdb he hpl
def spFB (C : Kc) (φ : List D → M D) : Sp := spB C fun ds gs d gs' => φ ds gs = .ok (d, gs')
theorem me_bag [Calm F] {φ : List D → M D} {j : Nat} {x : Str} {q' : Pos} (cl : Cal F.P F.w F.C F.mg F.base k nm (spFB F.C φ)) (hj : s[j]? = some (some .bag)) (ha : DAm F bb es s ms) (hk : k ≤ F.k := by exact Nat.le_of_ble_eq_true rfl)
    (hN : ∀ i, (F.X i).N[j]? = some x := by intro _; rfl) (hv : ∀ i, Vis (F.X i).env.scope x := by intro _; first | exact Or.inl rfl | exact Or.inr (Or.inl rfl) | exact Or.inr (Or.inr rfl))
    (hd : (x == ("__debug__" : Str)) = false := by decide) (hcd : (x == ("__classdict__" : Str)) = false := by decide)
    (hgl : ∀ i, Gl (F.X i) nm := by intro _; rfl) (hdb : (nm == ("__debug__" : Str)) = false := by decide)
    (he : ∀ i, starEach (.Name x q' :: es) (F.X i).env = (false, eval (.Name x q') (F.X i).env) :: starEach es (F.X i).env := by intro _; rfl) (hpl : ∀ i, (backTo pos (starEach es (F.X i).env)).any (·.1) = false := by intro _; rfl) :
    DEm F bb (.Call (.Name nm p) (.Name x q' :: es) [] pos) s (ms.bind φ) := fun g d g' q => by
  obtain ⟨ds, g1, h1, q⟩ := M.bind_eq q
  exact de_callBag (S1 := gB s bb g1) cl hj rfl (ha _ _ _ h1).1 rfl q hk hN hv hd hcd hgl hdb he hpl
theorem p_callNewG [Calm F] {S : ST} {φ : List D → M D} (hG : ∀ i, (F.X i).A.guards = some []) (cl : CalG F.P F.w F.C F.mg F.base k nm (spFB F.C φ)) (ha : DOp F e S os) (hk : k ≤ F.k := by exact Nat.le_of_ble_eq_true rfl)
    (hg : ∀ i, Gl (F.X i) nm := by intro _; rfl) (hdb : (nm == ("__debug__" : Str)) = false := by decide)
    (he : ∀ i, starEach [e] (F.X i).env = (false, eval e (F.X i).env) :: starEach [] (F.X i).env := by intro _; rfl) (hpl : ∀ i, (backTo pos (starEach [] (F.X i).env)).any (·.1) = false := by intro _; rfl) : DEp F (.Call (.Name nm p) [e] [] pos) S (os.bind fun gs => (φ [] gs).bind fun r => .ok r.1) := fun d q => by
  obtain ⟨gs, h1, q⟩ := O.bind_eq q
  obtain ⟨⟨r, g'⟩, h2, q⟩ := O.bind_eq q
  cases q
  exact de_callNewG hG cl (ha gs h1) h2 hk hg hdb he hpl
theorem o_call [Calm F] {S : ST} {φ : List D → O (List D)} {os : O (List D)} (cl : Cal F.P F.w F.C F.mg F.base k nm (spFN F.C φ)) (ha : DAp F (e :: es) S os) (hk : k ≤ F.k := by exact Nat.le_of_ble_eq_true rfl)
    (hg : ∀ i, Gl (F.X i) nm := by intro _; rfl) (hdb : (nm == ("__debug__" : Str)) = false := by decide)
    (he : ∀ i, starEach (e :: es) (F.X i).env = (false, eval e (F.X i).env) :: starEach es (F.X i).env := by intro _; rfl) (hpl : ∀ i, (backTo pos (starEach es (F.X i).env)).any (·.1) = false := by intro _; rfl) : DOp F (.Call (.Name nm p) (e :: es) [] pos) S (os.bind φ) := fun d q => by
  obtain ⟨ds, h1, q⟩ := O.bind_eq q
  exact do_call cl (ha ds h1).1 q hk hg hdb he hpl
end
def MF (bb : Addr) : D × List D → Po := fun r => { rt := fun d S => d = r.1 ∧ S.g = some (bb, .lst r.2), nx := fun S => r.1 = .non ∧ S.g = some (bb, .lst r.2) }
def forM (f : T → D → M T) (ds : List D) (t : T) : M T := fun g => forO (fun x d => f x.1 d x.2) ds (t, g)
def loopM (f : T → D → M (Fl T R)) : List D → T → M (Fl T R)
  | [], t => M.ret (.nx t)
  | d :: ds, t => (f t d).bind fun
    | .nx t' => loopM f ds t'
    | .bk t' => M.ret (.bk t')
    | .rt r => M.ret (.rt r)
def thenM (m : M (Fl T R)) (k : T → M R) : M R := m.bind fun
  | .nx t => k t
  | .bk t => k t
  | .rt r => M.ret r
@[simp] theorem forM_nil (f : T → D → M T) (t : T) : forM f [] t = M.ret t := rfl
@[simp] theorem forM_cons (f : T → D → M T) (d : D) (ds : List D) (t : T) : forM f (d :: ds) t = (f t d).bind fun t' => forM f ds t' := rfl
theorem m_retA {P : D × List D → Po} (h : DEm F bb e s me) (hP : ∀ d g, (P (d, g)).rt d (gB s bb g) := by intro _ _; exact ⟨rfl, rfl⟩) : DSm F bb (.Return (some e) pos :: rest) s me P := fun g r q => by
  obtain ⟨d, g'⟩ := r
  exact ds_ret (h _ _ _ q) (hP _ _)
theorem m_ret {ret : D → R} (h : DEm F bb e s me) (hP : ∀ d g, (P (ret d, g)).rt d (gB s bb g)) : DSm F bb (.Return (some e) pos :: rest) s (me.bind fun d => M.ret (ret d)) P := fun g r q => by
  obtain ⟨r, g'⟩ := r
  obtain ⟨d, g1, h1, q⟩ := M.bind_eq q
  obtain ⟨e1, e2⟩ := M.ret_eq q
  subst e1 e2
  exact ds_ret (h _ _ _ h1) (hP d _)
theorem m_set {j : Nat} {x : Str} {pos' : Pos} {mr : D → M R} (he : DEm F bb e s me) (hr : ∀ d, DSm F bb rest (s.set j (some (.imm d))) (mr d) P) (hN : ∀ i, (F.X i).N[j]? = some x := by intro _; rfl) (hx : ∀ i, Loc (F.X i).env.scope x := by intro _; first | exact Or.inl rfl | exact Or.inr rfl)
    (hs : ∀ i, swapsWith e (some (.Name x pos')) pos.line (F.X i).env = pure false := by intro _; rfl) (hf : ∀ i, (F.X i).fn x = true ∨ (F.X i).env.scope.names.lookup x = some .local := by intro _; first | exact .inl rfl | exact .inr rfl) : DSm F bb (.Assign [.Name x pos'] e pos :: rest) s (me.bind mr) P := fun g r q => by
  obtain ⟨d, g1, h1, q⟩ := M.bind_eq q
  exact ds_set (he _ _ _ h1) (hr d g1 r q) hN hx hs hf
theorem m_ifr {m1 m2 : M R} (ht : DTm F bb c s mt) (h1 : DSm F bb t s m1 (fun r => { P r with nx := fun _ => False })) (h2 : DSm F bb rest s m2 P) : DSm F bb (.If c t [] pos :: rest) s (M.ite mt m1 m2) P := fun g r q => by
  obtain ⟨r, g'⟩ := r
  obtain ⟨g1, ⟨h3, q⟩ | ⟨h3, q⟩⟩ := M.ite_eq q
  · exact ds_ifr (k := true) (ht _ _ _ h3) (fun _ => h1 g1 _ q) (fun z => nomatch z)
  · exact ds_ifr (k := false) (ht _ _ _ h3) (fun z => nomatch z) (fun _ => h2 g1 _ q)
def MLo (P : R × List D → Po) (bb : Addr) (mk : T → List (Option DV)) : Fl T R × List D → Po
  | (.nx t, g) => { nx := fun S' => Wk S' (gB (mk t) bb g), ct := fun S' => Wk S' (gB (mk t) bb g) }
  | (.bk t, g) => { bk := fun S' => Wk S' (gB (mk t) bb g) }
  | (.rt r, g) => { P (r, g) with nx := fun _ => False, bk := fun _ => False, ct := fun _ => False }
theorem m_nilL {mk : T → List (Option DV)} {x : T} (w : WkL s (mk x)) : DSm F bb [] s (M.ret (.nx x)) (MLo P bb mk) := fun g r q => by
  obtain ⟨r, g'⟩ := r
  obtain ⟨e1, e2⟩ := M.ret_eq q
  subst e1 e2
  exact ds_nil ⟨w, rfl⟩
theorem loopM_take {f : T → D → M (Fl T R)} : ∀ {ds : List D} {t0 : T} {g g' : List D} {z : Fl T R}, loopM f ds t0 g = .ok (z, g') → ∀ {i : Nat} {d : D} {x : T} {g1 : List D}, ds[i]? = some d → loopM f (ds.take i) t0 g = .ok (.nx x, g1) → ∃ y g2, f x d g1 = .ok (y, g2) ∧ loopM f (ds.take (i + 1)) t0 g = .ok (y, g2) ∧ (∀ t', y = .bk t' → z = .bk t' ∧ g' = g2) ∧ ∀ r, y = .rt r → z = .rt r ∧ g' = g2
  | [], t0, g, g', z, h, i, d, x, g1, hd, hx => by simp at hd
  | e :: ds, t0, g, g', z, h, 0, d, x, g1, hd, hx => by
    have hd' : e = d := by simpa using hd
    subst hd'
    obtain ⟨e1, e2⟩ := M.ret_eq (show (M.ret (Fl.nx t0) : M (Fl T R)) g = _ from hx)
    have e1 : x = t0 := by cases e1; rfl
    subst e1
    subst e2
    obtain ⟨y, g2, h1, h2⟩ := M.bind_eq (show M.bind (f x e) _ _ = _ from h)
    refine ⟨y, g2, h1, ?_, ?_, ?_⟩
    · show M.bind (f x e) _ _ = _
      rw [M.bind_ap, h1]
      cases y <;> rfl
    · intro t' q; subst q
      obtain ⟨q1, q2⟩ := M.ret_eq h2
      exact ⟨q1, q2⟩
    · intro r q; subst q
      obtain ⟨q1, q2⟩ := M.ret_eq h2
      exact ⟨q1, q2⟩
  | e :: ds, t0, g, g', z, h, i + 1, d, x, g1, hd, hx => by
    obtain ⟨y, g2, h1, h2⟩ := M.bind_eq (show M.bind (f t0 e) _ _ = _ from h)
    obtain ⟨y', g3, h3, h4⟩ := M.bind_eq (show M.bind (f t0 e) _ _ = _ from hx)
    rw [h1] at h3
    cases h3
    cases y with
    | nx t1 =>
      obtain ⟨y2, g4, k1, k2, k3, k4⟩ := loopM_take (show loopM f ds t1 g2 = _ from h2) (i := i) (d := d) (by simpa using hd) (show loopM f (ds.take i) t1 g2 = _ from h4)
      refine ⟨y2, g4, k1, ?_, k3, k4⟩
      show M.bind (f t0 e) _ _ = _
      rw [M.bind_ap, h1]
      exact k2
    | bk t1 => obtain ⟨q1, _⟩ := M.ret_eq h4; cases q1
    | rt r => obtain ⟨q1, _⟩ := M.ret_eq h4; cases q1
theorem m_for1R (mk : T → List (Option DV)) {t0 : T} {x : Str} {xp : Pos} {j : Nat} {mo : T → D → M (Fl T R)} {mr : T → M R} (hi : DIm F bb (.Name x xp) iter s mi) (w : WkL s (mk t0)) (hb : ∀ t d, DSm F bb body ((mk t).set j (some (.imm d))) (mo t d) (MLo P bb mk)) (hr : ∀ t, DSm F bb rest (mk t) (mr t) P)
    (g1 : ∀ (d : D) (S : ST), DG F (.Name x xp) d S (S.set j d) [j] := by intro _ _; exact dg_name)
    (hp : ∀ i, PassesOwn (model (F.X i).prog (F.X i).w) (F.X i).A (F.X i).env (F.X i).xe := by intro _; exact PassesOwn.never)
    (hf : ∀ i, PS (F.X i) (.For (.Name x xp) iter body [] pos) (tFor (anyI F (.Name x xp) iter) (anyG F (.Name x xp)) (anyS F body)) := by intro i; exact ps_for PassesOwn.never (Fam.calm _ i) (anyI_ok i) (anyG_ok i) (anyS_ok i)) :
    DSm F bb (.For (.Name x xp) iter body [] pos :: rest) s (mi.bind fun ds => thenM (loopM mo ds t0) mr) P := fun g r q => by
  obtain ⟨r, gr⟩ := r
  obtain ⟨ds, ga, h1, q⟩ := M.bind_eq q
  obtain ⟨z, gb, h2, q⟩ := M.bind_eq (show M.bind _ _ _ = _ from q)
  refine ds_for (fun i S' => ∃ x gx, loopM mo (ds.take i) t0 ga = .ok (.nx x, gx) ∧ Wk S' (gB (mk x) bb gx)) (fun S' => ∃ x gx, mr x gx = .ok (r, gr) ∧ Wk S' (gB (mk x) bb gx)) (hi _ _ _ h1) ⟨t0, ga, rfl, ⟨w, rfl⟩⟩ (fun i S' d hd hI => ?_) (fun S' hI => ?_) (fun S' ⟨x, gx, e, z⟩ => ds_wk z (hr x gx (r, gr) e)) hp hf
  · obtain ⟨x, gx, e1, wx⟩ := hI
    obtain ⟨y, gy, e2, e3, e4, e5⟩ := loopM_take h2 hd e1
    refine ⟨_, [j], dg_wk wx (g1 d _), ?_⟩
    have := hb x d gx (y, gy) e2
    cases y with
    | nx t' => exact ds_mono this (fun S2 z => ⟨_, _, e3, z⟩) (fun _ _ z => z.elim) (fun _ z => z.elim) (fun S2 z => ⟨_, _, e3, z⟩) (fun _ _ z => z.elim)
    | bk t' =>
      obtain ⟨k1, k2⟩ := e4 t' rfl
      subst k1 k2
      exact ds_mono this (fun S2 z => z.elim) (fun _ _ z => z.elim) (fun S2 z => ⟨t', _, q, z⟩) (fun S2 z => z.elim) (fun _ _ z => z.elim)
    | rt r' =>
      obtain ⟨k1, k2⟩ := e5 r' rfl
      subst k1 k2
      obtain ⟨k3, k4⟩ := M.ret_eq q
      subst k3 k4
      exact ds_mono this (fun S2 z => z.elim) (fun _ _ z => z) (fun S2 z => z.elim) (fun S2 z => z.elim) (fun _ _ z => z)
  · obtain ⟨x, gx, e1, wx⟩ := hI
    rw [List.take_length, h2] at e1
    cases e1
    exact ⟨_, _, q, wx⟩
def bagIx (ob : O D) : M D := fun g => (ob.bind fun y => ix (.lst g) y).bind fun d => .ok (d, g)
@[simp] theorem bagIx_ap (ob : O D) (g : List D) : bagIx ob g = (ob.bind fun y => ix (.lst g) y).bind fun d => .ok (d, g) := rfl
theorem e_bagIx {j : Nat} {x : Str} {ob : O D} (hj : s[j]? = some (some .bag)) (hb : ∀ g, DEp F b (gB s bb g) ob) (hs : PlainIx b := by intro _ _; rfl)
    (hN : ∀ i, (F.X i).N[j]? = some x := by intro _; rfl) (hv : ∀ i, Vis (F.X i).env.scope x := by intro _; first | exact Or.inl rfl | exact Or.inr (Or.inl rfl) | exact Or.inr (Or.inr rfl))
    (hd : (x == ("__debug__" : Str)) = false := by decide) (hcd : (x == ("__classdict__" : Str)) = false := by decide) : DEm F bb (.Subscript (.Name x p) b pos) s (bagIx ob) := fun g d g' q => by
  obtain ⟨z, q1, q⟩ := O.bind_eq (show O.bind _ _ = _ from q)
  cases q
  obtain ⟨y, h2, q1⟩ := O.bind_eq q1
  cases y with
  | int i =>
    obtain ⟨z, h3, q2⟩ := op2_eq (show op2 (atI g i) O.ok = _ from q1)
    cases q2
    exact de_bagIx (S := gB s bb g) (S1 := gB s bb g) hj (hb g _ h2) rfl rfl h3 hs hN hv hd hcd
  | _ => cases q1
theorem m_bagSet {j : Nat} {x : Str} {i : Int} {mr : M R} (he : DEm F bb e s me) (hj : s[j]? = some (some .bag)) (hb : ∀ g, DEp F b (gB s bb g) (.ok (.int i))) (hr : DSm F bb rest s mr P)
    (hN : ∀ i, (F.X i).N[j]? = some x := by intro _; rfl) (hv : ∀ i, Vis (F.X i).env.scope x := by intro _; first | exact Or.inl rfl | exact Or.inr (Or.inl rfl) | exact Or.inr (Or.inr rfl))
    (hd : (x == ("__debug__" : Str)) = false := by decide) (hcd : (x == ("__classdict__" : Str)) = false := by decide)
    (hp : ∀ i, PS (F.X i) (.Assign [.Subscript (.Name x q1) b p] e pos) (tAsg (anyE F e) (gSub (tVar j) (anyE F b) rSetL)) := by
      intro i; exact ps_asg (anyE_ok i) (pg_sub (pv _) (anyE_ok i) set_list)) :
    DSm F bb (.Assign [.Subscript (.Name x q1) b p] e pos :: rest) s (me.bind fun d g => op2 (ixN g.length i) fun n => mr (g.set n d)) P := fun g r q => by
  obtain ⟨d, g1, h1, q⟩ := M.bind_eq (g' := r.2) (b := r.1) q
  obtain ⟨n, h3, q⟩ := op2_eq q
  exact ds_bagSet (S1 := gB s bb g1) (he _ _ _ h1) hj (hb g1 _ rfl) rfl h3 (hr _ r q) hN hv hd hcd hp
theorem vm_e (h : DEm F bb e s me) : DVm F bb e s kI me := fun g x g' q => evv_m (h _ _ _ q)
theorem m_par2 [Calm F] {κ : α → DV} {κ' : β → DV} {m1 : M α} {m2 : M β} {i j : Nat} {n1 n2 : Str} {px py pt : Pos} {kt k2 : Nat} {pt2 : Pos} {mr : α → β → M R} (ha : DVm F bb a s κ m1) (hb : DVm F bb b s κ' m2) (hr : ∀ x y, DSm F bb rest ((s.set i (some (κ x))).set j (some (κ' y))) (mr x y) P)
    (hi : i < s.length := by exact Nat.le_of_ble_eq_true rfl) (hj : j < s.length := by exact Nat.le_of_ble_eq_true rfl) (h1 : ∀ l, (F.X l).N[i]? = some n1 := by intro _; rfl) (h2 : ∀ l, (F.X l).N[j]? = some n2 := by intro _; rfl) (hij : i ≠ j := by decide)
    (hx : ∀ l, (F.X l).env.scope.names.lookup n1 = some .local := by intro _; rfl) (hy : ∀ l, (F.X l).env.scope.names.lookup n2 = some .local := by intro _; rfl)
    (hw : ∀ l, swappedStores [.Tuple [.Name n1 px, .Name n2 py] kt pt] (.Tuple [a, b] k2 pt2) (F.X l).env = pure (some [n1, n2]) := by intro _; rfl)
    (hs : ∀ l, swapsWithSole [.Tuple [.Name n1 px, .Name n2 py] kt pt] (.Tuple [a, b] k2 pt2) pos.line (F.X l).env = pure false := by intro _; rfl)
    (hst : ∀ i, starEach [a, b] (F.X i).env = (false, eval a (F.X i).env) :: starEach [b] (F.X i).env := by intro _; rfl) (hst2 : ∀ i, starEach [b] (F.X i).env = (false, eval b (F.X i).env) :: starEach [] (F.X i).env := by intro _; rfl) :
    DSm F bb (.Assign [.Tuple [.Name n1 px, .Name n2 py] kt pt] (.Tuple [a, b] k2 pt2) pos :: rest) s (m1.bind fun x => m2.bind fun y => mr x y) P := fun g r q => by
  obtain ⟨x, ga, q1, q⟩ := M.bind_eq (g' := r.2) (b := r.1) q
  obtain ⟨y, gb, q2, q⟩ := M.bind_eq q
  refine ds_cons (M := fun S3 => S3 = gB ((s.set i (some (κ x))).set j (some (κ' y))) bb gb) (d1_of (te := tPar i j (tCons (anyE F a) (tCons (anyE F b) tNil))) (fun l => ps_par (F.calm l) (by rw [F.hN l]; exact F.nd) (h1 l) (h2 l) hij (hx l) (hy l) (pa_cons (anyE_ok l) (pa_cons (anyE_ok l) pa_nil (hst2 l)) (hst l)) (hw l) (hs l)) ?_) fun _ z => z ▸ hr x y gb r q
  intro σ G H c E m
  exact par2 c (ha _ _ _ q1) (hb _ _ _ q2) hi hj fun v w G2 H2 _ mw => ⟨v, w, rfl, m.nx _ _ _ _ mw rfl⟩
theorem m_parT2 {κ : α → DV} {κ' : β → DV} {m1 : M α} {m2 : M β} {i j : Nat} {n1 n2 : Str} {px py pt : Pos} {kt k2 : Nat} {pt2 : Pos} {mr : α → β → M R} (ha : DVm F bb a s κ m1) (hb : DVm F bb b s κ' m2) (hr : ∀ x y, DSm F bb rest ((s.set i (some (κ x))).set j (some (κ' y))) (mr x y) P)
    (hi : i < s.length := by exact Nat.le_of_ble_eq_true rfl) (hj : j < s.length := by exact Nat.le_of_ble_eq_true rfl)
    (hp : ∀ o, PS (F.X o) (.Assign [.Tuple [.Name n1 px, .Name n2 py] kt pt] (.Tuple [a, b] k2 pt2) pos) (tAsg (tTup (tCons (anyE F a) (tCons (anyE F b) tNil))) (gTup (F.X o).K 2 (gCons (gName i) (gCons (gName j) gNil)))) := by
      intro o; exact ps_asg (pe_tup (pa_cons (anyE_ok o) (pa_cons (anyE_ok o) pa_nil))) (pg_tup (Fam.calm _ o) (pgs_cons (pg_name (Fam.ndX _ o) rfl (by first | exact Or.inl rfl | exact Or.inr rfl)) (pgs_cons (pg_name (Fam.ndX _ o) rfl (by first | exact Or.inl rfl | exact Or.inr rfl)) pgs_nil)))) :
    DSm F bb (.Assign [.Tuple [.Name n1 px, .Name n2 py] kt pt] (.Tuple [a, b] k2 pt2) pos :: rest) s (m1.bind fun x => m2.bind fun y => mr x y) P := fun g r q => by
  obtain ⟨x, ga, q1, q⟩ := M.bind_eq (g' := r.2) (b := r.1) q
  obtain ⟨y, gb, q2, q⟩ := M.bind_eq q
  refine ds_cons (M := fun S3 => S3 = gB ((s.set i (some (κ x))).set j (some (κ' y))) bb gb) (d1_of (te := tAsg (tTup (tCons (anyE F a) (tCons (anyE F b) tNil))) (gTup F.C.K 2 (gCons (gName i) (gCons (gName j) gNil)))) (fun o => by have := hp o; rw [F.hK o] at this; exact this) ?_) fun _ z => z ▸ hr x y gb r q
  intro σ G H c E m
  exact par2 c (ha _ _ _ q1) (hb _ _ _ q2) hi hj fun v w G2 H2 _ mw => ⟨by show 2 ≤ sizeLine; decide, fun p hp => ⟨p, [v, w], rfl, SqT.of upd_same, rfl, v, [w], rfl, w, [], rfl, rfl, m.nx _ _ _ _ (mw.side hp) rfl⟩⟩
end
section
variable {P : Program} {w : World} {C : Kc} {mg : Str → Option Value} {base : Heap} {x qual : Str} {st : Stmt} {f : Addr} {fd : FuncData} {N ps : List Str} {k : Nat} {n : Str} {φ : List D → M D}
theorem fxB (F : Fun C.K x qual st f fd) (Sc : FnScope (n :: N) ps (defScope st)) (len : ∀ ds g r, φ ds g = .ok r → ds.length + 1 = ps.length)
    (body : ∀ b cdv A outer s H E hr ds, DSm (famD C mg base (n :: N) Sc.nd qual (defScope st) f cdv A outer s H E k hr) b (defBody st) (DL.startB (n :: N) ds) (φ ds) (MF b)) : FnOk C.P C.w C.K mg base CX0 (k + 1) f fd ps (spFB C φ) :=
  fnB F Sc (fun ds gs d gs' h => len ds gs _ h) fun ds gs d gs' h b cdv A outer s H E hr => body b cdv A outer s H E hr ds gs (d, gs') h
theorem fxBG (F : Fun C.K x qual st f fd) (Sc : FnScope (n :: N) ps (defScope st)) (len : ∀ ds g r, φ ds g = .ok r → ds.length + 1 = ps.length)
    (body : ∀ b cdv A outer s H E hr, (A.guards = some [] ∧ fd.code = cdv) → ∀ ds, DSm (famD C mg base (n :: N) Sc.nd qual (defScope st) f cdv A outer s H E k hr) b (defBody st) (DL.startB (n :: N) ds) (φ ds) (MF b)) : FnG C.P C.w C.K mg base (k + 1) f fd ps (spFB C φ) :=
  fnBG F Sc (fun ds gs d gs' h => len ds gs _ h) fun ds gs d gs' h b cdv A outer s H E hr hA => body b cdv A outer s H E hr hA ds gs (d, gs') h
end
def m0 (f : M D) (ds : List D) : M D := fun g => match ds with
  | [] => f g
  | _ => .bad
def m1 (f : D → M D) (ds : List D) : M D := fun g => match ds with
  | [a] => f a g
  | _ => .bad
def m2 (f : D → D → M D) (ds : List D) : M D := fun g => match ds with
  | [a, b] => f a b g
  | _ => .bad
def m3 (f : D → D → D → M D) (ds : List D) : M D := fun g => match ds with
  | [a, b, c] => f a b c g
  | _ => .bad
def m4 (f : D → D → D → D → M D) (ds : List D) : M D := fun g => match ds with
  | [a, b, c, d] => f a b c d g
  | _ => .bad
@[simp] theorem m0_ap (f : M D) : m0 f [] = f := rfl
@[simp] theorem m1_ap (f : D → M D) (a : D) : m1 f [a] = f a := rfl
@[simp] theorem m2_ap (f : D → D → M D) (a b : D) : m2 f [a, b] = f a b := rfl
@[simp] theorem m3_ap (f : D → D → D → M D) (a b c : D) : m3 f [a, b, c] = f a b c := rfl
@[simp] theorem m4_ap (f : D → D → D → D → M D) (a b c d : D) : m4 f [a, b, c, d] = f a b c d := rfl
theorem m0_len {f : M D} {ds g : List D} {r : D × List D} (h : m0 f ds g = .ok r) : ds.length = 0 := by unfold m0 at h; split at h <;> first | rfl | cases h
theorem m1_len {f : D → M D} {ds g : List D} {r : D × List D} (h : m1 f ds g = .ok r) : ds.length = 1 := by unfold m1 at h; split at h <;> first | rfl | cases h
section
variable {F : Fam} {bb : Addr} {sts : List Stmt} {P : D × List D → Po} {S : List D → List (Option DV)}
theorem am0 {f : M D} (h : DSm F bb sts (S []) f P) : ∀ ds, DSm F bb sts (S ds) (m0 f ds) P := fun ds g r q => by
  unfold m0 at q; split at q
  · exact h g r q
  · cases q
theorem am1 {f : D → M D} (h : ∀ a, DSm F bb sts (S [a]) (f a) P) : ∀ ds, DSm F bb sts (S ds) (m1 f ds) P := fun ds g r q => by
  unfold m1 at q; split at q
  · exact h _ g r q
  · cases q
end
end SL
namespace SL
open PySem L2 DL
variable [TabL]
def clsName : Nat → Str
  | 0 => "Ratio"
  | 1 => "Fold"
  | 2 => "Raisin"
  | 3 => "Way"
  | 4 => "Watch"
  | 5 => "Track"
  | 6 => "Console"
  | _ => "?"
def clsFields : Nat → List Str
  | 0 => ["top", "bottom"]
  | 1 => ["cells"]
  | 2 => ["place", "side"]
  | 3 => ["lead", "ring"]
  | 4 => ["letters", "moves", "good"]
  | 5 => ["cells", "is_odd", "begin"]
  | 6 => ["fold", "colours"]
  | _ => []
def tyNames : List String := ["NoneType", "bool", "int", "str", "tuple", "list", "dict"]
def isiNames : List String := ["int", "bool", "str", "tuple"]
def bltNames : List Str := ["isinstance", "len", "int", "bool", "str", "tuple", "list", "range", "enumerate", "abs", "max", "min", "all", "any", "sum", "repr", "sorted", "set", "dict", "zip"]
structure Tx (C : Kc) (mg : Str → Option Value) : Prop where
  nb : ∀ n ∈ bltNames, mg n = none
  cn : ∀ c, C.has c = true → mg (clsName c) = some (.ref (C.cl c))
  ins : ∀ c, C.has c = true → InsF C.K (C.cl c)
  na : ∀ c, C.has c = true → ∀ f ∈ clsFields c, NoAttr C.K (C.cl c) f
  kO : ∀ c, C.has c = true → ∀ T ∈ isiNames, PySem.W.kitOne C.K (.ref (C.cl c)) (.type T) = some false
  kB : ∀ c, C.has c = true → ∀ T ∈ tyNames, PySem.W.kitOne C.K (.type T) (.ref (C.cl c)) = some false
  kC : ∀ c c', C.has c = true → C.has c' = true → c ≠ c' → PySem.W.kitOne C.K (.ref (C.cl c)) (.ref (C.cl c')) = some false
  nf : ∀ c c', C.has c = true → C.has c' = true → PySem.W.notFirst C.K (C.cl c) (.ref (C.cl c')) = true
  nfT : ∀ c, C.has c = true → ∀ T ∈ tyNames, PySem.W.notFirst C.K (C.cl c) (.type T) = true
  ne : ∀ c, C.has c = true → PySem.W.findIn C.K (.ref (C.cl c)) "__ne__" = some (some (.builtin "object.__ne__"))
  opf : C.has 0 = true → OpF C.K (C.cl 0)
  iA : C.has 0 = true → IntF C.K .Add
  iS : C.has 0 = true → IntF C.K .Sub
  iM : C.has 0 = true → IntF C.K .Mult
section
variable {F : Fam} {S : ST} {e a b c : Expr} {pos p p2 q1 q2 apos : Pos} {oa ob oe : O D} {es : List Expr} {os : O (List D)} {R : Type} {P : R → Po} {rest : List Stmt}
theorem Tx.bl {C : Kc} {mg : Str → Option Value} (T : Tx C mg) (n : Str) (h : n ∈ bltNames := by decide) : mg n = none := T.nb n h
theorem Tx.fl {C : Kc} {mg : Str → Option Value} (T : Tx C mg) {cs : List Nat} {f : Str} (h : ∀ c ∈ cs, f ∈ clsFields c := by decide) : ∀ c ∈ cs, C.has c = true → Cls C.K (C.cl c) ∧ NoAttr C.K (C.cl c) f := fun c hc hh => ⟨(T.ins c hh).cl, T.na c hh f (h c hc)⟩
theorem x_isiB {T : String} {x : Str} {xp : Pos} (t : Tx F.C F.mg) (ha : DEp F a S oa) (hv : bootBuiltins x = some (.type T)) (hx : x ∈ bltNames := by decide) (hT : T ∈ isiNames := by decide) (hg : ∀ i, Gl (F.X i) x := by intro _; rfl) (hn : x ≠ "__name__" := by decide) (hb : (x == ("__debug__" : Str)) = false := by decide)
    (hgi : ∀ i, Gl (F.X i) "isinstance" := by intro _; rfl)
    (he : ∀ i, starEach [a, .Name x xp] (F.X i).env = (false, eval a (F.X i).env) :: starEach [.Name x xp] (F.X i).env := by intro _; rfl) (hpl : ∀ i, (backTo pos (starEach [.Name x xp] (F.X i).env)).any (·.1) = false := by intro _; rfl) : DEp F (.Call (.Name "isinstance" p) [a, .Name x xp] [] pos) S (tr (oa.bind (isiB T))) :=
  p_isi (t.bl "isinstance") (de_bltn (t.nb x hx) hv (v := .ty T) rfl hg hn hb) (fun y k h => isi_ok t.ins (fun c hc => t.kO c hc T hT) h) ha hgi he (fun _ => rfl) hpl
theorem x_isiC {cn : Nat} {x : Str} {xp : Pos} (t : Tx F.C F.mg) (hh : F.C.has cn = true) (ha : DEp F a S oa) (hx : clsName cn = x := by rfl) (hg : ∀ i, Gl (F.X i) x := by intro _; rfl) (hb : (x == ("__debug__" : Str)) = false := by decide)
    (hgi : ∀ i, Gl (F.X i) "isinstance" := by intro _; rfl)
    (he : ∀ i, starEach [a, .Name x xp] (F.X i).env = (false, eval a (F.X i).env) :: starEach [.Name x xp] (F.X i).env := by intro _; rfl) (hpl : ∀ i, (backTo pos (starEach [.Name x xp] (F.X i).env)).any (·.1) = false := by intro _; rfl) : DEp F (.Call (.Name "isinstance" p) [a, .Name x xp] [] pos) S (tr (oa.bind (isiC cn))) :=
  p_isi (t.bl "isinstance") (de_glob (by rw [← hx]; exact t.cn cn hh) (v := .ref (F.C.cl cn)) rfl (fun _ => .cst _) hg hb) (fun y k h => isi_own t.ins hh (fun c hc n => t.kC c cn hc hh n) (t.kB cn hh) h) ha hgi he (fun _ => rfl) hpl
theorem putD_lt {f : Str} {d : D} : ∀ {fs : List (Str × D)} {n : Nat}, fs.length < n → (putD f d fs).length < n + 1
  | [], n, h => by show 1 < n + 1; have : 0 < n := h; omega
  | (g, x) :: r, n, h => by
    unfold putD
    split
    · show r.length + 1 < n + 1; have : r.length + 1 < n := h; omega
    · have h' : r.length + 1 < n := h
      show (putD f d r).length + 1 < n + 1
      have := putD_lt (f := f) (d := d) (fs := r) (n := n - 1) (by omega)
      omega
theorem k_fld {j : Nat} {x f : Str} {bb : Addr} {cn : Nat} {fs : List (Str × D)} {mr : D → O R} (hc : Cls F.C.K (F.C.cl cn) ∧ NoAttr F.C.K (F.C.cl cn) f) (he : DEp F e S oe) (hj : S.s[j]? = some (some .bag)) (hg : S.g = some (bb, .ins cn fs)) (hr : ∀ d, DSk F rest ⟨S.s, some (bb, .ins cn (putD f d fs))⟩ (mr d) P) (hl : fs.length < 1000 := by first | decide | exact putD_lt (n := 999) (by decide) | exact putD_lt (n := 999) (putD_lt (n := 998) (by decide)) | exact putD_lt (n := 999) (putD_lt (n := 998) (putD_lt (n := 997) (by decide))))
    (hN : ∀ i, (F.X i).N[j]? = some x := by intro _; rfl) (hv : ∀ i, Vis (F.X i).env.scope x := by intro _; first | exact Or.inl rfl | exact Or.inr (Or.inl rfl) | exact Or.inr (Or.inr rfl))
    (hd : (x == ("__debug__" : Str)) = false := by decide) (hcd : (x == ("__classdict__" : Str)) = false := by decide)
    (hs : ∀ i, swapsWith e (some (.Attribute (.Name x q1) f q2)) pos.line (F.X i).env = pure false := by intro _; rfl) : DSk F (.Assign [.Attribute (.Name x q1) f q2] e pos :: rest) S (oe.bind mr) P := fun r q => by
  obtain ⟨d, h1, q⟩ := O.bind_eq q
  exact ds_fld (he d h1) hj hg hc.1 hc.2 (hr d r q) hl hN hv hd hcd hs
theorem k_nilI {b : Addr} {cn : Nat} {fs : List (Str × D)} (hg : S.g = some (b, .ins cn fs)) : DSk F [] S (.ok fs) (PI b cn) := fun r q => by cases q; exact ds_nil hg
theorem cm_none {op : CmpOp} {x y z : D} (h : ∀ G u v, Den F.C G u x → Den F.C G v y → False) : OpD F (compareOp op) x y z :=
  ⟨fun _ _ _ _ => False, fun _ => fun _ _ _ _ _ _ _ _ _ _ _ _ z => z.elim, fun G H u v s hu hv Q q => h G u v hu hv⟩
theorem den_has {C : Kc} {G : Hp} {v : V} {c : Nat} {fs : List (Str × D)} (h : Den C G v (.obj c fs)) : C.has c = true := by
  cases h with
  | obj q _ _ => exact q
def ownEq (eqs : Nat → Option (D → D → O D)) (x y : D) : O Bool := match x with
  | .obj c _ => if isCst y then .bad else op2 (eqs c) fun f => (f x y).bind asB
  | x => match x, y with
    | .int _, .obj 0 _ => op2 (eqs 0) fun f => (f y x).bind asB
    | x, y => c_eq x y
def ownNe (eqs : Nat → Option (D → D → O D)) (x y : D) : O Bool := match x with
  | .obj c _ => if isCst y then .bad else op2 (eqs c) fun f => ((f x y).bind asB).bind fun b => .ok (!b)
  | x => c_ne x y
theorem tyD_in {C : Kc} {y : D} (hc : isCst y = false) : (∃ c fs, y = .obj c fs ∧ tyD C y = .ref (C.cl c)) ∨ ∃ T ∈ tyNames, tyD C y = .type T := by
  cases y <;> first | exact .inl ⟨_, _, rfl, rfl⟩ | exact .inr ⟨_, by decide, rfl⟩ | cases hc
theorem nf_of {C : Kc} {mg : Str → Option Value} (T : Tx C mg) {c : Nat} {y : D} (hh : C.has c = true) (hy : ∀ c' fs, y = .obj c' fs → C.has c' = true) (hc : isCst y = false) : PySem.W.notFirst C.K (C.cl c) (tyD C y) = true := by
  rcases tyD_in (C := C) hc with ⟨c', fs, e, q⟩ | ⟨t, ht, q⟩
  · rw [q]; exact T.nf c c' hh (hy c' fs e)
  · rw [q]; exact T.nfT c hh t ht
def EqF (F : Fam) (eqs : Nat → Option (D → D → O D)) : Prop := ∀ c f, eqs c = some f → F.C.has c = true → ∃ k, k + 1 ≤ F.k ∧ Met F.P F.w F.C F.mg F.base k c "__eq__" (spF F.C (l2 f))
theorem s_oeq [Calm F] {eqs : Nat → Option (D → D → O D)} (T : Tx F.C F.mg) (E : EqF F eqs) : CmS F .Eq (ownEq eqs) := fun x y z h => by
  have hO : ∀ c fs (y : D) z, isCst y = false → (op2 (eqs c) fun f => (f (.obj c fs) y).bind asB) = .ok z → OpD F (compareOp .Eq) (.obj c fs) y (.bl z) := fun c fs y z hcst q => by
    obtain ⟨f, hf, q⟩ := op2_eq q
    obtain ⟨d, q1, q2⟩ := O.bind_eq q
    have e0 := asB_eq q2
    subst e0
    by_cases hh : F.C.has c = true
    · by_cases hy : ∀ c' fs, y = .obj c' fs → F.C.has c' = true
      · obtain ⟨k, hk, mt⟩ := E c f hf hh
        exact od_eqO mt (Nat.le_of_succ_le hk) (fun c' fs' e q => T.ins c' q) (by cases y <;> first | rfl | cases hcst) (nf_of T hh hy hcst) q1
      · refine cm_none fun G u v h1 h2 => hy fun c' fs' e => ?_
        subst e
        exact den_has h2
    · exact cm_none fun G u v h1 h2 => hh (den_has h1)
  unfold ownEq at h
  split at h
  · split at h
    · cases h
    · rename_i hcst
      exact hO _ _ _ _ (by simpa using hcst) h
  · split at h
    · obtain ⟨f, hf, h⟩ := op2_eq h
      obtain ⟨d, q1, q2⟩ := O.bind_eq h
      have e0 := asB_eq q2
      subst e0
      by_cases hh : F.C.has 0 = true
      · obtain ⟨k, hk, mt⟩ := E 0 f hf hh
        exact od_eqR2 mt (Nat.le_of_succ_le hk) (T.opf hh) q1
      · exact cm_none fun G u v h1 h2 => hh (den_has h2)
    · exact s_eq _ _ _ h
theorem s_one [Calm F] {eqs : Nat → Option (D → D → O D)} (T : Tx F.C F.mg) (E : EqF F eqs) : CmS F .NotEq (ownNe eqs) := fun x y z h => by
  unfold ownNe at h
  split at h
  · split at h
    · cases h
    · rename_i c fs hcst
      have hcst : isCst y = false := by simpa using hcst
      obtain ⟨f, hf, h⟩ := op2_eq h
      obtain ⟨b, q, e⟩ := O.bind_eq h
      have e1 := O.ok.inj e
      subst e1
      obtain ⟨d, q1, q2⟩ := O.bind_eq q
      have e0 := asB_eq q2
      subst e0
      by_cases hh : F.C.has c = true
      · by_cases hy : ∀ c' fs, y = .obj c' fs → F.C.has c' = true
        · obtain ⟨k, hk, mt⟩ := E c f hf hh
          exact od_neO mt hk (fun c' fs' e q => T.ins c' q) (by cases y <;> first | rfl | cases hcst) (nf_of T hh hy hcst) (T.ins c hh) (T.ne c hh) q1
        · refine cm_none fun G u v h1 h2 => hy fun c' fs' e => ?_
          subst e
          exact den_has h2
      · exact cm_none fun G u v h1 h2 => hh (den_has h1)
  · exact s_ne _ _ _ h
def ownLen (lens : Nat → Option (D → O D)) : List D → O D
  | [.obj c fs] => op2 (lens c) fun f => (f (.obj c fs)).bind fun d => (asI d).bind fun i => if 0 ≤ i ∧ i < 2 ^ 63 then .ok (.int i) else .bad
  | ds => bi_len ds
def ownStr (sts : Nat → Option (D → O D)) : List D → O D
  | [.obj c fs] => op2 (sts c) fun f => (f (.obj c fs)).bind fun d => match d with
    | .str t => .ok (.str t)
    | _ => .bad
  | ds => bi_str ds
def LenF (F : Fam) (m : Str) (n : Nat) (lens : Nat → Option (D → O D)) : Prop := ∀ c f, lens c = some f → F.C.has c = true → ∃ k, k + n ≤ F.k ∧ Met F.P F.w F.C F.mg F.base k c m (spF F.C (l1 f))
theorem ca_none {f : Value} {c : Nat} {fs : List (Str × D)} {ds : List D} {z : D} (h : ¬ F.C.has c = true) : CaD F f (.obj c fs :: ds) z :=
  ⟨fun _ _ _ => False, fun _ => fun _ _ _ _ _ _ _ _ _ z => z.elim, fun G H us s hu Q q => by
    cases hu with
    | cons h0 _ => exact h (den_has h0)⟩
theorem s_olen [Calm F] {lens : Nat → Option (D → O D)} (L : LenF F "__len__" 1 lens) : CaS F (.builtin "len") (ownLen lens) := fun ds z h => by
  unfold ownLen at h
  split at h
  · obtain ⟨f, h1, h⟩ := op2_eq h
    obtain ⟨d, h2, h⟩ := O.bind_eq h
    obtain ⟨i, h3, h4⟩ := O.bind_eq h
    have e0 := asI_eq h3
    subst e0
    split at h4
    · rename_i hi
      have e1 := O.ok.inj h4
      subst e1
      rename_i c fs _ _
      by_cases hh : F.C.has c = true
      · obtain ⟨k, hk, mt⟩ := L c f h1 hh
        exact ca_lenO mt hk h2 hi.1 hi.2
      · exact ca_none hh
    · cases h4
  · exact s_len _ _ h
theorem s_ostr [Calm F] {sts : Nat → Option (D → O D)} (L : LenF F "__str__" 2 sts) : CaS F (.type "str") (ownStr sts) := fun ds z h => by
  unfold ownStr at h
  split at h
  · obtain ⟨f, h1, h⟩ := op2_eq h
    obtain ⟨d, h2, h3⟩ := O.bind_eq h
    split at h3
    · have e1 := O.ok.inj h3
      subst e1
      rename_i c fs _ _ _
      by_cases hh : F.C.has c = true
      · obtain ⟨k, hk, mt⟩ := L c f h1 hh
        exact ca_strO mt hk h2
      · exact ca_none hh
    · cases h3
  · exact s_str _ _ h
end
end SL
namespace SL
open PySem L2 DL
variable [TabL]
def clF (c0 c1 c2 c3 c4 c5 c6 : Addr) : Nat → Addr
  | 0 => c0
  | 1 => c1
  | 2 => c2
  | 3 => c3
  | 4 => c4
  | 5 => c5
  | _ => c6
def hasF (b0 b1 b2 b3 b4 b5 b6 : Bool) : Nat → Bool
  | 0 => b0
  | 1 => b1
  | 2 => b2
  | 3 => b3
  | 4 => b4
  | 5 => b5
  | 6 => b6
  | _ => false
end SL
namespace SLR
open PySem PyProof.Rows
section
variable {prog : Program} {w : World} {A : Around} {E : Value → Shared → Prop} {s : Shared}
end
end SLR
namespace L2
open PySem PySem.Spec PyProof.Rows
section
variable {X : Cx}
end
end L2
namespace SL
open PySem L2 DL
variable [TabL]
section
variable {F : Fam} {S : ST} {e : Expr} {pos p1 p2 p3 : Pos} {oa : O D} {k : Nat}
end
end SL
namespace SL
open PySem L2 DL
variable [TabL]
section
variable {F : Fam} {S : ST} {o e : Expr} {pos apos : Pos} {oa ob : O D}
theorem p_tm1 {id : String} {name : Str} {r : V → List V → Hp → VK → Prop} {φ : D → D → O D} (slot : Slot "str" name id) (ty : typeOf (.builtin id) = pure (.type "method_descriptor")) (rule : ∀ i, MtR (F.X i) id r)
    (hr : ∀ x y z, φ x y = .ok z → (∃ a, x = .str a) ∧ ∀ G H u v, DL.Sub G H → Den F.C G u x → Den F.C G v y → ∀ Q : VK, (∀ w G2 H2, Pu G H G2 H2 → Den F.C G2 w z → Q w H2) → r u [v] H Q)
    (ho : DEp F o S oa) (he : DEp F e S ob)
    (hs : ∀ i, starEach [e] (F.X i).env = [(false, eval e (F.X i).env)]) (hbase : ∀ i, attributeBase o name (F.X i).env (eval o (F.X i).env) = eval o (F.X i).env) (hline : (apos.endLine == pos.line) = true) :
    DEp F (.Call (.Attribute o name apos) [e] [] pos) S (oa.bind fun x => ob.bind fun y => φ x y) := fun d q => by
  obtain ⟨x, h1, q⟩ := O.bind_eq q
  obtain ⟨y, h2, q⟩ := O.bind_eq q
  obtain ⟨⟨a, ea⟩, h3⟩ := hr x y d q
  subst ea
  refine de_of (te := tM1 r (anyE F o) (anyE F e)) (fun i => pe_m1 slot ty (rule i) (anyE_ok i) (anyE_ok i) (hs i) (hbase i) hline) fun σ G H c Q q => ?_
  refine (ho _ h1) σ G H c _ fun u G1 H1 m1 d1 => ⟨?_, (he _ h2) σ G1 H1 m1.cx _ fun v G2 H2 m2 d2 => ?_⟩
  · cases d1; exact ⟨_, rfl⟩
  · exact h3 G2 H2 u v m2.cx.sub (d1.mono m2.go.gg) d2 Q fun w G3 H3 p d3 => q w G3 H3 ((m1.trans m2).pu p) d3
theorem denL_strs {C : Kc} {G : Hp} : ∀ (ys : List Str), DenL C G (ys.map V.str) (ys.map D.str)
  | [] => .nil
  | y :: ys => .cons (.str y) (denL_strs ys)
def t_split : D → D → O D
  | .str a, .str b => if (b.length == 0) = false ∧ a.length + 2 ≤ 1000000 then .ok (.lst ((Txt.split a b).map D.str)) else .bad
  | _, _ => .bad
def t_part : D → D → O D
  | .str a, .str b => if (b.length == 0) = false ∧ a.length ≤ 1000000 then .ok (.tup [.str (Txt.partition a b).1, .str (Txt.partition a b).2.1, .str (Txt.partition a b).2.2]) else .bad
  | _, _ => .bad
def joinOk (a : Str) (ys : List Str) : Bool := decide ((ys.map (·.length)).sum + ys.length * a.length ≤ 1000000)
def t_join : D → D → O D
  | .str a, .lst ds => op2 (strs? ds) fun ys => if joinOk a ys then .ok (.str (Txt.join a ys)) else .bad
  | .str a, .tup ds => op2 (strs? ds) fun ys => if joinOk a ys then .ok (.str (Txt.join a ys)) else .bad
  | _, _ => .bad
theorem p_part (ho : DEp F o S oa) (he : DEp F e S ob)
    (hs : ∀ i, starEach [e] (F.X i).env = [(false, eval e (F.X i).env)] := by intro _; rfl) (hbase : ∀ i, attributeBase o "partition" (F.X i).env (eval o (F.X i).env) = eval o (F.X i).env := by intro _; rfl) (hline : (apos.endLine == pos.line) = true := by rfl) :
    DEp F (.Call (.Attribute o "partition" apos) [e] [] pos) S (oa.bind fun x => ob.bind fun y => t_part x y) :=
  p_tm1 PySem.F.slot_str_partition PySem.F.type_str_partition (fun i => mt_partition) (fun x y z h => by
    unfold t_part at h
    split at h
    · split at h
      · rename_i a b c
        cases h
        exact ⟨⟨a, rfl⟩, fun G H u v s hu hv Q q => by
          cases hu; cases hv
          exact ⟨a, b, rfl, rfl, c.1, sl6 c.2, fun p hp => q _ _ _ (Pu.new s hp) (.tup (SqT.of upd_same) (.cons (.str _) (.cons (.str _) (.cons (.str _) .nil))))⟩⟩
      · cases h
    · cases h) ho he hs hbase hline
def fmtO : D → O D
  | .int i => if i.natAbs.log2 < 1920 then .ok (.str (toString i)) else .bad
  | .str t => if t.length ≤ 1000000 then .ok (.str t) else .bad
  | _ => .bad
theorem p_fmt (he : DEp F e S oa) : DEp F (.FormattedValue e (-1) none pos) S (oa.bind fmtO) := fun d q => by
  obtain ⟨x, h1, q⟩ := O.bind_eq q
  unfold fmtO at q
  split at q
  · split at q
    · cases q; exact de_fmtI (he _ h1) (by assumption)
    · cases q
  · split at q
    · cases q; exact de_fmtS (he _ h1) (sl6 (by assumption))
    · cases q
  · cases q
theorem p_js1 (he : DEp F e S oa) : DEp F (.JoinedStr [e] pos) S oa := fun d q => de_join1 (he d q)
def jO : List (O D) → Str → O D
  | [], acc => .ok (.str acc)
  | o :: os, acc => o.bind fun d => match d with
    | .str t => if (acc ++ t).length ≤ 1000000 then jO os (acc ++ t) else .bad
    | _ => .bad
def DJp (F : Fam) (es : List Expr) (S : ST) (os : List (O D)) : Prop := ∀ acc d, jO os acc = .ok d → ∃ out, d = .str out ∧ DJ F es acc S S out
theorem j_nil : DJp F [] S [] := fun acc d q => by cases q; exact ⟨acc, rfl, dj_nil⟩
theorem j_cons {es : List Expr} {os : List (O D)} (he : DEp F e S oa) (h : DJp F es S os) : DJp F (e :: es) S (oa :: os) := fun acc d q => by
  obtain ⟨x, h1, q⟩ := O.bind_eq q
  cases x with
  | str t =>
    have q : (if (acc ++ t).length ≤ 1000000 then jO os (acc ++ t) else .bad) = .ok d := q
    split at q
    · obtain ⟨out, e1, e2⟩ := h _ _ q
      exact ⟨out, e1, dj_cons (he _ h1) (sl6 (by assumption)) e2⟩
    · cases q
  | _ => cases q
theorem p_js {v1 v2 : Expr} {es : List Expr} {os : List (O D)} (h : DJp F (v1 :: v2 :: es) S os) : DEp F (.JoinedStr (v1 :: v2 :: es) pos) S (jO os Str.empty) := fun d q => by
  obtain ⟨out, e1, e2⟩ := h _ _ q
  subst e1
  exact de_join e2
end
structure SMet (K : PySem.W.Frag) (C : Addr) (m : Str) (f : Addr) : Prop where
  rd : ClX.CRead K C (.type "type")
  at_ : ∃ p rest, PySem.W.findCls K (.ref C) (.type "type") m = some (.get (.builtin "staticmethod.__get__") (.ref p) .none (.ref C)) ∧ PySem.W.recIn K p "staticmethod" = some (.ref f :: rest)
  kp : PySem.W.keepIn K (.ref f) = true
def tSMeth (C : Addr) (sp : Sp) (E : XK) (ta : TE) (t : TA) : TE := fun σ H Q => ta σ H fun x H1 => x = .ref C ∧ t σ H1 fun vs H2 => sp vs H2 Q E
theorem pe_smeth {X : Cx} {CX : CXT} {k : Nat} {C f : Addr} {fd : FuncData} {ps : List Str} {sp : Sp} {E : XK} {o e : Expr} {es : List Expr} {m : Str} {pos apos : Pos} {ta : TE} {t : TA} {pl : Sem Bool}
    (he : PE X o ta) (c : SMet X.K C m f) (F : FnOk X.prog X.w X.K X.mg X.base CX k f fd ps sp) (hr : Room k X.A) (hb : Binds X.K fd ps []) (hx : Passes CX X E) (ha : PA X (e :: es) t)
    (hst : starEach (e :: es) X.env = (false, eval e X.env) :: starEach es X.env) (hpl : (backTo pos (starEach es X.env)).any (·.1) = false)
    (ht : eval (.Call (.Attribute o m apos) (e :: es) [] pos) X.env = (do
      let ov ← eval o X.env
      standAt apos.atName
      let (f, first) ← holding [ov] (getMethod ov m pl)
      callWith pos f first (backTo pos (starEach (e :: es) X.env)) (backToKw pos (keywordEach [] X.env)))) :
    PE X (.Call (.Attribute o m apos) (e :: es) [] pos) (tSMeth C sp E ta t) := by
  refine ⟨fun pins s σ H Q I h => ?_⟩
  refine PySem.W.methodCall_KW (pl := pl) (thn (he.run pins s σ H _ I h) fun u s1 ⟨x, H1, I1, rx, ex, q⟩ => ?_) ht
  subst ex
  obtain rfl : u = Value.ref C := rx
  obtain ⟨p, rest, h1, h2⟩ := c.at_
  refine PySem.W.method_cls I1.kIn c.rd.ga (PySem.W.cls_bind I1.kIn c.rd.rd h1 (wpAny_call (PySem.W.sm_get (s := { s1 with toks := s1.toks + 1 }) I1.kIn h2 (PySem.W.handed_on rfl ?_))))
  have I2 := I1.tok (s1.toks + 1)
  refine PySem.W.callWith_K (h₀ := X.base) I2.ok.mod.kin c.kp (thn (ha.run pos pins _ σ H1 _ I2 q) fun us s3 ⟨vs, H2, I3, r, q⟩ => ⟨I3.kIn, ?_⟩) hst hpl
  have hq : sp (vs ++ []) H2 Q E := by rw [List.append_nil]; exact q
  exact run_fn F hr hb .nil hx I3 r hq
def Sta (P : Program) (w : World) (C : Kc) (mg : Str → Option Value) (base : Heap) (k c : Nat) (m : Str) (sp : Sp) : Prop := ∃ f fd ps, FnOk P w C.K mg base CX0 k f fd ps sp ∧ mg (clsName c) = some (.ref (C.cl c)) ∧ SMet C.K (C.cl c) m f ∧ Binds C.K fd ps []
theorem p_static {F : Fam} [Calm F] {S : ST} {e : Expr} {es : List Expr} {pos apos p : Pos} {os : O (List D)} {k c : Nat} {m nm : Str} {φ : List D → O D} {pl : F.I → Sem Bool} (cl : Sta F.P F.w F.C F.mg F.base k c m (spF F.C φ)) (ha : DAp F (e :: es) S os) (hn : nm = clsName c := by rfl) (hk : k ≤ F.k := by exact Nat.le_of_ble_eq_true rfl)
    (hg : ∀ i, Gl (F.X i) nm := by intro _; rfl) (hdb : (nm == ("__debug__" : Str)) = false := by decide)
    (he : ∀ i, starEach (e :: es) (F.X i).env = (false, eval e (F.X i).env) :: starEach es (F.X i).env := by intro _; rfl) (hpl : ∀ i, (backTo pos (starEach es (F.X i).env)).any (·.1) = false := by intro _; rfl)
    (ht : ∀ i, eval (.Call (.Attribute (.Name nm p) m apos) (e :: es) [] pos) (F.X i).env = (do
      let ov ← eval (.Name nm p) (F.X i).env
      standAt apos.atName
      let (f, first) ← holding [ov] (getMethod ov m (pl i))
      callWith pos f first (backTo pos (starEach (e :: es) (F.X i).env)) (backToKw pos (keywordEach [] (F.X i).env))) := by intro _; rfl) :
    DEp F (.Call (.Attribute (.Name nm p) m apos) (e :: es) [] pos) S (os.bind φ) := fun d q => by
  obtain ⟨ds, h1, q⟩ := O.bind_eq q
  obtain ⟨f, fd, ps, G, hm, sm, hb⟩ := cl
  subst hn
  have dn : DE F (.Name (clsName c) p) S S (.cst (.ref (F.C.cl c))) := de_glob hm (v := .ref (F.C.cl c)) rfl (fun _ => .cst _) hg hdb
  refine de_of (te := tSMeth (F.C.cl c) (spF F.C φ) E0 (anyE F (.Name (clsName c) p)) (anyA F (e :: es))) (fun i => pe_smeth (pl := pl i) (anyE_ok i) (by rw [F.hK i]; exact sm) (fn_at G) ((F.room i).mono hk) (by rw [F.hK i]; exact hb) pass0 (anyA_ok i) (he i) (hpl i) (ht i)) fun σ G H cx Q q' => ?_
  refine dn σ G H cx _ fun v G1 H1 m1 dv => ?_
  cases dv
  refine ⟨rfl, (ha ds h1).1 σ G1 H1 m1.cx _ fun vs G2 H2 m2 dl => ?_⟩
  exact ⟨G2, ds, d, q, m2.cx.sub, dl, fun v G3 H3 p dv => q' v G3 H3 ((m1.trans m2).pu p) dv⟩
def noxF (F : Fam) : Fam where
  I := F.I
  X := fun i => (F.X i).nox
  P := F.P
  w := F.w
  C := F.C
  mg := F.mg
  base := F.base
  N := F.N
  k := F.k
  hP := F.hP
  hw := F.hw
  hK := F.hK
  hmg := F.hmg
  hbase := F.hbase
  hN := F.hN
  nd := F.nd
  roomH := F.roomH
  cP := F.cP
  cw := F.cw
instance {F : Fam} [Calm F] : Calm (noxF F) := ⟨fun i => F.calm i, fun i => Calm.h (F := F) i⟩
end SL
namespace SL
open PySem L2 DL
variable [TabL]
section
variable {F : Fam} {S S1 S2 : ST} {a e : Expr} {es : List Expr} {kws : List Keyword} {pos apos : Pos} {m : Str} {c : Nat} {fs : List (Str × D)} {d : D} {oa : O D} {os : O (List D)} {φ : List D → O D}
end
def tSMethN (C : Addr) (n : Nat) (sp : Sp) (gV : List V → List V → List V) (E : XK) (ta : TE) (tk : TA) : TE := fun σ H Q => ta σ H fun x H1 => x = .ref C ∧ tk σ H1 fun zs H2 => zs.length = n ∧ sp (gV [] zs) H2 Q E
theorem pe_smethK {X : Cx} {CX : CXT} {k : Nat} {C f : Addr} {fd : FuncData} {ps ks : List Str} {sp : Sp} {E : XK} {o : Expr} {kws : List Keyword} {m : Str} {pos apos : Pos} {ta : TE} {tk : TA} {pl : Sem Bool} {g : List Value → List Value → List Value} {gV : List V → List V → List V}
    (he : PE X o ta) (c : SMet X.K C m f) (G : FnOk X.prog X.w X.K X.mg X.base CX k f fd ps sp) (hr : Room k X.A) (hb : KBn X.K fd ps 0 ks g gV) (hx : Passes CX X E) (hkw : PK X kws tk)
    (hall : (backToKw pos (keywordEach kws X.env)).all (·.1.isSome) = true) (hks : (backToKw pos (keywordEach kws X.env)).filterMap (·.1) = ks)
    (hpl : ((backTo pos (starEach [] X.env)).any (·.1) || (backToKw pos (keywordEach kws X.env)).any (·.1.isNone)) = false)
    (ht : eval (.Call (.Attribute o m apos) [] kws pos) X.env = (do
      let ov ← eval o X.env
      standAt apos.atName
      let (f, first) ← holding [ov] (getMethod ov m pl)
      callWith pos f first (backTo pos (starEach [] X.env)) (backToKw pos (keywordEach kws X.env)))) :
    PE X (.Call (.Attribute o m apos) [] kws pos) (tSMethN C ks.length sp gV E ta tk) := by
  refine ⟨fun pins s σ H Q I h => ?_⟩
  refine PySem.W.methodCall_KW (pl := pl) (thn (he.run pins s σ H _ I h) fun u s1 ⟨x, H1, I1, rx, ex, q⟩ => ?_) ht
  subst ex
  obtain rfl : u = Value.ref C := rx
  obtain ⟨p, rest, h1, h2⟩ := c.at_
  refine PySem.W.method_cls I1.kIn c.rd.ga (PySem.W.cls_bind I1.kIn c.rd.rd h1 (wpAny_call (PySem.W.sm_get (s := { s1 with toks := s1.toks + 1 }) I1.kIn h2 (PySem.W.handed_on rfl ?_))))
  have I2 := I1.tok (s1.toks + 1)
  refine PySem.W.callWith_KW0 (first := []) (h₀ := X.base) I.ok.mod.kin c.kp hall ?_ hpl
  refine thn (hkw.run pos pins _ σ H1 _ I2 q) fun ws s2 ⟨zs, H2, I3, rz, l2, q2⟩ => ⟨I3.kIn, ?_⟩
  rw [hks]
  exact run_fnN (us := []) (vs := []) G hr hb hx I3 .nil rz rfl l2 q2
def StaK (P : Program) (w : World) (C : Kc) (mg : Str → Option Value) (base : Heap) (k c : Nat) (m : Str) (sp : Sp) (ks : List Str) (ix : List Nat) : Prop := ∃ f fd ps, FnOk P w C.K mg base CX0 k f fd ps sp ∧ mg (clsName c) = some (.ref (C.cl c)) ∧ SMet C.K (C.cl c) m f ∧ KBn C.K fd ps 0 ks (fun us ws => us ++ perm ix ws) (fun vs zs => vs ++ perm ix zs)
theorem p_staticK {F : Fam} [Calm F] {S : ST} {kws : List Keyword} {pos apos p : Pos} {os : O (List D)} {k c : Nat} {m nm : Str} {φ : List D → O D} {ks : List Str} {ix : List Nat} {pl : F.I → Sem Bool} (cl : StaK F.P F.w F.C F.mg F.base k c m (spF F.C φ) ks ix) (ha : DKp F kws S os) (hl : kws.length = ks.length := by rfl) (hn : nm = clsName c := by rfl) (hk : k ≤ F.k := by exact Nat.le_of_ble_eq_true rfl)
    (hg : ∀ i, Gl (F.X i) nm := by intro _; rfl) (hdb : (nm == ("__debug__" : Str)) = false := by decide)
    (hall : ∀ i, (backToKw pos (keywordEach kws (F.X i).env)).all (·.1.isSome) = true := by intro _; rfl)
    (hks : ∀ i, (backToKw pos (keywordEach kws (F.X i).env)).filterMap (·.1) = ks := by intro _; rfl) (hpl : ∀ i, ((backTo pos (starEach [] (F.X i).env)).any (·.1) || (backToKw pos (keywordEach kws (F.X i).env)).any (·.1.isNone)) = false := by intro _; rfl)
    (ht : ∀ i, eval (.Call (.Attribute (.Name nm p) m apos) [] kws pos) (F.X i).env = (do
      let ov ← eval (.Name nm p) (F.X i).env
      standAt apos.atName
      let (f, first) ← holding [ov] (getMethod ov m (pl i))
      callWith pos f first (backTo pos (starEach [] (F.X i).env)) (backToKw pos (keywordEach kws (F.X i).env))) := by intro _; rfl) :
    DEp F (.Call (.Attribute (.Name nm p) m apos) [] kws pos) S (os.bind fun ds => φ (perm ix ds)) := fun d q => by
  obtain ⟨ds, h1, q⟩ := O.bind_eq q
  obtain ⟨f, fd, ps, G, hm, sm, hb⟩ := cl
  subst hn
  obtain ⟨h3, h4⟩ := ha ds h1
  have dn : DE F (.Name (clsName c) p) S S (.cst (.ref (F.C.cl c))) := de_glob hm (v := .ref (F.C.cl c)) rfl (fun _ => .cst _) hg hdb
  refine de_of (te := tSMethN (F.C.cl c) ks.length (spF F.C φ) (fun vs zs => vs ++ perm ix zs) E0 (anyE F (.Name (clsName c) p)) (anyK F kws)) (fun i => pe_smethK (pl := pl i) (anyE_ok i) (by rw [F.hK i]; exact sm) (fn_at G) ((F.room i).mono hk) (by rw [F.hK i]; exact hb) pass0 (anyK_ok i) (hall i) (hks i) (hpl i) (ht i)) fun σ G H cx Q q' => ?_
  refine dn σ G H cx _ fun v G1 H1 m1 dv => ?_
  cases dv
  refine ⟨rfl, h3 σ G1 H1 m1.cx _ fun vs G2 H2 m2 dl => ⟨by rw [dl.length]; exact h4.trans hl, ?_⟩⟩
  exact ⟨G2, _, d, q, m2.cx.sub, dl.perm ix, fun v G3 H3 p dv => q' v G3 H3 ((m1.trans m2).pu p) dv⟩
end SL
namespace SetL
open PySem PySem.Spec PyProof.Rows L2
section
variable {P : Program} {w : World} {A : Around} {E : Value → Shared → Prop} {s : Shared}
end
end SetL
namespace SetX
open PySem PySem.Spec PyProof.Rows L2
def keyS (e : Int × Value) : Str := match e.2 with | .str k _ => k | _ => ⟨#[]⟩
def GoodS (w : World) (e : Int × Value) : Prop := ∃ k tk, e.2 = Value.str k tk ∧ e.1 = hashStr w k
def SetS (w : World) (h : Heap) (a : Addr) (S : Str → Bool) (n : Nat) : Prop :=
  ∃ o es ep t, h.get? a = some o ∧ o.ExactSet ∧ o.data = .set es ep t ∧ (∀ e ∈ es.toList, GoodS w e) ∧ (es.toList.map keyS).Nodup ∧ (∀ k, S k = true ↔ k ∈ es.toList.map keyS) ∧
    es.size < scanBound ∧ t.fits es.size = true ∧ es.size = n ∧ Ris t.place.toList ∧ (w.params.followText "set-order" = true ∨ t.led = true)
section
variable {P : Program} {w : World} {h h' : Heap} {a : Addr} {S : Str → Bool} {n : Nat}
theorem SetS.at (R : SetS w h a S n) (k : ∀ o, h.get? a = some o → h'.get? a = some o) : SetS w h' a S n := by
  obtain ⟨o, es, ep, t, ho, r⟩ := R
  exact ⟨o, es, ep, t, k o ho, r⟩
theorem SetS.lt (R : SetS w h a S n) : a < h.objs.size := by
  obtain ⟨o, es, ep, t, ho, r⟩ := R
  exact Heap.lt_size ho
theorem SetS.congr {S' : Str → Bool} (R : SetS w h a S n) (e : ∀ k, S' k = S k) : SetS w h a S' n := by
  have q : S' = S := funext e
  rw [q]; exact R
end
section
variable {P : Program} {w : World} {A : Around} {E : Value → Shared → Prop} {s : Shared} {a : Addr} {S : Str → Bool} {n : Nat}
end
section
variable {P : Program} {w : World} {A : Around} {E : Value → Shared → Prop} {s : Shared}
end
end SetX
namespace DL
open PySem L2
variable [TabL]
section
variable {F : Fam} {S S1 : ST} {e : Expr} {pos p p2 q1 cpos apos : Pos} {rest : List Stmt} {P : Po}
end
end DL
namespace SL
open PySem L2 DL
variable [TabL]
section
variable {F : Fam} {S : ST} {o e : Expr} {pos p p2 q1 cpos apos : Pos} {oa oe : O D} {os : O (List D)} {rest : List Stmt} {R : Type} {P : R → Po}
end
section
variable {F : Fam} {bb : Addr} {s : List (Option DV)} {o e : Expr} {pos apos : Pos} {ma mb : M D}
end
end SL
namespace SL
open PySem L2 DL
variable [TabL]
section
variable {F : Fam} {S : ST} {iter elt : Expr} {oi : O (List D)} {scope : Scope}
end
end SL
namespace SL
open PySem L2 DL
variable [TabL]
section
variable {F : Fam} {S S1 : ST} {e a b c : Expr} {pos p q1 : Pos} {oe ob : O D} {rest : List Stmt} {R : Type} {P : R → Po}
end
end SL
namespace SL
open PySem L2 DL
variable [TabL]
section
variable {F : Fam} {bb : Addr} {s : List (Option DV)} {c : Expr} {pos : Pos} {rest body : List Stmt} {R T : Type} {P : R × List D → Po}
end
end SL
namespace SL
open PySem L2 DL
variable [TabL]
section
variable {F : Fam} {S S1 : ST} {e a b c kx vx tg iter : Expr} {pos p q1 apos vpos : Pos} {oe oa ob : O D} {os oi : O (List D)} {rest : List Stmt} {R : Type} {P : R → Po} {scope : Scope} {es : List Expr} {nm : Str}
end
end SL
namespace SetX
open PySem PySem.Spec PyProof.Rows L2
section
variable {P : Program} {w : World} {A : Around} {E : Value → Shared → Prop} {s : Shared}
end
end SetX
namespace DL
open PySem L2
variable [TabL]
section
variable {F : Fam} {S S1 : ST} {e : Expr} {pos p p2 cpos : Pos}
end
end DL
namespace SL
open PySem L2 DL
variable [TabL]
section
variable {F : Fam} {S : ST} {e : Expr} {pos p p2 cpos : Pos} {oe : O D}
end
end SL
namespace SL
open PySem L2 DL
variable [TabL]
def bi_reprX : List D → O D
  | [.bl b] => .ok (.str (if b then "True" else "False"))
  | [.non] => .ok (.str "None")
  | ds => bi_repr ds
section
variable {F : Fam}
theorem ca_reprB (b : Bool) : CaD F (.builtin "repr") [.bl b] (.str (if b then "True" else "False")) :=
  ⟨fun xs H Q => xs = [.bl b] ∧ Q (.str (if b then "True" else "False")) H, fun i => by
    intro pins s σ H xs us Q I r h
    obtain ⟨rfl, q⟩ := h
    obtain ⟨u, rfl, rx⟩ := vals1 r
    cases rx
    exact PySem.P.repr_of_bool ⟨.str _, H, I.tok _, ⟨_, rfl⟩, q⟩, fun G H us s h Q q => by
    cases h with
    | cons h l => cases h; cases l; exact ⟨rfl, q _ _ _ (.refl s) (.str _)⟩⟩
theorem ca_reprN : CaD F (.builtin "repr") [.non] (.str "None") :=
  ⟨fun xs H Q => xs = [.non] ∧ Q (.str "None") H, fun i => by
    intro pins s σ H xs us Q I r h
    obtain ⟨rfl, q⟩ := h
    obtain ⟨u, rfl, rx⟩ := vals1 r
    cases rx
    exact PySem.P.repr_of_none ⟨.str _, H, I.tok _, ⟨_, rfl⟩, q⟩, fun G H us s h Q q => by
    cases h with
    | cons h l => cases h; cases l; exact ⟨rfl, q _ _ _ (.refl s) (.str _)⟩⟩
theorem s_reprX (hG : ∀ i, (F.X i).A.guards = some []) : CaS F (.builtin "repr") bi_reprX := fun ds z h => by
  unfold bi_reprX at h
  split at h
  · cases h; exact ca_reprB _
  · cases h; exact ca_reprN
  · exact s_repr hG _ _ h
end
end SL
namespace SLR
open PySem PyProof.Rows
end SLR
namespace L2
open PySem PySem.Spec PyProof.Rows
section
variable {X : Cx}
end
end L2
namespace SL
open PySem L2 DL
variable [TabL]
section
variable {F : Fam} {S : ST} {e : Expr} {pos p1 p2 p3 : Pos} {oa : O D} {k : Nat}
end
end SL
namespace SL
open PySem L2 DL
variable [TabL]
section
variable {F : Fam} {S S1 : ST} {e a b iter tg : Expr} {pos p q1 : Pos} {oe oa ob : O D}
end
end SL
namespace SL
open PySem L2 DL
variable [TabL]
section
variable {F : Fam} {S : ST} {e : Expr} {pos : Pos} {oe : O D} {rest : List Stmt} {R : Type} {P : R → Po}
end
section
variable {F : Fam} {bb : Addr} {e : Expr} {pos p p2 cpos : Pos} {s : List (Option DV)} {me : M D}
end
end SL
namespace SL
open PySem L2 DL
variable [TabL]
section
variable {F : Fam} {S S1 : ST} {a : Expr} {pos p p2 q1 : Pos} {oa : O D}
end
end SL
namespace L2
open PySem PySem.Spec PyProof.Rows
variable {X : Cx}
end L2
namespace SL
open PySem L2 DL
variable [TabL]
variable {F : Fam}
end SL
namespace SL
open PySem L2 DL
variable [TabL]
variable {F : Fam} {S S1 : ST} {e a b c tg iter elt : Expr} {d : D} {pos p p2 q1 cpos apos : Pos} {oa ob oe : O D} {ot : O Bool} {es : List Expr} {os oi : O (List D)} {rest t u body sts : List Stmt} {R T B : Type} {P : R → Po} {scope : Scope}
end SL
namespace DL
open PySem L2
variable [TabL]
variable {F : Fam} {S S1 S2 S3 : ST} {elt tg iter : Expr} {ds : List D} {P : Po} {rest : List Stmt} {pos p : Pos}
end DL
namespace SL
open PySem L2 DL
variable [TabL]
end SL
namespace L2
open PySem PySem.Spec PyProof.Rows
section
variable {prog : Program} {w : World} {A : Around} {E : Value → Shared → Prop} {s : Shared} {l : Addr} {its : List Value} {xs : List Str} {Q : Value → Shared → Prop}
end
end L2
namespace SL
open PySem L2 DL
variable [TabL]
variable {F : Fam}
def bi_reprY : List D → O D
  | [.str x] => if (reprText x).length ≤ 1000000 then .ok (.str (reprText x)) else .bad
  | ds => bi_reprX ds
theorem ca_reprT (x : Str) (hz : (reprText x).length ≤ sizeLine) : CaD F (.builtin "repr") [.str x] (.str (reprText x)) :=
  ⟨fun xs H Q => xs = [.str x] ∧ Q (.str (reprText x)) H, fun i => by
    intro pins s σ H xs us Q I r h
    obtain ⟨rfl, q⟩ := h
    obtain ⟨u, rfl, rx⟩ := vals1 r
    obtain ⟨t, rfl⟩ := rx
    exact PySem.P.repr_of_str ⟨.str _, H, I.tok _, ⟨_, rfl⟩, q⟩ hz, fun G H us s h Q q => by
    cases h with
    | cons h l => cases h; cases l; exact ⟨rfl, q _ _ _ (.refl s) (.str _)⟩⟩
theorem s_reprY (hG : ∀ i, (F.X i).A.guards = some []) : CaS F (.builtin "repr") bi_reprY := fun ds z h => by
  unfold bi_reprY at h
  split at h
  · split at h
    · cases h; exact ca_reprT _ (sl6 (by assumption))
    · cases h
  · exact s_reprX hG _ _ h
end SL
namespace L2
open PySem PySem.Spec PyProof.Rows ND
end L2
namespace DL
open PySem L2
variable [TabL]
end DL
namespace SL
open PySem L2 DL
variable [TabL]
variable {F : Fam}
end SL
namespace SL
open PySem L2 DL
variable [TabL]
variable {F : Fam} {bb : Addr} {s : List (Option DV)} {tg iter elt : Expr} {scope : Scope} {mi : M (List D)} {B : Type}
end SL
namespace DL
open PySem L2
variable [TabL]
variable {F : Fam} {S S1 S2 : ST} {o e : Expr}
end DL
namespace SL
open PySem L2 DL
variable [TabL]
variable {F : Fam} {S : ST} {o e : Expr} {oa ob : O D} {apos pos : Pos}
end SL
namespace SL
open PySem L2 DL
variable [TabL]
section
variable {F : Fam} {S S1 : ST} {e a b iter tg : Expr} {pos p q1 : Pos} {oe oa ob : O D}
end
end SL
namespace KD
open PySem PySem.Spec PyProof.Rows L2
section
variable {X : Cx}
end
end KD
namespace DL
open PySem L2 PyProof.Rows
variable [TabL]
section
variable {F : Fam} {S S1 S2 S3 : ST} {kx vx tg iter elt e : Expr} {pos p apos : Pos} {ds : List D} {P : Po} {rest : List Stmt} {ifs : List Expr} {scope : Scope} {own : List (Str × Nat)} {d : D}
def kdrop (kds : List (Key × D)) (k : Key) : List (Key × D) := kds.filter fun kv => decide (kv.1 ≠ k)
theorem DenK.drop {C : Kc} {G : Hp} (k : Key) : ∀ {xs : List (Key × V)} {kds : List (Key × D)}, DenK C G xs kds → DenK C G (dropK xs k) (kdrop kds k)
  | _, _, .nil => .nil
  | _, _, .cons (k := j) (v := v) (d := d) (vs := vs) (ds := ds) h l => by
    have ih := DenK.drop k l
    unfold dropK kdrop at ih ⊢
    rw [List.filter_cons, List.filter_cons]
    by_cases z : j = k
    · simp only [z, ne_eq, not_true_eq_false, decide_false]; exact ih
    · simp only [ne_eq, z, not_false_eq_true, decide_true, if_true]; exact .cons h ih
end
end DL
namespace SL
open PySem L2 DL
variable [TabL]
section
variable {F : Fam} {S S1 : ST} {e a b c kx vx elt iter tg : Expr} {pos p apos : Pos} {oe : O D} {oi os : O (List D)} {rest : List Stmt} {R : Type} {P : R → Po} {scope : Scope}
end
end SL
namespace KN
open PySem PySem.Spec PyProof.Rows L2
section
variable {X : Cx}
end
end KN
namespace DL
open PySem L2 PyProof.Rows
variable [TabL]
section
variable {F : Fam} {S S1 S2 : ST} {e : Expr} {p pos q1 cpos apos : Pos} {d : D} {P : Po} {rest : List Stmt}
inductive DispC : List (Option Expr) → List Expr → List (Key × D) → Prop where
  | nil : DispC [] [] []
  | cons {k : Str} {i : Int} {n1 n2 : Nat} {p1 p2 : Pos} {ks : List (Option Expr)} {vs : List Expr} {kds : List (Key × D)} : DispC ks vs kds → DispC (some (.Constant (.str k) n1 p1) :: ks) (.Constant (.int i) n2 p2 :: vs) ((.inr k, .int i) :: kds)
def trsC (kds : List (Key × D)) : List (TE × TE) := kds.map fun kv => (tC (kV kv.1), tC (match kv.2 with | .int i => .int i | _ => .non))
def kvsC (kds : List (Key × D)) : List (Key × V) := kds.map fun kv => (kv.1, match kv.2 with | .int i => .int i | _ => .non)
theorem DispC.all : ∀ {ks : List (Option Expr)} {vs : List Expr} {kds : List (Key × D)}, DispC ks vs kds → ks.all (·.isSome) = true ∧ ks.length = vs.length ∧ ks.length = kds.length
  | _, _, _, .nil => ⟨rfl, rfl, rfl⟩
  | _, _, _, .cons h => by
    obtain ⟨h1, h2, h3⟩ := h.all
    exact ⟨by rw [List.all_cons, h1]; rfl, by rw [List.length_cons, List.length_cons, h2], by rw [List.length_cons, List.length_cons, h3]⟩
theorem DispC.run {σ : L2.St} {H : Hp} : ∀ {ks : List (Option Expr)} {vs : List Expr} {kds : List (Key × D)} {Q : List (V × V) → Hp → Prop}, DispC ks vs kds → Q ((kvsC kds).map fun kv => (kV kv.1, kv.2)) H → tPairs (trsC kds) σ H Q
  | _, _, _, _, .nil, q => q
  | _, _, _, Q, @DispC.cons k i _ _ _ _ ks vs kds h, q => DispC.run (kds := kds) (Q := fun ps H3 => Q ((kV (.inr k), .int i) :: ps) H3) h q
theorem DispC.den {C : Kc} {G : Hp} : ∀ {ks : List (Option Expr)} {vs : List Expr} {kds : List (Key × D)}, DispC ks vs kds → DenK C G (kvsC kds) kds
  | _, _, _, .nil => .nil
  | _, _, _, .cons h => .cons (.int _) h.den
end
end DL
namespace SL
open PySem L2 DL
variable [TabL]
def l0 {α : Type} (f : O α) : List D → O α
  | [] => f
  | _ => .bad
section
variable {F : Fam} {S S1 : ST} {e : Expr} {pos p q1 cpos apos : Pos} {oe : O D} {rest : List Stmt} {R : Type} {P : R → Po}
end
end SL
namespace L2
open PySem PySem.Spec PyProof.Rows
variable {X : Cx}
end L2
namespace DL
open PySem L2
variable [TabL]
variable {F : Fam} {S S1 S2 : ST} {o e : Expr}
end DL
namespace SL
open PySem L2 DL
section
variable [TabL]
variable {F : Fam} {S : ST} {o e : Expr} {oa ob : O D} {apos pos : Pos}
end
def M.op {α β : Type} (o : Option α) (f : α → M β) : M β := fun g => op2 o fun a => f a g
section
variable [TabL]
variable {F : Fam} {rest : List Stmt} {R : Type}
end
end SL
namespace EX
open PySem L2 DL
variable [TabL]
def clo (g : Addr → Option Obj) : Nat → List Addr → Nat → List Addr → List Addr
  | 0, _, _, acc => acc
  | _ + 1, [], _, acc => acc
  | n + 1, a :: r, seen, acc => match Nat.testBit seen a with
    | true => clo g n r seen acc
    | false => match g a with
      | some o => clo g n (He.refsD o ++ r) (seen ||| (1 <<< a)) (match o.cls with
        | .none => (match Nat.beq a mainGlobals || Nat.beq a cStatics with
          | true => a :: acc
          | false => acc)
        | _ => a :: acc)
      | none => clo g n r (seen ||| (1 <<< a)) acc
def KF (g : Addr → Option Obj) : PySem.W.Frag := He.frG g (clo g 100000 [mainGlobals, cStatics] 0 [])
theorem KF_in {hp : Heap} : (KF hp.get?).In hp := He.frG_in
def stA (K : PySem.W.Frag) (x m : Str) : Addr := match PySem.W.findCls K (.ref (He.ga K x)) (.type "type") m with
  | some (.get _ (.ref p) _ _) => (match PySem.W.recIn K p "staticmethod" with
    | some (.ref f :: _) => f
    | _ => 0)
  | _ => 0
def staB (K : PySem.W.Frag) (x m : Str) : Bool := match PySem.W.findCls K (.ref (He.ga K x)) (.type "type") m with
  | some (.get (.builtin b) (.ref p) .none (.ref c)) => decide (b = "staticmethod.__get__") && (decide (c = He.ga K x) && (match PySem.W.recIn K p "staticmethod" with
    | some (.ref _ :: _) => true
    | _ => false))
  | _ => false
theorem staB_ok {K : PySem.W.Frag} {x m : Str} (h : staB K x m = true) : ∃ p rest, PySem.W.findCls K (.ref (He.ga K x)) (.type "type") m = some (.get (.builtin "staticmethod.__get__") (.ref p) .none (.ref (He.ga K x))) ∧ PySem.W.recIn K p "staticmethod" = some (.ref (stA K x m) :: rest) := by
  unfold staB at h
  unfold stA
  split at h
  · rename_i b p c e
    obtain ⟨h1, h2⟩ := He.ba h
    obtain ⟨h3, h4⟩ := He.ba h2
    split at h4
    · rename_i f r e2
      have e3 := of_decide_eq_true h1
      have e4 := of_decide_eq_true h3
      subst e3 e4
      refine ⟨p, r, e, ?_⟩
      rw [e]
      simp only [e2]
    · cases h4
  · cases h
structure DR where
  adr : PySem.W.Frag → Addr
  name : Str
  qual : Str
  params : Arguments
  body : List Stmt
  scope : Scope
  dfl : List V := []
def fnAt (K : PySem.W.Frag) (a : Addr) : He.FnW := match K.lookup a with
  | some ⟨_, _, .func u, _⟩ => some (u.name, u.qualname, u.params, u.body, u.scope, u.globals, u.closure, u.builtins)
  | _ => none
def okAt (K : PySem.W.Frag) (a : Addr) (qual : Str) (dvs : List V) : Bool := PySem.W.keepIn K (.ref a) && (match K.lookup a with
  | some ⟨_, _, .func u, _⟩ => PySem.W.codeIn K u.code qual && He.dflB K u.defaults dvs
  | _ => false)
def DR.val (d : DR) : He.FnW := some (d.name, d.qual, d.params, .stmts d.body, d.scope, mainGlobals, [], builtinsNs)
theorem funD_at {K : PySem.W.Frag} {a : Addr} {name qual : Str} {params : Arguments} {body : List Stmt} {scope : Scope} {dvs : List V} (e : fnAt K a = some (name, qual, params, .stmts body, scope, mainGlobals, [], builtinsNs)) (ok : okAt K a qual dvs = true) : ∃ fd, FunD K name qual params body scope dvs [] a fd := by
  obtain ⟨kp, ok2⟩ := He.ba ok
  unfold fnAt at e
  cases lk : K.lookup a with
  | none => rw [lk] at ok2; cases ok2
  | some ob =>
    obtain ⟨oc, od, dt, sl⟩ := ob
    rw [lk] at ok2 e
    cases dt with
    | func u =>
      obtain ⟨u1, u2, u3, u4, u5, u6, u7, u8, u9, u10, u11, u12, u13, u14, u15⟩ := u
      have z : (some (u1, u2, u3, u4, u5, u6, u7, u15) : He.FnW) = some (name, qual, params, .stmts body, scope, mainGlobals, [], builtinsNs) := e
      simp only [Option.some.injEq, Prod.mk.injEq] at z
      obtain ⟨z1, z2, z3, z4, z5, z6, z7, z8⟩ := z
      subst z1 z2 z3 z4 z5 z6 z7 z8
      obtain ⟨k1, k2⟩ := He.ba (show (PySem.W.codeIn K u13 u2 && He.dflB K u8 dvs) = true from ok2)
      exact ⟨_, ⟨oc, od, u8, u9, u10, u11, u12, u13, u14, sl, rfl, lk, k1, He.dflB_ok k2, .inl rfl⟩, kp⟩
    | _ => cases ok2
theorem fun_ofD {K : PySem.W.Frag} {x qual : Str} {st : Stmt} {f : Addr} {fd : FuncData} (F : FunD K x qual (defArgs st) (defBody st) (defScope st) [] [] f fd) : Fun K x qual st f fd := by
  obtain ⟨oc, od, dV, kV, doc, pm, an, cdv, ct, osl, e, lk, hcd, hD, _⟩ := F.ex
  rcases hD with ⟨_, rfl⟩ | ⟨z, _⟩
  · exact ⟨⟨oc, od, kV, doc, pm, an, cdv, ct, osl, e, lk, hcd⟩, F.kp⟩
  · exact absurd rfl z
def obsY (rs : List DR) (exs : PySem.W.Frag → List Bool) (K : PySem.W.Frag) : Bool × List He.FnW := ((exs K).all id && rs.all fun d => okAt K (d.adr K) d.qual d.dfl, rs.map fun d => fnAt K (d.adr K))
def valY (rs : List DR) : Bool × List He.FnW := (true, rs.map DR.val)
section
variable {rs : List DR} {exs : PySem.W.Frag → List Bool} {K : PySem.W.Frag}
theorem fact (c : obsY rs exs K = valY rs) (i : Nat) {b : Bool} (h : (exs K)[i]? = some b) : b = true := by
  have c1 := (He.ba (show ((exs K).all id && rs.all fun d => okAt K (d.adr K) d.qual d.dfl) = true from congrArg Prod.fst c)).1
  exact List.all_eq_true.mp c1 b (List.mem_of_getElem? h)
theorem defAt (c : obsY rs exs K = valY rs) (i : Nat) {d : DR} (h : rs[i]? = some d) : ∃ fd, FunD K d.name d.qual d.params d.body d.scope d.dfl [] (d.adr K) fd := by
  have c2 := (He.ba (show ((exs K).all id && rs.all fun d => okAt K (d.adr K) d.qual d.dfl) = true from congrArg Prod.fst c)).2
  have e : rs.map (fun d => fnAt K (d.adr K)) = rs.map DR.val := congrArg Prod.snd c
  have e2 : (rs.map fun d => fnAt K (d.adr K))[i]? = (rs.map DR.val)[i]? := by rw [e]
  rw [List.getElem?_map, List.getElem?_map, h] at e2
  exact funD_at (Option.some.inj e2) (List.all_eq_true.mp c2 d (List.mem_of_getElem? h))
end
section
variable {K : PySem.W.Frag}
def eqB (o : Option Bool) (b : Bool) : Bool := match o with
  | some c => c == b
  | none => false
theorem eqB_ok {o : Option Bool} {b : Bool} (h : eqB o b = true) : o = some b := by
  cases o with
  | none => cases h
  | some c => rw [eq_of_beq (show (c == b) = true from h)]
theorem eqO_ok {a b : Option (Option Value)} (h : He.eqO a b = true) : a = b := He.eqO_ok h
def insB (K : PySem.W.Frag) (c : Addr) : Bool := He.eqO (PySem.W.findIn K (.ref c) "__class__") (some (some (.builtin "object.__class__"))) && eqB (PySem.W.mroIn K c (.type "object")) true
def getB (K : PySem.W.Frag) : Bool := He.eqO (PySem.W.specialIn K (.builtin "object.__class__") "__get__") (some (some (.builtin "getset_descriptor.__get__"))) && eqB (PySem.W.takesIn K (.builtin "object.__class__")) true
theorem ins_of {x : Str} (c : (He.Fa.cls x).ok K = true) (h1 : insB K (He.ga K x) = true) (h2 : getB K = true) : InsF K (He.ga K x) :=
  ⟨He.cls_ok c, eqO_ok (He.ba h1).1, eqO_ok (He.ba h2).1, eqB_ok (He.ba h2).2, eqB_ok (He.ba h1).2⟩
def readB (K : PySem.W.Frag) (c : Addr) : Bool := PySem.W.readsIn K c (.type "type") && He.eqO (PySem.W.specialIn K (.ref c) "__getattribute__") (some (some (.builtin "type.__getattribute__")))
theorem read_of {c : Addr} (h : readB K c = true) : ClX.CRead K c (.type "type") := ⟨(He.ba h).1, eqO_ok (He.ba h).2⟩
def opB (K : PySem.W.Frag) (o : Operator) : Bool := match PySem.W.findIn K (.type "int") (PySem.dunder o.info.2), PySem.W.findIn K (.type "int") (dunderR o.info.2) with
  | some fo, some ro => (fo.isSome && !isSeqSlot fo) || (ro.isSome && !isSeqSlot ro)
  | _, _ => false
theorem opB_ok {o : Operator} (h : opB K o = true) : ∃ fo ro, PySem.W.findIn K (.type "int") (PySem.dunder o.info.2) = some fo ∧ PySem.W.findIn K (.type "int") (dunderR o.info.2) = some ro ∧ ((fo.isSome && !isSeqSlot fo) || (ro.isSome && !isSeqSlot ro)) = true := by
  unfold opB at h
  split at h
  · rename_i fo ro e1 e2
    exact ⟨fo, ro, e1, e2, h⟩
  · cases h
theorem mk_of {x : Str} (h : (He.Fa.mkr x).ok K = true) : Mk K (He.ga K x) (He.ma K (He.ga K x) "__init__") := He.mkr_ok h
theorem meth_of {x m : Str} (h : (He.Fa.meth x m).ok K = true) : Meth K (He.ga K x) m (He.ma K (He.ga K x) m) := He.meth_ok h
end
end EX
namespace SL
open PySem L2 DL Builtin Builtin.Str
def repl1 (x y z : Str) : Str := if ((occurrences x y 0 x.length 1).isEmpty || (y.length == 0 && z.length == 0)) = true then x else glued z (partsBetween x (occurrences x y 0 x.length 1) y.length)
theorem repl1_len (x y z : Str) : (repl1 x y z).length ≤ x.length + z.length := by
  unfold repl1
  split
  · exact Nat.le_add_right _ _
  · have h1 := StrLaws.occ_length_le x y 0 x.length 1
    have hy : (glued y (partsBetween x (occurrences x y 0 x.length 1) y.length)).length = x.length := by rw [StrLaws.glued_between_self]
    rw [size_glued, length_partsBetween, Nat.add_sub_cancel] at hy
    rw [size_glued, length_partsBetween, Nat.add_sub_cancel]
    have h2 : (occurrences x y 0 x.length 1).length * z.length ≤ 1 * z.length := Nat.mul_le_mul_right _ h1
    omega
theorem gives_repl1 (x y z : Str) (t u v k : Tok) (h0 : (u == 0 || v == 0) = false) (huv : (u == v) = false) (hyz : (y == z) = false) (hl : tooLong (x.length + (occurrences x y 0 x.length 1).length * z.length) = false) :
    Gives («str.replace» ⟨[.str x t, .str y u, .str z v, .int 1 k], []⟩) (if ((occurrences x y 0 x.length 1).isEmpty || (y.length == 0 && z.length == 0)) = true then .val (.str x t) else .str (glued z (partsBetween x (occurrences x y 0 x.length 1) y.length))) := by
  show Gives (if ((occurrences x y 0 x.length 1).isEmpty || (y.length == 0 && z.length == 0)) = true then (do rule "str.replace.nothing"; ret (.str x t)) else
          (do let same ← isSame (.str y u) (.str z v)
              if same = true then (do rule "str.replace.old-is-new"; ret (.str x t)) else
              if tooLong (x.length + (occurrences x y 0 x.length 1).length * z.length) = true then unsupported "str.replace:memory" else
              retStr (glued z (partsBetween x (occurrences x y 0 x.length 1) y.length)))) _
  cases hc : ((occurrences x y 0 x.length 1).isEmpty || (y.length == 0 && z.length == 0))
  · rw [isSame_str_other y z u v h0 huv hyz, hl]
    exact .of_eq rfl
  · exact .rule (.of_eq rfl)
theorem call_repl1 {prog : Program} {w : World} {A : Around} {E : Value → Shared → Prop} {s : Shared} {x y z : Str} {t u v k : Tok} {Q : Value → Shared → Prop} (hu : u ≠ 0) (hv : v ≠ 0) (huv : u ≠ v) (hyz : (y == z) = false) (hb : x.length + z.length ≤ 16777216)
    (hq : ∀ t' n, Q (.str (repl1 x y z) t') { s with toks := n }) : wpAny (model prog w) A (call (.builtin "str.replace") [.str x t, .str y u, .str z v, .int 1 k]) Q E s := by
  have hl : tooLong (x.length + (occurrences x y 0 x.length 1).length * z.length) = false := by
    have h1 := StrLaws.occ_length_le x y 0 x.length 1
    have h2 : (occurrences x y 0 x.length 1).length * z.length ≤ 1 * z.length := Nat.mul_le_mul_right _ h1
    unfold tooLong
    rw [sizeLine_eq]
    exact decide_eq_false (by omega)
  refine call_gives F.slot_str_replace (typeIs_str _ _ _) F.entry_str_replace (F.args_str_replace_4 _ _ _ _)
    (gives_repl1 x y z t u v k (by simp [hu, hv]) (by simp [huv]) hyz hl) ?_
  have hq' := hq
  have hn := repl1_len x y z
  unfold repl1 at hq' hn
  cases hc : ((occurrences x y 0 x.length 1).isEmpty || (y.length == 0 && z.length == 0))
  · rw [hc] at hq' hn
    simp only [Bool.false_eq_true, if_false] at hq' hn ⊢
    exact ⟨by rw [sizeLine_eq]; omega, hq' _ _⟩
  · rw [hc] at hq'
    simp only [if_true] at hq' ⊢
    exact hq' t s.toks
end SL
namespace SL
open PySem L2 DL Builtin Builtin.Str PyProof.Rows
def PTT (X : Cx) (e : Expr) (t : TT) : Prop :=
  ∀ (pins : List (Addr × Obj)) (s : Shared) (σ : L2.St) (H : Hp) (Q : Bool → Hp → Prop), 1 ≤ s.toks → Inv X pins σ H s → t σ H Q → wpAny (model X.prog X.w) X.A (isTrue e X.env (eval e X.env)) (TP X pins σ Q) X.xe s
section
variable {X : Cx} {a b : Expr} {ta tb : TE} {pos : Pos}
theorem pst_ifT {c : Expr} {x y : List Stmt} {tc : TT} {t u : TS} (hc : PTT X c tc) (ha : PSsT X x t) (hb : PSsT X y u) : PST X (.If c x y pos) (tIfS tc t u) := by
  intro pins s σ H D h0 I h
  refine wpAny_If (wpAny_mono (PySem.wpAny_toks_of h0 (hc pins s σ H _ h0 I h)) (fun d s1 q => ?_) fun _ _ z => z.2)
  obtain ⟨hk, H1, I1, q1⟩ := q
  cases d with
  | true => exact ha pins s1 σ H1 D hk I1 q1
  | false => exact hb pins s1 σ H1 D hk I1 q1
end
section
variable {X : Cx} {a : Expr} {ta : TE} {pos pos' : Pos} {st : Stmt} {rest : List Stmt} {t u : TS}
def PEo (X : Cx) (e : Expr) (t : TE) : Prop :=
  ∀ (pins : List (Addr × Obj)) (s : Shared) (σ : L2.St) (H : Hp) (Q : VK), Inv X pins σ H s → t σ H Q → wpAny (model X.prog X.w) X.A (eval e X.env) (fun v s1 => 1 ≤ s1.toks ∧ EP X pins σ Q v s1) X.xe s
theorem pss_tok {j : Nat} {x : Str} (hN : X.N.Nodup) (hi : X.N[j]? = some x) (hx : Loc X.env.scope x) (ha : PEo X a ta) (h2 : PSsT X rest u)
    (hs : swapsWith a (some (.Name x pos')) pos.line X.env = pure false) (hf : X.fn x = true ∨ X.env.scope.names.lookup x = some .local) :
    PSs X (.Assign [.Name x pos'] a pos :: rest) (tSeq (tAsg ta (gName j)) u) := by
  refine ⟨fun pins s σ H D I h => ?_⟩
  refine wpAny_execs_cons (wpAny_Assign_Name (thn (ha pins s σ H _ I h) fun v s1 ⟨h0, y, H1, I1, r1, q1⟩ => ?_) hs)
  refine wpAny_mono (PySem.wpAny_toks_of h0 (store_ok (v := y) (u := v) (Q := fun _ s2 => Inv X pins (σ.set j (some y)) H1 s2) I1 hN hi hx r1 (fun _ I2 => I2) hf)) (fun _ s2 q => ?_) fun _ _ z => z.2
  exact h2 pins s2 _ H1 D q.1 q.2 q1
theorem peo_m1 {id : String} {name : Str} {o : Expr} {to : TE} {c : Str} {k : Nat} {cp apos pos : Pos} {r : V → List V → Hp → VK → Prop} (slot : Slot "str" name id) (ty : typeOf (.builtin id) = pure (.type "method_descriptor")) (rule : MtR X id r) (ho : PE X o to)
    (hs : starEach [.Constant (.str c) k cp] X.env = [(false, eval (.Constant (.str c) k cp) X.env)]) (hbase : attributeBase o name X.env (eval o X.env) = eval o X.env) (hline : (apos.endLine == pos.line) = true) :
    PEo X (.Call (.Attribute o name apos) [.Constant (.str c) k cp] [] pos) (tM1 r to (tC (.str c))) := by
  intro pins s σ H Q I h
  refine PySem.Call_method1 hbase hs hline (thn (ho.run pins s σ H _ I h) fun v s1 ⟨x, H1, I1, r1, q1⟩ => ?_)
  obtain ⟨⟨a, rfl⟩, q1⟩ := q1
  obtain ⟨t, rfl⟩ := _root_.id r1
  refine ⟨"str", _, PySem.F.plainAttrs_str, slot, ty, typeIs_str _ _ _, (fun _ e => nomatch e), Calls.callWith_builtin rfl (Calls.evalArgs_plain (Calls.spliced_cons ?_))⟩
  refine Calls.Constant_str (Calls.spliced_nil ?_)
  refine wpAny_mono (PySem.wpAny_toks_of (n := 1) (by show 1 ≤ s1.toks + 1; omega) (rule pins { s1 with toks := s1.toks + 1 } σ H1 _ [.str c] _ [.str c s1.toks] Q (I1.tok _) r1 (.cons ⟨_, rfl⟩ .nil) q1)) (fun _ _ q => q) fun _ _ z => z.2
end
section
variable {X : Cx} {tg iter : Expr} {body : List Stmt} {wi : TI} {g : TG} {tb : TS} {pos : Pos}
theorem pst_forT (hp : PassesOwn (model X.prog X.w) X.A X.env X.xe) (hc : X.calm = true) (hi : L2.PI X tg iter wi) (hg : PG X tg g) (hb : PSsT X body tb)
    (hs : ∀ x, foldedSetIterable iter X.env x = pure x := by intro _; rfl) : PST X (.For tg iter body [] pos) (tFor wi g tb) := by
  intro pins s σ H D h0 I h
  refine wpAny_For (wpAny_mono (PySem.wpAny_toks_of h0 (hi.run pins s σ H _ I h)) (fun v s1 h1 => wpAny_mono (PySem.wpAny_toks_of h1.1 h1.2) (fun itv s2 h2 => ?_) fun _ _ z => z.2) fun _ _ z => z.2) hs
  obtain ⟨k2, it, fp, tn, J, H2, rfl, I2, T, st2, f2, W, ⟨m0, w0⟩, turn⟩ := h2
  refine codeAny_forLoop_any (fun n s' => 1 ≤ s'.toks ∧ ∃ i σ' H', Inv X pins σ' H' s' ∧ tn i s'.heap ∧ (∀ b ∈ fp, H' b = none) ∧ W i n σ' H') ?_ m0 ⟨k2, 0, σ, H2, I2, st2, fun b hb => (f2 b hb).1, w0⟩
  rintro n s3 ⟨k3, i, σ3, H3, I3, st3, fr3, w3⟩
  have ff : ∀ b ∈ fp, FpOk X pins H3 b := fun b hb => ⟨fr3 b hb, (f2 b hb).2⟩
  rcases turn i n σ3 H3 w3 with ⟨stop, qn⟩ | ⟨go, N, hN, step⟩
  · refine wpAny_passesOwn hp (thn (T.done X rfl rfl rfl hc i pins s3 σ3 H3 X.xe I3 ff st3 stop) fun r s4 ⟨hr, I4⟩ => ?_)
    subst hr
    exact wpAny_execs_nil ⟨σ3, H3, I4, qn⟩
  · refine wpAny_passesOwn hp (wpAny_mono (PySem.wpAny_toks_of k3 (T.item X rfl rfl rfl hc i pins s3 σ3 H3 X.xe I3 ff st3 go)) (fun r s4 q => ?_) fun _ _ z => z.2)
    obtain ⟨k4, v, rfl, h4⟩ := q
    refine wpAny_passesOwn hp (wpAny_mono (PySem.wpAny_toks_of k4 h4) (fun _ s5 q => ?_) fun _ _ z => z.2)
    obtain ⟨k5, x, H5, I5, r5, y5, st5, fr5⟩ := q
    have I5' := I5.pinned (fun b hb => ⟨fr5 b hb, (f2 b hb).2⟩) (T.obj _ _ st5)
    refine wpAny_passesOwn hp (wpAny_mono (PySem.wpAny_toks_of k5 (hg.run _ s5 σ3 H5 x v _ I5' r5 (step x H5 y5))) (fun _ s6 q => ?_) fun _ _ z => z.2)
    obtain ⟨k6, σ6, H6, I6, q6⟩ := q
    refine wpAny_passesOwn hp (wpAny_mono (PySem.wpAny_toks_of k6 (hb _ s6 σ6 H6 _ k6 I6 q6)) (fun f s7 q => ?_) fun _ _ z => z.2)
    obtain ⟨k7, q7⟩ := q
    have pin : ∀ {σ7 : L2.St} {H7 : Hp}, Inv X (pins ++ pinsAt fp s5.heap) σ7 H7 s7 → ∀ b ∈ fp, ∀ o, s5.heap.get? b = some o → s7.heap.get? b = some o ∧ H7 b = none := fun I7 b hb o e =>
      ⟨(I7.pin (b, o) (List.mem_append_right _ (List.mem_append_right _ (mem_pinsAt hb e)))).1, (I7.pin (b, o) (List.mem_append_right _ (List.mem_append_right _ (mem_pinsAt hb e)))).2.1⟩
    have nextTurn : ∀ {σ7 : L2.St} {H7 : Hp}, Inv X (pins ++ pinsAt fp s5.heap) σ7 H7 s7 → N σ7 H7 → ∃ m, m < n ∧ 1 ≤ s7.toks ∧ ∃ i σ' H', Inv X pins σ' H' s7 ∧ tn i s7.heap ∧ (∀ b ∈ fp, H' b = none) ∧ W i m σ' H' := fun {σ7 H7} I7 n7 => by
      obtain ⟨m', hm, w7⟩ := hN σ7 H7 n7
      refine ⟨m', hm, k7, i + 1, σ7, H7, I7.unpinned, T.keep _ _ _ st5 fun b hb o e => (pin I7 b hb o e).1, fun b hb => ?_, w7⟩
      obtain ⟨o, e, _⟩ := T.obj _ _ st5 b hb
      exact (pin I7 b hb o e).2
    cases f with
    | next => obtain ⟨σ7, H7, I7, n7⟩ := q7; exact nextTurn I7 n7
    | cont => obtain ⟨σ7, H7, I7, n7⟩ := q7; exact nextTurn I7 n7
    | brk => obtain ⟨σ7, H7, I7, z7⟩ := q7; exact ⟨σ7, H7, I7.unpinned, z7⟩
    | ret w => obtain ⟨y7, σ7, H7, I7, r7, z7⟩ := q7; exact ⟨y7, σ7, H7, I7.unpinned, r7, z7⟩
end
def strk (c l : Str) : List Str := (signs l).filter fun a => !Txt.contains c a
def strkP (c : Str) : Value → Bool := fun v => match v with
  | .str a _ => !Txt.contains c a
  | _ => false
theorem paired_eq : ∀ {vs rs : List Value}, Paired (fun v r : Value => r = v) vs rs → rs = vs
  | _, _, .nil => rfl
  | _, _, .cons h q => by rw [h, paired_eq q]
theorem reads_strk {h : Heap} {c : Str} : ∀ {vs : List Value} {as : List Str}, AreOf .str vs as → ReadsAll h (vs.filter (strkP c)) ((as.filter fun a => !Txt.contains c a).map PyData.str) []
  | _, _, .nil => .nil
  | v :: vs, a :: as, .cons h1 q => by
    obtain ⟨t, rfl⟩ := h1
    have ih := reads_strk (h := h) (c := c) q
    have e : strkP c (.str a t) = !Txt.contains c a := rfl
    cases k : !Txt.contains c a with
    | true =>
      rw [List.filter_cons_of_pos (by rw [e, k]), List.filter_cons_of_pos (by rw [k])]
      exact .cons (as := []) (.str a t) ih
    | false =>
      rw [List.filter_cons_of_neg (by rw [e, k]; simp), List.filter_cons_of_neg (by rw [k]; simp)]
      exact ih
def tStrike (i : Nat) (y z c : Str) : TT := fun σ H Q => ∃ x, σ[i]? = some (some (.str x)) ∧ x.length + z.length ≤ 1000000 ∧ SeqAt.shaped (.list ((strk c (repl1 x y z)).map PyData.str)) = true ∧ Q (!(strk c (repl1 x y z)).isEmpty) H
theorem eval_repl1 {X : Cx} {i j0 j1 j2 : Nat} {b x y z : Str} {p1 apos c0 c1 c2 cp : Pos} {pins : List (Addr × Obj)} {s : Shared} {σ : L2.St} {H : Hp} {Q : Value → Shared → Prop} (h0 : 1 ≤ s.toks) (I : Inv X pins σ H s) (hx0 : σ[i]? = some (some (.str x))) (hN : X.N[i]? = some b) (hv : Vis X.env.scope b)
    (hyz : (y == z) = false) (hb : x.length + z.length ≤ 1000000) (hd : (b == ("__debug__" : Str)) = false) (hcd : (b == ("__classdict__" : Str)) = false)
    (hst : starEach [.Constant (.str y) j0 c0, .Constant (.str z) j1 c1, .Constant (.int 1) j2 c2] X.env = [(false, eval (.Constant (.str y) j0 c0) X.env), (false, eval (.Constant (.str z) j1 c1) X.env), (false, eval (.Constant (.int 1) j2 c2) X.env)])
    (hbase : attributeBase (.Name b p1) "replace" X.env (eval (.Name b p1) X.env) = eval (.Name b p1) X.env) (hline : (apos.endLine == cp.line) = true)
    (hq : ∀ t' n, Q (.str (repl1 x y z) t') { s with toks := n }) :
    wpAny (model X.prog X.w) X.A (eval (.Call (.Attribute (.Name b p1) "replace" apos) [.Constant (.str y) j0 c0, .Constant (.str z) j1 c1, .Constant (.int 1) j2 c2] [] cp) X.env) Q X.xe s := by
  refine wpAny_Call_method_lateS hbase (by rw [hst]; rfl) hline (raw_name hN hv I hx0 (fun v r => ?_) hd hcd)
  obtain ⟨t, rfl⟩ := r
  refine ⟨"str", _, PySem.F.plainAttrs_str, PySem.F.slot_str_replace, PySem.F.type_str_replace, typeIs_str _ _ _, (fun _ e => nomatch e), Calls.callWith_builtin rfl (Calls.evalArgs_plain ?_)⟩
  show wpAny _ _ (spliced [(false, eval (.Constant (.str y) j0 c0) X.env), (false, eval (.Constant (.str z) j1 c1) X.env), (false, eval (.Constant (.int 1) j2 c2) X.env)]) _ _ _
  refine Calls.spliced_cons (Calls.Constant_str (Calls.spliced_cons (Calls.Constant_str (Calls.spliced_cons (wpAny_Constant_int (Calls.spliced_nil ?_))))))
  exact call_repl1 (by show s.toks ≠ 0; omega) (by show s.toks + 1 ≠ 0; omega) (by show s.toks ≠ s.toks + 1; omega) hyz (by omega) hq
theorem ptt_strike {X : Cx} {i j0 j1 j2 j3 : Nat} {b sg y z c : Str} {e1 e2 e3 e4 p1 apos c0 c1 c2 c3 cp lp np op : Pos} {scope : Scope} (hN : X.N[i]? = some b) (hv : Vis X.env.scope b) (hh : X.A.handled = none) (hu : X.A.units + 64 < cLine)
    (hfree : ∀ n ∈ scope.names, n.2 ≠ .free) (hcell : ∀ n ∈ scope.names, n.2 ≠ .cell) (hkind : scope.kind = .function) (hnames : ∀ n ∈ scope.names, n.2 = .local → scope.names.lookup n.1 = some .local) (hx : scope.names.lookup sg = some .local)
    (hyz : (y == z) = false) (hd : (b == ("__debug__" : Str)) = false) (hcd : (b == ("__classdict__" : Str)) = false) (hd2 : (sg == ("__debug__" : Str)) = false)
    (hst : starEach [.Constant (.str y) j0 c0, .Constant (.str z) j1 c1, .Constant (.int 1) j2 c2] X.env = [(false, eval (.Constant (.str y) j0 c0) X.env), (false, eval (.Constant (.str z) j1 c1) X.env), (false, eval (.Constant (.int 1) j2 c2) X.env)])
    (hbase : attributeBase (.Name b p1) "replace" X.env (eval (.Name b p1) X.env) = eval (.Name b p1) X.env) (hline : (apos.endLine == cp.line) = true)
    (hs : ∀ x, foldedSetIterable (.Call (.Attribute (.Name b p1) "replace" apos) [.Constant (.str y) j0 c0, .Constant (.str z) j1 c1, .Constant (.int 1) j2 c2] [] cp) X.env x = pure x) :
    PTT X (.Compare (.ListComp (.Name sg e1) [⟨.Name sg e2, .Call (.Attribute (.Name b p1) "replace" apos) [.Constant (.str y) j0 c0, .Constant (.str z) j1 c1, .Constant (.int 1) j2 c2] [] cp, [.Compare (.Name sg e3) [.NotIn] [.Constant (.str c) j3 c3] e4], 0⟩] scope lp) [.NotEq] [.List [] np] op) (tStrike i y z c) := by
  intro pins s σ H Q h0 I h
  obtain ⟨x, hx0, hb, hsh, q⟩ := h
  refine wpAny_isTrue_Compare1 (wpAny_ListComp_walk (strkP c) (fun v r => r = v) hfree hcell hkind hnames hx (eval_repl1 h0 I hx0 hN hv hyz hb hd hcd hst hbase hline fun t' n => ?_) hs) (by with_unfolding_all rfl)
  have I1 : Inv X pins σ H { s with toks := n } := I.tok n
  generalize ({ s with toks := n } : Shared) = s at I1 ⊢
  have hlen := repl1_len x y z
  refine wpAny_pyIter_str fun o St W hst2 => ?_
  refine ⟨_, _, _, _, _, St, rfl, W X.A hh, by rw [sizeLine_eq]; show (repl1 x y z).length ≤ _; omega, hst2, ?_, ⟨?_, ?_⟩, ?_⟩
  · intro d hd
    rw [List.mem_singleton.mp hd]
    show _ < (s.heap.push o).objs.size
    rw [Heap.size_push]
    exact Nat.lt_succ_self _
  · intro C k v s3 m3 E' hP hn hm _ _
    obtain ⟨n1, u, _, rfl⟩ := hP
    refine wpAny_tests_one (wpAny_isTrue_Compare1 (wpAny_Name (wpAny_loadName_local hkind hx hn hm ?_) hd2))
    refine Calls.Constant_str (PySem.SB.notContains ?_)
    exact wpAny_truthy_bool ⟨rfl, _, _, rfl, fun _ _ e => e⟩
  · intro C k v s3 m3 E' hP hp hn hm _ _
    exact wpAny_Name (wpAny_loadName_local hkind hx hn hm ⟨rfl, _, _, rfl, fun _ _ e => e⟩) hd2
  · intro D h' tk ys vs hnew hlD hplD hlv hP hF hk
    have I2 : Inv X pins σ H { s with heap := h', toks := tk } := I1.kept (fun b2 u e => hk b2 u (old_not_new e) (Heap.get?_push_of_some _ e))
    obtain ⟨kk, hget⟩ := hplD
    refine wpAny_List_spliced (Calls.spliced_nil ⟨Nat.zero_le _, ?_⟩)
    have I3 : Inv X pins σ H { s with heap := h'.push { cls := .type "list", data := .seq ([] : List Value).toArray }, toks := tk } := I2.kept (t' := tk) fun b2 u e => Heap.get?_push_of_some _ e
    have hall : ReadsAll (h'.push { cls := .type "list", data := .seq ([] : List Value).toArray }) ys.toList ((strk c (repl1 x y z)).map PyData.str) [] := by
      rw [paired_eq hF]
      exact reads_strk (areOf_signs hlv hP)
    have r1 : Reads (h'.push { cls := .type "list", data := .seq ([] : List Value).toArray }) (.ref D) (.list ((strk c (repl1 x y z)).map PyData.str)) (D :: []) := .list (Heap.get?_push_of_some _ hget) rfl rfl hall
    have r2 : Reads (h'.push { cls := .type "list", data := .seq ([] : List Value).toArray }) (.ref h'.objs.size) (.list []) (h'.objs.size :: []) := .list (Heap.get?_push_size _ rfl) rfl rfl .nil
    refine SeqAt.compareNe_shaped r1 r2 hsh (by decide +kernel) hu ?_
    have e : PyData.eqv (.list ((strk c (repl1 x y z)).map PyData.str)) (.list []) = (strk c (repl1 x y z)).isEmpty := by
      cases strk c (repl1 x y z) with
      | nil => rfl
      | cons a r => rfl
    rw [e]
    exact wpAny_truthy_bool ⟨H, I3, q⟩
end SL
namespace SL
open PySem L2 DL Builtin Builtin.Str PyProof.Rows
variable [TabL]
def anyST (F : Fam) (e : List Stmt) : TS := fun E σ H => ∃ te, (∀ i, PSsT (F.X i) e te) ∧ te E σ H
def any1T (F : Fam) (e : Stmt) : TS := fun E σ H => ∃ te, (∀ i, PST (F.X i) e te) ∧ te E σ H
theorem anyST_ok {F : Fam} {e : List Stmt} (i : F.I) : PSsT (F.X i) e (anyST F e) := fun pins s σ H D h0 I h => let ⟨te, h1, h2⟩ := h; h1 i pins s σ H D h0 I h2
theorem any1T_ok {F : Fam} {e : Stmt} (i : F.I) : PST (F.X i) e (any1T F e) := fun pins s σ H D h0 I h => let ⟨te, h1, h2⟩ := h; h1 i pins s σ H D h0 I h2
def DST (F : Fam) (e : List Stmt) (S : ST) (P : Po) : Prop := SD F.C (anyST F e) S P
def D1T (F : Fam) (e : Stmt) (S : ST) (P : Po) : Prop := SD F.C (any1T F e) S P
section
variable {F : Fam} {S S1 : ST} {P : Po} {M : ST → Prop} {st : Stmt} {rest t u body : List Stmt} {pos : Pos} {k : Bool} {tg iter : Expr} {ds : List D}
theorem dst_of (h : DS F rest S P) : DST F rest S P := fun σ G H c E m => ⟨anyS F rest, fun i => PSsT.of (anyS_ok i), h σ G H c E m⟩
theorem d1t_of {te : TS} (h : ∀ i, PST (F.X i) st te) (v : SD F.C te S P) : D1T F st S P := fun σ G H c E m => ⟨te, h, v σ G H c E m⟩
theorem dst_cons (h1 : D1T F st S { P with nx := M }) (h2 : ∀ S2, M S2 → DST F rest S2 P) : DST F (st :: rest) S P := fun σ G H c E m =>
  ⟨tSeq (any1T F st) (anyST F rest), fun i => psst_cons (any1T_ok i) (anyST_ok i), h1 σ G H c _ ⟨fun σ2 S2 G2 H2 a q => h2 S2 q σ2 G2 H2 a.cx E (m.move a), m.rt, m.bk, m.ct, m.ro, m.xc⟩⟩
theorem dst_nil (h : P.nx S) : DST F [] S P := dst_of (ds_nil h)
theorem dst_mono {P' : Po} (h : DST F rest S P) (h1 : ∀ S, P.nx S → P'.nx S) (h2 : ∀ d S, P.rt d S → P'.rt d S) (h3 : ∀ S, P.bk S → P'.bk S) (h4 : ∀ S, P.ct S → P'.ct S) (h5 : ∀ es S, P.ro es S → P'.ro es S := by intro _ _ z; exact z) (h6 : (∀ c fs S, ¬ P.xc c fs S) ∨ (P.W = P'.W ∧ ∀ c fs S, P.xc c fs S → P'.xc c fs S) := by first | exact Or.inl (fun _ _ _ z => z.elim) | exact Or.inr ⟨rfl, fun _ _ _ z => z⟩) : DST F rest S P' := fun σ G H c E m =>
  h σ G H c E ⟨fun σ2 S2 G2 H2 a q => m.nx _ _ _ _ a (h1 _ q), fun v d σ2 S2 G2 H2 a q r => m.rt _ _ _ _ _ _ a q (h2 _ _ r), fun σ2 S2 G2 H2 a q => m.bk _ _ _ _ a (h3 _ q), fun σ2 S2 G2 H2 a q => m.ct _ _ _ _ a (h4 _ q), fun p ev es σ2 S2 G2 H2 a r1 r2 r3 r4 q => m.ro _ _ _ _ _ _ _ a r1 r2 r3 r4 (h5 _ _ q), fun c fs dx fv σ2 S2 G2 H2 a r1 r2 r3 r4 q => by
    rcases h6 with n | ⟨ew, k⟩
    · exact absurd q (n _ _ _)
    · rw [ew]; exact m.xc c fs dx fv _ _ _ _ a r1 r2 r3 r4 (k _ _ _ q)⟩
theorem d1t_if {c : Expr} (hc : DT F c S S1 k) (h1 : k = true → DST F t S1 P) (h2 : k = false → DST F u S1 P) : D1T F (.If c t u pos) S P :=
  d1t_of (te := tIfS (anyT F c) (anyST F t) (anyST F u)) (fun i => CwR.pst_if (anyT_ok i) (anyST_ok i) (anyST_ok i)) fun σ G H cx E m => hc σ G H cx _ fun G1 H1 m1 => by
    cases k with
    | true => rw [if_pos rfl]; exact h1 rfl σ G1 H1 m1.cx E (m.move m1.mw)
    | false => rw [if_neg Bool.false_ne_true]; exact h2 rfl σ G1 H1 m1.cx E (m.move m1.mw)
theorem dst_ifr {c : Expr} (hc : DT F c S S1 k) (h1 : k = true → DST F t S1 { P with nx := fun _ => False }) (h2 : k = false → DST F rest S1 P) : DST F (.If c t [] pos :: rest) S P :=
  dst_cons (M := fun S2 => S2 = S1 ∧ k = false) (d1t_if hc (fun h => dst_mono (h1 h) (fun _ z => z.elim) (fun _ _ z => z) (fun _ z => z) fun _ z => z) fun h => dst_nil ⟨rfl, h⟩) fun _ ⟨z, h⟩ => z ▸ h2 h
theorem dst_ifrT {c : Expr} {tt : TT} (hp : ∀ i, PTT (F.X i) c tt) (hc : EvT F.C tt S S1 k) (h1 : k = true → DST F t S1 { P with nx := fun _ => False }) (h2 : k = false → DST F rest S1 P) : DST F (.If c t [] pos :: rest) S P :=
  dst_cons (M := fun S2 => S2 = S1 ∧ k = false) (d1t_of (te := tIfS tt (anyST F t) (anyST F [])) (fun i => pst_ifT (hp i) (anyST_ok i) (anyST_ok i)) fun σ G H cx E m => hc σ G H cx _ fun G1 H1 m1 => by
    cases k with
    | true => rw [if_pos rfl]; exact (dst_mono (P' := { P with nx := fun S2 => S2 = S1 ∧ true = false }) (h1 rfl) (fun _ z => z.elim) (fun _ _ z => z) (fun _ z => z) (fun _ z => z) (h6 := Or.inr ⟨rfl, fun _ _ _ z => z⟩)) σ G1 H1 m1.cx E (m.move m1.mw)
    | false => rw [if_neg Bool.false_ne_true]; exact dst_nil (P := { P with nx := fun S2 => S2 = S1 ∧ false = false }) ⟨rfl, rfl⟩ σ G1 H1 m1.cx E (m.move m1.mw)) fun _ ⟨z, h⟩ => z ▸ h2 h
theorem dst_for (I : Nat → ST → Prop) (M : ST → Prop) (hi : DI F tg iter S S1 ds) (h0 : I 0 S1) (hb : ∀ i S d, ds[i]? = some d → I i S → ∃ S' js, DG F tg d S S' js ∧ DST F body S' { P with nx := I (i + 1), ct := I (i + 1), bk := M }) (hd : ∀ S, I ds.length S → M S) (hr : ∀ S2, M S2 → DST F rest S2 P)
    (hf : ∀ i, PST (F.X i) (.For tg iter body [] pos) (tFor (anyI F tg iter) (anyG F tg) (anyST F body))) : DST F (.For tg iter body [] pos :: rest) S P := by
  refine dst_cons (M := M) (d1t_of (te := tFor (anyI F tg iter) (anyG F tg) (anyST F body)) hf ?_) hr
  intro σ0 G0 H0 c0 E m
  refine hi σ0 G0 H0 c0 _ fun J G1 H1 m1 it => ?_
  refine ⟨fun i m' σ H => i ≤ ds.length ∧ m' = ds.length - i ∧ ∃ S' G, Mw F.C σ0 S1 G1 H1 σ S' G H ∧ I i S', ⟨_, Nat.zero_le _, rfl, S1, G1, .refl m1.cx, h0⟩, ?_⟩
  rintro i m' σ H ⟨hle, rfl, S', G, mw, hI⟩
  by_cases hlt : i < ds.length
  · refine .inr ⟨it.go i G H hlt mw.go.gg mw.cx.sub, fun σ' H' => ∃ S2 G2, Mw F.C σ0 S1 G1 H1 σ' S2 G2 H' ∧ I (i + 1) S2, fun σ' H' ⟨S2, G2, a, b⟩ => ⟨_, by omega, hlt, rfl, S2, G2, a, b⟩, fun x H' hy => ?_⟩
    obtain ⟨G', pu, dx⟩ := it.yld i _ G H x H' (List.getElem?_eq_getElem hlt) mw.go.gg mw.cx.sub hy
    obtain ⟨S3, js, hg, hbd⟩ := hb i S' _ (List.getElem?_eq_getElem hlt) hI
    have m2 := mw.cx.pu pu
    refine hg σ G' H' x m2.cx dx _ fun σ2 G2 H2 m3 _ => ?_
    have all := (mw.trans m2.mw).trans m3
    have mm := m.move (m1.mw.trans all)
    exact hbd σ2 G2 H2 m3.cx _ ⟨fun σ3 S3 G3 H3 a q => ⟨S3, G3, all.trans a, q⟩, mm.rt, mm.nx, fun σ3 S3 G3 H3 a q => ⟨S3, G3, all.trans a, q⟩, mm.ro, mm.xc⟩
  · have e : i = ds.length := by omega
    subst e
    exact .inl ⟨it.stop _ G H (Nat.le_refl _) mw.go.gg mw.cx.sub, m.nx _ _ _ _ (m1.mw.trans mw) (hd S' hI)⟩
end
def DSkT {R : Type} (F : Fam) (sts : List Stmt) (S : ST) (m : O R) (P : R → Po) : Prop := ∀ r, m = .ok r → DST F sts S (P r)
def strike (y z c : Str) : D → O Bool
  | .str x => if x.length + z.length ≤ 1000000 ∧ eqOk (.lst ((strk c (repl1 x y z)).map D.str)) = true then .ok (!(strk c (repl1 x y z)).isEmpty) else .bad
  | _ => .bad
theorem dst_wk {F : Fam} {S S' : ST} {P : Po} {sts : List Stmt} (w : Wk S' S) (h : DST F sts S P) : DST F sts S' P := fun σ G H c E m =>
  let mw := w.mw c
  h σ G H mw.cx E (m.move mw)
section
variable {R T B : Type} {F : Fam} {S : ST} {P : R → Po} {m m1 m2 : O R} {st : Stmt} {rest t u body : List Stmt} {pos : Pos} {tg iter : Expr} {oi : O (List D)} {ot : O Bool}
theorem kT_of (h : DSk F rest S m P) : DSkT F rest S m P := fun r q => dst_of (h r q)
theorem kT_ifr {c : Expr} (ht : DTp F c S ot) (h1 : DSk F t S m1 (fun r => { P r with nx := fun _ => False })) (h2 : DSkT F rest S m2 P) : DSkT F (.If c t [] pos :: rest) S (O.ite ot m1 m2) P := fun r q => by
  rcases O.ite_eq q with ⟨h3, q⟩ | ⟨h3, q⟩
  · exact dst_ifr (k := true) (ht _ h3) (fun _ => dst_of (h1 r q)) (fun z => nomatch z)
  · exact dst_ifr (k := false) (ht _ h3) (fun z => nomatch z) (fun _ => h2 r q)
theorem kT_forR (mk : T → ST) {t0 : T} {β : D → O B} {st : T → B → ST} {mb : T → B → O (Fl T R)} {mr : T → O R} (hi : DIp F tg iter S oi) (w : Wk S (mk t0)) (hg : ∀ x d y, β d = .ok y → ∃ js, DG F tg d (mk x) (st x y) js)
    (hb : ∀ x y, DSkT F body (st x y) (mb x y) (PL P mk)) (hr : ∀ x, DSkT F rest (mk x) (mr x) P)
    (hf : ∀ i, PST (F.X i) (.For tg iter body [] pos) (tFor (anyI F tg iter) (anyG F tg) (anyST F body))) :
    DSkT F (.For tg iter body [] pos :: rest) S (oi.bind fun ds => thenO (loopO (fun x d => (β d).bind fun y => mb x y) ds t0) mr) P := fun r q => by
  obtain ⟨ds, h1, q⟩ := O.bind_eq q
  obtain ⟨z, h2, q⟩ := O.bind_eq (show O.bind _ _ = _ from q)
  refine dst_for (fun i S' => ∃ x, loopO (fun x d => (β d).bind fun y => mb x y) (ds.take i) t0 = .ok (.nx x) ∧ Wk S' (mk x)) (fun S' => ∃ x, mr x = .ok r ∧ Wk S' (mk x)) (hi ds h1) ⟨t0, rfl, w⟩ (fun i S' d hd hI => ?_) (fun S' hI => ?_) (fun S' ⟨x, e, z⟩ => dst_wk z (hr x r e)) hf
  · obtain ⟨x, e1, wx⟩ := hI
    obtain ⟨y, e2, e3, e4, e5⟩ := loopO_nx h2 hd e1
    obtain ⟨v, e6, e7⟩ := O.bind_eq e2
    obtain ⟨js, g⟩ := hg x d v e6
    refine ⟨_, js, dg_wk wx g, ?_⟩
    have := hb x v y e7
    cases y with
    | nx t' => exact dst_mono this (fun S2 z => ⟨_, e3, z⟩) (fun _ _ z => z.elim) (fun _ z => z.elim) (fun S2 z => ⟨_, e3, z⟩) (fun _ _ z => z.elim)
    | bk t' =>
      cases e4 t' rfl
      exact dst_mono this (fun S2 z => z.elim) (fun _ _ z => z.elim) (fun S2 z => ⟨t', q, z⟩) (fun S2 z => z.elim) (fun _ _ z => z.elim)
    | rt r' =>
      cases e5 r' rfl
      cases q
      exact dst_mono this (fun S2 z => z.elim) (fun _ _ z => z) (fun S2 z => z.elim) (fun S2 z => z.elim) (fun _ _ z => z)
  · obtain ⟨x, e1, wx⟩ := hI
    rw [List.take_length, h2] at e1
    cases e1
    exact ⟨x, q, wx⟩
theorem kT_for1R [Calm F] (mk : T → ST) {t0 : T} {x : Str} {xp : Pos} {j : Nat} {mb : T → D → O (Fl T R)} {mr : T → O R} (hi : DIp F (.Name x xp) iter S oi) (w : Wk S (mk t0)) (hb : ∀ t d, DSkT F body ((mk t).set j d) (mb t d) (PL P mk)) (hr : ∀ t, DSkT F rest (mk t) (mr t) P)
    (g1 : ∀ (d : D) (S : ST), DG F (.Name x xp) d S (S.set j d) [j] := by intro _ _; exact dg_name)
    (hp : ∀ i, PassesOwn (model (F.X i).prog (F.X i).w) (F.X i).A (F.X i).env (F.X i).xe := by intro _; first | exact PassesOwn.never | exact passes_of rfl)
    (hs : ∀ i v, foldedSetIterable iter (F.X i).env v = pure v := by intro _ _; rfl) :
    DSkT F (.For (.Name x xp) iter body [] pos :: rest) S (oi.bind fun ds => thenO (loopO mb ds t0) mr) P :=
  kT_forR mk (β := .ok) (st := fun t d => (mk t).set j d) (mb := mb) hi w (fun t d y z => by cases z; exact ⟨_, g1 _ _⟩) hb hr (fun i => pst_forT (hp i) (Fam.calm F i) (anyI_ok i) (anyG_ok i) (anyST_ok i) (hs i))
theorem kT_strike [Calm F] {i j0 j1 j2 j3 : Nat} {d : D} {b sg y z c : Str} {e1 e2 e3 e4 p1 apos c0 c1 c2 c3 cp lp np op : Pos} {scope : Scope} (hj : S.s[i]? = some (some (.imm d))) (h1 : DSk F t S m1 (fun r => { P r with nx := fun _ => False })) (h2 : DSk F rest S m2 P)
    (hN : ∀ k, (F.X k).N[i]? = some b := by intro _; rfl) (hv : ∀ k, Vis (F.X k).env.scope b := by intro _; first | exact Or.inl rfl | exact Or.inr (Or.inl rfl) | exact Or.inr (Or.inr rfl))
    (hfree : ∀ n ∈ scope.names, n.2 ≠ .free := by decide) (hcell : ∀ n ∈ scope.names, n.2 ≠ .cell := by decide) (hkind : scope.kind = .function := by rfl) (hnames : ∀ n ∈ scope.names, n.2 = .local → scope.names.lookup n.1 = some .local := by decide) (hx : scope.names.lookup sg = some .local := by decide)
    (hyz : (y == z) = false := by decide) (hd : (b == ("__debug__" : Str)) = false := by decide) (hcd : (b == ("__classdict__" : Str)) = false := by decide) (hd2 : (sg == ("__debug__" : Str)) = false := by decide)
    (hst : ∀ k, starEach [.Constant (.str y) j0 c0, .Constant (.str z) j1 c1, .Constant (.int 1) j2 c2] (F.X k).env = [(false, eval (.Constant (.str y) j0 c0) (F.X k).env), (false, eval (.Constant (.str z) j1 c1) (F.X k).env), (false, eval (.Constant (.int 1) j2 c2) (F.X k).env)] := by intro _; rfl)
    (hbase : ∀ k, attributeBase (.Name b p1) "replace" (F.X k).env (eval (.Name b p1) (F.X k).env) = eval (.Name b p1) (F.X k).env := by intro _; rfl) (hline : (apos.endLine == cp.line) = true := by rfl)
    (hs : ∀ k v, foldedSetIterable (.Call (.Attribute (.Name b p1) "replace" apos) [.Constant (.str y) j0 c0, .Constant (.str z) j1 c1, .Constant (.int 1) j2 c2] [] cp) (F.X k).env v = pure v := by intro _ _; rfl) :
    DSkT F (.If (.Compare (.ListComp (.Name sg e1) [⟨.Name sg e2, .Call (.Attribute (.Name b p1) "replace" apos) [.Constant (.str y) j0 c0, .Constant (.str z) j1 c1, .Constant (.int 1) j2 c2] [] cp, [.Compare (.Name sg e3) [.NotIn] [.Constant (.str c) j3 c3] e4], 0⟩] scope lp) [.NotEq] [.List [] np] op) t [] pos :: rest) S (O.ite (strike y z c d) m1 m2) P := fun r q => by
  have key : ∀ k : Bool, strike y z c d = .ok k → EvT F.C (tStrike i y z c) S S k := fun k hk σ G H cx Q q => by
    cases d with
    | str x =>
      unfold strike at hk
      simp only at hk
      split at hk
      · rename_i a
        cases hk
        obtain ⟨v, h1, h2⟩ := cx.im i _ hj
        cases h2
        have e := a.2
        unfold eqOk at e
        rw [Bool.and_eq_true] at e
        have e2 : toP (.lst ((strk c (repl1 x y z)).map D.str)) = .list ((strk c (repl1 x y z)).map PyData.str) := by
          show PyData.list (toPs _) = _
          congr 1
          induction strk c (repl1 x y z) with
          | nil => rfl
          | cons a r ih => show _ :: toPs _ = _; rw [ih]; rfl
        rw [e2] at e
        exact ⟨x, h1, a.1, e.2, q G H (.refl cx)⟩
      · cases hk
    | _ => cases hk
  have hp : ∀ k, PTT (F.X k) _ (tStrike i y z c) := fun k => ptt_strike (e1 := e1) (e2 := e2) (e3 := e3) (e4 := e4) (j3 := j3) (c3 := c3) (lp := lp) (np := np) (op := op) (hN k) (hv k) (Calm.h k) (F.units k) hfree hcell hkind hnames hx hyz hd hcd hd2 (hst k) (hbase k) hline (hs k)
  rcases O.ite_eq q with ⟨h3, q⟩ | ⟨h3, q⟩
  · exact dst_ifrT (k := true) hp (key _ h3) (fun _ => dst_of (h1 r q)) (fun z => nomatch z)
  · exact dst_ifrT (k := false) hp (key _ h3) (fun z => nomatch z) (fun _ => dst_of (h2 r q))
theorem k_setT {j : Nat} {x c : Str} {pos' cp apos cpos : Pos} {k : Nat} {o : Expr} {oa : O D} {mr : D → O R} (ho : DEp F o S oa) (hr : ∀ d, DSkT F rest (S.set j d) (mr d) P) (hN : ∀ i, (F.X i).N[j]? = some x := by intro _; rfl) (hx : ∀ i, Loc (F.X i).env.scope x := by intro _; first | exact Or.inl rfl | exact Or.inr rfl)
    (hs : ∀ i, swapsWith (.Call (.Attribute o "split" apos) [.Constant (.str c) k cp] [] cpos) (some (.Name x pos')) pos.line (F.X i).env = pure false := by intro _; rfl) (hf : ∀ i, (F.X i).fn x = true ∨ (F.X i).env.scope.names.lookup x = some .local := by intro _; first | exact .inl rfl | exact .inr rfl)
    (hst : ∀ i, starEach [.Constant (.str c) k cp] (F.X i).env = [(false, eval (.Constant (.str c) k cp) (F.X i).env)] := by intro _; rfl) (hbase : ∀ i, attributeBase o "split" (F.X i).env (eval o (F.X i).env) = eval o (F.X i).env := by intro _; rfl) (hline : (apos.endLine == cpos.line) = true := by rfl) :
    DSk F (.Assign [.Name x pos'] (.Call (.Attribute o "split" apos) [.Constant (.str c) k cp] [] cpos) pos :: rest) S ((oa.bind fun d => t_split d (.str c)).bind mr) P := fun r q => by
  obtain ⟨d, h1, q⟩ := O.bind_eq q
  obtain ⟨y, h2, h1⟩ := O.bind_eq h1
  refine ds_of (fun i => pss_tok (by rw [F.hN i]; exact F.nd) (hN i) (hx i) (peo_m1 PySem.F.slot_str_split PySem.F.type_str_split mt_split (anyE_ok i) (hst i) (hbase i) hline) (anyST_ok i) (hs i) (hf i)) fun σ G H cx E m => ?_
  refine (ho _ h2) σ G H cx _ fun u G1 H1 m1 d1 => ?_
  cases y with
  | str a =>
    unfold t_split at h1
    simp only at h1
    split at h1
    · rename_i hc
      cases h1
      cases d1
      refine ⟨⟨a, rfl⟩, a, c, rfl, rfl, hc.1, sl6 hc.2, fun p hp => ?_⟩
      have m2 := m1.pu (Pu.new (o := .lst ((Txt.split a c).map V.str)) m1.cx.sub hp)
      have am := m2.mw.trans (m2.cx.store (i := j) (.lst (SqL.of upd_same) (denL_strs _)))
      exact hr _ r q _ _ _ am.cx E (m.move am)
    · cases h1
  | _ => cases h1
end
end SL
namespace DL
open PySem L2
variable [TabL]
inductive Xr where
  | r (d : D)
  | x (c : Nat) (fs : List D)
def spX (C : Kc) (R : List D → Xr → Prop) : Sp := fun vs H Q E => ∃ (G : Hp) (ds : List D) (z : Xr), R ds z ∧ Sub G H ∧ DenL C G vs ds ∧
  (∀ d, z = .r d → ∀ v G2 H2, Pu G H G2 H2 → Den C G2 v d → Q v H2) ∧
  (∀ c fs, z = .x c fs → ∀ dx fv G2 H2, Pu G H G2 H2 → H dx = none → G2 dx = none → H2 dx = some (.xd fv) → DenX C G2 c fv fs → E (.ref (C.xc c)) (some dx) H2)
variable {C : Kc} {mg : Str → Option Value} {base : Heap}
def famX (C : Kc) (mg : Str → Option Value) (base : Heap) (N : List Str) (nd : N.Nodup) (qual : Str) (sc : Scope) (f : Addr) (cdv : Value) (A : Around) (outer : List Env) (s : Shared) (H : Hp) (E : XK) (k : Nat) (hr : Room k (A.deeper (PyProof.Rows.envOfC qual sc s.heap.objs.size f cdv))) : Fam where
  I := Unit
  X := fun _ => cxOf (L2.CX C.P C.w) C.P C.w C.K mg base N qual sc f cdv A outer s H E
  P := C.P
  w := C.w
  C := C
  mg := mg
  base := base
  N := N
  k := k
  hP := fun _ => rfl
  hw := fun _ => rfl
  hK := fun _ => rfl
  hmg := fun _ => rfl
  hbase := fun _ => rfl
  hN := fun _ => rfl
  nd := nd
  roomH := fun _ => ⟨hr.dp, hr.un⟩
  cP := rfl
  cw := rfl
instance {N : List Str} {nd : N.Nodup} {qual : Str} {sc : Scope} {f : Addr} {cdv : Value} {A : Around} {outer : List Env} {s : Shared} {H : Hp} {E : XK} {k : Nat} {hr : Room k (A.deeper (PyProof.Rows.envOfC qual sc s.heap.objs.size f cdv))} : Calm (famX C mg base N nd qual sc f cdv A outer s H E k hr) := ⟨fun _ => rfl, fun _ => hr.hd⟩
def PX (E : XK) (z : Xr) : Po := { rt := fun d _ => z = .r d, nx := fun _ => z = .r .non, W := fun cls d _ H => E cls d H, xc := fun c fs _ => z = .x c fs }
theorem fnX {x qual : Str} {st : Stmt} {f : Addr} {fd : FuncData} {N ps : List Str} {k : Nat} {R : List D → Xr → Prop} (F : Fun C.K x qual st f fd) (Sc : FnScope N ps (defScope st)) (len : ∀ ds d, R ds d → ds.length = ps.length)
    (body : ∀ ds z, R ds z → ∀ cdv A outer s H E hr, DS (famX C mg base N Sc.nd qual (defScope st) f cdv A outer s H E k hr) (defBody st) ⟨start N ds, none⟩ (PX E z)) : FnOk C.P C.w C.K mg base (L2.CX C.P C.w) (k + 1) f fd ps (spX C R) := by
  refine F.okX Sc (fun vs H Q E h => ?_) (fun cdv A outer s H vs Q E hr h => ?_)
  · obtain ⟨G, ds, d, hR, _, dl, _⟩ := h
    rw [dl.length]; exact len ds d hR
  · obtain ⟨G, ds, z, hR, sub, dl, q1, q2⟩ := h
    refine ⟨_, anyS_ok (F := famX C mg base N Sc.nd qual (defScope st) f cdv A outer s H E k hr) (), ?_⟩
    have key : ∀ σ2 S2 G2 H2, Mw C (L2.start N vs) ⟨start N ds, none⟩ G H σ2 S2 G2 H2 → Pu G H G2 H2 := fun σ2 S2 G2 H2 m =>
      ⟨⟨fun a o nt h => m.go.keep a o (oa_start dl a) nt h, m.go.dom, m.go.tb⟩, m.go.gg, m.cx.sub, fun a h1 h2 => m.go.fr a (oa_start dl a) h1 h2⟩
    refine body ds z hR cdv A outer s H E hr (L2.start N vs) G H (ctx_start sub dl) _ ⟨fun σ2 S2 G2 H2 m e => ?_, fun v d' σ2 S2 G2 H2 m dv e => ?_, fun _ _ _ _ _ e => e.elim, fun _ _ _ _ _ e => e.elim, fun _ _ _ _ _ _ _ _ _ _ _ _ e => e.elim, fun c fs dx fv σ2 S2 G2 H2 m h1 h2 h3 h4 e => ?_⟩
    · exact q1 _ e .non G2 H2 (key _ _ _ _ m) .non
    · exact q1 _ e v G2 H2 (key _ _ _ _ m) dv
    · exact q2 c fs e dx fv G2 H2 (key _ _ _ _ m) h1 h2 h3 h4
end DL
namespace PySem
namespace XvX
open PySem.W PySem.Calls PyProof.Rows PySem.HandSPX
def iA (p1 p2 : Pos) : Arguments := { posonlyargs := [], args := [{ arg := "self", annotation := none, pos := p1 }, { arg := "value", annotation := none, pos := p2 }], vararg := none, kwonlyargs := [], kw_defaults := [], kwarg := none, defaults := [] }
def iB (q1 q2 q3 q4 : Pos) : List Stmt := [.Assign [.Attribute (.Name "self" q1) "value" q2] (.Name "value" q3) q4]
def iS : Scope := { kind := .function, names := [(PySem.Str.ofString "self", .local), (PySem.Str.ofString "value", .local)], isGenerator := false, isCoroutine := false, more := [] }
structure XvTxt (K : Frag) (mg : Str → Option Value) (cn : Str) (qn : Str) (C fI : Addr) : Prop where
  gC : mg cn = some (.ref C)
  cls : ∃ nm q N bs bm sn sub ab col dd k0 k1 k2 k3 k5, K.lookup C = some (excClassObj nm q C N bs bm true sn sub ab col dd k0 k1 k2 k3 k5 "ValueError.__new__") ∧ refsVE bm = true
  sa : findIn K (.ref C) "__setattr__" = some (some (.builtin "object.__setattr__"))
  ga : findIn K (.ref C) "__getattribute__" = some (some (.builtin "BaseException.__getattribute__"))
  gg : findIn K (.ref C) "__getattr__" = some none
  noN : findIn K (.ref C) "value" = some none
  iC : findIn K (.ref C) "__init__" = some (some (.ref fI))
  tC : typeIn K (.ref fI) = some (.type "function")
  kC : keepIn K (.ref C) = true
  exC : subIn K (.ref C) (.type "BaseException") = some true
  tyC : typeIn K (.ref C) = some (.type "type")
  hdC : hasDictIn K C = true
  te : exmOne K (.ref C) (.ref C) = some true
  fn : ∃ (oc : Value) (od : Option Addr) (kV doc pm : Value) (an : Option Addr) (cdv ct : Value) (osl : Array (Option Value)) (p1 p2 q1 q2 q3 q4 : Pos),
    K.lookup fI = some ⟨oc, od, .func (fnOf "__init__" qn (iA p1 p2) (iB q1 q2 q3 q4) iS .none kV doc pm an cdv ct), osl⟩ ∧ codeIn K cdv qn = true
theorem xv_one (v : Value) : [v].length ≤ sizeLine := by
  rw [sizeLine_eq]
  exact (by decide : 1 ≤ 16777216)
theorem xvLd {M : Model} {s : Shared} {name : Str} {scope : Scope} {L a : Addr} {cd : Value} {m : Str → Option Value} {x : Str} {pos : Pos} {v : Value} {Q : Value → Shared → Prop} {A : Around} {E : Value → Shared → Prop} (hn : s.heap.Ns L m) (hv : m x = some v) (h : Q v s)
    (hk : scope.kind = .function := by rfl) (hl : (envOfC name scope L a cd).kindOf x = some .local := by rfl) (hd : (x == ("__debug__" : Str)) = false := by decide) :
    wpAny M A (eval (.Name x pos) (envOfC name scope L a cd)) Q E s := wpAny_Name (wpAny_loadName_local hk hl hn hv h) hd
structure XvEnd (h h' : Heap) (x C dx t1 : Addr) (v : Value) : Prop where
  keep : ∀ b o, b ≠ x → h.get? b = some o → h'.get? b = some o
  obj : h'.get? x = some { cls := .ref C, dict := some dx, data := .fields #[.ref t1, .none, .none, .none, .bool false, .none] }
  dbig : h.objs.size ≤ dx
  dne : dx ≠ x
  ns : h'.Ns1 dx (fun y => if y = "value" then some v else none)
structure XvMade (h h' : Heap) (e C d : Addr) (v : Value) : Prop where
  keep : ∀ b o, h.get? b = some o → h'.get? b = some o
  new : h.objs.size ≤ e
  obj : ∃ oe vs, h'.get? e = some oe ∧ oe.cls = .ref C ∧ oe.dict = some d ∧ oe.data = .fields vs ∧ vs[1]? = some .none ∧ vs[2]? = some .none ∧ 4 < vs.size
  dbig : h.objs.size ≤ d
  dne : d ≠ e
  ns : h'.Ns1 d (fun y => if y = "value" then some v else none)
section
variable {prog : Program} {w : World} {A : Around} {E : Value → Shared → Prop} {R : Result → Shared → Prop} {s : Shared} {K : Frag} {mg : Str → Option Value} {cn : Str} {qn : Str} {C fI : Addr}
theorem xv_init (T : XvTxt K mg cn qn C fI) {x t0 : Addr} {v : Value} (X : K.In s.heap) (hlim : s.heap.NoLimit) (hx : s.heap.get? x = some (excO C t0)) (hnx : K.lookup x = none) (hroom : A.depth < recursionLimit)
    (hq : ∀ h' tk dx, XvEnd s.heap h' x C dx t0 v → R (.ok (.ret .none)) { s with heap := h', toks := tk }) :
    codeAny (model prog w) A (.call (.ref fI) ⟨[.ref x, v], []⟩) R s := by
  obtain ⟨oc, od, kV, doc, pm, an, cdv, ct, osl, p1, p2, q1, q2, q3, q4, ho, hcd⟩ := T.fn
  obtain ⟨nm, q, N, bs, bm, sn, sub, ab, col, dd, k0, k1, k2, k3, k5, hC, hbm⟩ := T.cls
  have hcl : clsIn K C = some { name := nm, bases := bs, mro := .ref C :: bm, ns := N, qualname := q, hasDict := true, slotNames := sn, subclasses := sub, abstract := ab, collection := col, hasDel := false } := by unfold clsIn; rw [hC] <;> rfl
  refine Att.call_fn (binds := [("self", .ref x), ("value", v)]) X hlim ho hcd hroom (BindsTo.of_eq (by first | rfl | with_unfolding_all rfl)) (by first | rfl | decide | with_unfolding_all rfl) (fun s₁ IC => ?_) rfl rfl rfl
  obtain ⟨h₁, tk₁, rfl⟩ := IC.toInCall.same
  have k : ∀ b o, s.heap.get? b = some o → h₁.get? b = some o := IC.toInCall.keep
  have hn := IC.toInCall.ns
  have hxL : s.heap.objs.size ≠ x := Nat.ne_of_gt (Heap.lt_size hx)
  have X₁ : K.In h₁ := X.keeps k
  have hx₁ := k _ _ hx
  -- self.by = by
  show wpAny _ _ (execs _ _) _ _ _
  refine wpAny_execs_cons (plainObj_wpAny_Assign_Attribute ?_)
  refine xvLd (v := v) hn (by first | rfl | with_unfolding_all rfl | kernel_rfl) (xvLd (v := .ref x) hn (by first | rfl | with_unfolding_all rfl | kernel_rfl) ?_)
  refine set_plain X₁ (ox := excO C t0) (od := none) ⟨hx₁, rfl, rfl, trivial⟩ T.sa ?_
  refine exc_osa X₁ hx₁ hcl (show refsVE (.ref C :: bm) = true from hbm) rfl T.noN (fun h₃ tk₃ dx k₃ dn dne hx₃ hn₃ => ?_)
  show wpAny _ _ (execs _ _) _ _ _
  have z : s.heap.objs.size < h₁.objs.size := hn.lt
  exact wpAny_execs_nil (hq h₃ tk₃ dx ⟨fun b o hb e => k₃ b o hb (k b o e), hx₃, Nat.le_of_lt (Nat.lt_of_lt_of_le z dn), dne, hn₃⟩)
theorem xv_made (T : XvTxt K mg cn qn C fI) {v : Value} (X : K.In s.heap) (hlim : s.heap.NoLimit) (hroom : A.depth + 1 < recursionLimit)
    (hq : ∀ h' tk e d, XvMade s.heap h' e C d v → R (.ok (.ret (.ref e))) { s with heap := h', toks := tk }) :
    codeAny (model prog w) A (.call (.ref C) ⟨[v], []⟩) R s := by
  obtain ⟨nm, q, N, bs, bm, sn, sub, ab, col, dd, k0, k1, k2, k3, k5, hC, hbm⟩ := T.cls
  obtain ⟨hp, g, dr, tk, os⟩ := s
  have k : ∀ b o, hp.get? b = some o → ((hp.push (kdv_tup [v])).push (excO C hp.objs.size)).get? b = some o := fun b o e => Heap.get?_push_of_some _ (Heap.get?_push_of_some _ e)
  have hget : ((hp.push (kdv_tup [v])).push (excO C hp.objs.size)).get? (hp.objs.size + 1) = some (excO C hp.objs.size) := by heap_get
  have hnx : K.lookup (hp.objs.size + 1) = none := by
    cases e : K.lookup (hp.objs.size + 1) with
    | none => rfl
    | some o =>
      have z : hp.get? (hp.objs.size + 1) = some o := X _ _ e
      exact absurd (Nat.lt_of_succ_lt (Heap.lt_size z)) (Nat.lt_irrefl _)
  refine call_own F.excBase_ValueError (fun X => refsVE_contains X bm hbm) (X _ _ hC) (looks_findIn X T.iC) (fun self => bind_fn X self T.tC) (xv_one v) ?_
  refine xv_init (s := ⟨(hp.push (kdv_tup [v])).push (excO C hp.objs.size), g, dr, tk, os⟩) T (X.keeps k) (hlim.keeps k) hget hnx ?_ fun h' tk' dx ⟨k', hx, dn, dne, hns⟩ => ?_
  · show A.depth + 1 < recursionLimit
    exact hroom
  · have old : ∀ b o, hp.get? b = some o → h'.get? b = some o := fun b o e => k' b o (Nat.ne_of_lt (Nat.lt_succ_of_lt (Heap.lt_size e))) (k b o e)
    have z : hp.objs.size + 1 + 1 ≤ dx := by
      first
        | (simpa only [Heap.size_push] using dn)
        | exact dn
        | (have q := dn; rw [Heap.size_push, Heap.size_push] at q; exact q)
    exact ⟨rfl, hq h' tk' (hp.objs.size + 1) dx ⟨old, Nat.le_succ _, ⟨_, _, hx, rfl, rfl, rfl, rfl, rfl, by show 4 < 6; decide⟩, Nat.le_trans (Nat.le_trans (Nat.le_succ _) (Nat.le_succ _)) z, dne, hns⟩⟩
end
end XvX
end PySem
namespace L2
open PySem PySem.Spec PyProof.Rows
theorem relO_xv {v : V} {v' : Value} (r : RelV v v') (f : Str) : RelO (List.lookup f [(("value" : Str), v)]) (if f = "value" then some v' else none) := by
  by_cases hw : f = "value"
  · subst hw
    rw [if_pos rfl]
    have q : List.lookup ("value" : Str) [(("value" : Str), v)] = some v := by simp [List.lookup]
    rw [q]
    exact r
  · rw [if_neg hw]
    have qw : (f == ("value" : Str)) = false := by simpa using hw
    have q2 : List.lookup f [(("value" : Str), v)] = none := by simp [List.lookup, qw]
    rw [q2]
    trivial
section
variable {X : Cx} {cn : Str} {qn : Str} {C fI : Addr}
def tMkXv (C : Addr) (ta : TA) : St → Hp → XK → Prop := fun σ H Q => ta σ H fun vs H1 => ∃ v, vs = [v] ∧ ∀ d, H1 d = none → Q (.ref C) (some d) (upd H1 d (.xd [(("value" : Str), v)]))
theorem pmk_xv {a : Expr} {ta : TA} {p pos : Pos} {k : Nat} (T : PySem.XvX.XvTxt X.K X.mg cn qn C fI) (hr : Room k X.A) (ha : PA X [a] ta) (hg : Gl X cn) (hdb : (cn == ("__debug__" : Str)) = false)
    (he : starEach (a :: []) X.env = (false, eval a X.env) :: starEach [] X.env := by rfl) (hpl : (backTo pos (starEach [] X.env)).any (·.1) = false := by rfl) :
    PMk X (.Call (.Name cn p) [a] [] pos) (tMkXv C ta) := by
  intro pins s σ H Q I h
  refine wpAny_Call_Name_kw (ld_glob I hg T.gC ?_ hdb)
  refine PySem.W.callWith_K (h₀ := X.base) I.ok.mod.kin T.kC (thn (ha.run pos pins s σ H _ I h) fun us s1 hh => ?_) he hpl
  obtain ⟨vs, H1, I1, r1, v, ev, q1⟩ := hh
  subst ev
  refine ⟨I1.kIn, ?_⟩
  cases r1 with
  | cons rv rn =>
    rename_i v' us'
    cases rn
    show wpAny _ _ (call (.ref C) [v']) _ _ _
    have hlim := I1.nolimit
    obtain ⟨hp, g, dr, tk, os⟩ := s1
    refine wpAny_call (PySem.XvX.xv_made T I1.kIn hlim (by have := hr.dp; omega) fun h' tk' e d M => ?_)
    show MkP X pins σ Q (.ref e) ⟨h', g, dr, tk', os⟩
    obtain ⟨oe, fv, hoe, hc, hd, hdat, h1, _, _⟩ := M.obj
    have hns := M.ns
    obtain ⟨G', g1, g2⟩ := restrict h' fun b => decide (b ≠ e)
    have gk : ∀ b, b ≠ e → G'.get? b = h'.get? b := fun b hb => g1 b (decide_eq_true hb)
    have ge : G'.get? e = none := g2 e (by simp)
    have old : ∀ b o, hp.get? b = some o → G'.get? b = some o := fun b o q => (gk b (Nat.ne_of_lt (Nat.lt_of_lt_of_le (Heap.lt_size q) M.new))).trans (M.keep b o q)
    have ob : ObjOk X.prog X.w (upd H1 d (.xd [(("value" : Str), v)])) G' d (.xd [(("value" : Str), v)]) :=
      ⟨_, hns.at (fun o q => (gk d M.dne).trans q), fun f => relO_xv rv f⟩
    have J : Inv X pins σ (upd H1 d (.xd [(("value" : Str), v)])) ⟨G', g, dr, tk', os⟩ := I1.laid (t' := tk') old M.dbig ob
    refine ⟨e, oe, fv, ⟨G', g, dr, tk', os⟩, _, .ref C, some d, rfl, J, fun b o q => ?_, ge, hoe, ⟨hc, hd⟩, hdat, h1, ?_, rfl, I1.bare, raises_own T.exC T.tyC, q1 d (I1.hok.fresh M.dbig)⟩
    · by_cases hb : b = e
      · have q' : G'.get? b = some o := q
        rw [hb, ge] at q'; cases q'
      · exact (gk b hb).symm.trans q
    · rw [upd_ne (Ne.symm M.dne)]
      exact I1.hok.fresh M.new
def tRaiseXv (C : Addr) (W : WX) (ta : TA) : TS := fun _ σ H => tMkXv C ta σ H fun cls d H' => W cls d σ H'
theorem ps_raiseXv {a : Expr} {ta : TA} {W : WX} {p pos pos2 : Pos} {k : Nat} (hc : X.calm = true) (T : PySem.XvX.XvTxt X.K X.mg cn qn C fI) (hr : Room k X.A) (tk : Takes X W) (ha : PA X [a] ta) (hg : Gl X cn) (hdb : (cn == ("__debug__" : Str)) = false)
    (he : starEach (a :: []) X.env = (false, eval a X.env) :: starEach [] X.env := by rfl) (hpl : (backTo pos (starEach [] X.env)).any (·.1) = false := by rfl) :
    PS X (.Raise (some (.Call (.Name cn p) [a] [] pos)) none pos2) (tRaiseXv C W ta) := ps_raise hc tk (pmk_xv T hr ha hg hdb he hpl)
end
end L2
namespace HX
open PySem PySem.Spec PyProof.Rows L2
def PinX (Y : Cx) (a C dx : Addr) : Prop := ∃ oe : Obj, (a, oe) ∈ Y.pn ∧ Zc (.ref C) (some dx) oe ∧ ∃ vs, oe.data = .fields vs
structure ExC (K : PySem.W.Frag) (D : Addr) : Prop where
  cl : (PySem.W.clsIn K D).isSome = true
  hg : PySem.W.findIn K (.ref D) "__getattribute__" = some (some (.builtin "BaseException.__getattribute__"))
  hk : PySem.W.findIn K (.ref D) "__getattr__" = some none
  hs : PySem.W.subIn K (.ref D) (.type "BaseException") = some true
  hd : PySem.W.hasDictIn K D = true
  ha : PySem.W.findIn K (.ref D) "__class__" = some (some (.builtin "object.__class__"))
  hn : PySem.W.specialIn K (.builtin "object.__class__") "__get__" = some (some (.builtin "getset_descriptor.__get__"))
  ht : PySem.W.takesIn K (.builtin "object.__class__") = some true
  hm : PySem.W.mroIn K D (.type "object") = some true
def rIsX (K : PySem.W.Frag) (D a dx : Addr) : List V → Hp → VK → Prop := fun xs H Q => ∃ (c : V) (cv : Value) (b : Bool) (fs : List (Str × V)), xs = [.ref a, c] ∧ (∀ u, RelV c u → u = cv) ∧ H dx = some (.xd fs) ∧ PySem.W.kitOne K (.ref D) cv = some b ∧ Q (.bl b) H
theorem isX {Y : Cx} {a D dx : Addr} (p : PinX Y a D dx) (C : ExC Y.K D) : CallR Y (.builtin "isinstance") (rIsX Y.K D a dx) := by
  intro pins s σ H xs us Q I r h
  obtain ⟨c, cv, b, fs, rfl, hcv, hfs, e, q⟩ := h
  obtain ⟨oe, hpn, hz, vs, hv⟩ := p
  cases r with
  | cons rx rr =>
    cases rr with
    | cons rt rr =>
      cases rr
      cases rx
      have ec := hcv _ rt
      subst ec
      obtain ⟨hget, _⟩ := I.pin (a, oe) (List.mem_append.mpr (.inl hpn))
      have hxd : ObjOk Y.prog Y.w H s.heap dx (.xd fs) := I.hok dx _ hfs
      obtain ⟨mA, hns, _⟩ := hxd
      obtain ⟨od, ho, _⟩ := lookIn_ns hns
      have J : PySem.W.InstAt s.heap a oe D (some od) := ⟨hget, hz.1, by unfold PySem.W.notCls; rw [hv] <;> rfl, by rw [hz.2]; exact ho⟩
      exact PySem.W.kia_one (PySem.W.kitx_exc C.cl C.hg C.hk C.hs C.ha C.hn C.ht C.hm) I.kIn J e (fun z => nomatch z) fun tk => ⟨.bl b, H, I.kept (t' := tk) fun _ _ z => z, rfl, q⟩
def tFx (a dx : Addr) (f : Str) (te : TE) : TE := fun σ H Q => te σ H fun x H1 => x = .ref a ∧ ∃ (fs : List (Str × V)) (v : V), H1 dx = some (.xd fs) ∧ fs.lookup f = some v ∧ Q v H1
theorem pe_fx {Y : Cx} {a C dx : Addr} {e : Expr} {te : TE} {pos : Pos} {n : Str} (p : PinX Y a C dx) (T : ExC Y.K C) (hno : PySem.W.findIn Y.K (.ref C) n = some none) (he : PE Y e te) (hb : attributeBase e n Y.env (eval e Y.env) = eval e Y.env := by rfl) :
    PE Y (.Attribute e n pos) (tFx a dx n te) := by
  obtain ⟨oe, hpn, hz, hf⟩ := p
  refine ⟨fun pins s σ H Q I h => ?_⟩
  refine attr_of hb (thn (he.run pins s σ H _ I h) fun u s1 hh => ?_)
  obtain ⟨x, H1, I1, rx, ex, fs, v, ea, l, q⟩ := hh
  subst ex
  obtain rfl : u = Value.ref a := rx
  obtain ⟨ha, _⟩ := I1.pin (a, oe) (List.mem_append_left _ hpn)
  obtain ⟨vs, hd⟩ := hf
  have hxd : ObjOk Y.prog Y.w H1 s1.heap dx (.xd fs) := I1.hok dx _ ea
  obtain ⟨mA, hns, hr⟩ := hxd
  obtain ⟨od, ho, hl⟩ := lookIn_ns hns
  obtain ⟨u, hu, ru⟩ := RelO.some_of (v := v) (o := mA n) (by rw [← l]; exact hr n)
  have J : PySem.W.InstAt s1.heap a oe C (some od) := ⟨ha, hz.1, by unfold PySem.W.notCls; rw [hd] <;> rfl, by rw [hz.2]; exact ho⟩
  exact HandSPX.exc_get I1.kIn J T.hg T.hk T.hs (PySem.W.findObj_own T.hd hno rfl (by rw [hl, hu])) (handed_of ru) ⟨v, H1, I1.tok _, ru, q⟩
structure FnP (P : Program) (w : World) (K : PySem.W.Frag) (mg : Str → Option Value) (base : Heap) (CX : CXT) (k : Nat) (f : Addr) (fd : FuncData) (ps : List Str) (p : Addr × Obj) (sp : Sp) : Prop where
  len : ∀ vs H Q E, sp vs H Q E → vs.length = ps.length
  run : ∀ (A : Around) (outer : List Env) (s : Shared) (H : Hp) (args : Args) (us : List Value) (vs : List V) (Q : VK) (E : XK), L2H.RoomH k A → A.guards = some [] → L2H.PinOk outer H s p → Env0 P w K mg base A outer s H → BindsTo s fd args (ps.zip us) → Vals vs us → sp vs H Q E → codeAny (model P w) A (.call (.ref f) args) (CR CX outer P w H s Q E) s
theorem fnP_of {CX : CXT} {P : Program} {w : World} {K : PySem.W.Frag} {mg : Str → Option Value} {base : Heap} {k : Nat} {f : Addr} {name qual : Str} {params : Arguments} {body : List Stmt} {scope : Scope} {dV kV doc pm cdv ct oc : Value} {an od : Option Addr}
    {osl : Array (Option Value)} {N ps : List Str} {sp : Sp} {p : Addr × Obj} (lk : K.lookup f = some ⟨oc, od, .func (PySem.W.fnOf name qual params body scope dV kV doc pm an cdv ct), osl⟩) (hcd : PySem.W.codeIn K cdv qual = true) (Sc : FnScope N ps scope)
    (len : ∀ vs H Q E, sp vs H Q E → vs.length = ps.length)
    (hB : ∀ (A : Around) (outer : List Env) (s : Shared) (H : Hp) (vs : List V) (Q : VK) (E : XK), L2H.RoomH k (A.deeper (envOfC qual scope s.heap.objs.size f cdv)) → A.guards = some [] → sp vs H Q E →
      ∃ t, PSs (L2H.cxH CX P w K mg base N qual scope f cdv A outer s H E p) body t ∧ t { nx := fun _ H' => Q .non H', rt := Q } (L2.start N vs) H) :
    FnP P w K mg base CX (k + 1) f (PySem.W.fnOf name qual params body scope dV kV doc pm an cdv ct) ps p sp := by
  refine ⟨len, fun A outer s H args us vs Q E rm gd pinned en bd rel hsp => ?_⟩
  have len1 := len _ _ _ _ hsp
  have KinS : K.In s.heap := en.mod.kin.keeps fun b o e => (en.bs b o e).1
  have noLim : s.heap.NoLimit := en.mod.nolimit.keeps fun b o e => (en.bs b o e).1
  have kinds : ∀ y ∈ ps.zip us, scope.names.lookup y.1 = some .local ∨ (scope.names.lookup y.1 = some .cell ∧ ((cellsFrom (s.heap.objs.size + 1) scope.names []).lookup y.1).isSome = true) := fun ⟨n, v⟩ hy => by
    rcases Sc.par n (List.of_mem_zip hy).1 with z | z
    · exact .inl z
    · exact .inr ⟨z, PySem.W.cellsFrom_some _ _ _ (.inl z)⟩
  refine codeAny_call_function rm.depth (KinS _ _ lk) rfl Sc.co Sc.gen rfl (PySem.W.codeRec_of KinS hcd) (bd _ _ _ _ ?_)
  refine wpAny_newFunctionEnv_cells Sc.kind kinds fun env0 he0 sB xB => ?_
  subst he0
  refine ⟨noLim.keeps xB.toInCall.keep, codeAny_func ?_⟩
  obtain ⟨t, ht, hq⟩ := hB A outer s H vs Q E (rm.deeper _) gd hsp
  have IB : Inv (L2H.cxH CX P w K mg base N qual scope f cdv A outer s H E p) [] (L2.start N vs) H sB := L2H.inv_startH Sc pinned en len1 rel xB
  refine wpAny_mono (ht.run [] sB (L2.start N vs) H _ IB hq) (fun fl sE hE => ?_) fun e sE hE => hE
  have done : ∀ {σ' : L2.St} {H' : Hp} {v : V} {u : Value}, Inv (L2H.cxH CX P w K mg base N qual scope f cdv A outer s H E p) [] σ' H' sE → RelV v u → Q v H' → CE outer P w H s Q u sE := fun {σ' H' v u} J rv q => ⟨v, H', J.os, J.bare, J.base, J.hok, rv, q⟩
  cases fl with
  | ret u => exact (fun ⟨v, σ', H', J, rv, q⟩ => done J rv q : _ → _) hE
  | next => exact (fun ⟨σ', H', J, q⟩ => done (v := V.non) (u := Value.none) J rfl q : _ → _) hE
  | brk => exact (fun ⟨_, _, _, q⟩ => False.elim q : _ → _) hE
  | cont => exact (fun ⟨_, _, _, q⟩ => False.elim q : _ → _) hE
theorem run_fnP {X : Cx} {CX : CXT} {k : Nat} {f : Addr} {fd : FuncData} {ps : List Str} {sp : Sp} {E : L2.St → XK} {p : Addr × Obj} {pins : List (Addr × Obj)} {σ : L2.St} {H : Hp} {s : Shared} {Q : VK} {us : List Value} {vs : List V} (F : FnP X.prog X.w X.K X.mg X.base CX k f fd ps p sp) (hr : L2H.RoomH k X.A) (gd : X.A.guards = some []) (hp : p ∈ X.pn) (hb : Binds X.K fd ps []) (hx : PassesAt CX X σ (E σ))
    (I : Inv X pins σ H s) (r : Vals vs us) (h : sp vs H Q (E σ)) : wpAny (model X.prog X.w) X.A (call (.ref f) us) (EP X pins σ Q) X.xe s := by
  have hl : us.length = ps.length := by rw [← r.length]; exact F.len _ _ _ _ h
  have bnd := hb s us I.kIn (by rw [List.append_nil]; exact hl)
  rw [List.append_nil] at bnd
  have P1 := I.pin p (List.mem_append_left _ hp)
  have pinned : L2H.PinOk X.stack H s p := ⟨P1.1, P1.2.1, fun hm => (List.mem_cons.mp (I.stkSub p.1 hm)).elim P1.2.2.1 P1.2.2.2.1, P1.2.2.2.2⟩
  refine wpAny_call (codeAny_mono (F.run X.A X.stack s H ⟨us, []⟩ us vs Q (E σ) hr gd pinned I.env0 bnd r h) fun r s' hq => ?_)
  cases r with
  | error e => exact hx pins H s e s' I hq
  | ok fl => exact (match fl, hq with | .ret u, hq => I.after hq)
theorem pe_callP {X : Cx} {CX : CXT} {k : Nat} {f : Addr} {fd : FuncData} {ps : List Str} {sp : Sp} {E : L2.St → XK} {p : Addr × Obj} {x : Str} {q pos : Pos} {e : Expr} {es : List Expr} {t : TA} (F : FnP X.prog X.w X.K X.mg X.base CX k f fd ps p sp) (hr : L2H.RoomH k X.A) (gd : X.A.guards = some []) (hp : p ∈ X.pn) (hg : Gl X x) (hm : X.mg x = some (.ref f)) (hk : PySem.W.keepIn X.K (.ref f) = true) (hb : Binds X.K fd ps [])
    (hx : ∀ σ, PassesAt CX X σ (E σ)) (ha : PA X (e :: es) t) (hdb : (x == ("__debug__" : Str)) = false := by decide) (he : starEach (e :: es) X.env = (false, eval e X.env) :: starEach es X.env := by rfl) (hpl : (backTo pos (starEach es X.env)).any (·.1) = false := by rfl) :
    PE X (.Call (.Name x q) (e :: es) [] pos) (tCallS sp E t) := by
  refine ⟨fun pins s σ H Q I h => ?_⟩
  refine wpAny_Call_Name_kw (ld_glob I hg hm ?_ hdb)
  refine PySem.W.callWith_K (h₀ := X.base) I.ok.mod.kin hk (thn (ha.run pos pins s σ H _ I h) fun us s1 ⟨vs, H1, I1, r, q⟩ => ⟨I1.kIn, run_fnP F hr gd hp hb (hx σ) I1 r q⟩) he hpl
end HX
namespace HX
open PySem PySem.Spec PyProof.Rows L2
theorem flyOn {base h h' : Heap} {l : List Env} {e : Addr} {Z : Obj → Prop} (R : HandSPX.FlyingZ base l e Z h) (k : ∀ b o, h.get? b = some o → h'.get? b = some o) : HandSPX.FlyingZ base l e Z h' := by
  obtain ⟨g1, g2, g3, oe, vs, T, oT, ts, r1, r2, r3, r4, r5, r6, r7, r8, r9⟩ := R
  exact ⟨fun b o z => k b o (g1 b o z), g2, g3.of_keeps fun b o z _ => ⟨o, k b o z, rfl⟩, oe, vs, T, oT, ts, k _ _ r1, r2, r3, r4, r5, r6, k _ _ r7, r8, r9⟩
def sufE (i : Nat) (D : Ends) : Ends := { nx := fun σ' H' => D.nx (σ'.set i none) H', rt := D.rt, bk := fun σ' H' => D.bk (σ'.set i none) H', ct := fun σ' H' => D.ct (σ'.set i none) H' }
def wAs3 (K : PySem.W.Frag) (n : Nat) (cs : List Value) (i : Nat) (ts : Addr → Value → Option Addr → TS) (D : Ends) : WX := fun cls d σ H =>
  PySem.W.exmAny K cls cs = some true ∧ ∀ a, H a = none → σ.length = n → ts a cls d (sufE i D) (σ.set i (some (.ref a))) H
section
variable {X : Cx} {x1 x2 x3 n : Str} {c1 c2 c3 : Value} {i kk : Nat} {body suite : List Stmt} {b₀ : Stmt} {p1 p2 p3 tp pos pos' : Pos} {tb : WX → TS} {ts : Addr → Value → Option Addr → TS}
theorem ps_try3 (hs : X.stack = X.env :: X.outer) (hf : X.env.frame = some X.env.locals) (hN : X.N.Nodup) (hi : X.N[i]? = some n) (hln : X.env.kindOf n = some .local) (hc1 : Names X x1 c1) (hc2 : Names X x2 c2) (hc3 : Names X x3 c3)
    (hb : ∀ (W : WX) (pn : List (Addr × Obj)) (xe : Value → Shared → Prop), Takes (X.tr pn xe) W → PassesOwn (model X.prog X.w) X.A X.env xe → PSs (X.tr pn xe) body (tb W))
    (hsu : ∀ (a : Addr) (oe : Obj) (cls : Value) (d : Option Addr) (pn : List (Addr × Obj)), Zc cls d oe → (∃ vs, oe.data = .fields vs) → PSs (X.suite a ((a, oe) :: pn)) (b₀ :: suite) (ts a cls d)) :
    PS X (.Try body [.ExceptHandler (some (.Tuple [.Name x1 p1, .Name x2 p2, .Name x3 p3] kk tp)) (some n) (b₀ :: suite) pos'] [] [] pos) (fun D σ H => tb (wAs3 X.K X.N.length [c1, c2, c3] i ts D) D σ H) := by
  refine ⟨fun pins s σ H D I h => ?_⟩
  have ok := I.ok
  have frA : X.A.frames = some (X.env :: X.outer) := by rw [ok.frames, hs]
  have locN : Loc X.env.scope n := .inl hln
  refine wpAny_Try_except ?_
  refine wpAny_mono ((hb (wAs3 X.K X.N.length [c1, c2, c3] i ts D) (X.pn ++ pins) (fun e s₁ => wpAny (model X.prog X.w) X.A (noteFrame e X.env) (fun _ s₂ => wpAny (model X.prog X.w) X.A (setFlight e none) (fun _ s₃ =>
    wpAny (model X.prog X.w) X.A (handleBy e X.env [.ExceptHandler (some (.Tuple [.Name x1 p1, .Name x2 p2, .Name x3 p3] kk tp)) (some n) (b₀ :: suite) pos']) (SP X pins D) X.xe s₃) X.xe s₂) X.xe s₁) (fun u s' xx => ?_) PassesOwn.looking).run [] s σ H D (I.toTry _) h) (fun f s1 hsp => ?_) (fun e s1 he => he)
  · obtain ⟨a, B, sI, pinB, σ', H', cls, d, rfl, JT, nb, up, sky, na, os, ag, hb1, hyes⟩ := xx
    have J : Inv X pins σ' H' sI := JT.ofTry ok
    have skyX : Sky B (X.env :: X.outer) a (Zc cls d) X.env.locals s'.heap := by rw [← hs]; exact sky
    show wpAny (model X.prog X.w) X.A (noteFrame (.ref a) X.env) _ _ _
    refine Sky.land Zc.steady frA hf skyX fun h3 fl3 up3 => ?_
    have J3 : Inv X pins σ' H' { s' with heap := h3 } := J.landed nb fl3.1 (up.trans up3) os ag
    obtain ⟨oe3, vs3, he3, hz3, hd3⟩ := fl3.there
    have outFr : ∀ {h : Heap} {o : Obj} {vs : Array Value}, h.FunFrames B (X.env :: X.outer) → h.get? a = some o → o.data = .fields vs → a ∉ frs (X.env :: X.outer) := fun {h o vs} ff e dd hm => by
      obtain ⟨_, o2, e2, hnf⟩ := ff.mem hm
      rw [e] at e2; cases e2
      exact hnf _ dd
    have nfr := outFr fl3.2.2.1 he3 hd3
    have nL : a ≠ X.env.locals := fun z => nfr (List.mem_filterMap.mpr ⟨X.env, List.mem_cons_self, by rw [hf, z]⟩)
    have nF : a ∉ X.fs := fun hm => by
      obtain ⟨e, he, q⟩ := List.mem_filterMap.mp hm
      exact nfr (List.mem_filterMap.mpr ⟨e, List.mem_cons_of_mem _ he, q⟩)
    have S3 := J3.suite he3 hd3 na nL nF
    refine wpAny_handleBy_cons (codeAny_handlers_test ?_) (by intro q; cases q)
    have LT : PySem.W.Looks (model X.prog X.w) h3 (typeOf (.ref a)) cls := fun A Q E s k q => wpAny_typeOf_ref (k _ _ he3) (by rw [hz3.1]; exact q)
    have nm : ∀ {x : Str} {c : Value} {np : Pos} {Q : Value → Shared → Prop} {E : Value → Shared → Prop}, Names X x c → Q c { s' with heap := h3 } → wpAny (model X.prog X.w) (X.A.mark (some (.ref a))) (eval (.Name x np) X.env) Q E { s' with heap := h3 } := fun {x c np Q E} hc q => by
      obtain ⟨hg, hdbg, hm | ⟨hm, hv, hnn⟩⟩ := hc
      · exact ld_glob (X := X.suite a ((a, oe3) :: (X.pn ++ pins))) S3 hg hm q hdbg
      · exact ld_blt (X := X.suite a ((a, oe3) :: (X.pn ++ pins))) S3 hg hm hv q hnn hdbg
    refine wpAny_Tuple ?_
    refine wpAny_items_cons (nm hc1 ?_)
    refine wpAny_items_cons (nm hc2 ?_)
    refine wpAny_items_cons (nm hc3 ?_)
    refine wpAny_items_nil ⟨by size_fits, ?_⟩
    have kp : ∀ q o, h3.get? q = some o → (h3.push { cls := .type "tuple", data := .seq [c1, c2, c3].toArray }).get? q = some o := fun _ _ z => Heap.get?_push_of_some _ z
    refine (PySem.W.exm_tup3 (J3.kIn.keeps kp) (LT.keeps kp) (Heap.get?_push_size h3 rfl) hb1).here ?_
    refine codeAny_handlers_suite_as ?_
    refine HandSPX.lands_againZ (flyOn fl3 kp) fun h4 fl4 up4 => ?_
    have J4 : Inv X pins σ' H' { s' with heap := h4 } := J.landed nb fl4.1 (((up.trans up3).trans (Heap.UpToSlots.of_keeps kp)).trans up4) os ag
    obtain ⟨oe4, vs4, he4, hz4, hd4⟩ := fl4.there
    have S4 := J4.suite he4 hd4 na nL nF
    refine store_ok (X := X.suite a ((a, oe4) :: (X.pn ++ pins))) (v := .ref a) S4 hN hi locN rfl (fun s5 S5 => ?_) (.inr hln)
    refine wpAny_mono ((hsu a oe4 cls d (X.pn ++ pins) hz4 ⟨_, hd4⟩).run [] s5 _ H' _ S5 (hyes a na J.len)) (fun f s6 hsp => ?_) (fun _ _ z => False.elim z)
    have goOut : ∀ {σ6 : L2.St} {H6 : Hp} {Q : Shared → Prop}, Inv (X.suite a ((a, oe4) :: (X.pn ++ pins))) [] σ6 H6 s6 → (∀ s7, Inv X pins (σ6.set i none) H6 s7 → Q s7) →
        wpAny (model X.prog X.w) X.A (do bindName X.env n .none; unbindBehindTheSuite X.env n pos') (fun _ s7 => Q s7) X.xe s6 := fun {σ6 H6 Q} S6 hq => gone_ok (S6.unsuite ok) hN hi hln hq
    cases f with
    | next => exact (fun ⟨_, _, S6, q6⟩ => goOut S6 fun s7 J7 => ⟨_, _, J7, q6⟩ : _ → _) hsp
    | brk => exact (fun ⟨_, _, S6, q6⟩ => goOut S6 fun s7 J7 => ⟨_, _, J7, q6⟩ : _ → _) hsp
    | cont => exact (fun ⟨_, _, S6, q6⟩ => goOut S6 fun s7 J7 => ⟨_, _, J7, q6⟩ : _ → _) hsp
    | ret u => exact (fun ⟨_, _, _, S6, r6, q6⟩ => goOut S6 fun s7 J7 => ⟨_, _, _, J7, r6, q6⟩ : _ → _) hsp
  · cases f with
    | next => exact (fun ⟨_, _, JT, q⟩ => wpAny_execs_nil ⟨_, _, JT.ofTry ok, q⟩ : _ → _) hsp
    | brk => exact (fun ⟨_, _, JT, q⟩ => ⟨_, _, JT.ofTry ok, q⟩ : _ → _) hsp
    | cont => exact (fun ⟨_, _, JT, q⟩ => ⟨_, _, JT.ofTry ok, q⟩ : _ → _) hsp
    | ret u => exact (fun ⟨_, _, _, JT, r, q⟩ => ⟨_, _, _, JT.ofTry ok, r, q⟩ : _ → _) hsp
end
end HX
namespace LamX
open PySem PySem.Spec PyProof.Rows L2
structure GrowT (P : Addr) (H H1 : Hp) : Prop where
  e : ExtN H H1
  d : ∀ a, H a ≠ none → H1 a ≠ none
  k : ∀ a o, a ≠ P → H a = some o → H1 a = some o
theorem GrowT.rfl0 (P : Addr) (H : Hp) : GrowT P H H := ⟨ExtN.refl H, fun _ h => h, fun _ _ _ h => h⟩
def tLamC (P : Addr) (T : List (Addr × Str)) (TT : (XK → Hp → VK → Prop) → Hp → VK → Prop) (t : XK → TE) : TE := fun σ H Q => Tabs T H ∧ ∀ H1, GrowT P H H1 → Tabs T H1 → TT (fun E H2 Q2 => t E σ H2 Q2) H1 Q
section
variable {X : Cx} {pins : List (Addr × Obj)} {σ : L2.St} {H : Hp} {s : Shared}
theorem lamMk {T : List (Addr × Str)} {c P : Addr} {params : Arguments} {body : Expr} {scope : Scope} {pos : Pos} {E : Value → Shared → Prop} {Q : Value → Shared → Prop} (I : Inv X pins σ H s) (tbl0 : TabB X.base X.mg c P) (codeC : X.env.code = .ref c)
    (memT : (P, X.env.qual ++ "<lambda>") ∈ T) (unqT : ∀ p ∈ T, p.1 = P → p.2 = X.env.qual ++ "<lambda>") (tabH : Tabs T H) (noDef : defaultsOf params X.env = ([], [])) (freeC : ∀ y ∈ scope.names, y.2 = .free → ∃ c, X.env.cells.lookup y.1 = some c)
    (h : ∀ (f c' : Addr) (pm ctv : Value) (H1 : Hp) (s' : Shared), Inv X pins σ H1 s' → GrowT P H H1 → Tabs T H1 →
      s'.heap.get? f = some (PySem.W.kla_obj "<lambda>" (X.env.qual ++ "<lambda>") params body scope (cloFrom X.env.cells scope.names []) pm c' ctv) → H1 f = none → f ∉ frs X.stack → H1 c' = some (CodeO c' (X.env.qual ++ "<lambda>")) → Q (.ref f) s') :
    wpAny (model X.prog X.w) X.A (eval (.Lambda params body scope pos) X.env) Q E s := by
  obtain ⟨ps, atP0, ht, ha⟩ := tabH _ memT
  refine PySem.W.kla_eval noDef ?_
  have blt0 : s.heap.BuiltinsAt X.mg P := tbl0.bm.keeps I.bk
  have atP0' : s.heap.get? P = some { cls := .none, data := .fields ps } := I.hok P _ atP0
  have outFr : ∀ f, s.heap.objs.size ≤ f → f ∉ frs X.stack := fun f hf z => by
    rcases List.mem_cons.mp (I.stkSub _ z) with e | e
    · have h1 := I.lt
      rw [← e] at h1
      exact Nat.lt_irrefl _ (Nat.lt_of_lt_of_le h1 hf)
    · exact I.nofs hf e
  cases hc : codeAmong pos ps.toList with
  | none =>
    refine PySem.W.kla_makeFunction (mg := X.mg) (c := c) (P := P) (ps := ps) (closure_ok freeC) I.ok.glob (I.mod.glob.keeps I.bk) codeC (tbl0.code.keeps I.bk) atP0' ht hc tbl0.gP blt0 fun c' ctv h' tk hx hge hlt hrec htb => ?_
    obtain ⟨c2, oc, vs, t, e2, hoc, dbgA, hv⟩ := hrec
    cases e2
    have szH : s.heap.objs.size ≤ h'.objs.size := Nat.le_trans hge (Nat.le_of_lt hlt)
    have newC : H c' = none := I.hok.fresh hge
    have J1 := inv_table (t' := tk) (more := #[rawInt pos.line, rawInt pos.col, .ref c']) (h' := h'.push (PySem.W.kla_obj "<lambda>" (X.env.qual ++ "<lambda>") params body scope (cloFrom X.env.cells scope.names []) ((X.mg "__name__").getD .none) c' ctv)) I atP0
      (fun b o bindG e => Heap.get?_push_of_some _ (hx b o bindG e)) (Heap.get?_push_of_some _ htb) hge ⟨oc, vs, t, Heap.get?_push_of_some _ hoc, dbgA, hv⟩
    have grow : ExtN H (upd (upd H P (.tbl (ps ++ #[rawInt pos.line, rawInt pos.col, .ref c']))) c' (CodeO c' (X.env.qual ++ "<lambda>"))) := fun b o e n => by
      rw [upd_ne (ne_of_none e newC), upd_ne (fun z => n ps (Option.some.inj (e.symm.trans (by rw [z]; exact atP0))))]
      exact e
    have listL : (ps ++ #[rawInt pos.line, rawInt pos.col, .ref c']).toList = ps.toList ++ [rawInt pos.line, rawInt pos.col, .ref c'] := by simp
    refine h h'.objs.size c' ((X.mg "__name__").getD .none) ctv _ _ J1 ⟨grow, fun a na => ?_, fun a o na e => by rw [upd_ne (ne_of_none e newC), upd_ne na]; exact e⟩ (fun p hp => ?_) (Heap.get?_push_size _ rfl) ?_ (outFr _ szH) upd_same
    · by_cases z1 : a = c'
      · rw [z1, upd_same]; simp
      · rw [upd_ne z1]
        by_cases z2 : a = P
        · rw [z2, upd_same]; simp
        · rw [upd_ne z2]; exact na
    · by_cases bindG : p.1 = P
      · rw [unqT p hp bindG, bindG]
        refine ⟨_, by rw [upd_ne (ne_of_none atP0 newC), upd_same], by rw [listL]; exact PySem.TriplesOk_snoc _ _ _ _ ht, fun p' cv hcv => ?_⟩
        rw [listL] at hcv
        rcases among_app _ ht hcv with z | z
        · obtain ⟨c0, e1, e2⟩ := ha p' cv z
          exact ⟨c0, e1, grow _ _ e2 codeO_ne⟩
        · exact ⟨c', z, upd_same⟩
      · obtain ⟨ps', a1, a2, a3⟩ := tabH p hp
        refine ⟨ps', by rw [upd_ne (ne_of_none a1 newC), upd_ne bindG]; exact a1, a2, fun p' cv hcv => ?_⟩
        obtain ⟨c0, e1, e2⟩ := a3 p' cv hcv
        exact ⟨c0, e1, grow _ _ e2 codeO_ne⟩
    · have n1 : h'.objs.size ≠ c' := Nat.ne_of_gt hlt
      have n2 : h'.objs.size ≠ P := Nat.ne_of_gt (Nat.lt_of_lt_of_le (Heap.lt_size atP0') szH)
      rw [upd_ne n1, upd_ne n2]
      exact I.hok.fresh szH
  | some cv =>
    obtain ⟨c', e, hco⟩ := ha pos cv hc
    subst e
    refine PySem.W.kla_makeFunctionHit (mg := X.mg) (c := c) (P := P) (ps := ps) (closure_ok freeC) I.ok.glob (I.mod.glob.keeps I.bk) codeC (tbl0.code.keeps I.bk) atP0' ht hc blt0 fun ctv h' tk hx szH => ?_
    have J1 : Inv X pins σ H { s with heap := h'.push (PySem.W.kla_obj "<lambda>" (X.env.qual ++ "<lambda>") params body scope (cloFrom X.env.cells scope.names []) ((X.mg "__name__").getD .none) c' ctv), toks := tk } := I.kept fun b o e => Heap.get?_push_of_some _ (hx b o e)
    exact h h'.objs.size c' ((X.mg "__name__").getD .none) ctv H _ J1 (GrowT.rfl0 P H) tabH (Heap.get?_push_size _ rfl) (I.hok.fresh szH) (outFr _ szH) hco
end
section
variable {X : Cx}
theorem pe_lamC {T : List (Addr × Str)} {TT : (XK → Hp → VK → Prop) → Hp → VK → Prop} {x a : Str} {g c P : Addr} {k : Nat} {pg : Arguments} {bg : List Stmt} {sg : Scope} {dV kV doc pm cdv ct oc : Value} {an od : Option Addr} {osl : Array (Option Value)} {Ng : List Str}
    {params : Arguments} {body : Expr} {scope : Scope} {t : XK → TE} {p lpos pos : Pos} (glX : Gl X x) (memT : X.mg x = some (.ref g)) (kpG : PySem.W.keepIn X.K (.ref g) = true)
    (lkG : X.K.lookup g = some ⟨oc, od, .func (PySem.W.fnOf x x pg bg sg dV kV doc pm an cdv ct), osl⟩) (codeG : PySem.W.codeIn X.K cdv x = true) (bindG : L2.Binds X.K (PySem.W.fnOf x x pg bg sg dV kV doc pm an cdv ct) [a] []) (scG : FnScope Ng [a] sg) (n0G : Ng[0]? = some a) (visA : Vis sg a)
    (givesG : GivesTo X Ng x sg g cdv bg a (X.env.qual ++ "<lambda>") TT)
    (tbl0 : TabB X.base X.mg c P) (codeC : X.env.code = .ref c) (hmT : (P, X.env.qual ++ "<lambda>") ∈ T) (unqT : ∀ p ∈ T, p.1 = P → p.2 = X.env.qual ++ "<lambda>") (roomX : Room (k + 2) X.A) (L : LamS X.env.scope scope) (noDef : defaultsOf params X.env = ([], []))
    (bnd0 : ∀ (q : Str) (cl : List (Str × Addr)) (pm cv ctv : Value), bindArgs (PySem.W.kla_fn "<lambda>" q params body scope cl pm cv ctv) ⟨[], []⟩ = pure [])
    (bodyL : ∀ (A : Around) (outer : List Env) (s : Shared) (H : Hp) (E : XK) (f c' : Addr), Room k (A.deeper (lamEnv X scope s.heap.objs.size f c')) → PE (lamCx X A outer s H E scope f c') body (t E))
    (dbgX : (x == ("__debug__" : Str)) = false := by decide) (dbgA : (a == ("__debug__" : Str)) = false := by decide) (dbgC : (a == ("__classdict__" : Str)) = false := by decide) :
    PE X (.Call (.Name x p) [.Lambda params body scope lpos] [] pos) (tLamC P T TT t) := by
  refine ⟨fun pins s σ H Q I h => ?_⟩
  obtain ⟨tabH, h⟩ := h
  refine wpAny_Call_Name_kw (ld_glob I glX memT ?_ dbgX)
  refine PySem.W.callWith_K (h₀ := X.base) I.ok.mod.kin kpG ?_ (by rfl) (by rfl)
  show wpAny _ _ (spliced ((false, eval (.Lambda params body scope lpos) X.env) :: backTo pos (starEach [] X.env))) _ _ s
  refine Calls.spliced_cons (lamMk I tbl0 codeC hmT unqT tabH noDef (L.has I.ok) fun f c' pm' ctv H1 s' J1 ext0 T1 hf hfn hfr hco => ?_)
  refine Calls.spliced_nil ⟨J1.kIn, ?_⟩
  have runC : codeAny (model X.prog X.w) X.A (.call (.ref g) ⟨[.ref f], []⟩) (CR C8.CX0 X.stack X.prog X.w H1 s' Q C8.E0) s' := by
    refine run_ofS (N := Ng) (ps := [a]) (us := [.ref f]) (vs := [.ref f]) lkG codeG scG roomX J1.env0 (bindG s' [.ref f] J1.kIn rfl) (.cons rfl .nil) rfl fun roomX' => ?_
    obtain ⟨t', ht', hq'⟩ := givesG f c' s' H1 Q (fun E H' Q' => t E σ H' Q') (fun W pn xe E p1 p2 tk hW => pe_act (i := 0) J1 L hf hfn hfr (bnd0 _ _ _ _ _) tk hW roomX' (fun A outer s H hr2 => bodyL A outer s H E f c' hr2) n0G visA dbgA dbgC) hco (h H1 ext0 T1)
    exact ⟨t', ht'.nox, hq'⟩
  refine wpAny_call (codeAny_mono runC fun r s2 hq => ?_)
  cases r with
  | error e => exact (show False from hq).elim
  | ok fl =>
    cases fl with
    | ret u => exact J1.after hq
    | next => exact False.elim hq
    | brk => exact False.elim hq
    | cont => exact False.elim hq
end
end LamX
namespace DL
open PySem L2
variable [TabL]
variable {F : Fam} {S S1 : ST} {P : Po} {rest : List Stmt}
theorem ds_raiseV [Calm F] {c : Nat} {a : Expr} {d : D} {cn qn : Str} {fI : Addr} {p pos pos2 : Pos} (T : PySem.XvX.XvTxt F.C.K F.mg cn qn (F.C.xc c) fI) (hf : excFields c = [("value" : Str)]) (tk : ∀ i, Takes (F.X i) P.W) (he : DE F a S S1 d) (hx : P.xc c [d] S1)
    (hg : ∀ i, Gl (F.X i) cn := by intro _; rfl) (hdb : (cn == ("__debug__" : Str)) = false := by decide)
    (hs : ∀ i, starEach (a :: []) (F.X i).env = (false, eval a (F.X i).env) :: starEach [] (F.X i).env := by intro _; rfl) (hpl : ∀ i, (backTo pos (starEach [] (F.X i).env)).any (·.1) = false := by intro _; rfl) :
    DS F (.Raise (some (.Call (.Name cn p) [a] [] pos)) none pos2 :: rest) S P := by
  refine ds_cons (M := fun _ => False) (d1_of (te := tRaiseXv (F.C.xc c) P.W (tCons (anyE F a) tNil)) (fun i => ?_) ?_) fun _ z => z.elim
  · have T' : PySem.XvX.XvTxt (F.X i).K (F.X i).mg cn qn (F.C.xc c) fI := by rw [F.hK i, F.hmg i]; exact T
    exact ps_raiseXv (F.calm i) T' (F.room i) (tk i) (pa_cons (anyE_ok i) pa_nil (hs i)) (hg i) hdb (hs i) (hpl i)
  · intro σ G H cx E m
    refine he σ G H cx _ fun v G1 H1 m1 dv => ⟨v, rfl, fun dx hdx => ?_⟩
    have sm : Same H1 (upd H1 dx (.xd [(("value" : Str), v)])) := fun b u h => by rw [upd_ne (ne_of_none h hdx)]; exact h
    have m2 := m1.trans (m1.cx.mv (Same.kt sm) (fun _ _ h => h) (m1.cx.sub.trans sm) fun _ _ h => h)
    refine m.xc c [d] dx [(("value" : Str), v)] σ S1 G1 _ m2.mw (back_none m1.go hdx) (m1.cx.sub.free hdx) upd_same ⟨?_, ?_⟩ hx
    · rw [hf]
      exact .cons dv .nil
    · rw [hf]; rfl
end DL
namespace SL
open PySem L2 DL
variable [TabL]
def spFX (C : Kc) (φ : List D → O Xr) : Sp := spX C fun ds z => φ ds = .ok z
section
variable {C : Kc} {mg : Str → Option Value} {base : Heap} {x qual : Str} {st : Stmt} {f : Addr} {fd : FuncData} {N ps : List Str} {k : Nat}
theorem fxX {φ : List D → O Xr} (F : Fun C.K x qual st f fd) (Sc : FnScope N ps (defScope st)) (len : ∀ ds d, φ ds = .ok d → ds.length = ps.length)
    (body : ∀ ds cdv A outer s H E hr, DSk (famX C mg base N Sc.nd qual (defScope st) f cdv A outer s H E k hr) (defBody st) ⟨DL.start N ds, none⟩ (φ ds) (PX E)) : FnOk C.P C.w C.K mg base (L2.CX C.P C.w) (k + 1) f fd ps (spFX C φ) :=
  fnX F Sc len fun ds z h cdv A outer s H E hr => body ds cdv A outer s H E hr z h
end
section
variable {F : Fam} {S : ST} {a : Expr} {oe : O D} {rest : List Stmt} {R : Type} {P : R → Po}
theorem k_raiseV [Calm F] {c : Nat} {cn qn : Str} {fI : Addr} {p pos pos2 : Pos} {rx : Nat → List D → R} (T : PySem.XvX.XvTxt F.C.K F.mg cn qn (F.C.xc c) fI) (he : DEp F a S oe) (hf : excFields c = [("value" : Str)] := by rfl) (tk : ∀ d i, Takes (F.X i) (P (rx c [d])).W := by intro _ _; exact takes_of rfl rfl rfl rfl) (hx : ∀ d, (P (rx c [d])).xc c [d] S := by intro _; rfl)
    (hg : ∀ i, Gl (F.X i) cn := by intro _; rfl) (hdb : (cn == ("__debug__" : Str)) = false := by decide)
    (hs : ∀ i, starEach (a :: []) (F.X i).env = (false, eval a (F.X i).env) :: starEach [] (F.X i).env := by intro _; rfl) (hpl : ∀ i, (backTo pos (starEach [] (F.X i).env)).any (·.1) = false := by intro _; rfl) :
    DSk F (.Raise (some (.Call (.Name cn p) [a] [] pos)) none pos2 :: rest) S (oe.bind fun d => .ok (rx c [d])) P := fun r q => by
  obtain ⟨d, h1, q⟩ := O.bind_eq q
  cases q
  exact ds_raiseV T hf (tk d) (he d h1) (hx d) hg hdb hs hpl
end
end SL
namespace DL
open PySem L2
variable [TabL]
variable {F : Fam} {S S1 : ST} {P : Po} {rest : List Stmt} {e : Expr} {es : List Expr} {ds : List D}
def DEX (F : Fam) (e : Expr) (S S' : ST) (P : Po) (z : Xr) : Prop := ∀ σ G H, Ctx F.C G H σ S → ∀ Q : VK, (∀ d, z = .r d → ∀ v G2 H2, Mv F.C σ S G H S' G2 H2 → Den F.C G2 v d → Q v H2) →
  (∀ c fs, z = .x c fs → ∀ dx fv G2 H2, Mw F.C σ S G H σ S' G2 H2 → H dx = none → G2 dx = none → H2 dx = some (.xd fv) → DenX F.C G2 c fv fs → P.W (.ref (F.C.xc c)) (some dx) σ H2) → anyE F e σ H Q
theorem fn_atX {k : Nat} {f : Addr} {fd : FuncData} {ps : List Str} {sp : Sp} (G : FnOk F.P F.w F.C.K F.mg F.base (L2.CX F.P F.w) k f fd ps sp) (i : F.I) : FnOk (F.X i).prog (F.X i).w (F.X i).K (F.X i).mg (F.X i).base (L2.CX (F.X i).prog (F.X i).w) k f fd ps sp := by
  rw [F.hP i, F.hw i, F.hK i, F.hmg i, F.hbase i]; exact G
end DL
namespace SL
open PySem L2 DL
variable [TabL]
variable {F : Fam} {S : ST} {R : Type} {P : R → Po} {rest : List Stmt} {e : Expr} {es : List Expr} {os : O (List D)} {oz : O Xr}
def DEpX (F : Fam) (e : Expr) (S : ST) (P : Po) (o : O Xr) : Prop := ∀ z, o = .ok z → DEX F e S S P z
end SL
namespace DL
open PySem L2
variable [TabL]
def PLm (E : XK) : Po := { W := fun cls d _ H => E cls d H }
def famL (F : Fam) (sc : Scope) (E : XK) (k0 : Nat) : Fam where
  I := { j : F.I × Around × List Env × Shared × Hp × Addr × Addr // Room k0 (j.2.1.deeper (LamX.lamEnv (F.X j.1) sc j.2.2.2.1.heap.objs.size j.2.2.2.2.2.1 j.2.2.2.2.2.2)) }
  X := fun j => LamX.lamCx (F.X j.1.1) j.1.2.1 j.1.2.2.1 j.1.2.2.2.1 j.1.2.2.2.2.1 E sc j.1.2.2.2.2.2.1 j.1.2.2.2.2.2.2
  P := F.P
  w := F.w
  C := F.C
  mg := F.mg
  base := F.base
  N := F.N
  k := k0
  hP := fun j => F.hP j.1.1
  hw := fun j => F.hw j.1.1
  hK := fun j => F.hK j.1.1
  hmg := fun j => F.hmg j.1.1
  hbase := fun j => F.hbase j.1.1
  hN := fun j => F.hN j.1.1
  nd := F.nd
  roomH := fun j => ⟨j.2.dp, j.2.un⟩
  cP := F.cP
  cw := F.cw
instance {F : Fam} {sc : Scope} {E : XK} {k0 : Nat} : Calm (famL F sc E k0) := ⟨fun _ => rfl, fun j => j.2.hd⟩
theorem famL_takes {F : Fam} {sc : Scope} {E : XK} {k0 : Nat} (i : (famL F sc E k0).I) : Takes ((famL F sc E k0).X i) (PLm E).W := takes_of rfl rfl rfl rfl
theorem pass_of {F : Fam} {E : XK} (tk : ∀ i, Takes (F.X i) (PLm E).W) (i : F.I) : Passes (L2.CX (F.X i).prog (F.X i).w) (F.X i) E := passes_call (tk i) fun _ _ _ _ h => h
section
variable {F : Fam} {S S1 S2 : ST} {e a : Expr} {es : List Expr} {kws : List Keyword} {ds : List D} {pos p apos : Pos} {E : XK} {k : Nat} {z : Xr} {nm : Str}
section
variable (P : Program) (w : World) (C : Kc) (mg : Str → Option Value) (base : Heap)
end
theorem spx_ev {C : Kc} {R : List D → Xr → Prop} {σ : L2.St} {G H G1 H1 : Hp} {vs : List V} {Q : VK} (hR : R ds z) (m : Mv C σ S G H S1 G1 H1) (dl : DenL C G1 vs ds) (q1 : ∀ d, z = .r d → ∀ v G2 H2, Mv C σ S G H S1 G2 H2 → Den C G2 v d → Q v H2)
    (q2 : ∀ c fs, z = .x c fs → ∀ dx fv G2 H2, Mw C σ S G H σ S1 G2 H2 → H dx = none → G2 dx = none → H2 dx = some (.xd fv) → DenX C G2 c fv fs → E (.ref (C.xc c)) (some dx) H2) : spX C R vs H1 Q E :=
  ⟨G1, ds, z, hR, m.cx.sub, dl, fun d hz v G2 H2 p dv => q1 d hz v G2 H2 (m.pu p) dv, fun c fs hz dx fv G2 H2 p h1 h2 h3 h4 => q2 c fs hz dx fv G2 H2 (m.pu p).mw (back_none m.go h1) h2 h3 h4⟩
end
end DL
namespace DL
open PySem L2
variable [TabL]
def spH (C : Kc) (ψ : Nat → List D → SL.O D) (a dx : Addr) (c : Nat) : Sp := fun vs H Q _ => vs = [.ref a] ∧ ∃ (G : Hp) (fv : List (Str × V)) (fs : List D) (d : D), Sub G H ∧ G dx = none ∧ H dx = some (.xd fv) ∧ DenX C G c fv fs ∧ ψ c fs = .ok d ∧
  ∀ v G2 H2, Go (fun b => b = dx) G H G2 H2 → Sub G2 H2 → Den C G2 v d → Q v H2
def famH (C : Kc) (mg : Str → Option Value) (base : Heap) (N : List Str) (nd : N.Nodup) (qual : Str) (sc : Scope) (f : Addr) (cdv : Value) (A : Around) (outer : List Env) (s : Shared) (H : Hp) (E : XK) (k : Nat) (p : Addr × Obj) (hr : L2H.RoomH k (A.deeper (PyProof.Rows.envOfC qual sc s.heap.objs.size f cdv))) : Fam where
  I := Unit
  X := fun _ => L2H.cxH CX0 C.P C.w C.K mg base N qual sc f cdv A outer s H E p
  P := C.P
  w := C.w
  C := C
  mg := mg
  base := base
  N := N
  k := k
  hP := fun _ => rfl
  hw := fun _ => rfl
  hK := fun _ => rfl
  hmg := fun _ => rfl
  hbase := fun _ => rfl
  hN := fun _ => rfl
  nd := nd
  roomH := fun _ => hr
  cP := rfl
  cw := rfl
section
variable {C : Kc} {mg : Str → Option Value} {base : Heap}
theorem ctx_startH {N : List Str} {G H : Hp} {vs : List V} {ds : List D} {b : Addr} {bo : BG} (s : Sub G H) (h : DenL C G vs ds) (hb : BagOk C G H (some (b, bo))) : Ctx C G H (L2.start N vs) ⟨start N ds, some (b, bo)⟩ where
  sub := s
  len := by simp [L2.start, start, h.length]
  im := fun i d q => by
    obtain ⟨v, d', h1, h2, h3⟩ := start_get h i _ q
    cases h2
    exact ⟨v, h1, h3⟩
  ow := fun i ds q => by obtain ⟨_, _, _, z, _⟩ := start_get h i _ q; cases z
  apart := fun i j ds es a q => by obtain ⟨_, _, _, z, _⟩ := start_get h i _ q; cases z
  bg := fun i b' o z q => by obtain ⟨_, _, _, z2, _⟩ := start_get h i _ q; cases z2
  bag := hb
  nob := fun i b' o ds z q => by obtain ⟨_, _, _, z2, _⟩ := start_get h i _ q; cases z2
theorem oa_startH {N : List Str} {G : Hp} {vs : List V} {ds : List D} {b : Addr} {bo : BG} (h : DenL C G vs ds) (a : Addr) (z : OA C (L2.start N vs) ⟨start N ds, some (b, bo)⟩ a) : a = b := by
  rcases z with ⟨i, es, q, _⟩ | ⟨o, z⟩
  · obtain ⟨_, _, _, z2, _⟩ := start_get h i _ q; cases z2
  · cases z; rfl
theorem fnHx {x qual : Str} {st : Stmt} {f : Addr} {fd : FuncData} {n : Str} {N : List Str} {k : Nat} {ψ : Nat → List D → SL.O D} (F : Fun C.K x qual st f fd) (Sc : FnScope (n :: N) [n] (defScope st))
    (body : ∀ c fs d, ψ c fs = .ok d → ∀ a dx p cdv A outer s H E hr, A.guards = some [] → (∀ i, HX.PinX ((famH C mg base (n :: N) Sc.nd qual (defScope st) f cdv A outer s H E k p hr).X i) a (C.xc c) dx) →
      DS (famH C mg base (n :: N) Sc.nd qual (defScope st) f cdv A outer s H E k p hr) (defBody st) ⟨start (n :: N) [.cst (.ref a)], some (dx, .xd ((excFields c).zip fs))⟩ { rt := fun d' _ => d' = d, nx := fun _ => d = .non }) :
    ∀ c a dx (p : Addr × Obj), p.1 = a → Zc (.ref (C.xc c)) (some dx) p.2 → (∃ vs, p.2.data = .fields vs) → HX.FnP C.P C.w C.K mg base CX0 (k + 1) f fd [n] p (spH C ψ a dx c) := by
  intro c a dx p hpa hz hv
  obtain ⟨oc, od, kV, doc, pm, an, cdv, ct, osl, rfl, lk, hcd⟩ := F.ex
  refine HX.fnP_of (N := n :: N) lk hcd Sc (fun vs H Q E h => by rw [h.1]; rfl) fun A outer s H vs Q E hr gd h => ?_
  obtain ⟨rfl, G, fv, fs, d, sub, gdx, hdx, df, hd, q⟩ := h
  refine ⟨_, anyS_ok (F := famH C mg base (n :: N) Sc.nd qual (defScope st) f cdv A outer s H E k p hr) (), ?_⟩
  have dl : DenL C G [V.ref a] [D.cst (V.ref a)] := .cons (.cst _) .nil
  have pin : ∀ i, HX.PinX ((famH C mg base (n :: N) Sc.nd qual (defScope st) f cdv A outer s H E k p hr).X i) a (C.xc c) dx := fun _ => ⟨p.2, by rw [← hpa]; exact List.mem_singleton.mpr rfl, hz, hv⟩
  have fin : ∀ v σ2 S2 G2 H2, Mw C (L2.start (n :: N) [.ref a]) ⟨start (n :: N) [.cst (.ref a)], some (dx, .xd ((excFields c).zip fs))⟩ G H σ2 S2 G2 H2 → Den C G2 v d → Q v H2 := fun v σ2 S2 G2 H2 m dv =>
    q v G2 H2 (m.go.mono fun b => oa_startH dl b) m.cx.sub dv
  refine body c fs d hd a dx p cdv A outer s H E hr gd pin (L2.start (n :: N) [.ref a]) G H (ctx_startH sub dl ⟨gdx, fv, hdx, df.1⟩) _ ⟨fun σ2 S2 G2 H2 m e => ?_, fun v d' σ2 S2 G2 H2 m dv e => ?_, fun _ _ _ _ _ e => e.elim, fun _ _ _ _ _ e => e.elim, fun _ _ _ _ _ _ _ _ _ _ _ _ e => e.elim, fun _ _ _ _ _ _ _ _ _ _ _ _ _ e => e.elim⟩
  · exact fin .non _ _ _ _ m (by rw [e]; exact .non)
  · exact fin v _ _ _ _ m (e ▸ dv)
end
section
variable {F : Fam} {S : ST} {e T : Expr} {d : D} {pos p : Pos} {a dx C0 : Addr} {fs : List (Str × D)}
theorem de_isX {cv : V} {cv0 : Value} {b : Bool} (hp : ∀ i, HX.PinX (F.X i) a C0 dx) (hC : HX.ExC F.C.K C0) (hg : S.g = some (dx, .xd fs)) (he : DE F e S S (.cst (.ref a))) (hT : DE F T S S (.cst cv)) (hcv : ∀ u, RelV cv u → u = cv0) (hk : PySem.W.kitOne F.C.K (.ref C0) cv0 = some b)
    (hm : F.mg "isinstance" = none) (hgl : ∀ i, Gl (F.X i) "isinstance")
    (hs : ∀ i, starEach [e, T] (F.X i).env = (false, eval e (F.X i).env) :: starEach [T] (F.X i).env) (hs2 : ∀ i, starEach [T] (F.X i).env = (false, eval T (F.X i).env) :: starEach [] (F.X i).env) (hpl : ∀ i, (backTo pos (starEach [T] (F.X i).env)).any (·.1) = false) :
    DE F (.Call (.Name "isinstance" p) [e, T] [] pos) S S (.bl b) := by
  refine de_of (te := fun σ H Q => anyA F [e, T] σ H fun xs H1 => HX.rIsX F.C.K C0 a dx xs H1 Q) (fun i => ?_) ?_
  · have hc : CallR (F.X i) (.builtin "isinstance") (HX.rIsX F.C.K C0 a dx) := by
      have := HX.isX (hp i) (by rw [F.hK i]; exact hC)
      rw [F.hK i] at this
      exact this
    exact pe_callB hc (hgl i) (by rw [F.hmg i]; exact hm) bb_isinstance (anyA_ok i) (by decide) (by decide) (hs i) (hpl i)
  · intro σ G H c Q q
    refine da_cons he (da_cons hT da_nil hs2) hs σ G H c _ fun vs G1 H1 m dl => ?_
    cases dl with
    | cons d1 dl =>
      cases dl with
      | cons d2 dl =>
        cases dl
        cases d1
        cases d2
        have z := m.cx.bag
        rw [hg] at z
        obtain ⟨_, vs, z2, _⟩ := z
        exact ⟨_, _, b, vs, rfl, hcv, z2, hk, q _ G1 H1 m (.bl b)⟩
theorem de_fx {f : Str} (hp : ∀ i, HX.PinX (F.X i) a C0 dx) (hC : HX.ExC F.C.K C0) (hno : PySem.W.findIn F.C.K (.ref C0) f = some none) (hg : S.g = some (dx, .xd fs)) (he : DE F e S S (.cst (.ref a))) (hl : fs.lookup f = some d)
    (hb : ∀ i, attributeBase e f (F.X i).env (eval e (F.X i).env) = eval e (F.X i).env) : DE F (.Attribute e f pos) S S d := by
  refine de_of (te := HX.tFx a dx f (anyE F e)) (fun i => HX.pe_fx (hp i) (by rw [F.hK i]; exact hC) (by rw [F.hK i]; exact hno) (anyE_ok i) (hb i)) ?_
  intro σ G H c Q q
  refine he σ G H c _ fun v G1 H1 m dv => ?_
  cases dv
  have z := m.cx.bag
  rw [hg] at z
  obtain ⟨_, vs, z2, z3⟩ := z
  obtain ⟨v, l1, l2⟩ := z3.look hl
  exact ⟨rfl, vs, v, z2, l1, q v G1 H1 m l2⟩
end
end DL
namespace DL
open PySem L2 PyProof.Rows
variable [TabL]
def ansE (C : Kc) (ψ : Nat → List D → SL.O D) (Q : VK) : XK := fun cls d H2 => ∃ (c dx : Addr) (fs : List D) (e : D), cls = .ref (C.xc c) ∧ d = some dx ∧ ψ c fs = .ok e ∧ ∀ a, H2 a = none → spH C ψ a dx c [.ref a] H2 Q E0
def TTans (C : Kc) (ψ : Nat → List D → SL.O D) : (XK → Hp → VK → Prop) → Hp → VK → Prop := fun tl H Q => tl (ansE C ψ Q) H (fun v H2 => ∀ p, H2 p = none → Q (.ref p) (upd H2 p (.lst [.str "returned", v])))
def AnsOk (P : Program) (w : World) (C : Kc) (mg : Str → Option Value) (base : Heap) (k : Nat) (x : Str) (ψ : Nat → List D → SL.O D) : Prop :=
  ∃ (a : Str) (Ng : List Str) (g : Addr) (pg : Arguments) (bg : List Stmt) (sg : Scope) (kV doc pm : Value) (an : Option Addr) (cdv ct oc : Value) (od : Option Addr) (osl : Array (Option Value)),
    mg x = some (.ref g) ∧ PySem.W.keepIn C.K (.ref g) = true ∧ C.K.lookup g = some ⟨oc, od, .func (PySem.W.fnOf x x pg bg sg .none kV doc pm an cdv ct), osl⟩ ∧ PySem.W.codeIn C.K cdv x = true ∧ L2.Binds C.K (PySem.W.fnOf x x pg bg sg .none kV doc pm an cdv ct) [a] [] ∧ FnScope Ng [a] sg ∧ Ng[0]? = some a ∧ Vis sg a ∧
      (a == ("__debug__" : Str)) = false ∧ (a == ("__classdict__" : Str)) = false ∧
      ∀ (X : Cx), X.prog = P → X.w = w → X.K = C.K → X.mg = mg → X.base = base → X.A.guards = some [] → Room (k + 2) X.A → ∀ q, LamX.GivesTo X Ng x sg g cdv bg a q (TTans C ψ)
def SortOk (P : Program) (w : World) (C : Kc) (mg : Str → Option Value) (base : Heap) (k : Nat) (x : Str) (ψ : Nat → List D → SL.O D) : Prop :=
  ∃ (f : Addr) (fd : FuncData) (ps : List Str), (∀ c a dx (p : Addr × Obj), p.1 = a → Zc (.ref (C.xc c)) (some dx) p.2 → (∃ vs, p.2.data = .fields vs) → HX.FnP P w C.K mg base CX0 k f fd ps p (spH C ψ a dx c)) ∧ mg x = some (.ref f) ∧ PySem.W.keepIn C.K (.ref f) = true ∧ Binds C.K fd ps []
section
variable {P : Program} {w : World} {C : Kc} {mg : Str → Option Value} {base : Heap} {k : Nat}
theorem ans_ok {x act got e srt xA xB xC : Str} {cA cB cC : Value} {st : Stmt} {g : Addr} {fd : FuncData} {ψ : Nat → List D → SL.O D} {p1 p2 p3 p4 q1 q2 q3 tp r1 r2 r3 r4 hp tpos cp gp lp rp : Pos} {kk ck : Nat}
    (F : Fun C.K x x st g fd) (hm : mg x = some (.ref g)) (hb : Binds C.K fd [act] []) (Sc : FnScope [act, got, e] [act] (defScope st)) (so : SortOk P w C mg base (k + 1) srt ψ)
    (hst : defBody st = [.Try [.Assign [.Name got p1] (.Call (.Name act p2) [] [] p3) p4] [.ExceptHandler (some (.Tuple [.Name xA q1, .Name xB q2, .Name xC q3] kk tp)) (some e) [.Return (some (.Call (.Name srt r1) [.Name e r2] [] r3)) r4] hp] [] [] tpos, .Return (some (.List [.Constant (.str "returned") ck cp, .Name got gp] lp)) rp])
    (hA : mg xA = some cA) (hB : mg xB = some cB) (hC : mg xC = some cC) (gA : (defScope st).names.lookup xA = some .globalImplicit) (gB : (defScope st).names.lookup xB = some .globalImplicit) (gC : (defScope st).names.lookup xC = some .globalImplicit) (gS : (defScope st).names.lookup srt = some .globalImplicit)
    (lA : (defScope st).names.lookup act = some .local) (lG : (defScope st).names.lookup got = some .local) (lE : (defScope st).names.lookup e = some .local)
    (dA : (xA == ("__debug__" : Str)) = false) (dB : (xB == ("__debug__" : Str)) = false) (dC : (xC == ("__debug__" : Str)) = false) (dS : (srt == ("__debug__" : Str)) = false) (da : (act == ("__debug__" : Str)) = false) (dg : (got == ("__debug__" : Str)) = false) (de : (e == ("__debug__" : Str)) = false)
    (ca : (act == ("__classdict__" : Str)) = false) (cg : (got == ("__classdict__" : Str)) = false) (ce : (e == ("__classdict__" : Str)) = false)
    (hex : ∀ c fs d, ψ c fs = .ok d → PySem.W.exmAny C.K (.ref (C.xc c)) [cA, cB, cC] = some true) : AnsOk P w C mg base k x ψ := by
  obtain ⟨oc, od, kV, doc, pm, an, cdv, ct, osl, rfl, lk, hcd⟩ := F.ex
  obtain ⟨f, fdS, psS, hS, mS, kS, bS⟩ := so
  refine ⟨act, [act, got, e], g, _, _, _, kV, doc, pm, an, cdv, ct, oc, od, osl, hm, F.kp, lk, hcd, hb, Sc, rfl, .inl lA, da, ca, ?_⟩
  intro X hP hw hK hmg hbase hG hr q
  subst hP hw hmg hbase
  rw [hst]
  intro fl c' s H Q tl actH hc h
  have K1 : (C.K : PySem.W.Frag) = X.K := hK.symm
  refine ⟨_, pss_cons (HX.ps_try3 (X := (cxOf C8.CX0 X.prog X.w X.K X.mg X.base [act, got, e] x (defScope st) g cdv X.A X.stack s H C8.E0).nox) (i := 2) (c1 := cA) (c2 := cB) (c3 := cC)
      (tb := fun W D σ H => ∃ Ech : XK, (∀ cls d σ' H', Ech cls d H' → W cls d σ' H') ∧ σ[0]? = some (some (.ref fl)) ∧ H c' = some (LamX.CodeO c' q) ∧ tl Ech H fun v H1 => D.nx (σ.set 1 (some v)) H1)
      (ts := fun a cls d D σ H => ∃ (c dx : Addr), cls = .ref (C.xc c) ∧ d = some dx ∧ σ[2]? = some (some (.ref a)) ∧ spH C ψ a dx c [.ref a] H D.rt E0)
      rfl rfl Sc.nd rfl lE ⟨gA, dA, .inl hA⟩ ⟨gB, dB, .inl hB⟩ ⟨gC, dC, .inl hC⟩ (fun W pn xe tk _ => ?_) (fun a oe cls d pn hz hv => ?_)) (pss_one (ps_ret (pe_lst (pa_cons pe_str (pa_cons (pe_var (i := 1) rfl (.inl lG) dg cg) pa_nil))))), ?_⟩
  · refine ⟨fun pins s' σ H' D I h' => ?_⟩
    obtain ⟨Ech, hW, h1, h2, h3⟩ := h'
    have hq := pss_one (ps_set (pos := p4) (pos' := p1) (i := 1) Sc.nd rfl (.inl lG) (actH W pn xe Ech p2 p3 tk hW) (by rfl) (.inr lG))
    exact hq.run pins s' σ H' D I ⟨h1, h2, h3⟩
  · refine ⟨fun pins s' σ H' D I h' => ?_⟩
    obtain ⟨c, dx, rfl, rfl, h1, h2⟩ := h'
    have hF := hS c a dx (a, oe) rfl hz hv
    rw [K1] at hF
    have hq := pss_one (ps_ret (pos := r4) (HX.pe_callP (q := r1) (pos := r3) (E := fun _ => E0) (X := (cxOf C8.CX0 X.prog X.w X.K X.mg X.base [act, got, e] x (defScope st) g cdv X.A X.stack s H C8.E0).nox.suite a ((a, oe) :: pn)) hF ⟨(hr.deeper (envOfC x (defScope st) s.heap.objs.size g cdv)).dp, (hr.deeper (envOfC x (defScope st) s.heap.objs.size g cdv)).un⟩ hG List.mem_cons_self gS mS (by rw [K1] at kS; exact kS) (by rw [K1] at bS; exact bS)
      (fun σ pins H s e s' _ z => z.elim) (pa_cons (pe_var (pos := r2) (i := 2) rfl (.inl lE) de ce) pa_nil) dS))
    exact hq.run pins s' σ H' D I ⟨_, h1, h2⟩
  · refine ⟨ansE C ψ Q, fun cls d σ' H' hE => ?_, rfl, hc, ?_⟩
    · obtain ⟨c, dx, fs, d0, rfl, rfl, hd, h2⟩ := hE
      refine ⟨?_, fun a ha hl => ⟨c, dx, rfl, rfl, List.getElem?_set_self (by rw [hl]; exact (by decide : 2 < 3)), h2 a ha⟩⟩
      have := hex c fs d0 hd
      rw [K1] at this
      exact this
    · have eq : (fun (v : V) (H1 : Hp) => ∀ p, H1 p = none → Q (.ref p) (upd H1 p (.lst [.str "returned", v]))) = fun v H1 => tRet (tLst (tCons (fun _ H Q => Q (.str "returned") H) (tCons (tVar 1) tNil))) { nx := fun _ H2 => Q .non H2, rt := Q } ((L2.start [act, got, e] [.ref fl]).set 1 (some v)) H1 := by
        funext v H1
        refine propext ⟨fun h => ⟨v, rfl, (by decide : 2 ≤ sizeLine), h⟩, fun ⟨v2, h1, _, h2⟩ => ?_⟩
        cases h1
        exact h2
      have h0 : tl (ansE C ψ Q) H (fun v H2 => ∀ p, H2 p = none → Q (.ref p) (upd H2 p (.lst [.str "returned", v]))) := h
      rw [eq] at h0
      exact h0
end
end DL
namespace DL
open PySem L2 PyProof.Rows
variable [TabL]
theorem ctx_goP {C : Kc} {G H G2 H2 : Hp} {σ : L2.St} {S : ST} {p : Addr} (c : Ctx C G H σ S) (go : Go (fun a => a = p) G H G2 H2) (sub : Sub G2 H2) (nOA : ¬ OA C σ S p) : Ctx C G2 H2 σ S where
  sub := sub
  len := c.len
  im := fun i d h => let ⟨v, h1, h2⟩ := c.im i d h; ⟨v, h1, h2.mono go.gg⟩
  ow := fun i ds h => by
    obtain ⟨a, o, h1, h2, h3, h4⟩ := c.ow i ds h
    have na : a ≠ p := fun z => nOA (.inl ⟨i, ds, h, by rw [← z]; exact h1⟩)
    exact ⟨a, o, h1, go.fr a na (by rw [h3]; simp) h2, go.keep a o na h4.nt h3, h4.mono go.gg⟩
  apart := c.apart
  bg := c.bg
  bag := by
    have z := c.bag
    cases q : S.g with
    | none => trivial
    | some bo =>
      obtain ⟨b, o⟩ := bo
      have nb : b ≠ p := fun e => nOA (.inr ⟨o, by rw [q, e]⟩)
      rw [q] at z
      cases o with
      | lst ds => obtain ⟨h1, vs, h2, h3⟩ := z; exact ⟨go.fr b nb (by rw [h2]; simp) h1, vs, go.keep b _ nb nt_lst h2, h3.mono go.gg⟩
      | ins cc fs => obtain ⟨h1, dx, vs, h2, h3⟩ := z; exact ⟨go.fr b nb (by rw [h2]; simp) h1, dx, vs, go.keep b _ nb nt_ins h2, h3.mono go.gg⟩
      | xd fs => obtain ⟨h1, vs, h2, h3⟩ := z; exact ⟨go.fr b nb (by rw [h2]; simp) h1, vs, go.keep b _ nb nt_xd h2, h3.mono go.gg⟩
  nob := c.nob
section
variable {F : Fam} {S : ST} {e body : Expr} {d : D} {pos p lpos : Pos} {k : Nat} {x : Str} {ψ : Nat → List D → SL.O D} {params : Arguments} {scope : Scope} {z : Xr} {c P0 : Addr}
structure LamT (F : Fam) (c P0 : Addr) (qual : Str) : Prop where
  tb : LamX.TabB F.base F.mg c P0
  cd : ∀ i, (F.X i).env.code = .ref c
  qu : ∀ i, (F.X i).env.qual = qual
  mem : (P0, qual ++ "<lambda>") ∈ TabL.T
  un : ∀ q ∈ TabL.T, q.1 = P0 → q.2 = qual ++ "<lambda>"
theorem de_answer [Calm F] {qual : Str} (lt : LamT F c P0 qual) (an : AnsOk F.P F.w F.C F.mg F.base k x ψ) (hG : ∀ i, (F.X i).A.guards = some []) (hk : k + 2 ≤ F.k) (L : ∀ i, LamX.LamS (F.X i).env.scope scope) (hdef : ∀ i, defaultsOf params (F.X i).env = ([], []))
    (hbind : ∀ (q : Str) (cl : List (Str × Addr)) (pm cv ctv : Value), bindArgs (PySem.W.kla_fn "<lambda>" q params body scope cl pm cv ctv) ⟨[], []⟩ = pure []) (hb : ∀ E, DEX (famL F scope E k) body S S (PLm E) z)
    (hgl : ∀ i, Gl (F.X i) x) (hdb : (x == ("__debug__" : Str)) = false) (hz : (∃ d0, z = .r d0 ∧ d = .lst [.str "returned", d0]) ∨ ∃ c fs, z = .x c fs ∧ ψ c fs = .ok d) :
    DE F (.Call (.Name x p) [.Lambda params body scope lpos] [] pos) S S d := by
  obtain ⟨a, Ng, g, pg, bg, sg, kV, doc, pm, an, cdv, ct, oc, od, osl, hm, hkp, lk, hcd, hbn, Sc, hN, hv, da, ca, giv⟩ := an
  refine de_of (te := LamX.tLamC P0 TabL.T (TTans F.C ψ) fun E => anyE (famL F scope E k) body) (fun i => ?_) ?_
  · refine LamX.pe_lamC (X := F.X i) (g := g) (Ng := Ng) (a := a) (hgl i) (by rw [F.hmg i]; exact hm) (by rw [F.hK i]; exact hkp) (by rw [F.hK i]; exact lk) (by rw [F.hK i]; exact hcd) (by rw [F.hK i]; exact hbn) Sc hN hv (giv (F.X i) (F.hP i) (F.hw i) (F.hK i) (F.hmg i) (F.hbase i) (hG i) ((F.room i).mono hk) _)
      (by rw [F.hbase i, F.hmg i]; exact lt.tb) (lt.cd i) (by rw [lt.qu i]; exact lt.mem) (by rw [lt.qu i]; exact lt.un) ((F.room i).mono hk) (L i) (hdef i) hbind (fun A outer s H E f c' hr => anyE_ok (F := famL F scope E k) ⟨(i, A, outer, s, H, f, c'), hr⟩) hdb da ca
  · intro σ G H cx Q q
    refine ⟨cx.sub.t, fun H1 gr t1 => ?_⟩
    have kt : KT H H1 := ⟨fun a o nt h => gr.e a o h nt, gr.d, fun _ => t1⟩
    have same : Same G H1 := fun a o h => gr.k a o (fun z => by
      rw [z, cx.sub.n _ lt.mem] at h
      cases h) (cx.sub a o h)
    have mv : Mv F.C σ S G H S G H1 := cx.mv kt (fun _ _ h => h) same fun _ _ h => h
    refine hb (ansE F.C ψ Q) σ G H1 mv.cx _ (fun d0 h0 v G2 H2 m dv => ?_) fun cc fs h0 dx fv G2 H2 m h1 h2 h3 h4 => ?_
    · rcases hz with ⟨d1, h1, rfl⟩ | ⟨cc, fs, h1, _⟩
      · rw [h0] at h1
        cases h1
        intro pp hp
        have n := m.cx.new (o := .lst [.str "returned", v]) hp
        exact q _ _ _ ((mv.trans m).trans n) (.lst (SqL.of upd_same) (.cons (.str _) (.cons (dv.mono n.go.gg) .nil)))
      · rw [h0] at h1; cases h1
    · rcases hz with ⟨d1, h5, _⟩ | ⟨cc2, fs2, h5, h6⟩
      · rw [h0] at h5; cases h5
      · rw [h0] at h5
        cases h5
        refine ⟨cc, dx, fs, d, rfl, rfl, h6, fun a ha => ⟨rfl, G2, fv, fs, d, m.cx.sub, h2, h3, h4, h6, fun v G3 H3 go sub dv => ?_⟩⟩
        have hdx : H dx = none := back_none mv.go h1
        have nOA1 : ¬ OA F.C σ S dx := fun zz => by
          rcases zz with ⟨j, es, r1, r2⟩ | ⟨o, r⟩
          · obtain ⟨a2, _, q1, _, q3, _⟩ := cx.ow j es r1
            rw [r2] at q1; cases q1; rw [hdx] at q3; cases q3
          · have bz := cx.bag
            rw [r] at bz
            cases o with
            | lst => obtain ⟨_, _, q3, _⟩ := bz; rw [hdx] at q3; cases q3
            | ins => obtain ⟨_, _, _, q3, _⟩ := bz; rw [hdx] at q3; cases q3
            | xd => obtain ⟨_, _, q3, _⟩ := bz; rw [hdx] at q3; cases q3
        refine q v G3 H3 ⟨(mv.go.trans m.go fun _ y => .inl y).trans go fun y hy => .inr (by rw [hy]; exact hdx), ctx_goP m.cx go sub nOA1, fun _ y => y⟩ dv
end
end DL
namespace SL
open PySem L2 DL
variable [TabL]
def excName : Nat → Str
  | 100 => "InvalidNumber" | 101 => "InvalidText" | 102 => "InvalidCells" | 103 => "InvalidPlace" | 104 => "InvalidSide" | 105 => "InvalidRow" | 106 => "InvalidColours" | 107 => "InvalidLetters" | 108 => "InvalidMoves" | 109 => "InvalidGood" | 110 => "InvalidKind" | 111 => "InvalidAmounts"
  | 112 => "InvalidGuards" | 113 => "InvalidDeeds" | 114 => "InvalidLine" | 115 => "NotAFold" | 116 => "NotARaisin" | 117 => "NotAWatch" | 118 => "Outside" | 119 => "OtherColours" | 120 => "Busy" | 121 => "NothingToUndo" | 122 => "Refused" | 123 => "TooMany"
  | 124 => "ShapeError" | 125 => "QuestionError" | 126 => "SizeError" | _ => ""
def excBase (c : Nat) : Nat := if c < 118 then 124 else if c < 123 then 125 else 126
def isE (c t : Nat) : Bool := Nat.beq c t || Nat.beq (excBase c) t
def baseName (c : Nat) : String := if c < 118 then "ValueError" else if c < 123 then "LookupError" else "ArithmeticError"
def isEB (c : Nat) (T : String) : Bool := baseName c == T
structure TxE (C : Kc) (mg : Str → Option Value) (L Lc : List Nat) : Prop where
  ex : ∀ c ∈ L, HX.ExC C.K (C.xc c)
  cn : ∀ t ∈ Lc, mg (excName t) = some (.ref (C.xc t))
  ki : ∀ c ∈ L, ∀ t ∈ Lc, PySem.W.kitOne C.K (.ref (C.xc c)) (.ref (C.xc t)) = some (isE c t)
  kb : ∀ c ∈ L, ∀ T ∈ ["ValueError", "LookupError", "ArithmeticError"], PySem.W.kitOne C.K (.ref (C.xc c)) (.type T) = some (isEB c T)
  fl : ∀ c ∈ L, ∀ f ∈ excFields c, PySem.W.findIn C.K (.ref (C.xc c)) f = some none
  tr : ∀ c ∈ L, PySem.W.exmAny C.K (.ref (C.xc c)) [.ref (C.xc 124), .ref (C.xc 125), .ref (C.xc 126)] = some true
  b3 : ∀ T ∈ [("ValueError" : Str), "LookupError", "ArithmeticError"], mg T = none
def sortO (L : List Nat) (ψ : Nat → List D → O D) (c : Nat) (fs : List D) : O D := if L.contains c = true then ψ c fs else .bad
theorem sortO_eq {L : List Nat} {ψ : Nat → List D → O D} {c : Nat} {fs : List D} {d : D} (h : sortO L ψ c fs = .ok d) : c ∈ L ∧ ψ c fs = .ok d := by
  unfold sortO at h
  split at h
  · exact ⟨by rename_i z; rwa [List.contains_iff_mem] at z, h⟩
  · cases h
section
variable {C : Kc} {mg : Str → Option Value} {base : Heap} {x qual : Str} {st : Stmt} {f : Addr} {fd : FuncData} {n : Str} {N : List Str} {k : Nat} {L : List Nat}
theorem fxH {ψ : Nat → List D → O D} (F : Fun C.K x qual st f fd) (Sc : FnScope (n :: N) [n] (defScope st))
    (body : ∀ c fs, c ∈ L → ∀ a dx p cdv A outer s H E hr, A.guards = some [] → (∀ i, HX.PinX ((famH C mg base (n :: N) Sc.nd qual (defScope st) f cdv A outer s H E k p hr).X i) a (C.xc c) dx) →
      DSk (famH C mg base (n :: N) Sc.nd qual (defScope st) f cdv A outer s H E k p hr) (defBody st) ⟨DL.start (n :: N) [.cst (.ref a)], some (dx, .xd ((excFields c).zip fs))⟩ (ψ c fs) PF) (hm : mg x = some (.ref f)) (hb : Binds C.K fd [n] []) : SortOk C.P C.w C mg base (k + 1) x (sortO L ψ) :=
  ⟨f, fd, [n], fnHx F Sc fun c fs d h a dx p cdv A outer s H E hr gd pin => by
    obtain ⟨h1, h2⟩ := sortO_eq h
    exact body c fs h1 a dx p cdv A outer s H E hr gd pin d h2, hm, F.kp, hb⟩
end
section
variable {F : Fam} {S : ST} {e : Expr} {pos p q : Pos} {a dx : Addr} {fs : List D} {L Lc : List Nat} {c t : Nat} {nm : Str}
theorem p_isX (tx : TxE F.C F.mg L Lc) (hc : c ∈ L) (hp : ∀ i, HX.PinX (F.X i) a (F.C.xc c) dx) (he : DEp F e S (.ok (.cst (.ref a)))) (hm : F.mg "isinstance" = none) (t : Nat) (ht : t ∈ Lc := by decide) (hn : nm = excName t := by rfl) (hg : S.g = some (dx, .xd ((excFields c).zip fs)) := by rfl)
    (hgl : ∀ i, Gl (F.X i) "isinstance" := by intro _; rfl) (hgn : ∀ i, Gl (F.X i) nm := by intro _; rfl) (hdb : (nm == ("__debug__" : Str)) = false := by decide)
    (hs : ∀ i, starEach [e, .Name nm q] (F.X i).env = (false, eval e (F.X i).env) :: starEach [.Name nm q] (F.X i).env := by intro _; rfl) (hs2 : ∀ i, starEach [.Name nm q] (F.X i).env = (false, eval (.Name nm q) (F.X i).env) :: starEach [] (F.X i).env := by intro _; rfl) (hpl : ∀ i, (backTo pos (starEach [.Name nm q] (F.X i).env)).any (·.1) = false := by intro _; rfl) :
    DEp F (.Call (.Name "isinstance" p) [e, .Name nm q] [] pos) S (.ok (.bl (isE c t))) := fun d z => by
  cases z
  subst hn
  exact de_isX hp (tx.ex c hc) hg (he _ rfl) (de_glob (tx.cn t ht) (v := .ref (F.C.xc t)) rfl (fun _ => .cst _) hgn hdb) (cv0 := .ref (F.C.xc t)) (fun u r => r) (tx.ki c hc t ht) hm hgl hs hs2 hpl
theorem p_isXB (tx : TxE F.C F.mg L Lc) (hc : c ∈ L) (hp : ∀ i, HX.PinX (F.X i) a (F.C.xc c) dx) (he : DEp F e S (.ok (.cst (.ref a)))) (hm : F.mg "isinstance" = none) (T : String) (hT : T ∈ ["ValueError", "LookupError", "ArithmeticError"] := by decide) (hTn : nm ∈ [("ValueError" : Str), "LookupError", "ArithmeticError"] := by decide) (hv : bootBuiltins nm = some (.type T) := by decide +kernel) (hg : S.g = some (dx, .xd ((excFields c).zip fs)) := by rfl)
    (hgl : ∀ i, Gl (F.X i) "isinstance" := by intro _; rfl) (hgn : ∀ i, Gl (F.X i) nm := by intro _; rfl) (hn : nm ≠ "__name__" := by decide) (hdb : (nm == ("__debug__" : Str)) = false := by decide)
    (hs : ∀ i, starEach [e, .Name nm q] (F.X i).env = (false, eval e (F.X i).env) :: starEach [.Name nm q] (F.X i).env := by intro _; rfl) (hs2 : ∀ i, starEach [.Name nm q] (F.X i).env = (false, eval (.Name nm q) (F.X i).env) :: starEach [] (F.X i).env := by intro _; rfl) (hpl : ∀ i, (backTo pos (starEach [.Name nm q] (F.X i).env)).any (·.1) = false := by intro _; rfl) :
    DEp F (.Call (.Name "isinstance" p) [e, .Name nm q] [] pos) S (.ok (.bl (isEB c T))) := fun d z => by
  cases z
  exact de_isX hp (tx.ex c hc) hg (he _ rfl) (de_bltn (tx.b3 nm hTn) hv (v := .ty T) rfl hgn hn hdb) (cv0 := .type T) (fun u r => r) (tx.kb c hc T hT) hm hgl hs hs2 hpl
def fxO (c : Nat) (fs : List D) (f : Str) : O D := match ((excFields c).zip fs).lookup f with
  | some d => .ok d
  | none => .bad
theorem zip_mem {f : Str} {d : D} : ∀ {ns : List Str} {fs : List D}, (ns.zip fs).lookup f = some d → f ∈ ns
  | [], _, h => by simp at h
  | _ :: _, [], h => by simp at h
  | n :: ns, g :: fs, h => by
    rw [List.zip_cons_cons, List.lookup_cons] at h
    cases e : (f == n) with
    | true => rw [eq_of_beq e]; exact List.mem_cons_self
    | false => rw [e] at h; exact List.mem_cons_of_mem _ (zip_mem h)
theorem p_fx (tx : TxE F.C F.mg L Lc) (hc : c ∈ L) (hp : ∀ i, HX.PinX (F.X i) a (F.C.xc c) dx) (he : DEp F e S (.ok (.cst (.ref a)))) {f : Str} (hg : S.g = some (dx, .xd ((excFields c).zip fs)) := by rfl)
    (hb : ∀ i, attributeBase e f (F.X i).env (eval e (F.X i).env) = eval e (F.X i).env := by intro _; rfl) : DEp F (.Attribute e f pos) S (fxO c fs f) := fun d z => by
  unfold fxO at z
  split at z
  · rename_i d' e1
    cases z
    exact de_fx hp (tx.ex c hc) (tx.fl c hc f (zip_mem e1)) hg (he _ rfl) e1 hb
  · cases z
end
def ansO (ψ : Nat → List D → O D) : Xr → O D
  | .r d => .ok (.lst [.str "returned", d])
  | .x c fs => ψ c fs
@[simp] theorem ansO_r (ψ : Nat → List D → O D) (d : D) : ansO ψ (.r d) = .ok (.lst [.str "returned", d]) := rfl
@[simp] theorem ansO_x (ψ : Nat → List D → O D) (c : Nat) (fs : List D) : ansO ψ (.x c fs) = ψ c fs := rfl
section
variable {F : Fam} {S : ST} {body : Expr} {pos p lpos : Pos} {k : Nat} {x : Str} {ψ : Nat → List D → O D} {params : Arguments} {scope : Scope} {oz : O Xr} {c P0 : Addr} {qual : Str}
theorem p_answer [Calm F] (lt : LamT F c P0 qual) (an : AnsOk F.P F.w F.C F.mg F.base k x ψ) (hG : ∀ i, (F.X i).A.guards = some []) (hb : ∀ E, DEpX (famL F scope E k) body S (PLm E) oz) (hk : k + 2 ≤ F.k := by exact Nat.le_of_ble_eq_true rfl)
    (L : ∀ i, LamX.lamSB (F.X i).env.scope scope = true := by intro _; kernel_rfl) (hdef : ∀ i, defaultsOf params (F.X i).env = ([], []) := by intro _; rfl)
    (hbind : ∀ (q : Str) (cl : List (Str × Addr)) (pm cv ctv : Value), bindArgs (PySem.W.kla_fn "<lambda>" q params body scope cl pm cv ctv) ⟨[], []⟩ = pure [] := by intro _ _ _ _ _; rfl)
    (hgl : ∀ i, Gl (F.X i) x := by intro _; rfl) (hdb : (x == ("__debug__" : Str)) = false := by decide) : DEp F (.Call (.Name x p) [.Lambda params body scope lpos] [] pos) S (oz.bind (ansO ψ)) := fun d q => by
  obtain ⟨z, h1, h2⟩ := O.bind_eq q
  refine de_answer lt an hG hk (fun i => LamX.lamS_by (L i)) hdef hbind (fun E => hb E z h1) hgl hdb ?_
  cases z with
  | r d0 => cases h2; exact .inl ⟨d0, rfl, rfl⟩
  | x cc fs => exact .inr ⟨cc, fs, rfl, h2⟩
end
section
variable {F : Fam} {S : ST} {e a : Expr} {es : List Expr} {kws : List Keyword} {pos p apos : Pos} {E : XK} {k c : Nat} {m : Str} {φ : List D → O Xr} {oa : O D} {os : O (List D)}
end
end SL
namespace SL
open PySem L2 DL
variable [TabL]
section
variable {F : Fam} {S : ST} {pos : Pos}
def bi_reprZ : List D → O D
  | [.dic []] => .ok (.str "{}")
  | [.int i] => if i.natAbs.log2 < 1920 then .ok (.str (toString i)) else .bad
  | ds => bi_reprY ds
theorem ca_reprD0 (hG : ∀ i, (F.X i).A.guards = some []) : CaD F (.builtin "repr") [.dic []] (.str "{}") :=
  ⟨fun xs H Q => ∃ a o, xs = [.ref a] ∧ H a = some (ND.NDO F.C.P F.C.w a o []) ∧ Q (.str "{}") H, fun i => by
    intro pins s σ H xs us Q I r h
    obtain ⟨a, o, rfl, ha, q⟩ := h
    obtain ⟨u, rfl, rx⟩ := vals1 r
    cases (show u = Value.ref a from rx)
    obtain ⟨⟨_, hsm, _, es, ep, h4, h5, h6, h7⟩, _, _⟩ := I.hok a _ ha
    have e0 : es.toList = [] := h7
    have rd : Reads s.heap (.ref a) (.dict []) (a :: [] ++ []) := Reads.dict (kvs := []) h4 h5.1 h6 (by rw [e0]; exact .nil) (by rw [e0]; exact .nil)
    have hu := F.units i
    refine repr_of_reads' rd rfl (fun _ z => ?_) (hG i) ?_ (fun _ _ z => z) (fun h' t tk kp => ⟨.str "{}", H, I.kept kp, ⟨t, rfl⟩, q⟩) ?_
    · have e1 : sysModules = a := by simpa using z
      rw [e1] at hsm
      simp at hsm
    · show (F.X i).A.units + (0 + 1 + 1) < cLine
      omega
    · decide, fun G H us s h Q q => by
    cases h with
    | cons h l => cases l; cases h with
      | @dN a o xs kds h1 h3 => cases h3; exact ⟨a, o, rfl, s _ _ h1, q _ _ _ (.refl s) (.str _)⟩⟩
theorem ca_reprI {i : Int} (hi : i.natAbs.log2 < 1920) : CaD F (.builtin "repr") [.int i] (.str (toString i)) :=
  ⟨fun xs H Q => xs = [.int i] ∧ Q (.str (toString i)) H, fun k => by
    intro pins s σ H xs us Q I r h
    obtain ⟨rfl, q⟩ := h
    obtain ⟨u, rfl, rx⟩ := vals1 r
    obtain ⟨t, rfl⟩ := rx
    exact PySem.P.repr_of_int hi ⟨.str _, H, I.tok _, ⟨_, rfl⟩, q⟩, fun G H us s h Q q => by
    cases h with
    | cons h l => cases h; cases l; exact ⟨rfl, q _ _ _ (.refl s) (.str _)⟩⟩
theorem s_reprZ (hG : ∀ i, (F.X i).A.guards = some []) : CaS F (.builtin "repr") bi_reprZ := fun ds z h => by
  unfold bi_reprZ at h
  split at h
  · cases h; exact ca_reprD0 hG
  · split at h
    · cases h; exact ca_reprI (by assumption)
    · cases h
  · exact s_reprY hG _ _ h
end
end SL
namespace SL
open PySem L2 DL
variable [TabL]
section
variable {F : Fam} {S : ST} {a : Expr} {oe : O D} {rest : List Stmt} {R : Type} {P : R → Po}
theorem k_raiseE [Calm F] {c : Nat} {cn : Str} {p pos pos2 : Pos} {rx : Nat → List D → R} (T : ∃ qn fI, PySem.XvX.XvTxt F.C.K F.mg (excName c) qn (F.C.xc c) fI) (he : DEp F a S oe) (hn : cn = excName c := by rfl) (hf : excFields c = [("value" : Str)] := by rfl) (tk : ∀ d i, Takes (F.X i) (P (rx c [d])).W := by intro _ _; exact takes_of rfl rfl rfl rfl) (hx : ∀ d, (P (rx c [d])).xc c [d] S := by intro _; rfl)
    (hg : ∀ i, Gl (F.X i) cn := by intro _; rfl) (hdb : (cn == ("__debug__" : Str)) = false := by decide)
    (hs : ∀ i, starEach (a :: []) (F.X i).env = (false, eval a (F.X i).env) :: starEach [] (F.X i).env := by intro _; rfl) (hpl : ∀ i, (backTo pos (starEach [] (F.X i).env)).any (·.1) = false := by intro _; rfl) :
    DSk F (.Raise (some (.Call (.Name cn p) [a] [] pos)) none pos2 :: rest) S (oe.bind fun d => .ok (rx c [d])) P := by
  obtain ⟨qn, fI, T⟩ := T
  subst hn
  exact k_raiseV T he hf tk hx hg hdb hs hpl
end
end SL
namespace L2
open PySem PySem.Spec PyProof.Rows
variable {X : Cx}
end L2
namespace SL
open PySem L2 DL
variable [TabL]
variable {F : Fam}
end SL
namespace DL
open PySem L2 PyProof.Rows
variable [TabL]
inductive Xi where
  | r (fs : List (Str × D))
  | x (c : Nat) (fs : List D)
section
variable {C : Kc} {mg : Str → Option Value} {base : Heap}
end
section
variable (P : Program) (w : World) (C : Kc) (mg : Str → Option Value) (base : Heap)
end
section
variable {F : Fam} {S S1 : ST} {e a : Expr} {es : List Expr} {kws : List Keyword} {ds : List D} {pos p : Pos} {E : XK} {k : Nat} {nm : Str}
end
end DL
namespace SL
open PySem L2 DL
variable [TabL]
section
variable {C : Kc} {mg : Str → Option Value} {base : Heap} {x qual : Str} {st : Stmt} {f : Addr} {fd : FuncData} {n : Str} {N ps : List Str} {k c : Nat}
end
section
variable {F : Fam} {S : ST} {e : Expr} {es : List Expr} {kws : List Keyword} {os : O (List D)} {pos p : Pos} {E : XK} {k c : Nat} {nm : Str} {ψ : List D → O Xi}
end
end SL
namespace PySem
namespace XvI
open PySem.W PySem.Calls PyProof.Rows PySem.HandSPX
def iA (p1 p2 : Pos) : Arguments := { posonlyargs := [], args := [{ arg := "self", annotation := none, pos := p1 }, { arg := "index", annotation := none, pos := p2 }], vararg := none, kwonlyargs := [], kw_defaults := [], kwarg := none, defaults := [] }
def iB (q1 q2 q3 q4 : Pos) : List Stmt := [.Assign [.Attribute (.Name "self" q1) "index" q2] (.Name "index" q3) q4]
def iS : Scope := { kind := .function, names := [(PySem.Str.ofString "self", .local), (PySem.Str.ofString "index", .local)], isGenerator := false, isCoroutine := false, more := [] }
structure XiTxt (K : Frag) (mg : Str → Option Value) (cn : Str) (qn : Str) (C fI : Addr) : Prop where
  gC : mg cn = some (.ref C)
  cls : ∃ nm q N bs bm sn sub ab col dd k0 k1 k2 k3 k5, K.lookup C = some (excClassObj nm q C N bs bm true sn sub ab col dd k0 k1 k2 k3 k5 "ValueError.__new__") ∧ refsVE bm = true
  sa : findIn K (.ref C) "__setattr__" = some (some (.builtin "object.__setattr__"))
  ga : findIn K (.ref C) "__getattribute__" = some (some (.builtin "BaseException.__getattribute__"))
  gg : findIn K (.ref C) "__getattr__" = some none
  noN : findIn K (.ref C) "index" = some none
  iC : findIn K (.ref C) "__init__" = some (some (.ref fI))
  tC : typeIn K (.ref fI) = some (.type "function")
  kC : keepIn K (.ref C) = true
  exC : subIn K (.ref C) (.type "BaseException") = some true
  tyC : typeIn K (.ref C) = some (.type "type")
  hdC : hasDictIn K C = true
  te : exmOne K (.ref C) (.ref C) = some true
  fn : ∃ (oc : Value) (od : Option Addr) (kV doc pm : Value) (an : Option Addr) (cdv ct : Value) (osl : Array (Option Value)) (p1 p2 q1 q2 q3 q4 : Pos),
    K.lookup fI = some ⟨oc, od, .func (fnOf "__init__" qn (iA p1 p2) (iB q1 q2 q3 q4) iS .none kV doc pm an cdv ct), osl⟩ ∧ codeIn K cdv qn = true
structure XiEnd (h h' : Heap) (x C dx t1 : Addr) (v : Value) : Prop where
  keep : ∀ b o, b ≠ x → h.get? b = some o → h'.get? b = some o
  obj : h'.get? x = some { cls := .ref C, dict := some dx, data := .fields #[.ref t1, .none, .none, .none, .bool false, .none] }
  dbig : h.objs.size ≤ dx
  dne : dx ≠ x
  ns : h'.Ns1 dx (fun y => if y = "index" then some v else none)
structure XiMade (h h' : Heap) (e C d : Addr) (v : Value) : Prop where
  keep : ∀ b o, h.get? b = some o → h'.get? b = some o
  new : h.objs.size ≤ e
  obj : ∃ oe vs, h'.get? e = some oe ∧ oe.cls = .ref C ∧ oe.dict = some d ∧ oe.data = .fields vs ∧ vs[1]? = some .none ∧ vs[2]? = some .none ∧ 4 < vs.size
  dbig : h.objs.size ≤ d
  dne : d ≠ e
  ns : h'.Ns1 d (fun y => if y = "index" then some v else none)
section
variable {prog : Program} {w : World} {A : Around} {E : Value → Shared → Prop} {R : Result → Shared → Prop} {s : Shared} {K : Frag} {mg : Str → Option Value} {cn : Str} {qn : Str} {C fI : Addr}
end
end XvI
end PySem
namespace L2
open PySem PySem.Spec PyProof.Rows
section
variable {X : Cx} {cn : Str} {qn : Str} {C fI : Addr}
end
end L2
namespace EXX
open PySem L2 DL EX
variable {K : PySem.W.Frag}
def tyB (K : PySem.W.Frag) (v : Value) (t : String) : Bool := match PySem.W.typeIn K v with
  | some (.type x) => decide (x = t)
  | _ => false
theorem tyB_ok {v : Value} {t : String} (h : tyB K v t = true) : PySem.W.typeIn K v = some (.type t) := by
  unfold tyB at h
  split at h
  · rename_i x e
    rw [e, of_decide_eq_true h]
  · cases h
def clsB (K : PySem.W.Frag) (C : Addr) : Bool := match K.lookup C with
  | some ⟨.type T, _, .cls cd, sl⟩ => decide (T = "type") && (!cd.hasDel && (cd.hasDict && ((match cd.mro with
      | .ref c :: bm => decide (c = C) && PySem.HandSPX.refsVE bm
      | _ => false) && (match sl.toList with
      | [_, _, _, _, some (.builtin nid), _] => decide (nid = "ValueError.__new__")
      | _ => false))))
  | _ => false
theorem clsB_ok {C : Addr} (h : clsB K C = true) : ∃ nm q N bs bm sn sub ab col dd k0 k1 k2 k3 k5, K.lookup C = some (excClassObj nm q C N bs bm true sn sub ab col dd k0 k1 k2 k3 k5 "ValueError.__new__") ∧ PySem.HandSPX.refsVE bm = true := by
  unfold clsB at h
  split at h
  · rename_i T dd cd sl e
    obtain ⟨h1, h⟩ := He.ba h
    obtain ⟨h2, h⟩ := He.ba h
    obtain ⟨h3, h⟩ := He.ba h
    obtain ⟨h4, h5⟩ := He.ba h
    obtain ⟨nm, bs, mro, ns, qn, hdct, sn, sub, ab, col, hdel⟩ := cd
    dsimp only at h2 h3 h4
    rcases mro with _ | ⟨v, bm⟩
    · cases h4
    · obtain ⟨c, rfl⟩ : ∃ c, v = .ref c := by cases v <;> first | exact ⟨_, rfl⟩ | cases h4
      obtain ⟨h6, h7⟩ := He.ba (show (decide (c = C) && PySem.HandSPX.refsVE bm) = true from h4)
      split at h5
      · rename_i k0 k1 k2 k3 nid k5 es
        have e1 := of_decide_eq_true h1
        have e5 := of_decide_eq_true h5
        have e6 := of_decide_eq_true h6
        subst e1 e5 e6 h3
        have e2 : hdel = false := by simpa using h2
        subst e2
        have e4 : sl = #[k0, k1, k2, k3, some (.builtin "ValueError.__new__"), k5] := by
          rw [← Array.toList_inj]
          exact es
        subst e4
        exact ⟨nm, qn, ns, bs, bm, sn, sub, ab, col, dd, k0, k1, k2, k3, k5, e, h7⟩
      · cases h5
  · cases h
def xvB (K : PySem.W.Frag) (C fI : Addr) (f : Str) : Bool := clsB K C && (He.eqO (PySem.W.findIn K (.ref C) "__setattr__") (some (some (.builtin "object.__setattr__"))) && (He.eqO (PySem.W.findIn K (.ref C) "__getattribute__") (some (some (.builtin "BaseException.__getattribute__"))) &&
  (He.eqO (PySem.W.findIn K (.ref C) "__getattr__") (some none) && (He.eqO (PySem.W.findIn K (.ref C) f) (some none) && (He.eqO (PySem.W.findIn K (.ref C) "__init__") (some (some (.ref fI))) && (tyB K (.ref fI) "function" && (PySem.W.keepIn K (.ref C) &&
  (eqB (PySem.W.subIn K (.ref C) (.type "BaseException")) true && (tyB K (.ref C) "type" && (PySem.W.hasDictIn K C && eqB (PySem.W.exmOne K (.ref C) (.ref C)) true))))))))))
theorem xv_of {mg : Str → Option Value} {cn qn : Str} {C fI : Addr} {fd : FuncData} {p1 p2 q1 q2 q3 q4 : Pos} (g : mg cn = some (.ref C)) (h : xvB K C fI "value" = true) (F : FunD K "__init__" qn (PySem.XvX.iA p1 p2) (PySem.XvX.iB q1 q2 q3 q4) PySem.XvX.iS [] [] fI fd) : PySem.XvX.XvTxt K mg cn qn C fI := by
  obtain ⟨h1, h⟩ := He.ba h
  obtain ⟨h2, h⟩ := He.ba h
  obtain ⟨h3, h⟩ := He.ba h
  obtain ⟨h4, h⟩ := He.ba h
  obtain ⟨h5, h⟩ := He.ba h
  obtain ⟨h6, h⟩ := He.ba h
  obtain ⟨h7, h⟩ := He.ba h
  obtain ⟨h8, h⟩ := He.ba h
  obtain ⟨h9, h⟩ := He.ba h
  obtain ⟨h10, h⟩ := He.ba h
  obtain ⟨h11, h12⟩ := He.ba h
  obtain ⟨oc, od, dV, kV, doc, pm, an, cdv, ct, osl, e, lk, hcd, hD, _⟩ := F.ex
  rcases hD with ⟨_, rfl⟩ | ⟨z, _⟩
  · subst e
    exact ⟨g, clsB_ok h1, eqO_ok h2, eqO_ok h3, eqO_ok h4, eqO_ok h5, eqO_ok h6, tyB_ok h7, h8, eqB_ok h9, tyB_ok h10, h11, eqB_ok h12, ⟨oc, od, kV, doc, pm, an, cdv, ct, osl, p1, p2, q1, q2, q3, q4, lk, hcd⟩⟩
  · exact absurd rfl z
theorem xv_at {mg : Str → Option Value} {cn qn : Str} {C fI : Addr} {fd : FuncData} {st : Stmt} (hs : ∃ p1 p2 q1 q2 q3 q4, defArgs st = PySem.XvX.iA p1 p2 ∧ defBody st = PySem.XvX.iB q1 q2 q3 q4 ∧ defScope st = PySem.XvX.iS) (g : mg cn = some (.ref C)) (h : xvB K C fI "value" = true) (F : FunD K "__init__" qn (defArgs st) (defBody st) (defScope st) [] [] fI fd) :
    ∃ qn fI, PySem.XvX.XvTxt K mg cn qn C fI := by
  obtain ⟨p1, p2, q1, q2, q3, q4, e1, e2, e3⟩ := hs
  rw [e1, e2, e3] at F
  exact ⟨qn, fI, xv_of g h F⟩
def exB (K : PySem.W.Frag) (C : Addr) : Bool := (PySem.W.clsIn K C).isSome && (He.eqO (PySem.W.findIn K (.ref C) "__getattribute__") (some (some (.builtin "BaseException.__getattribute__"))) && (He.eqO (PySem.W.findIn K (.ref C) "__getattr__") (some none) &&
  (eqB (PySem.W.subIn K (.ref C) (.type "BaseException")) true && (PySem.W.hasDictIn K C && (He.eqO (PySem.W.findIn K (.ref C) "__class__") (some (some (.builtin "object.__class__"))) && (getB K && eqB (PySem.W.mroIn K C (.type "object")) true))))))
theorem exB_ok {C : Addr} (h : exB K C = true) : HX.ExC K C := by
  obtain ⟨h1, h⟩ := He.ba h
  obtain ⟨h2, h⟩ := He.ba h
  obtain ⟨h3, h⟩ := He.ba h
  obtain ⟨h4, h⟩ := He.ba h
  obtain ⟨h5, h⟩ := He.ba h
  obtain ⟨h6, h⟩ := He.ba h
  obtain ⟨h7, h8⟩ := He.ba h
  exact ⟨h1, eqO_ok h2, eqO_ok h3, eqB_ok h4, h5, eqO_ok h6, eqO_ok (He.ba h7).1, eqB_ok (He.ba h7).2, eqB_ok h8⟩
def xa (K : PySem.W.Frag) (c : Nat) : Addr := He.ga K (SL.excName c)
def txB (K : PySem.W.Frag) (L Lc : List Nat) : Bool := (L.all fun c => exB K (xa K c)) && ((Lc.all fun t => (He.Fa.glo (SL.excName t)).ok K) && ((L.all fun c => Lc.all fun t => eqB (PySem.W.kitOne K (.ref (xa K c)) (.ref (xa K t))) (SL.isE c t)) &&
  ((L.all fun c => ["ValueError", "LookupError", "ArithmeticError"].all fun T => eqB (PySem.W.kitOne K (.ref (xa K c)) (.type T)) (SL.isEB c T)) && ((L.all fun c => (excFields c).all fun f => He.eqO (PySem.W.findIn K (.ref (xa K c)) f) (some none)) &&
  ((L.all fun c => eqB (PySem.W.exmAny K (.ref (xa K c)) [.ref (xa K 124), .ref (xa K 125), .ref (xa K 126)]) true) && ([("ValueError" : Str), "LookupError", "ArithmeticError"].all fun T => (He.Fa.free T).ok K))))))
theorem tx_of {C : Kc} {hp : Heap} {mg : Str → Option Value} {L Lc : List Nat} (hx : C.xc = xa C.K) (X : C.K.In hp) (G : hp.Ns mainGlobals mg) (h : txB C.K L Lc = true) : SL.TxE C mg L Lc := by
  obtain ⟨h1, h⟩ := He.ba h
  obtain ⟨h2, h⟩ := He.ba h
  obtain ⟨h3, h⟩ := He.ba h
  obtain ⟨h4, h⟩ := He.ba h
  obtain ⟨h5, h⟩ := He.ba h
  obtain ⟨h6, h7⟩ := He.ba h
  refine ⟨fun c hc => ?_, fun t ht => ?_, fun c hc t ht => ?_, fun c hc T hT => ?_, fun c hc f hf => ?_, fun c hc => ?_, fun T hT => ?_⟩
  · rw [hx]; exact exB_ok (List.all_eq_true.mp h1 c hc)
  · rw [hx]; exact He.glo_ok X G (List.all_eq_true.mp h2 t ht)
  · rw [hx]; exact eqB_ok (List.all_eq_true.mp (List.all_eq_true.mp h3 c hc) t ht)
  · rw [hx]; exact eqB_ok (List.all_eq_true.mp (List.all_eq_true.mp h4 c hc) T hT)
  · rw [hx]; exact eqO_ok (List.all_eq_true.mp (List.all_eq_true.mp h5 c hc) f hf)
  · rw [hx]; exact eqB_ok (List.all_eq_true.mp h6 c hc)
  · exact He.free_ok X G (List.all_eq_true.mp h7 T hT)
def cTa (K : PySem.W.Frag) (f : Addr) : Addr × Addr := match K.lookup f with
  | some ⟨_, _, .func u, _⟩ => (match u.code with
    | .ref c => (c, match K.lookup c with
      | some ⟨_, _, .fields vs, _⟩ => (match vs.getD 11 .none with
        | .ref P => P
        | _ => 0)
      | _ => 0)
    | _ => (0, 0))
  | _ => (0, 0)
def codeB (K : PySem.W.Frag) (f : Addr) : Bool := (match K.lookup f with
  | some ⟨_, _, .func u, _⟩ => (match u.code with
    | .ref c => decide (c = (cTa K f).1)
    | _ => false)
  | _ => false) && (PySem.W.codeHdIn K (cTa K f).1 (cTa K f).2 && ((match K.lookup (cTa K f).2 with
    | none => true
    | _ => false) && !(Nat.beq (cTa K f).2 mainGlobals)))
theorem codeB_ok {f : Addr} (h : codeB K f = true) : (∀ {name qual : Str} {params : Arguments} {body : List Stmt} {scope : Scope} {dvs : List V} {kws : List (Str × V)} {fd : FuncData}, FunD K name qual params body scope dvs kws f fd → fd.code = .ref (cTa K f).1) ∧ PySem.W.codeHdIn K (cTa K f).1 (cTa K f).2 = true ∧ K.lookup (cTa K f).2 = none ∧ mainGlobals ≠ (cTa K f).2 := by
  obtain ⟨h1, h⟩ := He.ba h
  obtain ⟨h2, h⟩ := He.ba h
  obtain ⟨h3, h4⟩ := He.ba h
  refine ⟨fun {name qual params body scope dvs kws fd} F => ?_, h2, ?_, fun z => ?_⟩
  · obtain ⟨oc, od, dV, kV, doc, pm, an, cdv, ct, osl, e, lk, _⟩ := F.ex
    rw [lk] at h1
    subst e
    dsimp only [PySem.W.fnOf] at h1
    split at h1
    · rename_i c ec
      rw [← of_decide_eq_true h1]
    · cases h1
  · split at h3
    · assumption
    · cases h3
  · rw [← z] at h4
    exact absurd h4 (by decide)
end EXX
namespace DL
open PySem L2
variable [TabL]
variable {F : Fam} {S S1 : ST} {P : Po} {rest : List Stmt}
end DL
namespace SL
open PySem L2 DL
variable [TabL]
section
variable {F : Fam} {S : ST} {a : Expr} {oe : O D} {rest : List Stmt} {R : Type} {P : R → Po}
end
end SL
namespace EXX
open PySem L2 DL EX
variable {K : PySem.W.Frag}
end EXX
namespace DL
open PySem L2
variable [TabL]
variable {F : Fam} {S S1 : ST} {P : Po} {e : Expr} {d : D} {pos : Pos}
end DL
namespace SL
open PySem L2 DL
variable [TabL]
variable {F : Fam} {S : ST} {e : Expr} {oz : O Xr} {pos : Pos} {P : Po}
end SL
namespace L2
open PySem PySem.Spec PyProof.Rows
variable {X : Cx}
def rCntB (K : PySem.W.Frag) : V → List V → Hp → VK → Prop := fun x xs H Q => ∃ (p : Addr) (bs : List Bool) (k : Bool), x = .ref p ∧ xs = [.bl k] ∧ SqL K H p (bs.map V.bl) ∧ Q (.int (bs.count k : Nat)) H
theorem flat_bls (bs : List Bool) : (bs.map V.bl).all flatV = true := List.all_eq_true.mpr fun x hx => by
  obtain ⟨b, _, rfl⟩ := List.mem_map.mp hx
  rfl
theorem eqU_count {k : Bool} : ∀ {us : List Value} {bs : List Bool}, Vals (bs.map V.bl) us → us.countP (eqU (.bl k)) = bs.count k
  | _, [], .nil => rfl
  | _, b :: bs, .cons r h => by
    have ih := eqU_count (k := k) h
    cases r
    rw [List.countP_cons, List.count_cons, ih]
    rfl
theorem mt_bcount : MtR X "list.count" (rCntB X.K) := by
  intro pins s σ H x xs v us Q I rx rxs h
  obtain ⟨p, bs, k, rfl, rfl, hs, q⟩ := h
  cases rx
  obtain ⟨u, rfl, ru⟩ := rxs.one
  cases ru
  obtain ⟨its, rv, ⟨⟨cls, dd, data, sl⟩, n, ho, hc, hdn, hd⟩, hlen⟩ := I.list hs
  simp only at hc hd
  subst hc hd
  refine call_meets PySem.F.slot_list_count ⟨_, ho, rfl⟩ PySem.F.entry_list_count (PySem.F.args_list_count_2 _ _)
    (SeqAt.list_countAt p its.toArray n dd sl (.bool k) (eqU (.bl k))) ⟨ho, fun y hy => mem_eqAt (x := .bl k) rfl rfl rv (flat_bls bs) y (by simpa using hy), ?_⟩
  have ec : its.toArray.toList.countP (eqU (.bl k)) = bs.count k := eqU_count rv
  refine ⟨.int (bs.count k : Nat), H, I.tok _, ⟨s.toks, ?_⟩, q⟩
  show Value.int ((its.toArray.toList.countP (eqU (.bl k)) : Nat) : Int) s.toks = Value.int ((bs.count k : Nat) : Int) s.toks
  rw [ec]
end L2
namespace DL
open PySem L2
variable [TabL]
variable {F : Fam} {S S1 S2 : ST} {o e : Expr}
theorem de_lcount {apos pos : Pos} {bs : List Bool} {k : Bool} (ho : DE F o S S1 (.lst (bs.map D.bl))) (he : DE F e S1 S2 (.bl k))
    (hbase : ∀ i, attributeBase o "count" (F.X i).env (eval o (F.X i).env) = eval o (F.X i).env) (hline : (apos.endLine == pos.line) = true)
    (hfew : ∀ i, ((backTo pos (starEach [e] (F.X i).env)).all (fun x => !x.1) && (backToKw pos (keywordEach [] (F.X i).env)).all (fun x => x.1.isSome)
      && decide ([e].length + ([] : List Keyword).length + (if ([] : List Keyword).isEmpty then 0 else 1) < 30)) = true)
    (hs : ∀ i, starEach [e] (F.X i).env = (false, eval e (F.X i).env) :: starEach [] (F.X i).env) (hpl : ∀ i, (backTo pos (starEach [] (F.X i).env)).any (·.1) = false) :
    DE F (.Call (.Attribute o "count" apos) [e] [] pos) S S2 (.int (bs.count k : Nat)) :=
  de_of (te := tBM F.C.K "list" (rCntB F.C.K) (anyE F o) (tCons (anyE F e) tNil)) (fun i => by
    have := pe_bm (X := F.X i) PySem.F.plainAttrs_list PySem.F.slot_list_count PySem.F.type_list_count mt_bcount (anyE_ok (e := o) i) (pa_cons (anyE_ok (e := e) i) pa_nil (hs i)) (hbase i) (hfew i) hline (hs i) (hpl i)
    rw [F.hK i] at this
    exact this) fun σ G H c Q q => ho σ G H c _ fun v G1 H1 m1 dv => by
    cases dv with
    | @lst a vs _ h1 h2 =>
      have ev := denL_bl h2
      subst ev
      refine ⟨.inl ⟨rfl, _, m1.cx.sub.seq h1⟩, ?_⟩
      refine he σ G1 H1 m1.cx _ fun w G2 H2 m2 dw => ?_
      cases dw
      exact ⟨a, bs, k, rfl, rfl, (m1.trans m2).cx.sub.seq (m2.go.gg.seq h1), q _ _ _ (m1.trans m2) (.int _)⟩
end DL
namespace SL
open PySem L2 DL
variable [TabL]
variable {F : Fam} {S : ST} {o e : Expr} {oa ob : O D} {apos pos : Pos}
def t_count : D → D → O D
  | .lst ds, .bl k => op2 (bls? ds) fun bs => .ok (.int (bs.count k : Nat))
  | _, _ => .bad
theorem p_count (ho : DEp F o S oa) (he : DEp F e S ob)
    (hbase : ∀ i, attributeBase o "count" (F.X i).env (eval o (F.X i).env) = eval o (F.X i).env := by intro _; rfl) (hline : (apos.endLine == pos.line) = true := by rfl)
    (hfew : ∀ i, ((backTo pos (starEach [e] (F.X i).env)).all (fun x => !x.1) && (backToKw pos (keywordEach [] (F.X i).env)).all (fun x => x.1.isSome)
      && decide ([e].length + ([] : List Keyword).length + (if ([] : List Keyword).isEmpty then 0 else 1) < 30)) = true := by intro _; rfl)
    (hs2 : ∀ i, starEach [e] (F.X i).env = (false, eval e (F.X i).env) :: starEach [] (F.X i).env := by intro _; rfl) (hpl : ∀ i, (backTo pos (starEach [] (F.X i).env)).any (·.1) = false := by intro _; rfl) :
    DEp F (.Call (.Attribute o "count" apos) [e] [] pos) S (oa.bind fun x => ob.bind fun y => t_count x y) := fun d q => by
  obtain ⟨x, h1, q1⟩ := O.bind_eq q
  obtain ⟨y, h2, q2⟩ := O.bind_eq q1
  unfold t_count at q2
  split at q2
  · rename_i ds k
    obtain ⟨bs, c, q3⟩ := op2_eq q2
    cases q3
    rw [bls?_eq c] at h1
    exact de_lcount (ho _ h1) (he _ h2) hbase hline hfew hs2 hpl
  · cases q2
end SL
namespace SL
open PySem L2 DL
variable [TabL]
section
variable (P : Program) (w : World) (C : Kc) (mg : Str → Option Value) (base : Heap)
def StaX (k c : Nat) (m : Str) (sp : Sp) : Prop := ∃ f fd ps, FnOk P w C.K mg base (L2.CX P w) k f fd ps sp ∧ mg (clsName c) = some (.ref (C.cl c)) ∧ SMet C.K (C.cl c) m f ∧ Binds C.K fd ps []
end
section
variable {F : Fam} {S : ST} {e : Expr} {es : List Expr} {kws : List Keyword} {pos apos p : Pos} {os : O (List D)} {k c : Nat} {m nm : Str} {φ : List D → O Xr} {pl : F.I → Sem Bool} {E : XK}
theorem x_static [Calm F] (cl : StaX F.P F.w F.C F.mg F.base k c m (spFX F.C φ)) (tk : ∀ i, Takes (F.X i) (PLm E).W) (ha : DAp F (e :: es) S os) (hn : nm = clsName c := by rfl) (hk : k ≤ F.k := by exact Nat.le_of_ble_eq_true rfl)
    (hg : ∀ i, Gl (F.X i) nm := by intro _; rfl) (hdb : (nm == ("__debug__" : Str)) = false := by decide)
    (he : ∀ i, starEach (e :: es) (F.X i).env = (false, eval e (F.X i).env) :: starEach es (F.X i).env := by intro _; rfl) (hpl : ∀ i, (backTo pos (starEach es (F.X i).env)).any (·.1) = false := by intro _; rfl)
    (ht : ∀ i, eval (.Call (.Attribute (.Name nm p) m apos) (e :: es) [] pos) (F.X i).env = (do
      let ov ← eval (.Name nm p) (F.X i).env
      standAt apos.atName
      let (f, first) ← holding [ov] (getMethod ov m (pl i))
      callWith pos f first (backTo pos (starEach (e :: es) (F.X i).env)) (backToKw pos (keywordEach [] (F.X i).env))) := by intro _; rfl) :
    DEpX F (.Call (.Attribute (.Name nm p) m apos) (e :: es) [] pos) S (PLm E) (os.bind φ) := fun z q => by
  obtain ⟨ds, h1, q⟩ := O.bind_eq q
  obtain ⟨f, fd, ps, G, hm, sm, hb⟩ := cl
  subst hn
  have dn : DE F (.Name (clsName c) p) S S (.cst (.ref (F.C.cl c))) := de_glob hm (v := .ref (F.C.cl c)) rfl (fun _ => .cst _) hg hdb
  intro σ G0 H cx Q q1 q2
  refine ⟨tSMeth (F.C.cl c) (spFX F.C φ) E (anyE F (.Name (clsName c) p)) (anyA F (e :: es)), fun i => pe_smeth (pl := pl i) (anyE_ok i) (by rw [F.hK i]; exact sm) (fn_atX G i) ((F.room i).mono hk) (by rw [F.hK i]; exact hb) (pass_of tk i) (anyA_ok i) (he i) (hpl i) (ht i), ?_⟩
  refine dn σ G0 H cx _ fun v G1 H1 m1 dv => ?_
  cases dv
  refine ⟨rfl, (ha ds h1).1 σ G1 H1 m1.cx _ fun vs G2 H2 m2 dl => ?_⟩
  exact spx_ev (R := fun ds z => φ ds = .ok z) q (m1.trans m2) dl q1 q2
end
def xap (φ : List D → O D) : Xr → O Xr
  | .r d => (φ [d]).bind fun y => .ok (.r y)
  | .x c fs => .ok (.x c fs)
section
variable {F : Fam} {S : ST} {e : Expr} {pos p : Pos} {oz : O Xr} {nm : Str} {φ : List D → O D} {P : Po}
theorem x_callTy {T : String} (hm : F.mg nm = none) (hv : bootBuiltins nm = some (.type T)) (hr : CaS F (.type T) φ) (ha : DEpX F e S P oz)
    (hg : ∀ i, Gl (F.X i) nm := by intro _; rfl) (hn : nm ≠ "__name__" := by decide) (hdb : (nm == ("__debug__" : Str)) = false := by decide)
    (he : ∀ i, starEach (e :: []) (F.X i).env = (false, eval e (F.X i).env) :: starEach [] (F.X i).env := by intro _; rfl) (hpl : ∀ i, (backTo pos (starEach [] (F.X i).env)).any (·.1) = false := by intro _; rfl) :
    DEpX F (.Call (.Name nm p) [e] [] pos) S P (oz.bind (xap φ)) := fun z q => by
  obtain ⟨x, h1, q⟩ := O.bind_eq q
  have h := ha x h1
  cases x with
  | x c fs =>
    cases q
    intro σ G H cx Q q1 q2
    refine ⟨tCB (fun _ _ _ => False) (tCons (anyE F e) tNil), fun i => pe_callTy (r := fun _ _ _ => False) (fun _ _ _ _ _ _ _ _ _ f => f.elim) (hg i) (by rw [F.hmg i]; exact hm) hv (pa_cons (anyE_ok i) pa_nil (he i)) hn hdb (he i) (hpl i), ?_⟩
    exact h σ G H cx _ (fun d0 hz => nomatch hz) q2
  | r d =>
    obtain ⟨y, h2, q⟩ := O.bind_eq (show O.bind (φ [d]) _ = _ from q)
    cases q
    obtain ⟨r, c1, c2⟩ := hr [d] y h2
    intro σ G H cx Q q1 q2
    refine ⟨tCB r (tCons (anyE F e) tNil), fun i => pe_callTy (c1 i) (hg i) (by rw [F.hmg i]; exact hm) hv (pa_cons (anyE_ok i) pa_nil (he i)) hn hdb (he i) (hpl i), ?_⟩
    refine h σ G H cx _ (fun d0 hz v G2 H2 m dv => ?_) fun cc fs hz => nomatch hz
    cases hz
    exact c2 G2 H2 [v] m.cx.sub (.cons dv .nil) Q fun w G3 H3 p d2 => q1 y rfl w G3 H3 (m.pu p) d2
end
end SL
namespace HX
open PySem PySem.Spec PyProof.Rows L2
section
variable {X : Cx} {x1 x2 : Str} {c1 c2 : Value} {kk : Nat} {body suite : List Stmt} {b₀ : Stmt} {p1 p2 tp pos pos' : Pos} {tb : WX → TS} {ts : Addr → Value → Option Addr → TS}
end
end HX
namespace DL
open PySem L2 PyProof.Rows
variable [TabL]
def trF (F : Fam) (E : XK) : Fam where
  I := { j : F.I × List (Addr × Obj) × (Value → Shared → Prop) // Takes ((F.X j.1).tr j.2.1 j.2.2) (PLm E).W }
  X := fun j => (F.X j.1.1).tr j.1.2.1 j.1.2.2
  P := F.P
  w := F.w
  C := F.C
  mg := F.mg
  base := F.base
  N := F.N
  k := F.k
  hP := fun j => F.hP j.1.1
  hw := fun j => F.hw j.1.1
  hK := fun j => F.hK j.1.1
  hmg := fun j => F.hmg j.1.1
  hbase := fun j => F.hbase j.1.1
  hN := fun j => F.hN j.1.1
  nd := F.nd
  roomH := fun j => F.roomH j.1.1
  cP := F.cP
  cw := F.cw
instance {F : Fam} {E : XK} [Calm F] : Calm (trF F E) := ⟨fun j => F.calm j.1.1, fun j => Calm.h (F := F) j.1.1⟩
end DL
namespace DL
open PySem L2 PyProof.Rows
variable [TabL]
section
variable {F : Fam} {S : ST} {P : Po} {rest : List Stmt} {e : Expr} {z : Xr} {x1 x2 : Str} {c1 c2 : Value} {kk k0 : Nat} {p1 p2 tp pos pos' q q2 q3 : Pos}
end
end DL
namespace SL
open PySem L2 DL
variable [TabL]
structure Tx2 (C : Kc) (mg : Str → Option Value) (A B : Nat) : Prop where
  ga : mg (excName A) = some (.ref (C.xc A))
  gb : mg (excName B) = some (.ref (C.xc B))
  ea : PySem.W.exmAny C.K (.ref (C.xc A)) [.ref (C.xc A), .ref (C.xc B)] = some true
  eb : PySem.W.exmAny C.K (.ref (C.xc B)) [.ref (C.xc A), .ref (C.xc B)] = some true
section
variable {F : Fam} {S : ST} {R : Type} {P : R → Po} {rest : List Stmt} {e : Expr} {oz : O Xr} {x1 x2 : Str} {A B : Nat} {kk k0 : Nat} {p1 p2 tp pos pos' q q2 q3 : Pos} {ret : D → R}
end
end SL
namespace EXX
open PySem L2 DL EX
end EXX
namespace LamX
open PySem PySem.Spec PyProof.Rows L2 DL
theorem law_callGT {P : Program} {w : World} {K : PySem.W.Frag} {mg mb : Str → Option Value} {k : Nat} {fa a : Addr} {cs : List (Addr × Addr)} {fd : FuncData} {x : Str} {sp : Sp} {s₁ : Shared} {vs : List Value} {ns : List Int}
    (KX : K.In s₁.heap) (hns : s₁.heap.Ns mainGlobals mg) (hb : s₁.heap.Ns builtinsNs mb) (hbb : ∀ x : Str, x ≠ "__name__" → mb x = bootBuiltins x) (hlim : s₁.heap.NoLimit) (hg : s₁.gens = #[])
    (hT : ∀ p ∈ cs, s₁.heap.get? p.2 = some { cls := .none, data := .fields #[] }) (nT : ∀ p ∈ cs, K.lookup p.2 = none) (C : ∀ p ∈ cs, PySem.W.CodeHd s₁.heap p.1 p.2)
    (hbm : ∃ (bm : Addr) (ob : Obj), mg "__builtins__" = some (.ref bm) ∧ bm ≠ builtinsNs ∧ s₁.heap.get? bm = some ob ∧ ob.cls = .type "module" ∧ ob.dict = some builtinsNs ∧ ob.data = .plain)
    (ha : s₁.heap.get? a = some { cls := .type "list", data := .seq vs.toArray }) (hi : IntsAre vs ns) (hl : ns.length ≤ sizeLine) (hr : Room k callerA)
    (F : ∀ base : Heap, K.In base → base.Ns mainGlobals mg → (∀ p ∈ cs, TabB base mg p.1 p.2) → FnG P w K mg base k fa fd [x] sp) (hbind : ∀ (s : Shared) (u : Value), BindsTo s fd ⟨[u], []⟩ [(x, u)])
    (hsp : ∀ H : Hp, (∀ p ∈ cs, H p.2 = some (.tbl #[])) → SqL K H a (ns.map V.int) → sp [.ref a] H (fun v _ => v = .bl true) fun _ _ _ => False) :
    codeAny (model P w) callerA (.call (.ref fa) ⟨[.ref a], []⟩) (fun r s' => r = .ok (.ret (.bool true)) ∧ OldK s₁.heap s'.heap ∧ s'.os = s₁.os ∧ AllBare s'.gens) s₁ := by
  have rv := vals_ints hi
  have lenS := hi.length
  have isTab : ∀ b : Addr, b ∈ cs.map (·.2) → s₁.heap.get? b = some { cls := .none, data := .fields #[] } := fun b hb => by
    obtain ⟨p, hp, e⟩ := List.mem_map.mp hb
    rw [← e]
    exact hT p hp
  have scrT : a ∉ cs.map (·.2) := fun z => by
    have q := isTab a z
    rw [ha] at q
    have z' : Data.seq vs.toArray _ = Data.fields #[] := congrArg Obj.data (Option.some.inj q)
    cases z'
  have inTab : ∀ p ∈ cs, p.2 ∈ cs.map (·.2) := fun p hp => List.mem_map.mpr ⟨p, hp, rfl⟩
  -- from an abstract heap in which nothing but the script and the tables may be tracked
  have coreT : ∀ H : Hp, (∀ p ∈ cs, H p.2 = some (.tbl #[])) → (∀ b, H b = none ∨ b ∈ cs.map (·.2) ∨ ∃ o xs, H b = some (.frz o (.lst xs))) → SqL K H a (ns.map V.int) → HOk P w H s₁.heap → (∀ b, H b ≠ none → b = a ∨ b ∈ cs.map (·.2)) → (H a ≠ none → K.lookup a = none) →
      codeAny (model P w) callerA (.call (.ref fa) ⟨[.ref a], []⟩) (fun r s' => r = .ok (.ret (.bool true)) ∧ OldK s₁.heap s'.heap ∧ s'.os = s₁.os ∧ AllBare s'.gens) s₁ := by
    intro H hH hO hS hok hA hK
    have fromB : ∀ {b : Addr} {o : Obj}, s₁.heap.get? b = some o → H b = none → (hidT s₁.heap H).get? b = some o := fun e n => hidT_get e n
    have datN : ∀ {b : Addr} {o : Obj}, s₁.heap.get? b = some o → (∀ vs n, o.data ≠ .seq vs n) → o.data ≠ .fields #[] → H b = none := fun {b o} e h1 h2 => by
      cases q : H b with
      | none => rfl
      | some u =>
        rcases hA b (by rw [q]; simp) with e' | e'
        · rw [e', ha] at e
          cases e
          exact (h1 _ _ rfl).elim
        · rw [isTab b e'] at e
          cases e
          exact (h2 rfl).elim
    have dctN : ∀ {b : Addr} {o : Obj} {es : Array DictEntry} {ep : Nat}, s₁.heap.get? b = some o → o.data = .dict es ep → H b = none := fun {b o es ep} e d => by
      refine datN e (fun vs n z => ?_) fun z => ?_
      · rw [d] at z
        cases z
      · rw [d] at z
        cases z
    have nsB : ∀ {b : Addr} {m : Str → Option Value}, s₁.heap.Ns b m → (hidT s₁.heap H).Ns b m := fun {b m} ⟨o, es, ep, e, d, r⟩ => ⟨o, es, ep, fromB e (dctN e d), d, r⟩
    have kinB : K.In (hidT s₁.heap H) := fun b o e => fromB (KX b o e) (by
      cases q : H b with
      | none => rfl
      | some u =>
        rcases hA b (by rw [q]; simp) with e' | e'
        · rw [e'] at e q
          rw [hK (by rw [q]; simp)] at e
          cases e
        · obtain ⟨p, hp, ep⟩ := List.mem_map.mp e'
          rw [← ep, nT p hp] at e
          cases e)
    have modB : L2.Mod K mg (hidT s₁.heap H) := ⟨kinB, nsB hns, ⟨mb, nsB hb, hbb⟩, let ⟨mc, h1, h2⟩ := hlim; ⟨mc, nsB h1, h2⟩⟩
    have tabB0 : ∀ p ∈ cs, TabB (hidT s₁.heap H) mg p.1 p.2 := fun p hp => by
      have hTp := hT p hp
      refine ⟨?_, ?_, fun z => ?_⟩
      · obtain ⟨o, us, file, tf, flags, tg, inF, text, tt, e1, r1, r2, r3, r4, r5, r6, r7, r8, hne⟩ := C p hp
        refine ⟨o, us, file, tf, flags, tg, inF, text, tt, fromB e1 (datN e1 (fun vs n z => ?_) fun z => ?_), r1, r2, r3, r4, r5, r6, r7, r8, hne⟩
        · rw [r2] at z
          cases z
        · rw [r2] at z
          cases z
          simp at r3
      · obtain ⟨bm, ob, b1, b2, b3, b4, b5, b6⟩ := hbm
        have nG : bm ≠ mainGlobals := fun q => by
          obtain ⟨o, es, ep, e, hd, _⟩ := hns
          rw [q, e] at b3
          cases b3
          rw [hd] at b6
          cases b6
        have nP : bm ≠ p.2 := fun q => by
          rw [q, hTp] at b3
          cases b3
          cases b6
        refine ⟨bm, ob, b1, b2, nG, nP, fromB b3 (datN b3 (fun vs n z => ?_) fun z => ?_), b4, b5, b6⟩
        · rw [b6] at z
          cases z
        · rw [b6] at z
          cases z
      · obtain ⟨o, es, ep, e, hd, _⟩ := hns
        rw [z, hTp] at e
        cases e
        cases hd
    have e0 : Env0 P w K mg (hidT s₁.heap H) callerA [] s₁ H := ⟨rfl, modB, fun b o e => of_hidT e, Nat.le_of_eq (hidT_size _ _), trivial, fun b hb => absurd (show b ∈ ([] : List Addr) from hb) (by simp), hok, .of_eq hg⟩
    refine codeAny_mono ((F _ kinB (nsB hns) tabB0).runs callerA hr rfl [] s₁ H e0 ⟨[.ref a], []⟩ [.ref a] (hbind s₁ (.ref a)) [.ref a] (fun v _ => v = .bl true) (fun _ _ _ => False) (.cons rfl .nil) (hsp H hH hS)) fun r s' h => ?_
    cases r with
    | error e => exact False.elim h
    | ok fl =>
      cases fl with
      | next => exact False.elim h
      | brk => exact False.elim h
      | cont => exact False.elim h
      | ret u =>
        obtain ⟨v, H', os, bare, un, hok', r', q⟩ := h
        have q' : v = .bl true := q
        subst q'
        obtain rfl : u = Value.bool true := r'
        have key : ∀ b o, b ∉ cs.map (·.2) → s₁.heap.get? b = some o → s'.heap.get? b = some o := fun b o nb e => by
          cases q : H b with
          | none => exact un.keep b o e q (by intro z; exact absurd (show b ∈ ([] : List Addr) from z) (by simp)) (by simp)
          | some u =>
            rcases hO b with z | z | ⟨ob, xs, z⟩
            · rw [q] at z; cases z
            · exact absurd z nb
            · have z2 := un.frzs b ob _ z
              obtain ⟨e1, _⟩ := hok b _ z
              obtain ⟨e2, _⟩ := hok' b _ z2
              rw [e] at e1; cases e1
              exact e2
        have growT : ∀ p ∈ cs, ∃ more : Array Value, s'.heap.get? p.2 = some { cls := .none, data := .fields more } := fun p hp => by
          obtain ⟨more, z⟩ := un.tbls p.2 #[] (hH p hp)
          exact ⟨_, hok' p.2 _ z⟩
        refine ⟨rfl, ⟨fun b o e => ?_, fun b o e => ?_⟩, os, bare⟩
        · by_cases hb : b ∈ cs.map (·.2)
          · obtain ⟨p, hp, ep⟩ := List.mem_map.mp hb
            obtain ⟨more, hm⟩ := growT p hp
            rw [← ep] at e ⊢
            rw [hT p hp] at e
            cases e
            exact .inr (.inl ⟨((C p hp).tab (hT p hp)).isCodeTable, rfl, #[], more, rfl, by rw [Array.empty_append]; exact hm⟩)
          · exact .inl (key b o hb e)
        · by_cases hb : b ∈ cs.map (·.2)
          · obtain ⟨p, hp, ep⟩ := List.mem_map.mp hb
            obtain ⟨more, hm⟩ := growT p hp
            rw [← ep]
            exact ⟨_, hm⟩
          · exact ⟨o, key b o hb e⟩
  cases hk : K.lookup a with
  | some o =>
    have e := KX a o hk
    rw [ha] at e
    cases e
    refine coreT (fun b => if b ∈ cs.map (·.2) then some (.tbl #[]) else none) (fun p hp => if_pos (inTab p hp)) (fun b => ?_) (.inr ⟨_, vs.toArray, _, hk, rfl, rfl, rfl, by rw [List.size_toArray, lenS]; exact hl, by simpa using rv⟩) (fun b u z => ?_) (fun b z => ?_) fun z => absurd (show (if a ∈ cs.map (·.2) then some (HO.tbl #[]) else none) = none from if_neg scrT) z
    · by_cases hb : b ∈ cs.map (·.2)
      · exact .inr (.inl hb)
      · exact .inl (if_neg hb)
    · by_cases hb : b ∈ cs.map (·.2)
      · have z' := (if_pos hb).symm.trans z
        cases z'
        exact isTab b hb
      · have z' := (if_neg hb).symm.trans z
        cases z'
    · by_cases hb : b ∈ cs.map (·.2)
      · exact .inr hb
      · exact absurd (if_neg hb) z
  | none =>
    refine coreT (fun b => if b = a then some (.frz { cls := .type "list", data := .seq vs.toArray } (.lst (ns.map V.int))) else if b ∈ cs.map (·.2) then some (.tbl #[]) else none) (fun p hp => (if_neg (show ¬ p.2 = a from fun z => scrT (by rw [← z]; exact inTab p hp))).trans (if_pos (inTab p hp))) (fun b => ?_)
      (.inl (.inr ⟨{ cls := .type "list", data := .seq vs.toArray }, if_pos rfl⟩)) (fun b u z => ?_) (fun b z => ?_) fun _ => hk
    · by_cases hb : b = a
      · exact .inr (.inr ⟨_, _, if_pos hb⟩)
      · by_cases hb2 : b ∈ cs.map (·.2)
        · exact .inr (.inl hb2)
        · exact .inl ((if_neg hb).trans (if_neg hb2))
    · by_cases hb : b = a
      · have z' := (if_pos hb).symm.trans z
        cases z'
        rw [hb]
        exact ⟨ha, by rw [List.length_map]; exact hl, vs, _, rv, ha⟩
      · have z1 := (if_neg hb).symm.trans z
        by_cases hb2 : b ∈ cs.map (·.2)
        · have z' := (if_pos hb2).symm.trans z1
          cases z'
          exact isTab b hb2
        · have z' := (if_neg hb2).symm.trans z1
          cases z'
    · by_cases hb : b = a
      · exact .inl hb
      · by_cases hb2 : b ∈ cs.map (·.2)
        · exact .inr hb2
        · exact absurd ((if_neg hb).trans (if_neg hb2)) z
end LamX
namespace EXX
open PySem L2 DL EX
def tabsZ (g : Addr → Option Obj) (fs : PySem.W.Frag → List Addr) (K : PySem.W.Frag) : Bool := (fs K).all fun f => codeB K f && (match g (cTa K f).2 with
  | some o => He.emptyTab o
  | none => false)
def obsZ (rs : List DR) (exs : PySem.W.Frag → List Bool) (fs : PySem.W.Frag → List Addr) (g : Addr → Option Obj) : (Bool × List He.FnW) × Bool := (obsY rs exs (KF g), tabsZ g fs (KF g))
def valZ (rs : List DR) : (Bool × List He.FnW) × Bool := (valY rs, true)
structure SaysZ (rs : List DR) (exs : PySem.W.Frag → List Bool) (fs : PySem.W.Frag → List Addr) (h : Heap) (K : PySem.W.Frag) : Prop where
  y : obsY rs exs K = valY rs
  cd : ∀ f ∈ fs K, codeB K f = true
  em : ∀ f ∈ fs K, h.get? (cTa K f).2 = some { cls := .none, data := .fields #[] }
theorem saysZ_of {rs : List DR} {exs : PySem.W.Frag → List Bool} {fs : PySem.W.Frag → List Addr} {h : Heap} (e : obsZ rs exs fs h.get? = valZ rs) : SaysZ rs exs fs h (KF h.get?) := by
  have e1 : obsY rs exs (KF h.get?) = valY rs := congrArg Prod.fst e
  have e2 : tabsZ h.get? fs (KF h.get?) = true := congrArg Prod.snd e
  refine ⟨e1, fun f hf => (He.ba (List.all_eq_true.mp e2 f hf)).1, fun f hf => ?_⟩
  have h4 := (He.ba (List.all_eq_true.mp e2 f hf)).2
  cases q : h.get? (cTa (KF h.get?) f).2 with
  | none => rw [q] at h4; cases h4
  | some o => rw [q] at h4; rw [He.emptyTab_eq h4]
def hookZ (rs : List DR) (exs : PySem.W.Frag → List Bool) (fs : PySem.W.Frag → List Addr) : PySem.W.Hook where
  α := (Bool × List He.FnW) × Bool
  obs := fun s => obsZ rs exs fs s.heap.get?
  val := fun _ => valZ rs
  says := fun _ hp => ∃ K : PySem.W.Frag, K.In hp ∧ SaysZ rs exs fs hp K
  of := fun _ _ e => ⟨_, KF_in, saysZ_of e⟩
  keeps := fun _ _ _ ⟨K, hK, c⟩ k => ⟨K, PySem.W.Frag.In.keeps hK k, ⟨c.y, c.cd, fun f hf => k _ _ (c.em f hf)⟩⟩
def obZ (rs : List DR) (exs : PySem.W.Frag → List Bool) (fs : PySem.W.Frag → List Addr) (s : PySem.W.SharedT) : (Bool × List He.FnW) × Bool := obsZ rs exs fs (HandSHeadRun.getT s)
theorem obZ_eq (rs : List DR) (exs : PySem.W.Frag → List Bool) (fs : PySem.W.Frag → List Addr) (s : PySem.W.SharedT) : obZ rs exs fs s = (hookZ rs exs fs).obs s.abs := by
  have e : HandSHeadRun.getT s = s.abs.heap.get? := funext (HandSHeadRun.getT_eq s)
  unfold obZ
  rw [e]
  rfl
theorem tabs_start {T : List (Addr × Str)} {cs : List (Addr × Addr)} {H : Hp} (h : ∀ p ∈ cs, H p.2 = some (.tbl #[])) (hT : ∀ q ∈ T, ∃ p ∈ cs, p.2 = q.1) : LamX.Tabs T H := fun q hq => by
  obtain ⟨p, hp, e⟩ := hT q hq
  exact LamX.TabS.nil (e ▸ h p hp)
theorem walkZ [TabL] {l : PySem.W.OpenLaw} {q : Program} {loose : List Str} {XP : (Str → Option Value) → Heap → Prop} {YP : World → Heap → Prop} {d : DefRec} {k : Nat} (x : Str) (hk : k ≤ 100) (hn : l.most = some 63) (hdf : d.params.defaults = [])
    (F : ∀ (w : World) (mg : Str → Option Value) (fa : Addr) (hp : Heap), YP w hp → hp.Ns mainGlobals mg → mg d.name = some (.ref fa) →
      ∃ (K : PySem.W.Frag) (fd : FuncData) (cs : List (Addr × Addr)) (T : List (Addr × Str)), K.In hp ∧ (∀ p ∈ cs, hp.get? p.2 = some { cls := .none, data := .fields #[] }) ∧ (∀ p ∈ cs, K.lookup p.2 = none) ∧ (∀ p ∈ cs, PySem.W.CodeHd hp p.1 p.2) ∧ (∀ q ∈ T, ∃ p ∈ cs, p.2 = q.1) ∧
        (∀ (s : Shared) (u : Value), BindsTo s fd ⟨[u], []⟩ [(x, u)]) ∧ ∀ base : Heap, K.In base → base.Ns mainGlobals mg → (∀ p ∈ cs, LamX.TabB base mg p.1 p.2) → FnG l.prog w K mg base k fa fd [x] (@spLaw ⟨T⟩ K)) :
    PySem.W.WalkO q loose XP YP l.row.toRowW d [] (fun f vs => PySem.call f vs) := by
  refine Att.attach_call hn hdf fun w s₀ s₁ mg mb fa o pm cd doc a vs ns Z Y ho hd hcd hmg hobj hints hlen hg => ?_
  obtain ⟨K, fd, cs, T, h0, h1, h2, h3, h4, h5, h6⟩ := F w mg fa _ Y Z.T.g hmg
  exact LamX.law_callGT h0 Z.T.g Z.T.b Z.T.builtins Z.T.nolimit hg h1 h2 h3 Z.T.bmain hobj hints (Nat.le_trans hlen (by decide)) (Room.mono (k := 100) ⟨rfl, by decide, by decide⟩ hk) h6 h5 (fun H hH hS => ⟨a, ns, rfl, hlen, tabs_start hH h4, hS, fun _ => rfl⟩)
end EXX
namespace SL
open PySem L2 DL
variable [TabL]
def natOf : D → Nat
  | .int i => i.natAbs
  | _ => 0
def f_is_integer (v_value : D) : O D :=
  (tr (O.ite ((tr ((O.ok v_value).bind (isiB "int"))).bind asB) ((tr (((tr ((O.ok v_value).bind (isiB "bool"))).bind asB).bind fun k => O.ok (!k))).bind asB) (O.ok false)))
def f_is_between (v_value v_least v_most : D) : O D :=
  (tr (O.ite (((O.cons (O.ok v_value) (O.ok [])).bind (l1 f_is_integer)).bind asB) ((tr (chainO (O.ok v_least) (O.ok v_value) (O.ok v_most) c_le c_le)).bind asB) (O.ok false)))
def f_are_figures (v_text : D) : O D :=
  (O.ite (O.ite ((O.ok v_text).bind fun x => (O.ok (D.str "")).bind fun y => c_eq x y) (O.ok true) ((((O.cons ((((O.ok v_text).bind itD).bind (mapO (fun v_sign => (tr ((O.ok v_sign).bind fun x => (O.ok (D.str "0123456789")).bind fun y => c_in x y))))).bind fun ds => O.ok (D.lst ds)) (O.ok [])).bind bi_all).bind asB).bind fun k => O.ok (!k))) (O.ok (D.bl false)) (tr (O.ite ((tr ((O.ok v_text).bind fun x => (O.ok (D.str "0")).bind fun y => c_eq x y)).bind asB) (O.ok true) ((tr (((O.ok v_text).bind fun x => (O.ok (D.int 0)).bind fun y => ix x y).bind fun x => (O.ok (D.str "0")).bind fun y => c_ne x y)).bind asB))))
def f_shared_factor (v_one v_two : D) : O D :=
  (((O.cons (O.ok v_one) (O.ok [])).bind bi_abs).bind fun v_high_1 => (((O.cons (O.ok v_two) (O.ok [])).bind bi_abs).bind fun v_low_2 => ((whileO (fun (s3 : D × D) => ((O.ok s3.2).bind fun x => (O.ok (D.int 0)).bind fun y => c_gt x y)) (fun s3 => ((O.ok s3.2).bind fun v_high_4 => (((O.ok s3.1).bind fun x => (O.ok s3.2).bind fun y => b_mod x y).bind fun v_low_5 => (O.ok (v_high_4, v_low_5))))) (natOf (v_two) + 1) (v_high_1, v_low_2)).bind fun (s3 : D × D) => (O.ok s3.1))))
def f_is_fraction (v_value : D) : O D :=
  (tr (O.ite (((O.cons (O.ok v_value) (O.ok [])).bind (l1 f_is_integer)).bind asB) (O.ok true) ((tr ((O.ok v_value).bind (isiC 0))).bind asB)))
def Ratio_init (v_top v_bottom : D) : O (List (Str × D)) :=
  (O.ite ((((O.cons (O.ok v_top) (O.ok [])).bind (l1 f_is_integer)).bind asB).bind fun k => O.ok (!k)) ((O.cons (O.ok v_top) (O.ok [])).bind fun ds => O.exc 100 ds) (O.ite (O.ite ((((O.cons (O.ok v_bottom) (O.ok [])).bind (l1 f_is_integer)).bind asB).bind fun k => O.ok (!k)) (O.ok true) ((O.ok v_bottom).bind fun x => (O.ok (D.int 1)).bind fun y => c_lt x y)) ((O.cons (O.ok v_bottom) (O.ok [])).bind fun ds => O.exc 100 ds) (((O.cons (O.ok v_top) (O.cons (O.ok v_bottom) (O.ok []))).bind (l2 f_shared_factor)).bind fun v_factor_1 => (((O.ok v_top).bind fun x => (O.ok v_factor_1).bind fun y => b_fdiv x y).bind fun f2 => (((O.ok v_bottom).bind fun x => (O.ok v_factor_1).bind fun y => b_fdiv x y).bind fun f3 => (O.ok (putD "bottom" f3 (putD "top" f2 ([])))))))))
def f_as_ratio (v_value : D) : O D :=
  (O.ite ((tr ((O.ok v_value).bind (isiC 0))).bind asB) (O.ok v_value) ((O.cons (O.ok v_value) (O.ok [])).bind fun ds => ((l2 Ratio_init) (ds ++ [D.int 1])).bind fun fs => O.ok (D.obj 0 fs)))
def f_ratio_in (v_text : D) : O D :=
  (O.ite (((O.cons (O.ok v_text) (O.ok [])).bind bi_len).bind fun x => (O.ok (D.int 4000)).bind fun y => c_gt x y) (O.ok (D.non)) ((O.ite (((O.ok v_text).bind fun x => (O.ok none).bind fun l => ((O.ok (D.int 1)).bind fun x => (asI x).bind fun i => O.ok (some i)).bind fun h => cut x l h).bind fun x => (O.ok (D.str "-")).bind fun y => c_eq x y) ((O.ok (D.int 1)).bind b_neg) (O.ok (D.int 1))).bind fun v_sign_1 => ((O.ite ((O.ok v_sign_1).bind fun x => (O.ok (D.int 0)).bind fun y => c_lt x y) (((O.ok v_text).bind fun x => ((O.ok (D.int 1)).bind fun x => (asI x).bind fun i => O.ok (some i)).bind fun l => (O.ok none).bind fun h => cut x l h).bind fun x => (O.ok (D.str "/")).bind fun y => t_part x y) ((O.ok v_text).bind fun x => (O.ok (D.str "/")).bind fun y => t_part x y)).bind fun d => un3 d fun v_first_2 v_line_3 v_second_4 => (O.ite (O.ite ((((O.cons (O.ok v_first_2) (O.ok [])).bind (l1 f_are_figures)).bind asB).bind fun k => O.ok (!k)) (O.ok true) (O.ite ((O.ok v_line_3).bind fun x => (O.ok (D.str "")).bind fun y => c_ne x y) ((((O.cons (O.ok v_second_4) (O.ok [])).bind (l1 f_are_figures)).bind asB).bind fun k => O.ok (!k)) (O.ok false))) (O.ok (D.non)) ((O.ite ((O.ok v_line_3).bind fun x => (O.ok (D.str "")).bind fun y => c_ne x y) ((O.cons (O.ok v_second_4) (O.ok [])).bind bi_int) (O.ok (D.int 1))).bind fun v_bottom_5 => (O.ite ((O.ok v_bottom_5).bind fun x => (O.ok (D.int 0)).bind fun y => c_gt x y) ((O.cons ((O.ok v_sign_1).bind fun x => ((O.cons (O.ok v_first_2) (O.ok [])).bind bi_int).bind fun y => b_mul x y) (O.cons (O.ok v_bottom_5) (O.ok []))).bind fun ds => ((l2 Ratio_init) (ds ++ [])).bind fun fs => O.ok (D.obj 0 fs)) (O.ok (D.non))))))))
def Ratio_str (v_self : D) : O D :=
  (O.ite (((O.ok v_self).bind (fld "bottom" [0])).bind fun x => (O.ok (D.int 1)).bind fun y => c_eq x y) (((O.ok v_self).bind (fld "top" [0])).bind fmtO) (jO [(((O.ok v_self).bind (fld "top" [0])).bind fmtO), (O.ok (D.str "/")), (((O.ok v_self).bind (fld "bottom" [0])).bind fmtO)] Str.empty))
def f_cell_text (v_cell : D) : O D :=
  ((O.ok v_cell).bind fun d => un3 d fun v_first_1 v_last_2 v_is_turned_3 => (O.ite ((O.ok v_is_turned_3).bind asB) (jO [((O.ok v_first_1).bind fmtO), (O.ok (D.str "-")), ((O.ok v_last_2).bind fmtO), (O.ok (D.str "~"))] Str.empty) (jO [((O.ok v_first_1).bind fmtO), (O.ok (D.str "-")), ((O.ok v_last_2).bind fmtO)] Str.empty)))
def Fold_str (v_self : D) : O D :=
  ((O.ok (D.str " ")).bind fun x => (((((O.ok v_self).bind (fld "cells" [1, 5])).bind itD).bind (mapO (fun v_cell => ((O.cons (O.ok v_cell) (O.ok [])).bind (l1 f_cell_text))))).bind fun ds => O.ok (D.lst ds)).bind fun y => t_join x y)
def txts0 : Nat → Option (D → O D)
  | 0 => some Ratio_str
  | _ => none
def Raisin_str (v_self : D) : O D :=
  (jO [(((O.cons ((O.ok v_self).bind (fld "place" [2])) (O.ok [])).bind (ownStr txts0)).bind fmtO), (((O.ok v_self).bind (fld "side" [2])).bind fmtO)] Str.empty)
def txts : Nat → Option (D → O D)
  | 0 => some Ratio_str
  | 1 => some Fold_str
  | 2 => some Raisin_str
  | _ => none
def Ratio_read (v_text : D) : O D :=
  ((O.ite ((tr ((O.ok v_text).bind (isiB "str"))).bind asB) ((O.cons (O.ok v_text) (O.ok [])).bind (l1 f_ratio_in)) (O.ok (D.non))).bind fun v_found_1 => (O.ite (O.ite ((O.ok v_found_1).bind fun x => (O.ok (D.non)).bind fun y => c_is x y) (O.ok true) (((O.cons (O.ok v_found_1) (O.ok [])).bind (ownStr txts)).bind fun x => (O.ok v_text).bind fun y => c_ne x y)) ((O.cons (O.ok v_text) (O.ok [])).bind fun ds => O.exc 101 ds) (O.ok v_found_1)))
def Ratio_eq (v_self v_other : D) : O D :=
  (O.ite ((((O.cons (O.ok v_other) (O.ok [])).bind (l1 f_is_fraction)).bind asB).bind fun k => O.ok (!k)) (O.ok (D.bl false)) (((O.cons (O.ok v_other) (O.ok [])).bind (l1 f_as_ratio)).bind fun v_by_1 => (tr (O.ite ((tr (((O.ok v_self).bind (fld "top" [0])).bind fun x => ((O.ok v_by_1).bind (fld "top" [0])).bind fun y => c_eq x y)).bind asB) ((tr (((O.ok v_self).bind (fld "bottom" [0])).bind fun x => ((O.ok v_by_1).bind (fld "bottom" [0])).bind fun y => c_eq x y)).bind asB) (O.ok false)))))
def f_cell_in (v_word : D) : O D :=
  (((O.ok v_word).bind fun x => (O.ok (D.str "-")).bind fun y => t_part x y).bind fun d => un3 d fun v_first_1 v_line_2 v_rest_3 => ((O.ite (((O.ok v_rest_3).bind fun x => (((O.ok (D.int 1)).bind b_neg).bind fun x => (asI x).bind fun i => O.ok (some i)).bind fun l => (O.ok none).bind fun h => cut x l h).bind fun x => (O.ok (D.str "~")).bind fun y => c_eq x y) ((O.ok v_rest_3).bind fun x => (O.ok none).bind fun l => (((O.ok (D.int 1)).bind b_neg).bind fun x => (asI x).bind fun i => O.ok (some i)).bind fun h => cut x l h) (O.ok v_rest_3)).bind fun v_last_4 => (O.ite (O.ite (((O.cons (O.ok v_word) (O.ok [])).bind bi_len).bind fun x => (O.ok (D.int 4)).bind fun y => c_gt x y) (O.ok true) (O.ite ((((O.cons (O.ok v_first_1) (O.ok [])).bind (l1 f_are_figures)).bind asB).bind fun k => O.ok (!k)) (O.ok true) ((((O.cons (O.ok v_last_4) (O.ok [])).bind (l1 f_are_figures)).bind asB).bind fun k => O.ok (!k)))) (O.ok (D.non)) ((O.cons ((O.cons (O.ok v_first_1) (O.ok [])).bind bi_int) (O.cons ((O.cons (O.ok v_last_4) (O.ok [])).bind bi_int) (O.cons (tr ((O.ok v_rest_3).bind fun x => (O.ok v_last_4).bind fun y => c_ne x y)) (O.ok [])))).bind fun ds => O.ok (D.tup ds)))))
def Fold_len (v_self : D) : O D :=
  ((O.cons ((O.ok v_self).bind (fld "cells" [1, 5])) (O.ok [])).bind bi_len)
def Watch_len (v_self : D) : O D :=
  ((O.cons ((O.ok v_self).bind (fld "moves" [4])) (O.ok [])).bind bi_len)
def lens : Nat → Option (D → O D)
  | 1 => some Fold_len
  | 4 => some Watch_len
  | _ => none
def Fold_eq (v_self v_other : D) : O D :=
  (tr (O.ite ((tr ((O.ok v_other).bind (isiC 1))).bind asB) ((tr (((O.ok v_self).bind (fld "cells" [1, 5])).bind fun x => ((O.ok v_other).bind (fld "cells" [1, 5])).bind fun y => c_eq x y)).bind asB) (O.ok false)))
def eqs0 : Nat → Option (D → D → O D)
  | 0 => some Ratio_eq
  | _ => none
def Raisin_eq (v_self v_other : D) : O D :=
  (tr (O.ite ((tr ((O.ok v_other).bind (isiC 2))).bind asB) ((tr (O.ite ((tr (((O.ok v_self).bind (fld "place" [2])).bind fun x => ((O.ok v_other).bind (fld "place" [2])).bind fun y => (ownEq eqs0) x y)).bind asB) ((tr (((O.ok v_self).bind (fld "side" [2])).bind fun x => ((O.ok v_other).bind (fld "side" [2])).bind fun y => (ownEq eqs0) x y)).bind asB) (O.ok false))).bind asB) (O.ok false)))
def f_other_side (v_side : D) : O D :=
  (O.ite ((O.ok v_side).bind fun x => (O.ok (D.str "-")).bind fun y => c_eq x y) (O.ok (D.str "+")) (O.ok (D.str "-")))
def f_form_of (v_watch : D) : O D :=
  ((O.cons ((O.ok v_watch).bind (fld "letters" [4])) (O.cons ((O.ok v_watch).bind (fld "moves" [4])) (O.cons ((O.ok v_watch).bind (fld "good" [4])) (O.ok [])))).bind fun ds => O.ok (D.tup ds))
def Watch_eq (v_self v_other : D) : O D :=
  (tr (O.ite ((tr ((O.ok v_other).bind (isiC 4))).bind asB) ((tr (((O.cons (O.ok v_self) (O.ok [])).bind (l1 f_form_of)).bind fun x => ((O.cons (O.ok v_other) (O.ok [])).bind (l1 f_form_of)).bind fun y => c_eq x y)).bind asB) (O.ok false)))
def eqs : Nat → Option (D → D → O D)
  | 0 => some Ratio_eq
  | 1 => some Fold_eq
  | 2 => some Raisin_eq
  | 4 => some Watch_eq
  | _ => none
theorem lenF_lens {F : Fam} {k1 k4 : Nat} (m1 : F.C.has 1 = true → Met F.P F.w F.C F.mg F.base k1 1 "__len__" (spF F.C (l1 Fold_len))) (m4 : F.C.has 4 = true → Met F.P F.w F.C F.mg F.base k4 4 "__len__" (spF F.C (l1 Watch_len))) (h1 : k1 + 1 ≤ F.k := by exact Nat.le_of_ble_eq_true rfl) (h4 : k4 + 1 ≤ F.k := by exact Nat.le_of_ble_eq_true rfl) : LenF F "__len__" 1 lens := fun c f h hh => by
  unfold lens at h; split at h
  · cases h; exact ⟨k1, h1, m1 hh⟩
  · cases h; exact ⟨k4, h4, m4 hh⟩
  · cases h
theorem eqF_eqs0 {F : Fam} {k0 : Nat} (m0 : F.C.has 0 = true → Met F.P F.w F.C F.mg F.base k0 0 "__eq__" (spF F.C (l2 Ratio_eq))) (h0 : k0 + 1 ≤ F.k := by exact Nat.le_of_ble_eq_true rfl) : EqF F eqs0 := fun c f h hh => by
  unfold eqs0 at h; split at h
  · cases h; exact ⟨k0, h0, m0 hh⟩
  · cases h
theorem strF_txts {F : Fam} {k0 k1 k2 : Nat} (m0 : F.C.has 0 = true → Met F.P F.w F.C F.mg F.base k0 0 "__str__" (spF F.C (l1 Ratio_str))) (m1 : F.C.has 1 = true → Met F.P F.w F.C F.mg F.base k1 1 "__str__" (spF F.C (l1 Fold_str))) (m2 : F.C.has 2 = true → Met F.P F.w F.C F.mg F.base k2 2 "__str__" (spF F.C (l1 Raisin_str))) (h0 : k0 + 2 ≤ F.k := by exact Nat.le_of_ble_eq_true rfl) (h1 : k1 + 2 ≤ F.k := by exact Nat.le_of_ble_eq_true rfl) (h2 : k2 + 2 ≤ F.k := by exact Nat.le_of_ble_eq_true rfl) : LenF F "__str__" 2 txts := fun c f h hh => by
  unfold txts at h; split at h
  · cases h; exact ⟨k0, h0, m0 hh⟩
  · cases h; exact ⟨k1, h1, m1 hh⟩
  · cases h; exact ⟨k2, h2, m2 hh⟩
  · cases h
theorem x_LONGEST {F : Fam} {S : DL.ST} {pos : Pos} (h : ∃ t, F.mg "LONGEST" = some (.int 4000 t)) (hg : ∀ i, Gl (F.X i) "LONGEST" := by intro _; rfl) : DEp F (.Name "LONGEST" pos) S (.ok (.int 4000)) := by
  obtain ⟨t, h1⟩ := h
  exact p_glob h1 (v := .int 4000) ⟨t, rfl⟩ (fun _ => .int _) hg
end SL
namespace M1
end M1
namespace SL
open PySem L2 DL
theorem nrfl {α : Sort _} {a b : α} (h : a = b) (_ : True) : a = b := h
theorem bk {α β : Type} (a : α) (f : α → O β) : (O.ok a).bind f = f a := nrfl rfl trivial
theorem ck (a : D) (as : List D) : O.cons (.ok a) (.ok as) = .ok (a :: as) := nrfl rfl trivial
theorem asBk (b : Bool) : asB (.bl b) = .ok b := nrfl rfl trivial
theorem trk (b : Bool) : tr (.ok b) = .ok (.bl b) := nrfl rfl trivial
theorem ite1 {α : Type} (x y : O α) : O.ite (.ok true) x y = x := nrfl rfl trivial
theorem ite0 {α : Type} (x y : O α) : O.ite (.ok false) x y = y := nrfl rfl trivial
theorem ap1 {α : Type} (f : D → O α) (a : D) : l1 f [a] = f a := nrfl rfl trivial
theorem ap2 {α : Type} (f : D → D → O α) (a b : D) : l2 f [a, b] = f a b := nrfl rfl trivial
theorem u3t {α : Type} (a b c : D) (f : D → D → D → O α) : un3 (.tup [a, b, c]) f = f a b c := nrfl rfl trivial
theorem chk (x y z : D) (q r : D → D → O Bool) : chainO (.ok x) (.ok y) (.ok z) q r = O.ite (q x y) (r y z) (.ok false) := nrfl rfl trivial
theorem aik (i : Int) : asI (.int i) = .ok i := nrfl rfl trivial
theorem mret {α : Type} (a : α) (g : List D) : M.ret a g = .ok (a, g) := nrfl rfl trivial
theorem mupa {α : Type} (o : O α) (g : List D) : M.up o g = o.bind fun a => .ok (a, g) := nrfl rfl trivial
theorem mbind {α β : Type} (m : M α) (f : α → M β) (g : List D) : M.bind m f g = (m g).bind fun r => f r.1 r.2 := nrfl rfl trivial
theorem bagx (ob : O D) (g : List D) : bagIx ob g = (ob.bind fun y => ix (.lst g) y).bind fun d => .ok (d, g) := nrfl rfl trivial
theorem mp0 (f : M D) : m0 f [] = f := nrfl rfl trivial
theorem mp1 (f : D → M D) (a : D) : m1 f [a] = f a := nrfl rfl trivial
@[simp] theorem b_add_i (i j : Int) : b_add (.int i) (.int j) = .ok (.int (i + j)) := nrfl rfl trivial
@[simp] theorem b_sub_i (i j : Int) : b_sub (.int i) (.int j) = .ok (.int (i - j)) := nrfl rfl trivial
@[simp] theorem b_neg_i (i : Int) : b_neg (.int i) = .ok (.int (-i)) := nrfl rfl trivial
@[simp] theorem c_lt_i (i j : Int) : c_lt (.int i) (.int j) = .ok (decide (i < j)) := nrfl rfl trivial
@[simp] theorem c_le_i (i j : Int) : c_le (.int i) (.int j) = .ok (decide (i ≤ j)) := nrfl rfl trivial
@[simp] theorem c_gt_i (i j : Int) : c_gt (.int i) (.int j) = .ok (decide (j < i)) := nrfl rfl trivial
@[simp] theorem c_ge_i (i j : Int) : c_ge (.int i) (.int j) = .ok (decide (j ≤ i)) := nrfl rfl trivial
@[simp] theorem c_eq_i (i j : Int) : c_eq (.int i) (.int j) = .ok (decide (i = j)) := nrfl rfl trivial
@[simp] theorem c_eq_s (i j : Str) : c_eq (.str i) (.str j) = .ok (decide (i = j)) := nrfl rfl trivial
@[simp] theorem c_eq_b (i j : Bool) : c_eq (.bl i) (.bl j) = .ok (decide (i = j)) := nrfl rfl trivial
@[simp] theorem c_ne_i (i j : Int) : c_ne (.int i) (.int j) = .ok (!decide (i = j)) := nrfl rfl trivial
@[simp] theorem c_ne_s (i j : Str) : c_ne (.str i) (.str j) = .ok (!decide (i = j)) := nrfl rfl trivial
@[simp] theorem bi_int_i (i : Int) : bi_int [.int i] = .ok (.int i) := nrfl rfl trivial
@[simp] theorem bi_abs_i (i : Int) : bi_abs [.int i] = .ok (.int (if i < 0 then -i else i)) := nrfl rfl trivial
@[simp] theorem bi_tuple_l (ds : List D) : bi_tuple [.lst ds] = .ok (.tup ds) := nrfl rfl trivial
@[simp] theorem bi_tuple_t (ds : List D) : bi_tuple [.tup ds] = .ok (.tup ds) := nrfl rfl trivial
@[simp] theorem bi_len_l (ds : List D) : bi_len [.lst ds] = .ok (.int ds.length) := nrfl rfl trivial
@[simp] theorem bi_len_t (ds : List D) : bi_len [.tup ds] = .ok (.int ds.length) := nrfl rfl trivial
@[simp] theorem bi_max_i (i j : Int) : bi_max [.int i, .int j] = .ok (.int (if j > i then j else i)) := nrfl rfl trivial
@[simp] theorem bi_min_i (i j : Int) : bi_min [.int i, .int j] = .ok (.int (if j < i then j else i)) := nrfl rfl trivial
@[simp] theorem bi_max_2 (i j : Int) : bi_max [.lst [.int i, .int j]] = .ok (.int (if j > i then j else i)) := nrfl rfl trivial
@[simp] theorem bi_min_2 (i j : Int) : bi_min [.lst [.int i, .int j]] = .ok (.int (if j < i then j else i)) := nrfl rfl trivial
@[simp] theorem ownLen_l (t : Nat → Option (D → O D)) (ds : List D) : ownLen t [.lst ds] = .ok (.int ds.length) := nrfl rfl trivial
@[simp] theorem ownLen_t (t : Nat → Option (D → O D)) (ds : List D) : ownLen t [.tup ds] = .ok (.int ds.length) := nrfl rfl trivial
theorem mulOk_l {i j : Int} (h1 : -(2 ^ 64) < i) (h2 : i < 2 ^ 64) : mulOk i j = true := decide_eq_true (.inl (.inl ⟨h1, h2⟩))
theorem mulOk_r {i j : Int} (h1 : -(2 ^ 64) < j) (h2 : j < 2 ^ 64) : mulOk i j = true := decide_eq_true (.inl (.inr ⟨h1, h2⟩))
theorem b_mul_l {i j : Int} (h1 : -(2 ^ 64) < i) (h2 : i < 2 ^ 64) : b_mul (.int i) (.int j) = .ok (.int (i * j)) := if_pos (mulOk_l h1 h2)
theorem b_mul_r {i j : Int} (h1 : -(2 ^ 64) < j) (h2 : j < 2 ^ 64) : b_mul (.int i) (.int j) = .ok (.int (i * j)) := if_pos (mulOk_r h1 h2)
theorem b_mod_i {i j : Int} (h : 0 < j) : b_mod (.int i) (.int j) = .ok (.int (i % j)) := if_pos h
theorem b_fdiv_i {i j : Int} (h : 0 < j) (h2 : j < 2 ^ 64) : b_fdiv (.int i) (.int j) = .ok (.int (i / j)) := by
  refine if_pos ⟨h, ?_⟩
  have := (Nat.log2_lt (n := j.natAbs) (k := 64) (by omega)).mpr (by omega)
  omega
theorem atI_ok {α : Type} {xs : List α} {i : Int} {d : α} (h0 : 0 ≤ i) (h : xs[i.toNat]? = some d) : atI xs i = some d := by
  have hl : i.toNat < xs.length := (List.getElem?_eq_some_iff.mp h).1
  unfold atI ixN
  rw [if_pos h0, if_pos (by omega)]
  exact h
theorem ix_t {ds : List D} {i : Int} {d : D} (h0 : 0 ≤ i) (h : ds[i.toNat]? = some d) : ix (.tup ds) (.int i) = .ok d := by
  show op2 (atI ds i) .ok = _
  rw [atI_ok h0 h]; rfl
theorem ix_l {ds : List D} {i : Int} {d : D} (h0 : 0 ≤ i) (h : ds[i.toNat]? = some d) : ix (.lst ds) (.int i) = .ok d := by
  show op2 (atI ds i) .ok = _
  rw [atI_ok h0 h]; rfl
@[simp] theorem ix_t2_0 (a b : D) : ix (.tup [a, b]) (.int 0) = .ok a := nrfl rfl trivial
@[simp] theorem ix_t2_1 (a b : D) : ix (.tup [a, b]) (.int 1) = .ok b := nrfl rfl trivial
@[simp] theorem ix_l2_0 (a b : D) : ix (.lst [a, b]) (.int 0) = .ok a := nrfl rfl trivial
@[simp] theorem ix_l2_1 (a b : D) : ix (.lst [a, b]) (.int 1) = .ok b := nrfl rfl trivial
@[simp] theorem ix_t3_0 (a b c : D) : ix (.tup [a, b, c]) (.int 0) = .ok a := nrfl rfl trivial
@[simp] theorem ix_t3_1 (a b c : D) : ix (.tup [a, b, c]) (.int 1) = .ok b := nrfl rfl trivial
@[simp] theorem ix_t3_2 (a b c : D) : ix (.tup [a, b, c]) (.int 2) = .ok c := nrfl rfl trivial
@[simp] theorem ix_l3_0 (a b c : D) : ix (.lst [a, b, c]) (.int 0) = .ok a := nrfl rfl trivial
@[simp] theorem ix_l3_1 (a b c : D) : ix (.lst [a, b, c]) (.int 1) = .ok b := nrfl rfl trivial
@[simp] theorem ix_l3_2 (a b c : D) : ix (.lst [a, b, c]) (.int 2) = .ok c := nrfl rfl trivial
theorem rg1_i {i : Int} (h : -(2 ^ 62) ≤ i) (h2 : i < 2 ^ 62) : rg1 (.int i) = .ok (rangeD 0 i.toNat) := if_pos ⟨h, h2⟩
theorem gcd_loop {c : D × D → O Bool} {f : D × D → O (D × D)} (hc : ∀ x y : Int, c (.int x, .int y) = .ok (decide (0 < y))) (hf : ∀ x y : Int, 0 < y → f (.int x, .int y) = .ok (.int y, .int (x % y))) : ∀ (n : Nat) (x y : Int), 0 ≤ x → 0 ≤ y → y.natAbs < n → whileO c f n (.int x, .int y) = .ok (.int (Int.gcd x y), .int 0)
  | 0, x, y, _, _, h => by omega
  | n + 1, x, y, hx, hy, hn => by
    unfold whileO
    rw [hc]
    by_cases z : 0 < y
    · rw [decide_eq_true z, ite1, hf _ _ z, bk]
      have h1 := Int.emod_nonneg x (b := y) (by omega)
      have h2 := Int.emod_lt_of_pos x z
      rw [gcd_loop hc hf n y (x % y) hy h1 (by omega)]
      have e : Int.gcd y (x % y) = Int.gcd x y := by
        obtain ⟨m, rfl⟩ := Int.eq_ofNat_of_zero_le hx
        obtain ⟨k, rfl⟩ := Int.eq_ofNat_of_zero_le hy
        show Nat.gcd k ((m : Int) % (k : Int)).natAbs = Nat.gcd m k
        rw [← Int.natCast_emod, Int.natAbs_natCast, Nat.gcd_comm m k, Nat.gcd_rec k m, Nat.gcd_comm]
      rw [e]
    · have : y = 0 := by omega
      subst this
      rw [decide_eq_false z, ite0]
      have e : ((Int.gcd x 0 : Nat) : Int) = x := by rw [Int.gcd_zero_right]; omega
      rw [e]
theorem abs_if (i : Int) : (if i < 0 then -i else i) = (i.natAbs : Int) := by split <;> omega
theorem shared_factor_i (a b : Int) : f_shared_factor (.int a) (.int b) = .ok (.int (Int.gcd a b)) := by
  unfold f_shared_factor
  simp only [bk, ck, bi_abs_i, abs_if, natOf]
  rw [gcd_loop (by intro x y; rfl) (by intro x y h; simp only [bk, b_mod_i h]) (b.natAbs + 1) _ _ (by omega) (by omega) (by omega)]
  rw [bk]
  show O.ok (D.int _) = _
  rw [show Int.gcd (a.natAbs : Int) (b.natAbs : Int) = Int.gcd a b by unfold Int.gcd; rw [Int.natAbs_natCast, Int.natAbs_natCast]]
@[simp] theorem is_integer_i (i : Int) : f_is_integer (.int i) = .ok (.bl true) := by
  unfold f_is_integer
  with_unfolding_all rfl
@[simp] theorem is_between_i (i l m : Int) : f_is_between (.int i) (.int l) (.int m) = .ok (.bl (decide (l ≤ i) && decide (i ≤ m))) := by
  unfold f_is_between
  simp only [bk, ck, ap1, is_integer_i, asBk, ite1, chk, c_le_i]
  by_cases h : l ≤ i
  · simp only [decide_eq_true h, ite1, trk, bk, asBk, Bool.true_and]
  · simp only [decide_eq_false h, ite0, trk, bk, asBk, Bool.false_and]
def ratD (p q : Int) : D := .obj 0 [("top", .int p), ("bottom", .int q)]
def lowF (a b : Int) : List (Str × D) := [("top", .int (a / (Int.gcd a b : Int))), ("bottom", .int (b / (Int.gcd a b : Int)))]
theorem gcd_pos {a b : Int} (h : 0 < b) : (0 : Int) < (Int.gcd a b : Int) := by
  have : 0 < Int.gcd a b := Nat.pos_of_ne_zero fun e => by have := (Int.gcd_eq_zero_iff.mp e).2; omega
  omega
theorem gcd_le {a b : Int} (h : 0 < b) : (Int.gcd a b : Int) ≤ b := Int.le_of_dvd h (Int.gcd_dvd_right ..)
theorem Ratio_init_i {a b : Int} (h : 0 < b) (h2 : b < 2 ^ 64) : Ratio_init (.int a) (.int b) = .ok (lowF a b) := by
  unfold Ratio_init
  have g1 := gcd_pos (a := a) h
  have g2 := gcd_le (a := a) h
  simp only [bk, ck, ap1, ap2, is_integer_i, asBk, Bool.not_true, ite0, c_lt_i, decide_eq_false (show ¬ b < 1 by omega), shared_factor_i, b_fdiv_i g1 (show (Int.gcd a b : Int) < 2 ^ 64 by omega)]
  rfl
def mkR (a b : Int) : D := ratD (a / (Int.gcd a b : Int)) (b / (Int.gcd a b : Int))
theorem mkR_one (a : Int) : mkR a 1 = ratD a 1 := by
  unfold mkR
  rw [show Int.gcd a 1 = 1 by simp]
  simp
@[simp] theorem isiC_r (p q : Int) : isiC 0 (ratD p q) = .ok true := nrfl rfl trivial
@[simp] theorem isiC_i (c : Nat) (i : Int) : isiC c (.int i) = .ok false := nrfl rfl trivial
@[simp] theorem is_fraction_i (i : Int) : f_is_fraction (.int i) = .ok (.bl true) := by
  unfold f_is_fraction
  simp only [bk, ck, ap1, is_integer_i, asBk, ite1, trk]
@[simp] theorem is_fraction_r (p q : Int) : f_is_fraction (ratD p q) = .ok (.bl true) := by
  unfold f_is_fraction
  rw [show f_is_integer = f_is_integer from rfl]
  simp only [bk, ck, ap1, show f_is_integer (ratD p q) = .ok (.bl false) from rfl, asBk, ite0, isiC_r, trk]
@[simp] theorem as_ratio_i (i : Int) : f_as_ratio (.int i) = .ok (ratD i 1) := by
  unfold f_as_ratio
  simp only [bk, ck, isiC_i, trk, asBk, ite0, List.cons_append, List.nil_append, ap2, Ratio_init_i (a := i) (b := 1) (by decide) (by decide)]
  exact congrArg O.ok (mkR_one i)
@[simp] theorem as_ratio_r (p q : Int) : f_as_ratio (ratD p q) = .ok (ratD p q) := nrfl rfl trivial
@[simp] theorem fld_top (p q : Int) : fld "top" [0] (ratD p q) = .ok (.int p) := nrfl rfl trivial
@[simp] theorem fld_bottom (p q : Int) : fld "bottom" [0] (ratD p q) = .ok (.int q) := nrfl rfl trivial
theorem b_fdiv_x {i j : Int} (h : 0 < j) (h2 : j < 2 ^ 700) : b_fdiv (.int i) (.int j) = .ok (.int (i / j)) := by
  refine if_pos ⟨h, ?_⟩
  have := (Nat.log2_lt (n := j.natAbs) (k := 700) (by omega)).mpr (by omega)
  omega
theorem Ratio_init_x {a b : Int} (h : 0 < b) (h2 : b < 2 ^ 700) : Ratio_init (.int a) (.int b) = .ok (lowF a b) := by
  unfold Ratio_init
  have g1 := gcd_pos (a := a) h
  have g2 := gcd_le (a := a) h
  simp only [bk, ck, ap1, ap2, is_integer_i, asBk, Bool.not_true, ite0, c_lt_i, decide_eq_false (show ¬ b < 1 by omega), shared_factor_i, b_fdiv_x g1 (show (Int.gcd a b : Int) < 2 ^ 700 by omega)]
  rfl
theorem mk_ratio_x {a b : Int} (h : 0 < b) (h2 : b < 2 ^ 700) : ((l2 Ratio_init) ([D.int a, D.int b] ++ [])).bind (fun fs => O.ok (D.obj 0 fs)) = .ok (mkR a b) := by
  rw [List.append_nil, ap2, Ratio_init_x h h2]; rfl
def sm (i : Int) : Prop := -(2 ^ 300) < i ∧ i < 2 ^ 300
end SL
namespace SL
open PySem L2 DL
def raiD (p q : Int) (s : Str) : D := .obj 2 [("place", ratD p q), ("side", .str s)]
def Side (s : Str) : Prop := s = "+" ∨ s = "-"
theorem mp_ne : ¬ (("-" : Str) = "+") := by decide +kernel
@[simp] theorem isiB_str (s : Str) : isiB "str" (.str s) = .ok true := by with_unfolding_all rfl
@[simp] theorem isiB_tup (s : List D) : isiB "tuple" (.tup s) = .ok true := by with_unfolding_all rfl
@[simp] theorem isiB_bl (s : Bool) : isiB "bool" (.bl s) = .ok true := by with_unfolding_all rfl
@[simp] theorem fld_place (p q : Int) (s : Str) : fld "place" [2] (raiD p q s) = .ok (ratD p q) := nrfl rfl trivial
@[simp] theorem fld_side (p q : Int) (s : Str) : fld "side" [2] (raiD p q s) = .ok (.str s) := by with_unfolding_all rfl
def under (p q : Int) (s : Str) : Int := if q = 1 ∧ s = "-" then p / q - 1 else p / q
def flip (s : Str) : Str := if s = "-" then "+" else "-"
@[simp] theorem other_side_s (s : Str) : f_other_side (.str s) = .ok (.str (flip s)) := by
  unfold f_other_side flip
  simp only [bk, c_eq_s]
  by_cases h : s = "-"
  · rw [decide_eq_true h, ite1, if_pos h]
  · rw [decide_eq_false h, ite0, if_neg h]
abbrev Cell := Int × Int × Bool
def celD (c : Cell) : D := .tup [.int c.1, .int c.2.1, .bl c.2.2]
def cellsD (L : List Cell) : D := .tup (L.map celD)
def folD (L : List Cell) : D := .obj 1 [("cells", cellsD L)]
@[simp] theorem fld_cells (L : List Cell) : fld "cells" [1, 5] (folD L) = .ok (cellsD L) := nrfl rfl trivial
def goes (c : Cell) (p q w : Int) : Int := if c.2.2 then (c.2.1 + 1) * q - (c.2.1 - c.1 + 1) * (p - w * q) else c.1 * q + (c.2.1 - c.1 + 1) * (p - w * q)
def lows (t q : Int) : Int × Int := (t / (Int.gcd t q : Int), q / (Int.gcd t q : Int))
end SL
namespace SL
open PySem L2 DL
structure Spot where
  p : Int
  q : Int
  s : Str
def undr (x : Spot) : Int := under x.p x.q x.s
structure Vd (lo hi : Int) (x : Spot) : Prop where
  q0 : 0 < x.q
  g1 : Int.gcd x.p x.q = 1
  l : lo * x.q ≤ x.p
  h : x.p ≤ hi * x.q
  ls : x.p = lo * x.q → x.s = "+"
  hs : x.p = hi * x.q → x.s = "-"
  sd : Side x.s
theorem gcd_mul_self {k q : Int} (h : 0 < q) (hg : Int.gcd (k * q) q = 1) : q = 1 := by
  have h1 : q.natAbs ∣ Int.gcd (k * q) q := Int.dvd_gcd (Int.natAbs_dvd.mpr ⟨k, Int.mul_comm ..⟩) (Int.natAbs_dvd.mpr (Int.dvd_refl q))
  rw [hg] at h1
  have := Nat.dvd_one.mp h1
  omega
theorem undr_in {lo hi : Int} {x : Spot} (v : Vd lo hi x) : lo ≤ undr x ∧ undr x < hi ∧ 0 ≤ x.p - undr x * x.q ∧ x.p - undr x * x.q ≤ x.q ∧ (x.p - undr x * x.q = 0 → x.s = "+") ∧ (x.p - undr x * x.q = x.q → x.s = "-") := by
  obtain ⟨p, q, s⟩ := x
  obtain ⟨q0, g1, l, h, ls, hs, sd⟩ := v
  simp only at q0 g1 l h ls hs sd
  show lo ≤ under p q s ∧ under p q s < hi ∧ 0 ≤ p - under p q s * q ∧ p - under p q s * q ≤ q ∧ (p - under p q s * q = 0 → s = "+") ∧ (p - under p q s * q = q → s = "-")
  unfold under
  by_cases z : q = 1 ∧ s = "-"
  · rw [if_pos z]
    obtain ⟨z1, z2⟩ := z
    subst z1 z2
    have : p ≠ lo * 1 := fun e => mp_ne (ls e)
    simp only [Int.ediv_one, Int.mul_one] at *
    exact ⟨by omega, by omega, by omega, by omega, fun e => by omega, fun _ => trivial⟩
  · rw [if_neg z]
    have e := Int.mul_ediv_add_emod p q
    have r0 := Int.emod_nonneg p (b := q) (by omega)
    have r1 := Int.emod_lt_of_pos p q0
    have e2 : p - p / q * q = p % q := by rw [Int.mul_comm]; omega
    have hne : p ≠ hi * q := fun e => by
      have h1 := hs e
      rw [e] at g1
      exact z ⟨gcd_mul_self q0 g1, h1⟩
    refine ⟨Int.le_ediv_of_mul_le q0 l, Int.ediv_lt_of_lt_mul q0 (by omega), by omega, by omega, fun k => ?_, fun k => by omega⟩
    have h1 : p = p / q * q := by omega
    rw [h1] at g1
    rcases sd with h2 | h2
    · exact h2
    · exact absurd ⟨gcd_mul_self q0 g1, h2⟩ z
def gone (c : Cell) (x : Spot) : Spot := ⟨(lows (goes c x.p x.q (undr x)) x.q).1, (lows (goes c x.p x.q (undr x)) x.q).2, if c.2.2 then flip x.s else x.s⟩
structure Good (L : List Cell) : Prop where
  n1 : 2 ≤ L.length
  n2 : L.length ≤ 8
  ok : ∀ c ∈ L, 0 ≤ c.1 ∧ c.1 ≤ c.2.1 ∧ c.2.1 < L.length
def stp (L : List Cell) (x : Spot) : Spot := match L[(undr x).toNat]? with
  | some c => gone c x
  | none => x
structure On (L : List Cell) (x : Spot) : Prop where
  v : Vd 0 L.length x
  q2 : x.q < 2 ^ 200
theorem On.cell {L : List Cell} {x : Spot} (o : On L x) : ∃ c, L[(undr x).toNat]? = some c ∧ c ∈ L := by
  obtain ⟨u1, u2, _⟩ := undr_in o.v
  have hl : (undr x).toNat < L.length := by omega
  exact ⟨L[(undr x).toNat], List.getElem?_eq_getElem hl, List.getElem_mem hl⟩
end SL
namespace SL
open PySem L2 DL
def row (L : List Cell) : Nat → Spot → List Int
  | 0, _ => []
  | n + 1, x => undr x :: row L n (stp L x)
end SL
namespace SL
open PySem L2 DL
def Bag (g : List D) : Prop := ∃ a b c : Int, g = [.int a, .int b, .int c]
theorem mitea {α : Type} (m : M Bool) (x y : M α) (g : List D) : M.ite m x y g = (m g).bind fun r => (bif r.1 then x else y) r.2 := nrfl rfl trivial
theorem mconsa (m : M D) (ms : M (List D)) (g : List D) : M.cons m ms g = (m g).bind fun r => (ms r.2).bind fun t => .ok (r.1 :: t.1, t.2) := nrfl rfl trivial
theorem ixN3_0 (a b c : D) : ixN [a, b, c].length 0 = some 0 := nrfl rfl trivial
theorem ixN3_1 (a b c : D) : ixN [a, b, c].length 1 = some 1 := nrfl rfl trivial
theorem ixN3_2 (a b c : D) : ixN [a, b, c].length 2 = some 2 := nrfl rfl trivial
theorem set3_0 (a b c x : D) : [a, b, c].set 0 x = [x, b, c] := nrfl rfl trivial
theorem set3_1 (a b c x : D) : [a, b, c].set 1 x = [a, x, c] := nrfl rfl trivial
theorem set3_2 (a b c x : D) : [a, b, c].set 2 x = [a, b, x] := nrfl rfl trivial
theorem op2k {α β : Type} (a : α) (f : α → O β) : op2 (some a) f = f a := nrfl rfl trivial
theorem bif1 {α : Type} (x y : α) : (bif true then x else y) = x := nrfl rfl trivial
theorem bif0 {α : Type} (x y : α) : (bif false then x else y) = y := nrfl rfl trivial
theorem loopM_unit {R : Type} {f : Unit → D → M (Fl Unit R)} : ∀ (ds : List D) (g : List D), Bag g → (∀ d ∈ ds, ∀ g, Bag g → ∃ g', f () d g = .ok (.nx (), g') ∧ Bag g') → ∃ g', loopM f ds () g = .ok (.nx (), g') ∧ Bag g'
  | [], g, hb, _ => ⟨g, rfl, hb⟩
  | d :: ds, g, hb, h => by
    obtain ⟨g1, e1, b1⟩ := h d List.mem_cons_self g hb
    obtain ⟨g2, e2, b2⟩ := loopM_unit ds g1 b1 fun x hx => h x (List.mem_cons_of_mem _ hx)
    refine ⟨g2, ?_, b2⟩
    unfold loopM
    rw [mbind, e1, bk]
    exact e2
theorem thenM_nx {T R : Type} {m : M (Fl T R)} {k : T → M R} {g g' : List D} {t : T} (h : m g = .ok (.nx t, g')) : thenM m k g = k t g' := by
  unfold thenM
  rw [mbind, h, bk]
theorem then_loop {R : Type} {f : Unit → D → M (Fl Unit R)} {k : Unit → M R} {ds g : List D} {r : R} (hb : Bag g) (h : ∀ d ∈ ds, ∀ g, Bag g → ∃ g', f () d g = .ok (.nx (), g') ∧ Bag g') (hk : ∀ g', Bag g' → ∃ g'', k () g' = .ok (r, g'') ∧ Bag g'') : ∃ g'', thenM (loopM f ds ()) k g = .ok (r, g'') ∧ Bag g'' := by
  obtain ⟨g', e, b⟩ := loopM_unit ds g hb h
  rw [thenM_nx e]
  exact hk g' b
theorem forO_int {f : D → D → O D} (hf : ∀ s t : Int, ∃ u : Int, f (.int s) (.int t) = .ok (.int u)) : ∀ (js : List Int) (s : Int), ∃ u : Int, forO f (js.map D.int) (.int s) = .ok (.int u)
  | [], s => ⟨s, rfl⟩
  | j :: js, s => by
    obtain ⟨u, e⟩ := hf s j
    obtain ⟨v, e'⟩ := forO_int hf js u
    exact ⟨v, by show (f (.int s) (.int j)).bind _ = _; rw [e, bk]; exact e'⟩
theorem forO_intK {β : Type} {f : D → D → O D} {K : D → O β} {Q : β → Prop} {js : List Int} {s : Int} (hf : ∀ s t : Int, ∃ u : Int, f (.int s) (.int t) = .ok (.int u)) (hk : ∀ u : Int, ∃ r, K (.int u) = .ok r ∧ Q r) : ∃ r, (forO f (js.map D.int) (.int s)).bind K = .ok r ∧ Q r := by
  obtain ⟨u, e⟩ := forO_int hf js s
  rw [e, bk]
  exact hk u
end SL
namespace SL.K02
open PySem L2 DL SL
def LX : List Nat := [101]
def LN : List Nat := [101, 124, 125, 126]
def f_law_bag (v_law_script v_law_k : D) : O (List D) :=
  ((O.ite ((O.ok v_law_k).bind fun x => ((O.cons (O.ok v_law_script) (O.ok [])).bind (ownLen lens)).bind fun y => c_lt x y) ((O.cons ((O.ok v_law_script).bind fun x => (O.ok v_law_k).bind fun y => ix x y) (O.ok [])).bind bi_int) (O.ok (D.int 0))).bind fun v_law_held_cell_1 => (((O.ok (D.int 60029)).bind fun x => ((O.ok v_law_k).bind fun x => (O.ok (D.int 5)).bind fun y => b_add x y).bind fun y => b_mul x y).bind fun v_law_seed_2 => ((((O.ok v_law_script).bind fun x => (O.ok none).bind fun l => ((O.ok (D.int 7)).bind fun x => (asI x).bind fun i => O.ok (some i)).bind fun h => cut x l h).bind itD).bind fun ds => (forO (fun (s3 : D) v_law_this_4 => ((((O.cons ((((O.ok s3).bind fun x => (O.ok (D.int 30491)).bind fun y => b_mul x y).bind fun x => (((O.cons (O.ok v_law_this_4) (O.ok [])).bind bi_int).bind fun x => (O.ok (D.int 1000121)).bind fun y => b_mod x y).bind fun y => b_add x y).bind fun x => ((O.ok (D.int 17)).bind fun x => (O.ok v_law_k).bind fun y => b_mul x y).bind fun y => b_add x y) (O.ok [])).bind bi_int).bind fun x => (O.ok (D.int 2147483549)).bind fun y => b_mod x y).bind fun v_law_seed_5 => (O.ok v_law_seed_5))) ds v_law_seed_2).bind fun (s3 : D) => ((O.ite (O.ite ((O.ok v_law_held_cell_1).bind fun x => (O.ok (D.int 0)).bind fun y => c_lt x y) (O.ok true) ((O.ok v_law_held_cell_1).bind fun x => ((O.ok (D.int 10)).bind fun x => (O.ok (D.int 15)).bind fun y => b_pow x y).bind fun y => c_ge x y)) ((O.cons (O.ok v_law_held_cell_1) (O.ok [])).bind bi_abs) (O.ok (D.int 0))).bind fun v_law_figures_6 => (O.cons (O.ok v_law_figures_6) (O.cons (((O.cons ((O.ok s3).bind fun x => ((O.ok (D.int 40093)).bind fun x => (((O.cons (O.ok v_law_held_cell_1) (O.ok [])).bind bi_int).bind fun x => (O.ok (D.int 999931)).bind fun y => b_mod x y).bind fun y => b_mul x y).bind fun y => b_add x y) (O.ok [])).bind bi_int).bind fun x => (O.ok (D.int 2147483549)).bind fun y => b_mod x y) (O.cons (O.ok (D.int 0)) (O.ok []))))))))
def f_law_draw (v_law_wide : D) : M D :=
  (((bagIx (O.ok (D.int 2))).bind fun x => (M.up (O.ok (D.int 1))).bind fun y => M.up (b_add x y)).bind fun b6 g => op2 (ixN g.length 2) fun n => (M.ite ((bagIx (O.ok (D.int 0))).bind fun x => (M.up (O.ok (D.int 0))).bind fun y => M.up (c_gt x y)) ((((M.cons (bagIx (O.ok (D.int 0))) (M.up (O.ok []))).bind fun ds => M.up (bi_int ds)).bind fun x => (M.up (O.ok v_law_wide)).bind fun y => M.up (b_mod x y)).bind fun v_law_figure_1 => (((bagIx (O.ok (D.int 0))).bind fun x => (M.up (O.ok v_law_wide)).bind fun y => M.up (b_fdiv x y)).bind fun b2 g => op2 (ixN g.length 0) fun n => (M.up (O.ok v_law_figure_1)) (g.set n b2))) ((((M.cons (bagIx (O.ok (D.int 1))) (M.up (O.ok []))).bind fun ds => M.up (bi_int ds)).bind fun x => ((M.up (O.ok (D.int 104651))).bind fun x => (bagIx (O.ok (D.int 2))).bind fun y => M.up (b_mul x y)).bind fun y => M.up (b_add x y)).bind fun v_law_held_3 => ((M.up ((((O.cons (O.ok v_law_held_3) (O.ok [])).bind bi_int).bind fun x => (O.ok (D.int 59981)).bind fun y => b_mod x y).bind fun x => (O.ok (D.int 40039)).bind fun y => b_add x y)).bind fun v_law_times_4 => ((((M.cons (((M.up ((O.ok v_law_held_3).bind fun x => (O.ok v_law_times_4).bind fun y => b_mul x y)).bind fun x => ((M.up (O.ok (D.int 11))).bind fun x => (bagIx (O.ok (D.int 2))).bind fun y => M.up (b_mul x y)).bind fun y => M.up (b_add x y)).bind fun x => (M.up (O.ok (D.int 19))).bind fun y => M.up (b_add x y)) (M.up (O.ok []))).bind fun ds => M.up (bi_int ds)).bind fun x => (M.up (O.ok (D.int 2147483549))).bind fun y => M.up (b_mod x y)).bind fun b5 g => op2 (ixN g.length 1) fun n => ((((M.cons (bagIx (O.ok (D.int 1))) (M.up (O.ok []))).bind fun ds => M.up (bi_int ds)).bind fun x => (M.up (O.ok (D.int 509))).bind fun y => M.up (b_fdiv x y)).bind fun x => (M.up (O.ok v_law_wide)).bind fun y => M.up (b_mod x y)) (g.set n b5))))) (g.set n b6))
def f_law_one (v_law_some : D) : M D :=
  ((M.up (O.ok v_law_some)).bind fun x => ((M.up (O.cons ((O.cons (O.ok v_law_some) (O.ok [])).bind (ownLen lens)) (O.ok []))).bind (m1 f_law_draw)).bind fun y => M.up (ix x y))
def f_law_low (v_law_upper v_law_lower : D) : O D :=
  (((O.cons (O.ok v_law_upper) (O.ok [])).bind bi_abs).bind fun v_law_left_1 => (((O.cons (O.ok v_law_lower) (O.ok [])).bind bi_abs).bind fun v_law_right_here_2 => ((whileO (fun (s3 : D × D) => ((O.ok s3.2).bind fun x => (O.ok (D.int 0)).bind fun y => c_gt x y)) (fun s3 => ((O.ok s3.2).bind fun v_law_left_4 => ((((O.cons (O.ok s3.1) (O.ok [])).bind bi_int).bind fun x => (O.ok s3.2).bind fun y => b_mod x y).bind fun v_law_right_here_5 => (O.ok (v_law_left_4, v_law_right_here_5))))) (natOf (v_law_lower) + 1) (v_law_left_1, v_law_right_here_2)).bind fun (s3 : D × D) => ((O.ite ((O.ok v_law_lower).bind fun x => (O.ok (D.int 0)).bind fun y => c_gt x y) (O.ok s3.1) ((O.ok (D.int 0)).bind fun x => (O.ok s3.1).bind fun y => b_sub x y)).bind fun v_law_by_6 => ((O.cons ((O.ok v_law_upper).bind fun x => (O.ok v_law_by_6).bind fun y => b_fdiv x y) (O.cons ((O.ok v_law_lower).bind fun x => (O.ok v_law_by_6).bind fun y => b_fdiv x y) (O.ok []))).bind fun ds => O.ok (D.tup ds))))))
def f_law_written (v_law_pair : D) : O D :=
  (O.ite (((O.ok v_law_pair).bind fun x => (O.ok (D.int 1)).bind fun y => ix x y).bind fun x => (O.ok (D.int 1)).bind fun y => c_eq x y) ((O.cons ((O.ok v_law_pair).bind fun x => (O.ok (D.int 0)).bind fun y => ix x y) (O.ok [])).bind (ownStr txts)) ((((O.cons ((O.ok v_law_pair).bind fun x => (O.ok (D.int 0)).bind fun y => ix x y) (O.ok [])).bind (ownStr txts)).bind fun x => (O.ok (D.str "/")).bind fun y => b_add x y).bind fun x => ((O.cons ((O.ok v_law_pair).bind fun x => (O.ok (D.int 1)).bind fun y => ix x y) (O.ok [])).bind (ownStr txts)).bind fun y => b_add x y))
def x_Ratio_read (v_text : D) : O Xr :=
  ((O.ite ((tr ((O.ok v_text).bind (isiB "str"))).bind asB) ((O.cons (O.ok v_text) (O.ok [])).bind (l1 f_ratio_in)) (O.ok (D.non))).bind fun v_found_1 => (O.ite (O.ite ((O.ok v_found_1).bind fun x => (O.ok (D.non)).bind fun y => c_is x y) (O.ok true) (((O.cons (O.ok v_found_1) (O.ok [])).bind (ownStr txts)).bind fun x => (O.ok v_text).bind fun y => c_ne x y)) ((O.ok v_text).bind fun d => O.ok (Xr.x 101 [d])) ((O.ok v_found_1).bind fun d => O.ok (Xr.r d))))
def f_law_sort (cx : Nat) (fx : List D) : O D :=
  (((O.cons (O.ok (D.bl (isE cx 124))) (O.cons (O.ok (D.bl (isE cx 125))) (O.cons (O.ok (D.bl (isE cx 126))) (O.ok [])))).bind fun ds => O.ok (D.lst ds)).bind fun v_law_bases_1 => (((O.cons (O.ok (D.bl (isEB cx "ValueError"))) (O.cons (O.ok (D.bl (isEB cx "LookupError"))) (O.cons (O.ok (D.bl (isEB cx "ArithmeticError"))) (O.ok [])))).bind fun ds => O.ok (D.lst ds)).bind fun v_law_kinds_2 => ((O.ok []).bind fun v_law_found_3 => ((O.ite ((O.ok (D.bl (isE cx 101))).bind asB) (((O.cons (O.ok (D.str "InvalidText")) (O.cons ((O.cons (fxO cx fx "value") (O.ok [])).bind bi_reprZ) (O.ok []))).bind fun ds => O.ok (D.lst ds)).bind fun a4 => sized v_law_found_3.length (O.ok (v_law_found_3 ++ [a4]))) (O.ok v_law_found_3)).bind fun (j5 : List D) => (O.ite (O.ite (((O.cons (O.ok (D.lst j5)) (O.ok [])).bind bi_len).bind fun x => (O.ok (D.int 1)).bind fun y => c_eq x y) (O.ite ((O.ok v_law_bases_1).bind fun x => (O.ok v_law_kinds_2).bind fun y => c_eq x y) (((O.ok v_law_bases_1).bind fun x => (O.ok (D.bl true)).bind fun y => t_count x y).bind fun x => (O.ok (D.int 1)).bind fun y => c_eq x y) (O.ok false)) (O.ok false)) ((O.ok (D.lst j5)).bind fun x => (O.ok (D.int 0)).bind fun y => ix x y) ((O.cons (O.ok (D.str "other")) (O.ok [])).bind fun ds => O.ok (D.lst ds)))))))
def f_law_read (v_law_line : D) : O D :=
  (((O.ok v_law_line).bind fun d => t_split d (.str "/")).bind fun v_law_bits_1 => (O.ite (O.ite (((O.cons (O.ok v_law_bits_1) (O.ok [])).bind (ownLen lens)).bind fun x => (O.ok (D.int 2)).bind fun y => c_gt x y) (O.ok true) (((((O.ok v_law_bits_1).bind itD).bind (filO (fun v_law_bit => ((O.ok v_law_bit).bind fun x => ((O.cons (O.ok (D.str "")) (O.cons (O.ok (D.str "-")) (O.ok []))).bind fun ds => O.ok (D.lst ds)).bind fun y => c_in x y)) (fun v_law_bit => (O.ok v_law_bit)))).bind fun ds => O.ok (D.lst ds)).bind fun x => ((O.ok []).bind fun ds => O.ok (D.lst ds)).bind fun y => c_ne x y)) (O.ok (D.non)) (((O.ok v_law_bits_1).bind itD).bind fun ds => thenO (loopO (fun (s2 : Unit) v_law_bit_3 => (O.ite (strike "-" "" "0123456789" v_law_bit_3) ((O.ok (D.non)).bind fun d => O.ok (Fl.rt (d))) (O.ite (O.ite ((O.ok (D.str "-")).bind fun x => (O.ok v_law_bit_3).bind fun y => c_in x y) (((O.ok v_law_bit_3).bind fun x => (O.ok (D.int 0)).bind fun y => ix x y).bind fun x => (O.ok (D.str "-")).bind fun y => c_ne x y) (O.ok false)) ((O.ok (D.non)).bind fun d => O.ok (Fl.rt (d))) (O.ok (Fl.nx ()))))) ds ()) fun (s2 : Unit) => (((O.cons ((O.cons ((O.ok v_law_bits_1).bind fun x => (O.ok (D.int 0)).bind fun y => ix x y) (O.ok [])).bind bi_int) (O.cons (O.ite (((O.cons (O.ok v_law_bits_1) (O.ok [])).bind (ownLen lens)).bind fun x => (O.ok (D.int 1)).bind fun y => c_gt x y) ((O.cons ((O.ok v_law_bits_1).bind fun x => (O.ok (D.int 1)).bind fun y => ix x y) (O.ok [])).bind bi_int) (O.ok (D.int 1))) (O.ok []))).bind fun ds => O.ok (D.tup ds)).bind fun v_law_pair_4 => (O.ite (O.ite (((O.ok v_law_pair_4).bind fun x => (O.ok (D.int 1)).bind fun y => ix x y).bind fun x => (O.ok (D.int 1)).bind fun y => c_lt x y) (O.ok true) (O.ite (((O.cons ((O.ok v_law_pair_4).bind fun x => (O.ok (D.int 0)).bind fun y => ix x y) (O.cons ((O.ok v_law_pair_4).bind fun x => (O.ok (D.int 1)).bind fun y => ix x y) (O.ok []))).bind (l2 f_law_low)).bind fun x => (O.ok v_law_pair_4).bind fun y => c_ne x y) (O.ok true) (((O.cons (O.ok v_law_pair_4) (O.ok [])).bind (l1 f_law_written)).bind fun x => (O.ok v_law_line).bind fun y => c_ne x y))) (O.ok (D.non)) (O.ok v_law_pair_4))))))
def f_law_right : M D :=
  ((M.up ((O.ok (D.int 6)).bind rg1)).bind fun ds => thenM (loopM (fun (s1 : Unit) v_law_turn_2 => ((((M.cons ((M.cons (M.up (O.ok (D.int 0))) (M.cons (M.up (O.ok (D.int 7))) (M.cons ((M.up (O.cons (O.ok (D.int 99)) (O.ok []))).bind (m1 f_law_draw)) (M.cons ((M.up (O.cons ((O.ok (D.int 10)).bind fun x => (O.ok (D.int 9)).bind fun y => b_pow x y) (O.ok []))).bind (m1 f_law_draw)) (M.up (O.ok [])))))).bind fun ds => M.ret (D.lst ds)) (M.up (O.ok []))).bind (m1 f_law_one)).bind fun x => ((M.up (O.cons ((O.cons (O.ok (D.int 1)) (O.cons ((O.ok (D.int 0)).bind fun x => (O.ok (D.int 1)).bind fun y => b_sub x y) (O.ok []))).bind fun ds => O.ok (D.lst ds)) (O.ok []))).bind (m1 f_law_one)).bind fun y => M.up (b_mul x y)).bind fun v_law_upper_3 => (((M.cons (M.up (O.ok v_law_upper_3)) (M.cons ((M.up (O.ok (D.int 1))).bind fun x => ((M.up (O.cons (O.ok (D.int 60)) (O.ok []))).bind (m1 f_law_draw)).bind fun y => M.up (b_add x y)) (M.up (O.ok [])))).bind fun ds => M.up ((l2 f_law_low) ds)).bind fun v_law_pair_4 => ((M.up ((O.cons (O.ok v_law_pair_4) (O.ok [])).bind (l1 f_law_written))).bind fun v_law_line_5 => ((M.up ((O.cons ((O.ok v_law_pair_4).bind fun x => (O.ok (D.int 0)).bind fun y => ix x y) (O.cons ((O.ok v_law_pair_4).bind fun x => (O.ok (D.int 1)).bind fun y => ix x y) (O.ok []))).bind fun ds => ((l2 Ratio_init) (ds ++ [])).bind fun fs => O.ok (D.obj 0 fs))).bind fun v_law_mine_6 => (M.ite (M.up (((O.cons ((O.cons (O.ok v_law_mine_6) (O.ok [])).bind (ownStr txts)) (O.cons ((O.cons ((O.cons (O.ok v_law_line_5) (O.ok [])).bind (l1 Ratio_read)) (O.ok [])).bind (ownStr txts)) (O.cons (tr (((O.cons (O.ok v_law_line_5) (O.ok [])).bind fun ds => (l1 Ratio_read) (perm [0] ds)).bind fun x => (O.ok v_law_mine_6).bind fun y => (ownEq eqs0) x y)) (O.ok [])))).bind fun ds => O.ok (D.lst ds)).bind fun x => ((O.cons (O.ok v_law_line_5) (O.cons (O.ok v_law_line_5) (O.cons (O.ok (D.bl true)) (O.ok [])))).bind fun ds => O.ok (D.lst ds)).bind fun y => (ownNe eqs0) x y)) ((M.up (O.ok (D.bl false))).bind fun d => M.ret (Fl.rt (d))) (((M.up (O.cons (((O.cons (O.ok v_law_line_5) (O.ok [])).bind (ownLen lens)).bind fun x => (O.ok (D.int 1)).bind fun y => b_add x y) (O.ok []))).bind (m1 f_law_draw)).bind fun v_law_at_7 => (((M.up (O.cons ((O.cons (O.ok (D.str "-")) (O.cons (O.ok (D.str "/")) (O.cons (O.ok (D.str "0")) (O.cons (O.ok (D.str "1")) (O.cons (O.ok (D.str "3")) (O.cons (O.ok (D.str " ")) (O.cons (O.ok (D.str "+")) (O.cons (O.ok (D.str ".")) (O.cons (O.ok (D.str "x")) (O.ok [])))))))))).bind fun ds => O.ok (D.lst ds)) (O.ok []))).bind (m1 f_law_one)).bind fun v_law_more_8 => ((M.up ((O.cons ((((O.ok v_law_line_5).bind fun x => (O.ok none).bind fun l => ((O.ok v_law_at_7).bind fun x => (asI x).bind fun i => O.ok (some i)).bind fun h => cut x l h).bind fun x => (O.ok v_law_more_8).bind fun y => b_add x y).bind fun x => ((O.ok v_law_line_5).bind fun x => ((O.ok v_law_at_7).bind fun x => (asI x).bind fun i => O.ok (some i)).bind fun l => (O.ok none).bind fun h => cut x l h).bind fun y => b_add x y) (O.cons (((O.ok v_law_line_5).bind fun x => (O.ok none).bind fun l => ((O.ok v_law_at_7).bind fun x => (asI x).bind fun i => O.ok (some i)).bind fun h => cut x l h).bind fun x => ((O.ok v_law_line_5).bind fun x => (((O.ok v_law_at_7).bind fun x => (O.ok (D.int 1)).bind fun y => b_add x y).bind fun x => (asI x).bind fun i => O.ok (some i)).bind fun l => (O.ok none).bind fun h => cut x l h).bind fun y => b_add x y) (O.cons ((((O.ok v_law_line_5).bind fun x => (O.ok none).bind fun l => ((O.ok v_law_at_7).bind fun x => (asI x).bind fun i => O.ok (some i)).bind fun h => cut x l h).bind fun x => (O.ok v_law_more_8).bind fun y => b_add x y).bind fun x => ((O.ok v_law_line_5).bind fun x => (((O.ok v_law_at_7).bind fun x => (O.ok (D.int 1)).bind fun y => b_add x y).bind fun x => (asI x).bind fun i => O.ok (some i)).bind fun l => (O.ok none).bind fun h => cut x l h).bind fun y => b_add x y) (O.ok [])))).bind fun ds => O.ok (D.lst ds))).bind fun v_law_ways_9 => (((M.up (O.cons (O.ok v_law_ways_9) (O.ok []))).bind (m1 f_law_one)).bind fun v_law_line_10 => ((M.up ((((O.cons (O.ok v_law_line_10) (O.ok [])).bind (l1 x_Ratio_read)).bind (xap (ownStr txts))).bind (ansO (sortO LX f_law_sort)))).bind fun v_law_told_11 => (M.ite (M.up ((O.ok v_law_told_11).bind fun x => (O.ite (((O.cons (O.ok v_law_line_10) (O.ok [])).bind (l1 f_law_read)).bind fun x => (O.ok (D.non)).bind fun y => c_is x y) ((O.cons (O.ok (D.str "InvalidText")) (O.cons ((O.cons (O.ok v_law_line_10) (O.ok [])).bind bi_reprZ) (O.ok []))).bind fun ds => O.ok (D.lst ds)) ((O.cons (O.ok (D.str "returned")) (O.cons (O.ok v_law_line_10) (O.ok []))).bind fun ds => O.ok (D.lst ds))).bind fun y => (ownNe eqs0) x y)) ((M.up (O.ok (D.bl false))).bind fun d => M.ret (Fl.rt (d))) (M.ret (Fl.nx ())))))))))))))) ds ()) fun (s1 : Unit) => ((M.up ((O.cons (O.ok (D.non)) (O.cons (O.ok (D.int 3)) (O.cons (O.ok (D.str "")) (O.cons (O.ok (D.str "-")) (O.cons (O.ok (D.str "/")) (O.cons (O.ok (D.str "1/")) (O.cons (O.ok (D.str "/2")) (O.cons (O.ok (D.str "0/3")) (O.cons (O.ok (D.str "2/4")) (O.cons (O.ok (D.str "3/1")) (O.cons (O.ok (D.str "1/0")) (O.ok [])))))))))))).bind fun ds => O.ok (D.lst ds))).bind fun v_law_some_12 => (((M.up (O.cons ((O.ok v_law_some_12).bind fun x => ((O.cons (O.ok (D.str "-0")) (O.cons (O.ok (D.str "+1")) (O.cons (O.ok (D.str " 1")) (O.cons (O.ok (D.str "1/-2")) (O.cons ((O.cons (O.ok (D.str "1")) (O.ok [])).bind fun ds => O.ok (D.tup ds)) (O.cons ((O.ok []).bind fun ds => O.ok (D.lst ds)) (O.ok []))))))).bind fun ds => O.ok (D.lst ds)).bind fun y => b_add x y) (O.ok []))).bind (m1 f_law_one)).bind fun v_law_odd_13 => (M.up (tr ((((O.cons (O.ok v_law_odd_13) (O.ok [])).bind (l1 x_Ratio_read)).bind (ansO (sortO LX f_law_sort))).bind fun x => ((O.cons (O.ok (D.str "InvalidText")) (O.cons ((O.cons (O.ok v_law_odd_13) (O.ok [])).bind bi_reprZ) (O.ok []))).bind fun ds => O.ok (D.lst ds)).bind fun y => (ownEq eqs0) x y))))))
def f_law (v_law_script : D) : O D :=
  ((O.cons (((((O.cons (O.ok (D.int 2)) (O.cons ((O.cons ((O.cons (O.ok v_law_script) (O.ok [])).bind (ownLen lens)) (O.cons (O.ok (D.int 6)) (O.ok []))).bind bi_min) (O.ok []))).bind bi_max).bind rg1).bind (mapO (fun v_law_k => (((O.cons (O.ok v_law_script) (O.cons (O.ok v_law_k) (O.ok []))).bind (l2 f_law_bag)).bind fun gs => ((m0 f_law_right) [] gs).bind fun r => O.ok r.1)))).bind fun ds => O.ok (D.lst ds)) (O.ok [])).bind bi_all)
end SL.K02
namespace SL
open PySem L2 DL TL
def okStr : O D → Bool
  | .ok (.str _) => true
  | _ => false
def strOf : O D → Str
  | .ok (.str t) => t
  | _ => Str.empty
def dOf : O D → D
  | .ok d => d
  | _ => .non
theorem okStr_eq {o : O D} (h : okStr o = true) : o = .ok (.str (strOf o)) := by
  cases o with
  | ok d => cases d with
    | str t => rfl
    | _ => cases h
  | _ => cases h
def ctx (c : Cell) : Str := strOf (f_cell_text (celD c))
def isCel (o : O D) (c : Cell) : Bool := match o with
  | .ok (.tup [.int a, .int b, .bl f]) => decide (a = c.1) && decide (b = c.2.1) && decide (f = c.2.2)
  | _ => false
theorem isCel_eq {o : O D} {c : Cell} (h : isCel o c = true) : o = .ok (celD c) := by
  obtain ⟨a, b, f⟩ := c
  unfold isCel at h
  split at h
  · simp only [Bool.and_eq_true, decide_eq_true_eq] at h
    obtain ⟨⟨rfl, rfl⟩, rfl⟩ := h
    rfl
  · cases h
def chkC (c : Cell) : Bool := okStr (f_cell_text (celD c)) && isCel (f_cell_in (.str (ctx c))) c && !(decide (32 ∈ (ctx c).cps.toList)) && decide ((ctx c).length ≤ 4) && (ctx c).cps.toList.all (· < 128)
theorem chk_all : ∀ a b : Fin 8, ∀ f : Bool, chkC ((a.val : Int), (b.val : Int), f) = true := by decide +kernel
theorem chk_cell {c : Cell} (h : 0 ≤ c.1 ∧ c.1 ≤ c.2.1 ∧ c.2.1 < 8) : chkC c = true := by
  obtain ⟨a, b, f⟩ := c
  simp only at h
  have := chk_all ⟨a.toNat, by omega⟩ ⟨b.toNat, by omega⟩ f
  simp only at this
  rw [Int.toNat_of_nonneg (by omega), Int.toNat_of_nonneg (by omega)] at this
  exact this
structure CT (c : Cell) : Prop where
  wr : f_cell_text (celD c) = .ok (.str (ctx c))
  rd : f_cell_in (.str (ctx c)) = .ok (celD c)
  sp : 32 ∉ (ctx c).cps.toList
  ln : (ctx c).length ≤ 4
  ch : ∀ x ∈ (ctx c).cps.toList, x < 128
theorem ct_of {c : Cell} (h : 0 ≤ c.1 ∧ c.1 ≤ c.2.1 ∧ c.2.1 < 8) : CT c := by
  have k := chk_cell h
  unfold chkC at k
  simp only [Bool.and_eq_true, Bool.not_eq_true', decide_eq_false_iff_not, decide_eq_true_eq, List.all_eq_true] at k
  obtain ⟨⟨⟨⟨k1, k2⟩, k3⟩, k4⟩, k5⟩ := k
  exact ⟨okStr_eq k1, isCel_eq k2, k3, k4, k5⟩
theorem Good.ct {L : List Cell} (g : Good L) {c : Cell} (h : c ∈ L) : CT c := ct_of (by have := g.ok c h; have := g.n2; omega)
theorem itl (ds : List D) : itD (.lst ds) = .ok ds := nrfl rfl trivial
theorem ownStr_o {t : Nat → Option (D → O D)} {c : Nat} {fs : List (Str × D)} {f : D → O D} {s : Str} (h : t c = some f) (hf : f (.obj c fs) = .ok (.str s)) : ownStr t [.obj c fs] = .ok (.str s) := by
  unfold ownStr
  simp only [h, op2k, hf, bk]
end SL
namespace SL
open PySem L2 DL TL
def st (l : List Nat) : Str := ⟨l.toArray⟩
def tx (l : List Nat) : D := .str (st l)
theorem st_len (l : List Nat) : (st l).length = l.length := by
  show l.toArray.size = l.length
  simp
theorem st_inj {a b : List Nat} : st a = st b ↔ a = b := by
  constructor
  · intro h
    have : (st a).cps = (st b).cps := by rw [h]
    have : a.toArray = b.toArray := this
    simpa using this
  · rintro rfl; rfl
theorem st_tl (s : Str) : st s.cps.toList = s := by
  show (⟨s.cps.toList.toArray⟩ : Str) = s
  rw [Array.toArray_toList]
theorem ixn_nat {n k : Nat} (h : k < n) : ixN n (k : Int) = some (k : Int).toNat := by
  unfold ixN
  simp
  omega
theorem ix_tx {l : List Nat} {i : Int} {c : Nat} (h0 : 0 ≤ i) (hl : l.length ≤ 1000000) (h : l[i.toNat]? = some c) : ix (tx l) (.int i) = .ok (tx [c]) := by
  show (if (st l).length ≤ 1000000 then op2 (atI (st l).cps.toList i) fun c => O.ok (D.str ⟨#[c]⟩) else .bad) = _
  rw [if_pos (by rw [st_len]; exact hl)]
  have e : (st l).cps.toList = l := by show l.toArray.toList = l; simp
  have hi : i.toNat < l.length := (List.getElem?_eq_some_iff.mp h).1
  have e2 : atI l i = some c := by
    unfold atI
    have e3 : ixN l.length i = some i.toNat := by
      obtain ⟨k, rfl⟩ := Int.eq_ofNat_of_zero_le h0
      exact ixn_nat (by omega)
    rw [e3]
    exact h
  rw [e, e2]
  rfl
theorem add_tx {a b : List Nat} (h : a.length + b.length ≤ 1000000) : b_add (tx a) (tx b) = .ok (tx (a ++ b)) := by
  show (if (st a).length + (st b).length ≤ 1000000 then O.ok (D.str (st a ++ st b)) else .bad) = _
  rw [if_pos (by rw [st_len, st_len]; exact h)]
  congr 2
  show (⟨a.toArray ++ b.toArray⟩ : Str) = ⟨(a ++ b).toArray⟩
  rw [List.append_toArray]
theorem it_tx (l : List Nat) : itD (tx l) = .ok (l.map fun c => tx [c]) := by
  show O.ok (signsD (st l)) = _
  unfold signsD
  have e : (st l).cps.toList = l := by show l.toArray.toList = l; simp
  rw [e]
  rfl
theorem eq_tx (a b : List Nat) : c_eq (tx a) (tx b) = .ok (decide (a = b)) := by
  show O.ok (decide (st a = st b)) = _
  congr 1
  exact decide_eq_decide.mpr st_inj
theorem len_tx {l : List Nat} (h : l.length ≤ 1000000) : bi_len [tx l] = .ok (.int l.length) := by
  show (if (st l).length ≤ 1000000 then O.ok (D.int (st l).length) else .bad) = _
  rw [if_pos (by rw [st_len]; exact h), st_len]
theorem olen_tx {t : Nat → Option (D → O D)} {l : List Nat} (h : l.length ≤ 1000000) : ownLen t [tx l] = .ok (.int l.length) := len_tx h
theorem take_tx {l : List Nat} (k : Nat) (h : l.length ≤ 1000000) : cut (tx l) none (some (k : Int)) = .ok (tx (l.take k)) := by
  show (if (st l).length ≤ 1000000 then O.ok (D.str (cutS (st l) none (some (k : Int)))) else .bad) = _
  rw [if_pos (by rw [st_len]; exact h)]
  unfold cutS
  have e : (st l).cps.toList = l := by show l.toArray.toList = l; simp
  rw [e, HT.sIx_none, HT.sIx_nat, st_len, List.drop_zero, Nat.sub_zero]
  show O.ok (tx (l.take (min k l.length))) = _
  rcases Nat.le_total k l.length with z | z
  · rw [Nat.min_eq_left z]
  · rw [Nat.min_eq_right z, List.take_of_length_le (Nat.le_refl _), List.take_of_length_le z]
theorem drop_tx {l : List Nat} (k : Nat) (h : l.length ≤ 1000000) : cut (tx l) (some (k : Int)) none = .ok (tx (l.drop k)) := by
  show (if (st l).length ≤ 1000000 then O.ok (D.str (cutS (st l) (some (k : Int)) none)) else .bad) = _
  rw [if_pos (by rw [st_len]; exact h)]
  unfold cutS
  have e : (st l).cps.toList = l := by show l.toArray.toList = l; simp
  rw [e, HT.sIx_none, HT.sIx_nat, st_len]
  show O.ok (tx ((l.drop (min k l.length)).take (l.length - min k l.length))) = _
  congr 2
  rcases Nat.le_total k l.length with z | z
  · rw [Nat.min_eq_left z, List.take_of_length_le (by rw [List.length_drop]; exact Nat.le_refl _)]
  · rw [Nat.min_eq_right z, List.drop_of_length_le (Nat.le_refl _), List.drop_of_length_le z, List.take_nil]
def sml (c : Nat) : Prop := 97 ≤ c ∧ c ≤ 122
instance (c : Nat) : Decidable (sml c) := inferInstanceAs (Decidable (_ ∧ _))
end SL
namespace SL
open PySem L2 DL PyProof.Rows
def cpB (x : Str) : Prop := ∀ c ∈ x.cps.toList, c < 1114112
theorem cpB_app {a b : Str} (h1 : cpB a) (h2 : cpB b) : cpB (a ++ b) := fun c hc => by
  rcases mem_cps_append.mp hc with h | h
  · exact h1 c h
  · exact h2 c h
theorem cpB_join {sep : Str} {ts : List Str} (h1 : cpB sep) (h2 : ∀ t ∈ ts, cpB t) : cpB (Str.join sep ts) := fun c hc => by
  rcases (mem_join sep c ts).mp hc with ⟨t, ht, h⟩ | ⟨_, h⟩
  · exact h2 t ht c h
  · exact h1 c h
theorem char_lt (c : Char) : c.toNat < 1114112 := by
  rcases c.valid with h | ⟨_, h⟩
  · exact Nat.lt_trans h (by decide)
  · exact h
theorem digits_lt (n : Nat) : ∀ c ∈ (Nat.toDigits 16 n).map Char.toNat, c < 1114112 := fun c hc => by
  obtain ⟨x, _, rfl⟩ := List.mem_map.mp hc
  exact char_lt x
theorem reprChar_lt {q c : Nat} (h : c < 1114112) : ∀ x ∈ Builtin.Str.reprChar q c, x < 1114112 := fun x hx => by
  have hex : ∀ w, ∀ y ∈ List.replicate (w - ((Nat.toDigits 16 c).map Char.toNat).length) 48 ++ (Nat.toDigits 16 c).map Char.toNat, y < 1114112 := fun w y hy => by
    rcases List.mem_append.mp hy with z | z
    · rw [(List.mem_replicate.mp z).2]; decide
    · exact digits_lt c y z
  unfold Builtin.Str.reprChar at hx
  dsimp only at hx
  have two : ∀ a b y : Nat, a < 1114112 → b < 1114112 → y ∈ [a, b] → y < 1114112 := fun a b y h1 h2 hy => by
    rcases List.mem_cons.mp hy with rfl | hy
    · exact h1
    · rw [List.mem_singleton.mp hy]; exact h2
  split at hx
  · exact two _ _ x (by decide) h hx
  · split at hx
    · exact two _ _ x (by decide) (by decide) hx
    · split at hx
      · exact two _ _ x (by decide) (by decide) hx
      · split at hx
        · exact two _ _ x (by decide) (by decide) hx
        · split at hx
          · rw [List.mem_singleton.mp hx]; exact h
          · split at hx
            · rcases List.mem_append.mp hx with z | z
              · exact two _ _ x (by decide) (by decide) z
              · exact hex 2 x z
            · split at hx
              · rcases List.mem_append.mp hx with z | z
                · exact two _ _ x (by decide) (by decide) z
                · exact hex 4 x z
              · rcases List.mem_append.mp hx with z | z
                · exact two _ _ x (by decide) (by decide) z
                · exact hex 8 x z
theorem fold_repr {q : Nat} : ∀ (l : List Nat) (acc : Array Nat), (∀ c ∈ l, c < 1114112) → (∀ c ∈ acc.toList, c < 1114112) → ∀ c ∈ (l.foldl (fun out c => out ++ (Builtin.Str.reprChar q c).toArray) acc).toList, c < 1114112
  | [], acc, _, h => h
  | c :: l, acc, h1, h2 => by
    refine fold_repr l _ (fun x hx => h1 x (List.mem_cons_of_mem _ hx)) fun x hx => ?_
    rw [Array.toList_append] at hx
    rcases List.mem_append.mp hx with z | z
    · exact h2 x z
    · exact reprChar_lt (h1 c List.mem_cons_self) x (by simpa using z)
theorem quote_lt (x : Str) : reprQuote x < 1114112 := by unfold reprQuote; split <;> decide
theorem reprText_cp {x : Str} (h : cpB x) : cpB (reprText x) := fun c hc => by
  unfold reprText at hc
  have hc2 : c ∈ ((x.cps.foldl (fun out c => out ++ (Builtin.Str.reprChar (reprQuote x) c).toArray) #[reprQuote x]).push (reprQuote x)).toList := hc
  rw [Array.toList_push, List.mem_append] at hc2
  rcases hc2 with z | z
  · rw [← Array.foldl_toList] at z
    exact fold_repr x.cps.toList _ h (fun y hy => by
      have hy2 : y ∈ [reprQuote x] := hy
      rw [List.mem_singleton.mp hy2]; exact quote_lt x) c z
  · rw [List.mem_singleton.mp z]; exact quote_lt x
theorem textFrom_cp : ∀ (ts : List Str) (k : Nat) (acc : Str), cpB acc → (∀ t ∈ ts, cpB t) → cpB (textFrom k acc ts)
  | [], _, _, h, _ => h
  | t :: ts, k, acc, h1, h2 => by
    refine textFrom_cp ts (k + 1) _ (cpB_app (cpB_app h1 ?_) (h2 t List.mem_cons_self)) fun x hx => h2 x (List.mem_cons_of_mem _ hx)
    split
    · intro c hc
      have : c ∈ [44, 32] := hc
      rcases List.mem_cons.mp this with rfl | h
      · decide
      · rw [List.mem_singleton.mp h]; decide
    · intro c hc
      have : c ∈ ([] : List Nat) := hc
      cases this
theorem cp_lit {x : Str} (l : List Nat) (e : x.cps.toList = l) (h : l.all (fun c => decide (c < 1114112)) = true) : cpB x := fun c hc => by
  rw [e] at hc
  exact of_decide_eq_true (List.all_eq_true.mp h c hc)
theorem listText_cp {ts : List Str} (h : ∀ t ∈ ts, cpB t) : cpB (listText ts) := cpB_app (textFrom_cp ts 0 _ (cp_lit [91] rfl rfl) h) (cp_lit [93] rfl rfl)
theorem tupleText_cp {ts : List Str} (h : ∀ t ∈ ts, cpB t) : cpB (tupleText ts) := by
  refine cpB_app (cpB_app (cp_lit [40] rfl rfl) (cpB_join (cp_lit [44, 32] rfl rfl) h)) ?_
  split
  · exact cp_lit [44, 41] rfl rfl
  · exact cp_lit [41] rfl rfl
theorem tx_cp {l : List Nat} (h : ∀ c ∈ l, c < 1114112) : cpB (st l) := fun c hc => by
  have e : (st l).cps.toList = l := by show l.toArray.toList = l; simp
  rw [e] at hc
  exact h c hc
end SL
namespace SL
open PySem L2 DL PyProof.Rows
structure It (n W L : Nat) (d : D) : Prop where
  rep : Rep n W d
  cp : cpB (toP d).shown
  ln : (toP d).shown.length ≤ L
theorem It.mono {n W L n' W' L' : Nat} {d : D} (h : It n W L d) (h1 : n ≤ n') (h2 : W ≤ W') (h3 : L ≤ L') : It n' W' L' d := ⟨h.rep.mono h1 h2, h.cp, Nat.le_trans h.ln h3⟩
theorem cp_str (s : String) : cpB (s : Str) := fun c hc => by
  have hc2 : c ∈ (Str.ofString s).cps.toList := hc
  rw [signs_ofString] at hc2
  obtain ⟨x, _, rfl⟩ := List.mem_map.mp hc2
  exact char_lt x
theorem it_str {x : Str} {n : Nat} (h : cpB x) (hn : x.length ≤ n) : It 0 n (10 * n + 2) (.str x) := by
  refine ⟨rep_str h hn, reprText_cp h, ?_⟩
  have := StrLaws.reprText_len x fun c hc => by have := h c hc; omega
  show (reprText x).length ≤ _
  omega
theorem it_all {n W L : Nat} : ∀ {ds : List D}, (∀ d ∈ ds, It n W L d) → (∀ t ∈ PyData.shownAll (toPs ds), cpB t) ∧ ((PyData.shownAll (toPs ds)).map (·.length)).sum ≤ L * ds.length ∧ (PyData.shownAll (toPs ds)).length = ds.length
  | [], _ => ⟨fun t h => absurd (show t ∈ ([] : List Str) from h) (by simp), Nat.zero_le _, rfl⟩
  | d :: ds, h => by
    obtain ⟨h1, h2, h3⟩ := it_all (ds := ds) fun x hx => h x (List.mem_cons_of_mem _ hx)
    have e : PyData.shownAll (toPs (d :: ds)) = (toP d).shown :: PyData.shownAll (toPs ds) := rfl
    have h0 := h d List.mem_cons_self
    rw [e]
    refine ⟨fun t ht => ?_, ?_, ?_⟩
    · rcases List.mem_cons.mp ht with rfl | ht
      · exact h0.cp
      · exact h1 t ht
    · rw [List.map_cons, List.sum_cons, List.length_cons, Nat.mul_add, Nat.mul_one]
      have := h0.ln
      omega
    · rw [List.length_cons, List.length_cons, h3]
theorem it_tup {n W L : Nat} {ds : List D} (h : ∀ d ∈ ds, It n W L d) : It (n + 1) ((W + 1) * ds.length) ((L + 2) * ds.length + 3) (.tup ds) := by
  obtain ⟨h1, h2, h3⟩ := it_all h
  refine ⟨rep_tup (rep_all fun d hd => (h d hd).rep), tupleText_cp h1, ?_⟩
  have := tupleText_len_le (PyData.shownAll (toPs ds))
  show (tupleText (PyData.shownAll (toPs ds))).length ≤ _
  rw [Nat.add_mul]
  omega
theorem it_lst {n W L : Nat} {ds : List D} (h : ∀ d ∈ ds, It n W L d) : It (n + 1) ((W + 1) * ds.length) ((L + 2) * ds.length + 3) (.lst ds) := by
  obtain ⟨h1, h2, h3⟩ := it_all h
  refine ⟨rep_lst (rep_all fun d hd => (h d hd).rep), listText_cp h1, ?_⟩
  have := listText_len_le (PyData.shownAll (toPs ds))
  show (listText (PyData.shownAll (toPs ds))).length ≤ _
  rw [Nat.add_mul]
  omega
def RpS (d : D) : Prop := ∃ r, bi_reprZ [d] = .ok (.str r) ∧ cpB r ∧ r.length ≤ 20000
theorem rps_tup {n W L : Nat} {ds : List D} (h : It n W L (.tup ds)) (hn : n ≤ 60) (hW : W ≤ 100000) (hL : L ≤ 20000) : RpS (.tup ds) := by
  refine ⟨(toP (.tup ds)).shown, ?_, h.cp, Nat.le_trans h.ln hL⟩
  show (if repB (.tup ds) = true then O.ok (D.str (toP (.tup ds)).shown) else .bad) = _
  rw [if_pos (repB_mk h.rep rfl hn hW)]
theorem rps_lst {n W L : Nat} {ds : List D} (h : It n W L (.lst ds)) (hn : n ≤ 60) (hW : W ≤ 100000) (hL : L ≤ 20000) : RpS (.lst ds) := by
  refine ⟨(toP (.lst ds)).shown, ?_, h.cp, Nat.le_trans h.ln hL⟩
  show (if repB (.lst ds) = true then O.ok (D.str (toP (.lst ds)).shown) else .bad) = _
  rw [if_pos (repB_mk h.rep rfl hn hW)]
theorem rps_tx {l : List Nat} (h : ∀ c ∈ l, c < 1114112) (hl : l.length ≤ 1000) : RpS (tx l) := by
  have hc := tx_cp h
  have := StrLaws.reprText_len (st l) fun c hh => by have := hc c hh; omega
  rw [st_len] at this
  refine ⟨reprText (st l), ?_, reprText_cp hc, by omega⟩
  show (if (reprText (st l)).length ≤ 1000000 then O.ok (D.str (reprText (st l))) else .bad) = _
  rw [if_pos (by omega)]
theorem rps_non : RpS .non := ⟨"None", rfl, cp_str _, by decide +kernel⟩
end SL
namespace SL
open PySem L2 DL PySem.NumText
def dec (n : Nat) : List Nat := (Nat.toDigits 10 n).map Char.toNat
theorem dec_str (n : Nat) : ((toString ((n : Nat) : Int) : String) : Str) = st (dec n) := by
  have h : (Str.ofString (toString ((n : Nat) : Int))).cps.toList = dec n := PySem.W.KIN.signs_num n
  rw [← h, st_tl]
theorem val_dec (n : Nat) : digitsVal (dec n) = n := PySem.W.KIN.val_back n
theorem dch : ∀ d, d < 10 → (Nat.digitChar d).toNat = 48 + d := by decide
theorem dec_lt {d : Nat} (h : d < 10) : dec d = [48 + d] := by
  unfold dec
  rw [Nat.toDigits_of_lt_base h, List.map_cons, List.map_nil, dch d h]
theorem dec_step {a d : Nat} (ha : 0 < a) (hd : d < 10) : dec (10 * a + d) = dec a ++ [48 + d] := by
  unfold dec
  rw [← Nat.toDigits_append_toDigits (by decide) ha hd, List.map_append, Nat.toDigits_of_lt_base hd, List.map_cons, List.map_nil, dch d hd]
structure Fig (l : List Nat) : Prop where
  ne : l ≠ []
  dg : AllDigits l
  z : l = [48] ∨ l.head? ≠ some 48
theorem dec_head (n : Nat) : AllDigits (dec n) ∧ dec n ≠ [] ∧ (0 < n → (dec n).head? ≠ some 48) := by
  induction n using Nat.strongRecOn with
  | _ n ih =>
    by_cases h : n < 10
    · rw [dec_lt h]
      refine ⟨fun c hc => ?_, by simp, fun h0 => ?_⟩
      · rw [List.mem_singleton.mp hc]; omega
      · simp; omega
    · have e : n = 10 * (n / 10) + n % 10 := by omega
      obtain ⟨h1, h2, h3⟩ := ih (n / 10) (by omega)
      rw [e, dec_step (a := n / 10) (d := n % 10) (by omega) (by omega)]
      refine ⟨fun c hc => ?_, by simp, fun _ => ?_⟩
      · rcases List.mem_append.mp hc with hc | hc
        · exact h1 c hc
        · rw [List.mem_singleton.mp hc]; omega
      · have := h3 (by omega)
        cases q : dec (n / 10) with
        | nil => exact absurd q h2
        | cons a r => rw [q] at this; simpa using this
theorem dec_fig (n : Nat) : Fig (dec n) := by
  obtain ⟨h1, h2, h3⟩ := dec_head n
  refine ⟨h2, h1, ?_⟩
  by_cases h : n = 0
  · subst h; exact .inl (dec_lt (by decide))
  · exact .inr (h3 (by omega))
theorem int_fig {l : List Nat} (f : Fig l) (hl : l.length ≤ 600) : bi_int [tx l] = .ok (.int (digitsVal l : Nat)) := by
  have e : (st l).cps.toList = l := by show l.toArray.toList = l; simp
  have h := intText_digits (x := st l) (by rw [e]; exact f.dg) (by rw [e]; exact f.ne) (by rw [st_len]; omega)
  rw [e] at h
  show (if (st l).length ≤ 640 then op2 (intText? (st l)) fun n => O.ok (D.int n) else .bad) = _
  rw [if_pos (by rw [st_len]; omega), h]
  rfl
theorem pre_one {s c : Nat} {r : List Nat} : TL.pre [s] (c :: r) = (c == s) := by
  show ((c :: r).take 1 == [s]) = _
  rw [List.take_succ_cons, List.take_zero]
  show (c == s && ([] == ([] : List Nat))) = _
  rw [show (([] : List Nat) == []) = true from rfl, Bool.and_true]
theorem spl_no {s : Nat} : ∀ (l acc : List Nat), s ∉ l → TL.spl [s] 0 acc l = [acc ++ l]
  | [], acc, _ => by rw [TL.spl_nil, List.append_nil]
  | c :: l, acc, h => by
    have hc : (c == s) = false := by rw [beq_eq_false_iff_ne]; exact fun e => h (by rw [e]; exact List.mem_cons_self)
    rw [TL.spl_miss (by rw [pre_one, hc]), spl_no l _ fun hm => h (List.mem_cons_of_mem _ hm), List.append_assoc]
    rfl
theorem spl_at {s : Nat} (y : List Nat) : ∀ (x acc : List Nat), s ∉ x → TL.spl [s] 0 acc (x ++ s :: y) = (acc ++ x) :: TL.spl [s] 0 [] y
  | [], acc, _ => by rw [List.nil_append, TL.spl_hit (by rw [pre_one]; exact beq_self_eq_true s), List.append_nil]; rfl
  | c :: x, acc, h => by
    have hc : (c == s) = false := by rw [beq_eq_false_iff_ne]; exact fun e => h (by rw [e]; exact List.mem_cons_self)
    rw [List.cons_append, TL.spl_miss (by rw [pre_one, hc]), spl_at y x _ fun hm => h (List.mem_cons_of_mem _ hm), List.append_assoc]
    rfl
theorem par_no {s : Nat} : ∀ (l acc : List Nat), s ∉ l → TL.par [s] acc l = none
  | [], acc, _ => rfl
  | c :: l, acc, h => by
    have hc : (c == s) = false := by rw [beq_eq_false_iff_ne]; exact fun e => h (by rw [e]; exact List.mem_cons_self)
    rw [TL.par_miss (by rw [pre_one, hc]), par_no l _ fun hm => h (List.mem_cons_of_mem _ hm)]
theorem par_at {s : Nat} (y : List Nat) : ∀ (x acc : List Nat), s ∉ x → TL.par [s] acc (x ++ s :: y) = some (acc ++ x, y)
  | [], acc, _ => by rw [List.nil_append, TL.par_hit (by rw [pre_one]; exact beq_self_eq_true s), List.append_nil]; rfl
  | c :: x, acc, h => by
    have hc : (c == s) = false := by rw [beq_eq_false_iff_ne]; exact fun e => h (by rw [e]; exact List.mem_cons_self)
    rw [List.cons_append, TL.par_miss (by rw [pre_one, hc]), par_at y x _ fun hm => h (List.mem_cons_of_mem _ hm), List.append_assoc]
    rfl
theorem cut_at (s : Nat) (l : List Nat) : s ∉ l ∨ ∃ x y, l = x ++ s :: y ∧ s ∉ x := by
  by_cases h : s ∈ l
  · obtain ⟨x, y, e, hx⟩ := List.eq_append_cons_of_mem h
    exact .inr ⟨x, y, e, hx⟩
  · exact .inl h
theorem len1 (s : Nat) : (st [s]).length = 1 := by rw [st_len]; rfl
theorem part_no {s : Nat} {l : List Nat} (hl : l.length ≤ 1000) (h : s ∉ l) : t_part (tx l) (tx [s]) = .ok (.tup [tx l, tx [], tx []]) := by
  show (if ((st [s]).length == 0) = false ∧ (st l).length ≤ 1000000 then O.ok (D.tup [.str (Txt.partition (st l) (st [s])).1, .str (Txt.partition (st l) (st [s])).2.1, .str (Txt.partition (st l) (st [s])).2.2]) else .bad) = _
  rw [if_pos ⟨by rw [len1]; rfl, by rw [st_len]; omega⟩]
  have e : Txt.partition (st l) (st [s]) = (st l, st [], st []) := SX.partition_none (by simp) (par_no l [] h)
  rw [e]
  rfl
theorem part_at {s : Nat} {x y : List Nat} (hl : x.length + y.length ≤ 1000) (h : s ∉ x) : t_part (tx (x ++ s :: y)) (tx [s]) = .ok (.tup [tx x, tx [s], tx y]) := by
  show (if ((st [s]).length == 0) = false ∧ (st (x ++ s :: y)).length ≤ 1000000 then O.ok (D.tup [.str (Txt.partition (st (x ++ s :: y)) (st [s])).1, .str (Txt.partition (st (x ++ s :: y)) (st [s])).2.1, .str (Txt.partition (st (x ++ s :: y)) (st [s])).2.2]) else .bad) = _
  rw [if_pos ⟨by rw [len1]; rfl, by rw [st_len, List.length_append, List.length_cons]; omega⟩]
  have e : Txt.partition (st (x ++ s :: y)) (st [s]) = (st x, st [s], st y) := SX.partition_some (by simp) (by rw [par_at y x [] h]; rfl)
  rw [e]
  rfl
end SL
namespace SL.K02
open PySem L2 DL SL
theorem draw_ok {w : Int} (h : 0 < w) (h2 : w < 2 ^ 64) {g : List D} (hb : Bag g) : ∃ r g', f_law_draw (.int w) g = .ok (.int r, g') ∧ 0 ≤ r ∧ r < w ∧ Bag g' := by
  obtain ⟨a, b, c, rfl⟩ := hb
  unfold f_law_draw
  simp only [mbind, mitea, mconsa, mupa, mret, bagx, bk, ck, ix_l3_0, ix_l3_1, ix_l3_2, b_add_i, ixN3_2, op2k, set3_2, c_gt_i, bi_int_i, b_mod_i h, b_fdiv_i h h2, ixN3_0, set3_0, ixN3_1, set3_1,
    b_mul_l (i := 104651) (by decide) (by decide), b_mul_l (i := 11) (by decide) (by decide), b_mod_i (j := 59981) (by decide)]
  by_cases z : 0 < a
  · simp only [decide_eq_true z, bif1, mbind, mconsa, mupa, mret, bagx, bk, ck, ix_l3_0, ix_l3_1, ix_l3_2, bi_int_i, b_mod_i h, b_fdiv_i h h2, ixN3_0, op2k, set3_0]
    exact ⟨_, _, rfl, Int.emod_nonneg _ (by omega), Int.emod_lt_of_pos _ h, _, _, _, rfl⟩
  · have ht : ∀ x : Int, 0 ≤ x % 59981 + 40039 ∧ x % 59981 + 40039 < 2 ^ 64 := fun x => by omega
    simp only [decide_eq_false z, bif0, mbind, mconsa, mupa, mret, bagx, bk, ck, ix_l3_0, ix_l3_1, ix_l3_2, b_add_i, bi_int_i, ixN3_1, op2k, set3_1, b_mul_l (i := 104651) (by decide) (by decide), b_mul_l (i := 11) (by decide) (by decide), b_mod_i (j := 59981) (by decide), b_mod_i (j := 2147483549) (by decide), b_fdiv_i (j := 509) (by decide) (by decide), b_mod_i h,
      b_mul_r (i := b + 104651 * (c + 1)) (j := (b + 104651 * (c + 1)) % 59981 + 40039) (by have := ht (b + 104651 * (c + 1)); omega) (ht _).2]
    exact ⟨_, _, rfl, Int.emod_nonneg _ (by omega), Int.emod_lt_of_pos _ h, _, _, _, rfl⟩
theorem one_ok {ds : List D} (h : 0 < ds.length) (h2 : ds.length < 1000) {g : List D} (hb : Bag g) : ∃ d g', f_law_one (.lst ds) g = .ok (d, g') ∧ d ∈ ds ∧ Bag g' := by
  obtain ⟨r, g', e, h0, h1, b⟩ := draw_ok (w := ds.length) (by omega) (by omega) hb
  unfold f_law_one
  have hl : r.toNat < ds.length := by omega
  simp only [mbind, mupa, mret, bk, ck, ownLen_l, mp1, e, ix_l h0 (List.getElem?_eq_getElem hl)]
  exact ⟨_, _, rfl, List.getElem_mem hl, b⟩
theorem low_ok {u l : Int} (h : 0 < l) (h2 : l < 2 ^ 600) : f_law_low (.int u) (.int l) = .ok (.tup [.int (lows u l).1, .int (lows u l).2]) := by
  unfold f_law_low
  simp only [bk, ck, bi_abs_i, abs_if, natOf]
  rw [gcd_loop (by intro x y; rfl) (by intro x y h; simp only [bk, ck, bi_int_i, b_mod_i h]) (l.natAbs + 1) _ _ (by omega) (by omega) (by omega)]
  have e : Int.gcd (u.natAbs : Int) (l.natAbs : Int) = Int.gcd u l := by unfold Int.gcd; rw [Int.natAbs_natCast, Int.natAbs_natCast]
  have g1 := gcd_pos (a := u) h
  have g2 := gcd_le (a := u) h
  simp only [bk, ck, e, c_gt_i, decide_eq_true h, ite1, b_fdiv_x g1 (show (Int.gcd u l : Int) < 2 ^ 700 by omega)]
  rfl
theorem bag_ok {is : List Int} {k : Int} (h0 : 0 ≤ k) (h1 : k < 100) (hl : is.length ≤ 63) : ∃ g, f_law_bag (.lst (is.map D.int)) (.int k) = .ok g ∧ Bag g := by
  unfold f_law_bag
  obtain ⟨hd, e1⟩ : ∃ hd : Int, O.ite (c_lt (.int k) (.int (is.map D.int).length)) ((O.cons (ix (.lst (is.map D.int)) (.int k)) (O.ok [])).bind bi_int) (O.ok (D.int 0)) = .ok (.int hd) := by
    simp only [c_lt_i]
    by_cases z : k < (is.map D.int).length
    · have hk : k.toNat < is.length := by rw [List.length_map] at z; omega
      refine ⟨is[k.toNat], ?_⟩
      rw [decide_eq_true z, ite1, ix_l (d := .int is[k.toNat]) h0 (by rw [List.getElem?_map, List.getElem?_eq_getElem hk]; rfl), ck, bk, bi_int_i]
    · exact ⟨0, by rw [decide_eq_false z, ite0]⟩
  have e2 : ∃ js : List Int, cut (.lst (is.map D.int)) none (some 7) = .ok (.lst (js.map D.int)) := by
    refine ⟨is.take 7, ?_⟩
    show O.ok (D.lst (cutD (is.map D.int) none (some 7))) = _
    unfold cutD
    rw [HT.sIx_none, show (some (7 : Int)) = some ((7 : Nat) : Int) from rfl, HT.sIx_nat, List.drop_zero, ← List.map_take, Nat.sub_zero, List.length_map]
    congr 3
    rcases Nat.le_total 7 is.length with h | h
    · rw [Nat.min_eq_left h]
    · rw [Nat.min_eq_right h, List.take_of_length_le (Nat.le_refl _), List.take_of_length_le h]
  obtain ⟨js, e2⟩ := e2
  simp only [bk, ck, ownLen_l, e1, b_add_i, b_mul_l (i := 60029) (by decide) (by decide), aik, e2, itD_lst]
  refine forO_intK (fun s t => ⟨_, by simp only [bk, ck, b_mul_r (j := 30491) (by decide) (by decide), bi_int_i, b_mod_i (j := 1000121) (by decide), b_mul_l (i := 17) (by decide) (by decide), b_add_i, b_mod_i (j := 2147483549) (by decide)]; rfl⟩) fun u => ?_
  have hp : b_pow (.int 10) (.int 15) = .ok (.int (10 ^ 15)) := by
    show (if CPow 10 15 then O.ok (D.int (10 ^ (15 : Int).toNat)) else O.bad) = _
    rw [if_pos (by decide)]; rfl
  obtain ⟨t, e4⟩ : ∃ t : Int, O.ite (O.ite (O.ok (decide (hd < 0))) (O.ok true) (O.ok (decide ((10 : Int) ^ 15 ≤ hd)))) (O.ok (D.int (if hd < 0 then -hd else hd))) (O.ok (D.int 0)) = .ok (.int t) := by
    by_cases z : hd < 0
    · exact ⟨_, by rw [decide_eq_true z, ite1, ite1]⟩
    · rw [decide_eq_false z, ite0]
      by_cases z2 : (10 : Int) ^ 15 ≤ hd
      · exact ⟨_, by rw [decide_eq_true z2, ite1]⟩
      · exact ⟨_, by rw [decide_eq_false z2, ite0]⟩
  simp only [bk, ck, c_lt_i, hp, c_ge_i, bi_abs_i, e4, bi_int_i, b_mod_i (j := 999931) (by decide), b_mul_l (i := 40093) (by decide) (by decide), b_add_i, b_mod_i (j := 2147483549) (by decide)]
  exact ⟨_, rfl, _, _, _, rfl⟩
def law_tail (v_law_script : D) : O D :=
  ((O.cons (((((O.cons (O.ok (D.int 2)) (O.cons ((O.cons ((O.cons (O.ok v_law_script) (O.ok [])).bind (ownLen lens)) (O.cons (O.ok (D.int 6)) (O.ok []))).bind bi_min) (O.ok []))).bind bi_max).bind rg1).bind (mapO (fun v_law_k => (((O.cons (O.ok v_law_script) (O.cons (O.ok v_law_k) (O.ok []))).bind (l2 f_law_bag)).bind fun gs => ((m0 f_law_right) [] gs).bind fun r => O.ok r.1)))).bind fun ds => O.ok (D.lst ds)) (O.ok [])).bind bi_all)
theorem tail_ok (right_ok : ∀ {g : List D}, Bag g → ∃ g', f_law_right g = .ok (.bl true, g') ∧ Bag g') (is : List Int) (h : is.length ≤ 63) : law_tail (.lst (is.map D.int)) = .ok (.bl true) := by
  unfold law_tail
  have e1 : ∃ n : Int, bi_max [.int 2, .int (if 6 < (((is.map D.int).length : Nat) : Int) then 6 else ((is.map D.int).length : Nat))] = .ok (.int n) ∧ 0 ≤ n ∧ n ≤ 6 := by
    refine ⟨_, rfl, ?_, ?_⟩ <;> split <;> split <;> omega
  obtain ⟨n, e1, n0, n1⟩ := e1
  simp only [bk, ck, ownLen_l, bi_min_i, e1, rg1_i (show -(2 ^ 62) ≤ n by omega) (show n < 2 ^ 62 by omega)]
  rw [mapO_ok (fun _ => .bl true) (fun d hd => ?hd) (by rw [rangeD_length]; omega)]
  case hd =>
    obtain ⟨i, hi⟩ := List.getElem?_of_mem hd
    obtain ⟨h1, rfl⟩ := rangeD_get hi
    obtain ⟨g, e2, b⟩ := bag_ok (is := is) (k := 0 + (i : Int)) (by omega) (by omega) h
    obtain ⟨g', e3, _⟩ := right_ok b
    simp only [bk, ck, ap2, e2, mp0, e3]
  have e : (rangeD 0 n.toNat).map (fun _ => D.bl true) = (List.replicate n.toNat true).map D.bl := by
    rw [List.map_const', rangeD_length, List.map_replicate]
  rw [e]
  simp only [bk, ck]
  show op2 (bls? _) _ = _
  rw [bls?_map, op2k]
  simp
end SL.K02
namespace SL.K02
open PySem L2 DL SL PySem.NumText
def digs : List Nat := [48, 49, 50, 51, 52, 53, 54, 55, 56, 57]
theorem str_digs : D.str "0123456789" = tx digs := by
  show D.str "0123456789" = D.str (st digs)
  congr 1
theorem str_e : D.str "" = tx [] := by
  show D.str "" = D.str (st [])
  congr 1
theorem str_0 : D.str "0" = tx [48] := by
  show D.str "0" = D.str (st [48])
  congr 1
theorem str_m : D.str "-" = tx [45] := by
  show D.str "-" = D.str (st [45])
  congr 1
theorem str_s : D.str "/" = tx [47] := by
  show D.str "/" = D.str (st [47])
  congr 1
theorem mem_digs {c : Nat} : c ∈ digs ↔ 48 ≤ c ∧ c ≤ 57 := by
  unfold digs
  simp only [List.mem_cons, List.not_mem_nil, or_false]
  omega
theorem inone (c : Nat) (l : List Nat) : c_in (tx [c]) (tx l) = .ok (decide (c ∈ l)) := by
  show O.ok (decide (c ∈ (st l).cps.toList)) = _
  have e : (st l).cps.toList = l := by show l.toArray.toList = l; simp
  rw [e]
instance (l : List Nat) : Decidable (AllDigits l) := inferInstanceAs (Decidable (∀ c ∈ l, 48 ≤ c ∧ c ≤ 57))
theorem fig_iff (l : List Nat) : Fig l ↔ l ≠ [] ∧ AllDigits l ∧ (l = [48] ∨ l.head? ≠ some 48) := ⟨fun f => ⟨f.ne, f.dg, f.z⟩, fun ⟨a, b, c⟩ => ⟨a, b, c⟩⟩
instance (l : List Nat) : Decidable (Fig l) := decidable_of_iff' _ (fig_iff l)
theorem all_dg (l : List Nat) : (l.all fun c => decide (c ∈ digs)) = decide (AllDigits l) := by
  rw [Bool.eq_iff_iff, List.all_eq_true, decide_eq_true_eq]
  constructor
  · intro h c hc
    exact mem_digs.mp (of_decide_eq_true (h c hc))
  · intro h c hc
    exact decide_eq_true (mem_digs.mpr (h c hc))
theorem ix0 {l : List Nat} {a : Nat} {r : List Nat} (e : l = a :: r) (hl : l.length ≤ 1000) : ix (tx l) (.int 0) = .ok (tx [a]) := ix_tx (by decide) (by omega) (by rw [e]; rfl)
theorem figures_p {l : List Nat} (hl : l.length ≤ 1000) : f_are_figures (tx l) = .ok (.bl (decide (Fig l))) := by
  unfold f_are_figures
  simp only [bk, ck, str_e, str_0, str_digs, eq_tx, it_tx]
  by_cases z : l = []
  · rw [decide_eq_true z, ite1, ite1, decide_eq_false fun f : Fig l => f.ne z]
  · rw [decide_eq_false z, ite0]
    rw [mapO_ok (fun d => match d with | .str x => D.bl (decide (x.cps.toList.headD 0 ∈ digs)) | _ => .non) (fun d hd => ?hd) (by rw [List.length_map]; omega)]
    case hd =>
      obtain ⟨c, hc, rfl⟩ := List.mem_map.mp hd
      rw [inone, trk]
      rfl
    have e : (l.map fun c => tx [c]).map (fun d => match d with | .str x => D.bl (decide (x.cps.toList.headD 0 ∈ digs)) | _ => .non) = (l.map fun c => decide (c ∈ digs)).map D.bl := by
      rw [List.map_map, List.map_map]
      rfl
    have e2 : bi_all [.lst ((l.map fun c => decide (c ∈ digs)).map D.bl)] = .ok (.bl (decide (AllDigits l))) := by
      show op2 (bls? _) _ = _
      rw [bls?_map, op2k, List.all_map]
      show O.ok (D.bl (l.all fun c => decide (c ∈ digs))) = _
      rw [all_dg]
    rw [e]
    simp only [bk, ck, e2, asBk]
    by_cases y : AllDigits l
    · rw [decide_eq_true y]
      obtain ⟨a, r, e3⟩ := List.exists_cons_of_ne_nil z
      simp only [Bool.not_true, ite0, trk, bk, asBk, ix0 e3 hl]
      by_cases x : l = [48]
      · rw [decide_eq_true x, ite1, trk, decide_eq_true (⟨z, y, .inl x⟩ : Fig l)]
      · rw [decide_eq_false x, ite0]
        have en : c_ne (tx [a]) (tx [48]) = .ok (!decide ([a] = [48])) := by show (c_eq (tx [a]) (tx [48])).bind (fun k => O.ok (!k)) = _; rw [eq_tx, bk]
        simp only [en, bk, trk, asBk]
        by_cases w : a = 48
        · rw [decide_eq_true (show [a] = [48] by rw [w]), decide_eq_false fun f : Fig l => by
            rcases f.z with h | h
            · exact x h
            · rw [e3] at h; exact h (by rw [w]; rfl)]
          rfl
        · rw [decide_eq_false (show ¬ [a] = [48] by simp; exact w), decide_eq_true (⟨z, y, .inr (by rw [e3]; simp; exact w)⟩ : Fig l)]
          rfl
    · rw [decide_eq_false y, decide_eq_false fun f : Fig l => y f.dg]
      simp only [Bool.not_false, ite1]
end SL.K02
namespace SL.K02
open PySem L2 DL SL PySem.NumText
theorem tl_st (l : List Nat) : (st l).cps.toList = l := by show l.toArray.toList = l; simp
def wr (p q : Nat) : List Nat := if q = 1 then dec p else dec p ++ 47 :: dec q
theorem no47 {l : List Nat} (h : AllDigits l) : 47 ∉ l := fun hm => by have := h 47 hm; omega
theorem app_inj {x y x' y' : List Nat} (h : 47 ∉ x) (h' : 47 ∉ x') (e : x ++ 47 :: y = x' ++ 47 :: y') : x = x' ∧ y = y' := by
  induction x generalizing x' with
  | nil =>
    cases x' with
    | nil => exact ⟨rfl, by simpa using e⟩
    | cons a r => rw [List.nil_append, List.cons_append] at e; injection e with e1 e2; exact absurd (by rw [← e1]; exact List.mem_cons_self) h'
  | cons c x ih =>
    cases x' with
    | nil => rw [List.nil_append, List.cons_append] at e; injection e with e1 e2; exact absurd (by rw [e1]; exact List.mem_cons_self) h
    | cons a r =>
      rw [List.cons_append, List.cons_append] at e
      injection e with e1 e2
      obtain ⟨h1, h2⟩ := ih (fun hm => h (List.mem_cons_of_mem _ hm)) (fun hm => h' (List.mem_cons_of_mem _ hm)) e2
      exact ⟨by rw [e1, h1], h2⟩
theorem ne_pair2 (a b c d : Int) : c_ne (.tup [.int a, .int b]) (.tup [.int c, .int d]) = .ok (!(decide (a = c) && decide (b = d))) := by
  have e : c_eq (.tup [.int a, .int b]) (.tup [.int c, .int d]) = .ok (PyData.eqv (.tuple [.int a, .int b]) (.tuple [.int c, .int d])) := rfl
  have e2 : PyData.eqv (.tuple [.int a, .int b]) (.tuple [.int c, .int d]) = (decide (a = c) && decide (b = d)) := by
    show ((a == c) && ((b == d) && true)) = _
    rw [Bool.and_true]
    rfl
  show (c_eq _ _).bind (fun k => O.ok (!k)) = _
  rw [e, bk, e2]
theorem split_all {l : List Nat} (hl : l.length ≤ 1000) : t_split (tx l) (tx [47]) = .ok (.lst ((TL.spl [47] 0 [] l).map tx)) := by
  show (if ((st [47]).length == 0) = false ∧ (st l).length + 2 ≤ 1000000 then O.ok (D.lst ((Txt.split (st l) (st [47])).map D.str)) else .bad) = _
  rw [if_pos ⟨by rw [len1]; rfl, by rw [st_len]; omega⟩]
  have e : Txt.split (st l) (st [47]) = (TL.spl [47] 0 [] l).map st := SX.split_S (by simp) (by decide)
  rw [e, List.map_map]
  rfl
theorem spl_sub : ∀ (l acc : List Nat), (∀ p ∈ TL.spl [47] 0 acc l, p.length ≤ acc.length + l.length ∧ ∀ c ∈ p, c ∈ acc ∨ c ∈ l) ∧ 1 ≤ (TL.spl [47] 0 acc l).length ∧ (TL.spl [47] 0 acc l).length ≤ l.length + 1
  | [], acc => by
    rw [TL.spl_nil]
    refine ⟨fun p hp => ?_, by simp, by simp⟩
    rw [List.mem_singleton.mp hp]
    exact ⟨Nat.le_refl _, fun c hc => .inl hc⟩
  | c :: l, acc => by
    by_cases h : c = 47
    · rw [TL.spl_hit (by rw [pre_one, h]; rfl)]
      obtain ⟨h1, h2, h3⟩ := spl_sub l []
      have e0 : ([47] : List Nat).length - 1 = 0 := rfl
      rw [e0]
      refine ⟨fun p hp => ?_, by rw [List.length_cons]; omega, by rw [List.length_cons, List.length_cons]; omega⟩
      rcases List.mem_cons.mp hp with rfl | hp
      · exact ⟨by omega, fun c hc => .inl hc⟩
      · obtain ⟨a, b⟩ := h1 p hp
        refine ⟨by rw [List.length_cons]; simp only [List.length_nil] at a; omega, fun x hx => ?_⟩
        rcases b x hx with z | z
        · exact absurd z (by simp)
        · exact .inr (List.mem_cons_of_mem _ z)
    · rw [TL.spl_miss (by rw [pre_one]; exact beq_eq_false_iff_ne.mpr h)]
      obtain ⟨h1, h2, h3⟩ := spl_sub l (acc ++ [c])
      refine ⟨fun p hp => ?_, h2, by rw [List.length_cons]; omega⟩
      obtain ⟨a, b⟩ := h1 p hp
      refine ⟨by rw [List.length_append, List.length_singleton] at a; rw [List.length_cons]; omega, fun x hx => ?_⟩
      rcases b x hx with z | z
      · rcases List.mem_append.mp z with z | z
        · exact .inl z
        · exact .inr (by rw [List.mem_singleton.mp z]; exact List.mem_cons_self)
      · exact .inr (List.mem_cons_of_mem _ z)
theorem val_lt : ∀ (l : List Nat) (acc : Nat), AllDigits l → l.foldl (fun acc c => acc * 10 + (c - 48)) acc < (acc + 1) * 10 ^ l.length
  | [], acc, _ => by simp
  | c :: l, acc, h => by
    have ih := val_lt l (acc * 10 + (c - 48)) h.tail
    have hc := h.head
    rw [List.foldl_cons, List.length_cons, Nat.pow_succ]
    refine Nat.lt_of_lt_of_le ih ?_
    rw [Nat.mul_comm (10 ^ l.length) 10, ← Nat.mul_assoc]
    exact Nat.mul_le_mul_right _ (by omega)
theorem val_small {l : List Nat} (h : AllDigits l) (hl : l.length ≤ 60) : digitsVal l < 2 ^ 200 := by
  have h1 := val_lt l 0 h
  rw [Nat.zero_add, Nat.one_mul] at h1
  have h2 : (10 : Nat) ^ l.length ≤ 10 ^ 60 := Nat.pow_le_pow_right (by decide) hl
  exact Nat.lt_of_lt_of_le h1 (Nat.le_trans h2 (by decide))
theorem len_l1 (a : D) : ownLen lens [.lst [a]] = .ok (.int 1) := ownLen_l (t := lens) _
theorem len_l2 (a b : D) : ownLen lens [.lst [a, b]] = .ok (.int 2) := ownLen_l (t := lens) _
theorem st_app (a b : List Nat) : st a ++ st b = st (a ++ b) := by
  show (⟨a.toArray ++ b.toArray⟩ : Str) = ⟨(a ++ b).toArray⟩
  rw [List.append_toArray]
theorem jO_tx {a acc : List Nat} {os : List (O D)} (h : acc.length + a.length ≤ 1000000) : jO (.ok (tx a) :: os) (st acc) = jO os (st (acc ++ a)) := by
  show (if (st acc ++ st a).length ≤ 1000000 then jO os (st acc ++ st a) else .bad) = _
  rw [st_app, if_pos (by rw [st_len, List.length_append]; exact h)]
theorem jO_nil (acc : List Nat) : jO [] (st acc) = .ok (tx acc) := rfl
theorem em : Str.empty = st [] := rfl
theorem fmt_nat {n : Nat} (h : n < 2 ^ 200) : fmtO (.int (n : Int)) = .ok (tx (dec n)) := by
  have hl : (n : Int).natAbs.log2 < 1920 := by
    rw [Int.natAbs_natCast]
    by_cases z : n = 0
    · subst z; decide
    · exact Nat.lt_of_lt_of_le ((Nat.log2_lt z).mpr h) (by decide)
  show (if (n : Int).natAbs.log2 < 1920 then O.ok (D.str ((toString (n : Int) : String) : Str)) else .bad) = _
  rw [if_pos hl, dec_str]
  rfl
theorem dec_len : ∀ (k n : Nat), n < 10 ^ k → 0 < k → (dec n).length ≤ k
  | 0, _, _, h => absurd h (by decide)
  | k + 1, n, h, _ => by
    by_cases z : n < 10
    · rw [dec_lt z]; simp
    · have e : n = 10 * (n / 10) + n % 10 := by omega
      rw [e, dec_step (a := n / 10) (d := n % 10) (by omega) (by omega), List.length_append, List.length_singleton]
      have hk : 0 < k := by
        rcases Nat.eq_zero_or_pos k with rfl | hk
        · rw [Nat.zero_add, Nat.pow_one] at h; omega
        · exact hk
      have := dec_len k (n / 10) (by rw [Nat.pow_succ] at h; omega) hk
      omega
theorem dec_len61 {n : Nat} (h : n < 2 ^ 200) : (dec n).length ≤ 61 := dec_len 61 n (Nat.lt_trans h (by decide)) (by decide)
theorem take1 {b : List Nat} (hl : b.length ≤ 60) : cut (tx b) none (some 1) = .ok (tx (b.take 1)) := take_tx 1 (by omega)
theorem drop1 {b : List Nat} (hl : b.length ≤ 60) : cut (tx b) (some 1) none = .ok (tx (b.drop 1)) := drop_tx 1 (by omega)
theorem rat_one {b : List Nat} (hl : b.length ≤ 60) (h : 47 ∉ b) (hm : b.take 1 ≠ [45]) : f_ratio_in (tx b) = .ok (if Fig b then mkR (digitsVal b : Nat) 1 else .non) := by
  have en : c_ne (tx []) (tx []) = .ok false := by show (c_eq (tx []) (tx [])).bind (fun k => O.ok (!k)) = _; rw [eq_tx, bk, decide_eq_true rfl]; rfl
  unfold f_ratio_in
  simp only [bk, ck, aik, len_tx (show b.length ≤ 1000000 by omega), c_gt_i, decide_eq_false (show ¬ (4000 : Int) < (b.length : Int) by omega), ite0, take1 hl, str_m, str_s, str_e, eq_tx, decide_eq_false hm, c_lt_i, show decide ((1 : Int) < 0) = false from rfl, part_no (show b.length ≤ 1000 by omega) h, u3t, ap1, figures_p (show b.length ≤ 1000 by omega), asBk, en]
  by_cases f : Fig b
  · rw [decide_eq_true f, if_pos f]
    have v := val_small f.dg hl
    simp only [Bool.not_true, ite0, bk, show decide ((0 : Int) < 1) = true from rfl, ite1, int_fig f (show b.length ≤ 600 by omega), b_mul_l (i := 1) (j := ((digitsVal b : Nat) : Int)) (by decide) (by decide), ck, Int.one_mul]
    exact mk_ratio_x (by decide) (by decide)
  · rw [decide_eq_false f, if_neg f]
    simp only [Bool.not_false, ite1]
theorem ne_ts (a b : List Nat) : c_ne (tx a) (tx b) = .ok (!decide (a = b)) := by show (c_eq (tx a) (tx b)).bind (fun k => O.ok (!k)) = _; rw [eq_tx, bk]
theorem rat_two {x y : List Nat} (hl : (x ++ 47 :: y).length ≤ 60) (h : 47 ∉ x) (hm : (x ++ 47 :: y).take 1 ≠ [45]) : f_ratio_in (tx (x ++ 47 :: y)) = .ok (if Fig x ∧ Fig y ∧ 0 < digitsVal y then mkR (digitsVal x : Nat) (digitsVal y : Nat) else .non) := by
  have hxy : x.length + y.length ≤ 59 := by rw [List.length_append, List.length_cons] at hl; omega
  unfold f_ratio_in
  simp only [bk, ck, aik, len_tx (show (x ++ 47 :: y).length ≤ 1000000 by omega), c_gt_i, decide_eq_false (show ¬ (4000 : Int) < ((x ++ 47 :: y).length : Int) by omega), ite0, take1 hl, str_m, str_s, str_e, eq_tx, decide_eq_false hm, c_lt_i, show decide ((1 : Int) < 0) = false from rfl, part_at (show x.length + y.length ≤ 1000 by omega) h, u3t, ap1, figures_p (show x.length ≤ 1000 by omega), figures_p (show y.length ≤ 1000 by omega), asBk, ne_ts, decide_eq_false (show ¬ ([47] : List Nat) = [] by simp), Bool.not_false, ite1]
  by_cases f : Fig x
  · rw [decide_eq_true f]
    simp only [Bool.not_true, ite0]
    by_cases f' : Fig y
    · rw [decide_eq_true f']
      have v := val_small f.dg (show x.length ≤ 60 by omega)
      have v' := val_small f'.dg (show y.length ≤ 60 by omega)
      simp only [Bool.not_true, ite0, bk, ck, int_fig f' (show y.length ≤ 600 by omega), c_gt_i]
      by_cases z : 0 < digitsVal y
      · have hb : ((digitsVal y : Nat) : Int) < 2 ^ 700 := by
          have h1 : ((digitsVal y : Nat) : Int) < ((2 ^ 200 : Nat) : Int) := Int.ofNat_lt.mpr v'
          exact Int.lt_of_lt_of_le h1 (by decide)
        rw [decide_eq_true (show (0 : Int) < (digitsVal y : Nat) by omega), if_pos ⟨f, f', z⟩]
        simp only [ite1, bk, ck, int_fig f (show x.length ≤ 600 by omega), b_mul_l (i := 1) (j := ((digitsVal x : Nat) : Int)) (by decide) (by decide), Int.one_mul]
        exact mk_ratio_x (by omega) hb
      · rw [decide_eq_false (show ¬ (0 : Int) < (digitsVal y : Nat) by omega), if_neg fun h => z h.2.2, ite0]
    · rw [decide_eq_false f', if_neg fun h => f' h.2.1]
      simp only [Bool.not_false, ite1]
  · rw [decide_eq_false f, if_neg fun h => f h.1]
    simp only [Bool.not_false, ite1]
theorem mul_m (v : Nat) (h : v < 2 ^ 200) : b_mul (.int (-1)) (.int (v : Int)) = .ok (.int (-(v : Int))) := by
  rw [b_mul_l (i := -1) (j := (v : Int)) (by decide) (by decide), Int.neg_mul, Int.one_mul]
end SL.K02
namespace SL.K02
open PySem L2 DL SL PySem.NumText
def decZ (t : Int) : List Nat := if t < 0 then 45 :: dec t.natAbs else dec t.natAbs
def wz (t : Int) (q : Nat) : List Nat := if q = 1 then decZ t else decZ t ++ 47 :: dec q
def GoodZ (l : List Nat) : Prop := ∃ (t : Int) (q : Nat), 1 ≤ q ∧ Nat.gcd t.natAbs q = 1 ∧ l = wz t q
theorem decZ_str (t : Int) : ((toString t : String) : Str) = st (decZ t) := by
  cases t with
  | ofNat n => exact dec_str n
  | negSucc n =>
    have h : (Str.ofString (toString (Int.negSucc n))).cps.toList = 45 :: dec (n + 1) := by
      rw [PyProof.Rows.signs_ofString]
      show ("-" ++ Nat.repr (n + 1)).toList.map Char.toNat = _
      rw [String.toList_append, List.map_append]
      have := PySem.W.KIN.signs_num (n + 1)
      rw [PyProof.Rows.signs_ofString] at this
      exact congrArg (fun l => 45 :: l) this
    have e : decZ (Int.negSucc n) = 45 :: dec (n + 1) := by
      unfold decZ
      rw [if_pos (Int.negSucc_lt_zero n)]
      rfl
    rw [e, ← h, st_tl]
theorem nat_log {n : Nat} (h : n < 2 ^ 200) : n.log2 < 1920 := by
  by_cases z : n = 0
  · subst z; decide
  · exact Nat.lt_of_lt_of_le ((Nat.log2_lt z).mpr h) (by decide)
theorem fmt_int {t : Int} (h : t.natAbs < 2 ^ 200) : fmtO (.int t) = .ok (tx (decZ t)) := by
  show (if t.natAbs.log2 < 1920 then O.ok (D.str ((toString t : String) : Str)) else .bad) = _
  rw [if_pos (nat_log h), decZ_str]
  rfl
theorem own_int {t : Int} (h : t.natAbs < 2 ^ 200) : ownStr txts [.int t] = .ok (tx (decZ t)) := by
  show (if t.natAbs.log2 < 1920 then O.ok (D.str ((toString t : String) : Str)) else .bad) = _
  rw [if_pos (nat_log h), decZ_str]
  rfl
theorem decZ_len {t : Int} {k : Nat} (hk : 0 < k) (h : t.natAbs < 10 ^ k) : (decZ t).length ≤ k + 1 := by
  have := dec_len k _ h hk
  unfold decZ
  split
  · rw [List.length_cons]; omega
  · omega
theorem decZ_len62 {t : Int} (h : t.natAbs < 2 ^ 200) : (decZ t).length ≤ 62 := decZ_len (k := 61) (by decide) (Nat.lt_trans h (by decide))
theorem no47z (t : Int) : 47 ∉ decZ t := fun h => by
  unfold decZ at h
  have hd := no47 (dec_fig t.natAbs).dg
  split at h
  · rcases List.mem_cons.mp h with h | h
    · cases h
    · exact hd h
  · exact hd h
theorem ratio_str {t : Int} {q : Nat} (hp : t.natAbs < 2 ^ 200) (hq : q < 2 ^ 200) : Ratio_str (ratD t q) = .ok (tx (wz t q)) := by
  unfold Ratio_str wz
  have lp := decZ_len62 hp
  have lq := dec_len61 hq
  simp only [bk, fld_top, fld_bottom, c_eq_i, fmt_int hp, fmt_nat hq, str_s]
  by_cases z : q = 1
  · rw [decide_eq_true (show (q : Int) = 1 by omega), ite1, if_pos z]
  · rw [decide_eq_false (show ¬ (q : Int) = 1 by omega), ite0, if_neg z, em, jO_tx (by simp; omega), jO_tx (by simp; omega), jO_tx (by simp; omega), jO_nil]
    simp
theorem own_rat {t : Int} {q : Nat} (hp : t.natAbs < 2 ^ 200) (hq : q < 2 ^ 200) : ownStr txts [ratD t q] = .ok (tx (wz t q)) := ownStr_o (f := Ratio_str) rfl (ratio_str hp hq)
theorem mkR_int {a : Int} {b : Nat} (hb : 0 < b) : ∃ (t : Int) (q : Nat), mkR a b = ratD t q ∧ 1 ≤ q ∧ q ≤ b ∧ t.natAbs ≤ a.natAbs ∧ Nat.gcd t.natAbs q = 1 ∧ (Nat.gcd a.natAbs b = 1 → t = a ∧ q = b) := by
  have g0 : 0 < Nat.gcd a.natAbs b := Nat.gcd_pos_of_pos_right _ hb
  have eg : Int.gcd a (b : Int) = Nat.gcd a.natAbs b := rfl
  obtain ⟨k, hk⟩ : ((Nat.gcd a.natAbs b : Nat) : Int) ∣ a := Int.ofNat_dvd_left.mpr (Nat.gcd_dvd_left _ _)
  have hg : ((Nat.gcd a.natAbs b : Nat) : Int) ≠ 0 := by omega
  have e1 : a / ((Nat.gcd a.natAbs b : Nat) : Int) = k := Int.ediv_eq_of_eq_mul_right hg hk
  have e2 : a.natAbs = Nat.gcd a.natAbs b * k.natAbs := by
    have := congrArg Int.natAbs hk
    rw [Int.natAbs_mul, Int.natAbs_natCast] at this
    exact this
  have e3 : a.natAbs / Nat.gcd a.natAbs b = k.natAbs := Nat.div_eq_of_eq_mul_right g0 e2
  refine ⟨k, b / Nat.gcd a.natAbs b, ?_, Nat.div_pos (Nat.le_of_dvd hb (Nat.gcd_dvd_right _ _)) g0, Nat.div_le_self _ _, ?_, ?_, fun h => ?_⟩
  · unfold mkR
    rw [eg, e1, Int.natCast_ediv]
  · rw [← e3]; exact Nat.div_le_self _ _
  · rw [← e3]; exact Nat.gcd_div_gcd_div_gcd_of_pos_right hb
  · rw [h] at e1 ⊢
    exact ⟨by rw [← e1]; simp, Nat.div_one _⟩
theorem rat_neg1 {r : List Nat} (hl : (45 :: r).length ≤ 60) (h : 47 ∉ r) : f_ratio_in (tx (45 :: r)) = .ok (if Fig r then mkR (-((digitsVal r : Nat) : Int)) 1 else .non) := by
  have hr : r.length ≤ 59 := by rw [List.length_cons] at hl; omega
  have ht : (45 :: r).take 1 = [45] := rfl
  have hd : (45 :: r).drop 1 = r := rfl
  unfold f_ratio_in
  simp only [bk, ck, aik, len_tx (show (45 :: r).length ≤ 1000000 by omega), c_gt_i, decide_eq_false (show ¬ (4000 : Int) < ((45 :: r).length : Int) by omega), ite0, take1 hl, drop1 hl, ht, hd, str_m, str_s, str_e, eq_tx, decide_true, ite1, b_neg_i, c_lt_i, show decide ((-1 : Int) < 0) = true from rfl]
  simp only [part_no (show r.length ≤ 1000 by omega) h, u3t, bk, ck, ap1, figures_p (show r.length ≤ 1000 by omega), asBk, ne_ts, decide_true, Bool.not_true]
  by_cases f : Fig r
  · have v := val_small f.dg (show r.length ≤ 60 by omega)
    rw [decide_eq_true f, if_pos f]
    simp only [Bool.not_true, ite0, bk, ck, show decide ((0 : Int) < 1) = true from rfl, ite1, int_fig f (show r.length ≤ 600 by omega), mul_m _ v]
    exact mk_ratio_x (by decide) (by decide)
  · rw [decide_eq_false f, if_neg f]
    simp only [Bool.not_false, ite1]
theorem rat_neg2 {x y : List Nat} (hl : (45 :: (x ++ 47 :: y)).length ≤ 60) (hx : 47 ∉ x) : f_ratio_in (tx (45 :: (x ++ 47 :: y))) = .ok (if Fig x ∧ Fig y ∧ 0 < digitsVal y then mkR (-((digitsVal x : Nat) : Int)) (digitsVal y : Nat) else .non) := by
  have hr : (x ++ 47 :: y).length ≤ 59 := by rw [List.length_cons] at hl; omega
  have ht : (45 :: (x ++ 47 :: y)).take 1 = [45] := rfl
  have hd : (45 :: (x ++ 47 :: y)).drop 1 = x ++ 47 :: y := rfl
  have hxy : x.length + y.length ≤ 58 := by rw [List.length_append, List.length_cons] at hr; omega
  unfold f_ratio_in
  simp only [bk, ck, aik, len_tx (show (45 :: (x ++ 47 :: y)).length ≤ 1000000 by omega), c_gt_i, decide_eq_false (show ¬ (4000 : Int) < ((45 :: (x ++ 47 :: y)).length : Int) by omega), ite0, take1 hl, drop1 hl, ht, hd, str_m, str_s, str_e, eq_tx, decide_true, ite1, b_neg_i, c_lt_i, show decide ((-1 : Int) < 0) = true from rfl]
  simp only [part_at (show x.length + y.length ≤ 1000 by omega) hx, u3t, bk, ck, ap1, figures_p (show x.length ≤ 1000 by omega), figures_p (show y.length ≤ 1000 by omega), asBk, ne_ts, decide_eq_false (show ¬ ([47] : List Nat) = [] by simp), Bool.not_false, ite1]
  by_cases f : Fig x
  · rw [decide_eq_true f]
    simp only [Bool.not_true, ite0]
    by_cases f' : Fig y
    · have v := val_small f.dg (show x.length ≤ 60 by omega)
      have v' := val_small f'.dg (show y.length ≤ 60 by omega)
      rw [decide_eq_true f']
      simp only [Bool.not_true, ite0, bk, ck, int_fig f' (show y.length ≤ 600 by omega), c_gt_i]
      by_cases z : 0 < digitsVal y
      · have hb : ((digitsVal y : Nat) : Int) < 2 ^ 700 := by
          have h1 : ((digitsVal y : Nat) : Int) < ((2 ^ 200 : Nat) : Int) := Int.ofNat_lt.mpr v'
          exact Int.lt_of_lt_of_le h1 (by decide)
        rw [decide_eq_true (show (0 : Int) < (digitsVal y : Nat) by omega), if_pos ⟨f, f', z⟩]
        simp only [ite1, bk, ck, int_fig f (show x.length ≤ 600 by omega), mul_m _ v]
        exact mk_ratio_x (by omega) hb
      · rw [decide_eq_false (show ¬ (0 : Int) < (digitsVal y : Nat) by omega), ite0, if_neg fun h => z h.2.2]
    · rw [decide_eq_false f', if_neg fun h => f' h.2.1]
      simp only [Bool.not_false, ite1]
  · rw [decide_eq_false f, if_neg fun h => f h.1]
    simp only [Bool.not_false, ite1]
end SL.K02
namespace SL.K02
open PySem L2 DL SL PySem.NumText
theorem dec_head (n : Nat) (r : List Nat) : (dec n ++ r).take 1 ≠ [45] := by
  have f := dec_fig n
  obtain ⟨a, s, e⟩ := List.exists_cons_of_ne_nil f.ne
  have ha := f.dg a (by rw [e]; exact List.mem_cons_self)
  rw [e]
  show [a] ≠ [45]
  simp
  omega
theorem ratD_inj {a b : Int} {c d : Int} (h : ratD a c = ratD b d) : a = b ∧ c = d := by
  unfold ratD at h
  injection h with _ h
  injection h with h1 h2
  injection h2 with h2 _
  injection h1 with _ h1
  injection h2 with _ h2
  injection h1 with h1
  injection h2 with h2
  exact ⟨h1, h2⟩
theorem mkR_low {a : Int} {b : Nat} (hb : 0 < b) (h : Nat.gcd a.natAbs b = 1) : mkR a b = ratD a b := by
  obtain ⟨t, q, e, _, _, _, _, k⟩ := mkR_int (a := a) hb
  obtain ⟨rfl, rfl⟩ := k h
  exact e
theorem rin_good {t : Int} {q : Nat} (h1 : 1 ≤ q) (hg : Nat.gcd t.natAbs q = 1) (hl : (wz t q).length ≤ 60) : f_ratio_in (tx (wz t q)) = .ok (ratD t q) := by
  have fp := dec_fig t.natAbs
  have fq := dec_fig q
  unfold wz at hl ⊢
  unfold decZ at hl ⊢
  by_cases z : q = 1
  · rw [if_pos z] at hl ⊢
    by_cases w : t < 0
    · rw [if_pos w] at hl ⊢
      rw [rat_neg1 hl (no47 fp.dg), if_pos fp, val_dec, show (-((t.natAbs : Nat) : Int)) = t by omega, mkR_one, z]
      rfl
    · rw [if_neg w] at hl ⊢
      have hm := dec_head t.natAbs []
      rw [List.append_nil] at hm
      rw [rat_one hl (no47 fp.dg) hm, if_pos fp, val_dec, show ((t.natAbs : Nat) : Int) = t by omega, mkR_one, z]
      rfl
  · rw [if_neg z] at hl ⊢
    by_cases w : t < 0
    · rw [if_pos w] at hl ⊢
      rw [List.cons_append] at hl ⊢
      rw [rat_neg2 hl (no47 fp.dg), if_pos ⟨fp, fq, by rw [val_dec]; omega⟩, val_dec, val_dec, show (-((t.natAbs : Nat) : Int)) = t by omega, mkR_low (by omega) hg]
    · rw [if_neg w] at hl ⊢
      rw [rat_two hl (no47 fp.dg) (dec_head _ _), if_pos ⟨fp, fq, by rw [val_dec]; omega⟩, val_dec, val_dec, show ((t.natAbs : Nat) : Int) = t by omega, mkR_low (by omega) hg]
def Rin (d : D) : Prop := d = .non ∨ ∃ (t : Int) (q : Nat), d = ratD t q ∧ t.natAbs < 2 ^ 200 ∧ 1 ≤ q ∧ q < 2 ^ 200 ∧ Nat.gcd t.natAbs q = 1
theorem rin_mk {a : Int} {b : Nat} (ha : a.natAbs < 2 ^ 200) (hb : 0 < b) (h2 : b < 2 ^ 200) : Rin (mkR a b) := by
  obtain ⟨t, q, e, k1, k2, k3, k4, _⟩ := mkR_int (a := a) hb
  exact .inr ⟨t, q, e, Nat.lt_of_le_of_lt k3 ha, k1, Nat.lt_of_le_of_lt k2 h2, k4⟩
theorem rin_any {l : List Nat} (hl : l.length ≤ 60) : ∃ d, f_ratio_in (tx l) = .ok d ∧ Rin d := by
  by_cases hm : l.take 1 = [45]
  · obtain ⟨r, rfl⟩ : ∃ r, l = 45 :: r := by
      cases l with
      | nil => simp at hm
      | cons a r => exact ⟨r, by have : [a] = [45] := hm
                                 injection this with h _
                                 rw [h]⟩
    have hr : r.length ≤ 59 := by rw [List.length_cons] at hl; omega
    rcases cut_at 47 r with h | ⟨x, y, rfl, hx⟩
    · refine ⟨_, rat_neg1 hl h, ?_⟩
      split
      · rename_i f
        exact rin_mk (by rw [Int.natAbs_neg, Int.natAbs_natCast]; exact val_small f.dg (by omega)) (b := 1) (by decide) (by decide)
      · exact .inl rfl
    · have hxy : x.length + y.length ≤ 58 := by rw [List.length_append, List.length_cons] at hr; omega
      refine ⟨_, rat_neg2 hl hx, ?_⟩
      split
      · rename_i f
        exact rin_mk (by rw [Int.natAbs_neg, Int.natAbs_natCast]; exact val_small f.1.dg (by omega)) f.2.2 (val_small f.2.1.dg (by omega))
      · exact .inl rfl
  · rcases cut_at 47 l with h | ⟨x, y, rfl, hx⟩
    · refine ⟨_, rat_one hl h hm, ?_⟩
      split
      · rename_i f
        exact rin_mk (by rw [Int.natAbs_natCast]; exact val_small f.dg (by omega)) (b := 1) (by decide) (by decide)
      · exact .inl rfl
    · have hxy : x.length + y.length ≤ 59 := by rw [List.length_append, List.length_cons] at hl; omega
      refine ⟨_, rat_two hl hx hm, ?_⟩
      split
      · rename_i f
        exact rin_mk (by rw [Int.natAbs_natCast]; exact val_small f.1.dg (by omega)) f.2.2 (val_small f.2.1.dg (by omega))
      · exact .inl rfl
theorem is_non : c_is .non .non = .ok true := rfl
theorem is_rat (p q : Int) : c_is (ratD p q) .non = .ok false := nrfl rfl trivial
theorem xread_ok {l : List Nat} (hl : l.length ≤ 60) : (GoodZ l ∧ ∃ (t : Int) (q : Nat), t.natAbs < 2 ^ 200 ∧ q < 2 ^ 200 ∧ l = wz t q ∧ x_Ratio_read (tx l) = .ok (.r (ratD t q)) ∧ Ratio_read (tx l) = .ok (ratD t q)) ∨
    (¬ GoodZ l ∧ x_Ratio_read (tx l) = .ok (.x 101 [tx l])) := by
  have ei : isiB "str" (tx l) = .ok true := isiB_str _
  obtain ⟨d, e, rfl | ⟨t, q, rfl, ht, h1, hq, hg⟩⟩ := rin_any hl
  · refine .inr ⟨fun ⟨t, q, h1, hg, el⟩ => ?_, ?_⟩
    · rw [el, rin_good h1 hg (by rw [← el]; exact hl)] at e
      unfold ratD at e
      cases e
    · unfold x_Ratio_read
      simp only [bk, ck, ap1, ei, trk, asBk, ite1, e, is_non]
  · by_cases k : wz t q = l
    · refine .inl ⟨⟨t, q, h1, hg, k.symm⟩, t, q, ht, hq, k.symm, ?_, ?_⟩
      · unfold x_Ratio_read
        simp only [bk, ck, ap1, ei, trk, asBk, ite1, e, is_rat, ite0, own_rat ht hq, ne_ts, decide_eq_true k, Bool.not_true]
      · unfold Ratio_read
        simp only [bk, ck, ap1, ei, trk, asBk, ite1, e, is_rat, ite0, own_rat ht hq, ne_ts, decide_eq_true k, Bool.not_true]
    · refine .inr ⟨fun ⟨t', q', h1', hg', el⟩ => ?_, ?_⟩
      · rw [el, rin_good h1' hg' (by rw [← el]; exact hl)] at e
        injection e with e
        obtain ⟨e1, e2⟩ := ratD_inj e
        have e3 : q' = q := by omega
        exact k (by rw [el, e1, e3])
      · unfold x_Ratio_read
        simp only [bk, ck, ap1, ei, trk, asBk, ite1, e, is_rat, ite0, own_rat ht hq, ne_ts, decide_eq_false k, Bool.not_false]
theorem xread_not {v : D} (h : isiB "str" v = .ok false) : x_Ratio_read v = .ok (.x 101 [v]) := by
  unfold x_Ratio_read
  simp only [bk, h, trk, asBk, ite0, is_non, ite1]
end SL.K02
namespace SL.K02
open PySem L2 DL SL PySem.NumText Builtin Builtin.Str
theorem repl_no {l : List Nat} (h : 45 ∉ l) : repl1 (st l) (st [45]) (st []) = st l := by
  have e : (occurrences (st l) (st [45]) 0 (st l).length 1).isEmpty = true := by
    have := PySem.StrLaws.found_one (st l) 45
    rw [tl_st, decide_eq_false h] at this
    cases k : (occurrences (st l) (st [45]) 0 (st l).length 1).isEmpty with
    | true => rfl
    | false => rw [show (⟨#[45]⟩ : Str) = st [45] from rfl, k] at this; cases this
  unfold repl1
  rw [e, Bool.true_or, if_pos rfl]
theorem repl_at {x y : List Nat} (h : 45 ∉ x) : repl1 (st (x ++ 45 :: y)) (st [45]) (st []) = st (x ++ y) := by
  have ep : Txt.partition (st (x ++ 45 :: y)) (st [45]) = (st x, st [45], st y) := SX.partition_some (by simp) (by rw [par_at y x [] h]; rfl)
  cases k : occurrences (st (x ++ 45 :: y)) (st [45]) 0 (st (x ++ 45 :: y)).length 1 with
  | nil =>
    have := PySem.StrLaws.found_one (st (x ++ 45 :: y)) 45
    rw [tl_st, decide_eq_true (show 45 ∈ x ++ 45 :: y by simp), show (⟨#[45]⟩ : Str) = st [45] from rfl, k] at this
    cases this
  | cons i r =>
    have hl := StrLaws.occ_length_le (st (x ++ 45 :: y)) (st [45]) 0 (st (x ++ 45 :: y)).length 1
    rw [k, List.length_cons] at hl
    obtain rfl : r = [] := List.length_eq_zero_iff.mp (by omega)
    unfold Txt.partition at ep
    rw [k] at ep
    injection ep with e1 ep
    injection ep with _ e2
    unfold repl1
    rw [k, if_neg (by rw [len1]; simp)]
    show glued (st []) [strSub (st (x ++ 45 :: y)) 0 i, strSub (st (x ++ 45 :: y)) (i + (st [45]).length) (st (x ++ 45 :: y)).length] = _
    rw [e1, e2, ← st_app]
    show (⟨x.toArray ++ ([] : List Nat).toArray ++ y.toArray⟩ : Str) = ⟨x.toArray ++ y.toArray⟩
    congr 1
theorem repl_st (l : List Nat) : repl1 (st l) (st [45]) (st []) = st (l.erase 45) := by
  rcases cut_at 45 l with h | ⟨x, y, rfl, hx⟩
  · rw [repl_no h, List.erase_of_not_mem h]
  · rw [repl_at hx, List.erase_append_right _ hx, List.erase_cons_head]
theorem strk_st (l : List Nat) : strk (st digs) (st l) = (l.filter fun c => decide (c ∉ digs)).map fun c => st [c] := by
  unfold strk PyProof.Rows.signs
  rw [tl_st, List.filter_map]
  show (l.filter _).map (fun n => (⟨#[n]⟩ : Str)) = (l.filter _).map fun c => st [c]
  have e : (fun n : Nat => !Txt.contains (st digs) ⟨#[n]⟩) = fun c => decide (c ∉ digs) := by
    funext n
    unfold Txt.contains
    rw [PySem.StrLaws.found_one, tl_st]
    by_cases z : n ∈ digs
    · rw [decide_eq_true z, decide_eq_false (fun h => h z)]; rfl
    · rw [decide_eq_false z, decide_eq_true z]; rfl
  show (l.filter (fun n : Nat => !Txt.contains (st digs) ⟨#[n]⟩)).map _ = _
  rw [e]
  rfl
theorem rep_txs {ps : List (List Nat)} (h : ∀ p ∈ ps, p.length ≤ 60 ∧ ∀ c ∈ p, c < 1114112) : Rep 1 (61 * ps.length) (.lst (ps.map tx)) := by
  have := rep_lst (rep_all (n := 0) (W := 60) (ds := ps.map tx) fun d hd => by
    obtain ⟨x, hx, rfl⟩ := List.mem_map.mp hd
    obtain ⟨h1, h2⟩ := h x hx
    exact rep_str (x := st x) (fun y hy => h2 y (by rw [tl_st] at hy; exact hy)) (by rw [st_len]; exact h1))
  rw [List.length_map] at this
  exact this
theorem eqok_txs {ps : List (List Nat)} (h : ∀ p ∈ ps, p.length ≤ 60 ∧ ∀ c ∈ p, c < 1114112) : eqOk (.lst (ps.map tx)) = true := by
  have rp := rep_txs h
  unfold eqOk
  rw [rp.ok, rp.shaped]
  rfl
theorem ne_nil {ps : List (List Nat)} (h : ∀ p ∈ ps, p.length ≤ 60 ∧ ∀ c ∈ p, c < 1114112) : c_ne (.lst (ps.map tx)) (.lst []) = .ok (!ps.isEmpty) := by
  have h3 : c_eq (.lst (ps.map tx)) (.lst []) = .ok (PyData.eqv (toP (.lst (ps.map tx))) (toP (.lst []))) := by
    show (if eqOk (.lst (ps.map tx)) && eqOk (.lst []) then O.ok _ else O.bad) = _
    rw [eqok_txs h]; rfl
  show (c_eq _ _).bind (fun k => O.ok (!k)) = _
  rw [h3, bk]
  cases ps with
  | nil => rfl
  | cons p ps => rfl
theorem filter_nil {b : List Nat} : (b.filter fun c => decide (c ∉ digs)).isEmpty = decide (AllDigits b) := by
  rw [Bool.eq_iff_iff, List.isEmpty_iff, decide_eq_true_eq, List.filter_eq_nil_iff]
  constructor
  · intro h c hc
    have := h c hc
    exact mem_digs.mp (by simpa using this)
  · intro h c hc
    simp [mem_digs.mpr (h c hc)]
theorem strike_ok {b : List Nat} (hl : b.length ≤ 60) (hc : ∀ c ∈ b, c < 1114112) : strike "-" "" "0123456789" (tx b) = .ok (!decide (AllDigits (b.erase 45))) := by
  have e1 : ("-" : Str) = st [45] := by have := str_m; injection this
  have e2 : ("" : Str) = st [] := by have := str_e; injection this
  have e3 : ("0123456789" : Str) = st digs := by have := str_digs; injection this
  have ek : (strk (st digs) (repl1 (st b) (st [45]) (st []))) = ((b.erase 45).filter fun c => decide (c ∉ digs)).map fun c => st [c] := by rw [repl_st, strk_st]
  have em : ((strk (st digs) (repl1 (st b) (st [45]) (st []))).map D.str) = (((b.erase 45).filter fun c => decide (c ∉ digs)).map fun c => [c]).map tx := by
    rw [ek, List.map_map, List.map_map]
    rfl
  rw [e1, e2, e3]
  show (if (st b).length + (st []).length ≤ 1000000 ∧ eqOk (.lst ((strk (st digs) (repl1 (st b) (st [45]) (st []))).map D.str)) = true then O.ok (!(strk (st digs) (repl1 (st b) (st [45]) (st []))).isEmpty) else .bad) = _
  rw [em, if_pos ⟨by rw [st_len, st_len]; simp; omega, eqok_txs fun p hp => by
    obtain ⟨c, hcm, rfl⟩ := List.mem_map.mp hp
    refine ⟨by simp, fun x hx => ?_⟩
    rw [List.mem_singleton.mp hx]
    exact hc c (List.mem_of_mem_erase (List.mem_filter.mp hcm).1)⟩, ek, List.isEmpty_map, filter_nil]
theorem in_em (b : List Nat) : c_in (tx b) (.lst [tx [], tx [45]]) = .ok (decide (b = [] ∨ b = [45])) := by
  show (op2 (strs? [tx [], tx [45]]) fun is => O.ok (decide (st b ∈ is))) = _
  have e : strs? [tx [], tx [45]] = some [st [], st [45]] := rfl
  rw [e, op2k]
  congr 1
  refine decide_eq_decide.mpr ?_
  simp only [List.mem_cons, List.not_mem_nil, or_false, st_inj]
theorem fil_em {ps : List (List Nat)} (hl : ps.length ≤ 1000) : filO (fun v_law_bit => c_in v_law_bit (.lst [tx [], tx [45]])) (fun v_law_bit => O.ok v_law_bit) (ps.map tx) = .ok ((ps.filter fun b => decide (b = [] ∨ b = [45])).map tx) := by
  rw [filO_ok (fun d => match d with | .str x => decide (x.cps.toList = [] ∨ x.cps.toList = [45]) | _ => false) (fun d => d) (fun d hd => ?hd) (fun d _ _ => rfl) (by rw [List.length_map]; omega)]
  case hd =>
    obtain ⟨p, hp, rfl⟩ := List.mem_map.mp hd
    rw [in_em]
    show O.ok (decide (p = [] ∨ p = [45])) = O.ok (decide ((st p).cps.toList = [] ∨ (st p).cps.toList = [45]))
    rw [tl_st]
  rw [List.map_id', List.filter_map]
  congr 2
def SB (b : List Nat) : Prop := AllDigits (b.erase 45) ∧ ¬ (45 ∈ b ∧ b.head? ≠ some 45)
instance (b : List Nat) : Decidable (SB b) := inferInstanceAs (Decidable (_ ∧ _))
def valZ (b : List Nat) : Int := if b.head? = some 45 then -((digitsVal b.tail : Nat) : Int) else (digitsVal b : Nat)
theorem sb_cases {b : List Nat} (h : SB b) (h0 : ¬ (b = [] ∨ b = [45])) : (∃ r, b = 45 :: r ∧ AllDigits r ∧ r ≠ []) ∨ (b.head? ≠ some 45 ∧ AllDigits b ∧ b ≠ []) := by
  obtain ⟨h1, h2⟩ := h
  by_cases z : b.head? = some 45
  · left
    cases b with
    | nil => cases z
    | cons a r =>
      obtain rfl : a = 45 := by simpa using z
      rw [List.erase_cons_head] at h1
      exact ⟨r, rfl, h1, fun e => h0 (.inr (by rw [e]))⟩
  · right
    have h3 : 45 ∉ b := fun hm => h2 ⟨hm, z⟩
    rw [List.erase_of_not_mem h3] at h1
    exact ⟨z, h1, fun e => h0 (.inl e)⟩
theorem int_ok {b : List Nat} (h : SB b) (h0 : ¬ (b = [] ∨ b = [45])) (hl : b.length ≤ 60) : bi_int [tx b] = .ok (.int (valZ b)) ∧ (valZ b).natAbs < 2 ^ 200 := by
  have key : ∀ n, intText? (st b) = some n → bi_int [tx b] = .ok (.int n) := fun n e => by
    show (if (st b).length ≤ 640 then op2 (intText? (st b)) fun n => O.ok (D.int n) else .bad) = _
    rw [if_pos (by rw [st_len]; omega), e]
    rfl
  rcases sb_cases h h0 with ⟨r, rfl, hr, hn⟩ | ⟨hh, hd, hn⟩
  · have e : valZ (45 :: r) = -((digitsVal r : Nat) : Int) := if_pos rfl
    rw [e]
    refine ⟨key _ (intText_neg (by rw [tl_st]) hr hn (by rw [st_len]; omega)), ?_⟩
    rw [Int.natAbs_neg, Int.natAbs_natCast]
    exact val_small hr (by rw [List.length_cons] at hl; omega)
  · have e : valZ b = ((digitsVal b : Nat) : Int) := if_neg hh
    rw [e]
    have hi := intText_digits (x := st b) (by rw [tl_st]; exact hd) (by rw [tl_st]; exact hn) (by rw [st_len]; omega)
    rw [tl_st] at hi
    exact ⟨key _ hi, by rw [Int.natAbs_natCast]; exact val_small hd hl⟩
end SL.K02
namespace SL.K02
open PySem L2 DL SL PySem.NumText
theorem t_ix0 (a b : D) : ix (.tup [a, b]) (.int 0) = .ok a := ix_t (by decide) rfl
theorem t_ix1 (a b : D) : ix (.tup [a, b]) (.int 1) = .ok b := ix_t (by decide) rfl
theorem written_ok {t : Int} {q : Nat} (ht : t.natAbs < 2 ^ 200) (hq : q < 2 ^ 200) : f_law_written (.tup [.int t, .int (q : Int)]) = .ok (tx (wz t q)) := by
  have lp := decZ_len62 ht
  have lq := dec_len61 hq
  have oq : ownStr txts [.int (q : Int)] = .ok (tx (dec q)) := by
    have := own_int (t := (q : Int)) (by rw [Int.natAbs_natCast]; exact hq)
    unfold decZ at this
    rw [if_neg (by omega), Int.natAbs_natCast] at this
    exact this
  have e1 := add_tx (a := decZ t) (b := [47]) (by simp; omega)
  have e2 := add_tx (a := decZ t ++ [47]) (b := dec q) (by simp; omega)
  unfold f_law_written wz
  simp only [bk, ck, t_ix0, t_ix1, c_eq_i, own_int ht, oq, str_s, e1, e2]
  by_cases z : q = 1
  · rw [decide_eq_true (show (q : Int) = 1 by omega), ite1, if_pos z]
  · rw [decide_eq_false (show ¬ (q : Int) = 1 by omega), ite0, if_neg z, List.append_assoc]
    rfl
theorem body_ok {b : List Nat} (hl : b.length ≤ 60) (hc : ∀ c ∈ b, c < 1114112) :
    O.ite (strike "-" "" "0123456789" (tx b)) (O.ok (Fl.rt (D.non))) (O.ite (O.ite (c_in (tx [45]) (tx b)) ((ix (tx b) (.int 0)).bind fun x => c_ne x (tx [45])) (O.ok false)) (O.ok (Fl.rt (D.non))) (O.ok (Fl.nx ()))) =
    (.ok (if SB b then Fl.nx () else Fl.rt D.non) : O (Fl Unit D)) := by
  rw [strike_ok hl hc]
  by_cases h1 : AllDigits (b.erase 45)
  · rw [decide_eq_true h1]
    simp only [Bool.not_true, ite0, inone]
    by_cases h2 : 45 ∈ b
    · obtain ⟨a, r, e⟩ := List.exists_cons_of_ne_nil (show b ≠ [] from fun e => by rw [e] at h2; cases h2)
      simp only [decide_eq_true h2, ite1, ix0 e (show b.length ≤ 1000 by omega), bk, ne_ts]
      by_cases z : a = 45
      · rw [decide_eq_true (show [a] = [45] by rw [z]), if_pos (show SB b from ⟨h1, fun k => k.2 (by rw [e, z]; rfl)⟩)]
        rfl
      · rw [decide_eq_false (show ¬ [a] = [45] by simp; exact z), if_neg fun k : SB b => k.2 ⟨h2, by rw [e]; simp; exact z⟩]
        rfl
    · simp only [decide_eq_false h2, ite0]
      rw [if_pos (show SB b from ⟨h1, fun k => h2 k.1⟩)]
  · rw [decide_eq_false h1, if_neg fun k : SB b => h1 k.1]
    rfl
theorem lows_one (a : Int) {b : Nat} (hb : 1 ≤ b) : (decide ((lows a b).1 = a) && decide ((lows a b).2 = (b : Int))) = decide (Nat.gcd a.natAbs b = 1) := by
  have e : Int.gcd a (b : Int) = Nat.gcd a.natAbs b := rfl
  unfold lows
  rw [e]
  by_cases z : Nat.gcd a.natAbs b = 1
  · rw [decide_eq_true z, z]
    show (decide (a / ((1 : Nat) : Int) = a) && decide ((b : Int) / ((1 : Nat) : Int) = b)) = true
    rw [decide_eq_true (show a / ((1 : Nat) : Int) = a by omega), decide_eq_true (show (b : Int) / ((1 : Nat) : Int) = b by omega)]
    rfl
  · rw [decide_eq_false z]
    have g0 : 0 < Nat.gcd a.natAbs b := Nat.gcd_pos_of_pos_right _ hb
    have hq : b / Nat.gcd a.natAbs b < b := Nat.div_lt_self hb (by omega)
    have : ¬ ((b : Int) / ((Nat.gcd a.natAbs b : Nat) : Int) = b) := fun h => by
      have h2 : ((b / Nat.gcd a.natAbs b : Nat) : Int) = (b : Int) := by rw [Int.natCast_ediv]; exact h
      omega
    rw [decide_eq_false this, Bool.and_false]
theorem end_ok {a b : Int} {l : List Nat} (ha : a.natAbs < 2 ^ 200) (hb : b.natAbs < 2 ^ 200) :
    O.ite (O.ite (c_lt (.int b) (.int 1)) (O.ok true) (O.ite ((f_law_low (.int a) (.int b)).bind fun x => c_ne x (.tup [.int a, .int b])) (O.ok true) ((f_law_written (.tup [.int a, .int b])).bind fun x => c_ne x (tx l)))) (O.ok D.non) (O.ok (.tup [.int a, .int b])) =
    .ok (if 1 ≤ b ∧ Nat.gcd a.natAbs b.toNat = 1 ∧ wz a b.toNat = l then .tup [.int a, .int b] else .non) := by
  rw [c_lt_i]
  by_cases h1 : b < 1
  · rw [decide_eq_true h1, if_neg fun k => by omega]
    rfl
  · obtain ⟨q, rfl⟩ : ∃ q : Nat, b = (q : Int) := ⟨b.toNat, by omega⟩
    have hq : q < 2 ^ 200 := by rw [Int.natAbs_natCast] at hb; exact hb
    have hq2 : (q : Int) < 2 ^ 600 := Int.lt_of_lt_of_le (Int.ofNat_lt.mpr hq) (by decide)
    rw [decide_eq_false h1, low_ok (by omega) hq2, written_ok ha hq]
    simp only [ite0, bk, ne_pair2, ne_ts, lows_one a (show 1 ≤ q by omega), Int.toNat_natCast]
    by_cases h2 : Nat.gcd a.natAbs q = 1
    · by_cases h3 : wz a q = l
      · rw [decide_eq_true h2, decide_eq_true h3, if_pos ⟨by omega, h2, h3⟩]; rfl
      · rw [decide_eq_true h2, decide_eq_false h3, if_neg fun k => h3 k.2.2]; rfl
    · rw [decide_eq_false h2, if_neg fun k => h2 k.2.1]; rfl
theorem loop1 {f : Unit → D → O (Fl Unit D)} {k : Unit → O D} {a : D} {P : Prop} [Decidable P] (h : f () a = .ok (if P then .nx () else .rt .non)) : thenO (loopO f [a] ()) k = if P then k () else .ok .non := by
  unfold loopO
  rw [h, bk]
  by_cases z : P
  · rw [if_pos z, if_pos z]; rfl
  · rw [if_neg z, if_neg z]; rfl
theorem loop2 {f : Unit → D → O (Fl Unit D)} {k : Unit → O D} {a b : D} {P Q : Prop} [Decidable P] [Decidable Q] (h : f () a = .ok (if P then .nx () else .rt .non)) (h2 : f () b = .ok (if Q then .nx () else .rt .non)) : thenO (loopO f [a, b] ()) k = if P ∧ Q then k () else .ok .non := by
  unfold loopO
  rw [h, bk]
  by_cases z : P
  · have := loop1 (f := f) (k := k) h2
    rw [if_pos z]
    show thenO (loopO f [b] ()) k = _
    rw [this]
    by_cases w : Q
    · rw [if_pos w, if_pos ⟨z, w⟩]
    · rw [if_neg w, if_neg fun q => w q.2]
  · rw [if_neg z, if_neg fun q => z q.1]; rfl
theorem read_one {l : List Nat} (hl : l.length ≤ 60) (hc : ∀ c ∈ l, c < 1114112) (h : 47 ∉ l) :
    f_law_read (tx l) = .ok (if ¬ (l = [] ∨ l = [45]) ∧ SB l ∧ wz (valZ l) 1 = l then .tup [.int (valZ l), .int 1] else .non) := by
  unfold f_law_read
  simp only [bk, ck, str_s, str_e, str_m, split_all (show l.length ≤ 1000 by omega), spl_no l [] h, List.nil_append, itl, len_l1, List.map_cons, List.map_nil, c_gt_i, decide_eq_false (show ¬ (2 : Int) < 1 by decide), ite0]
  have hf := fil_em (ps := [l]) (by simp)
  rw [List.map_cons, List.map_nil] at hf
  rw [hf, bk]
  have hn := ne_nil (ps := [l].filter fun b => decide (b = [] ∨ b = [45])) fun p hp => by
    have := (List.mem_filter.mp hp).1
    rw [List.mem_singleton.mp this]
    exact ⟨hl, hc⟩
  simp only [bk, hn]
  by_cases h0 : l = [] ∨ l = [45]
  · rw [if_neg fun k => k.1 h0]
    simp [h0]
  · have e0 : (!([l].filter fun b => decide (b = [] ∨ b = [45])).isEmpty) = false := by simp [h0]
    rw [e0, ite0, loop1 (body_ok hl hc)]
    by_cases hs : SB l
    · obtain ⟨hi, hv⟩ := int_ok hs h0 hl
      have hend := end_ok (l := l) hv (b := 1) (by decide)
      rw [if_pos hs]
      simp only [ix_l (ds := [tx l]) (i := 0) (by decide) rfl, bk, ck, hi, decide_eq_false (show ¬ (1 : Int) < 1 by decide), ite0, t_ix0, t_ix1, ap1, ap2, hend]
      have eg : Nat.gcd (valZ l).natAbs (1 : Int).toNat = 1 := Nat.gcd_one_right _
      by_cases k : wz (valZ l) 1 = l
      · rw [if_pos ⟨by decide, eg, k⟩, if_pos ⟨h0, hs, k⟩]
      · rw [if_neg fun z => k z.2.2, if_neg fun z => k z.2.2]
    · rw [if_neg hs, if_neg fun k => hs k.2.1]
theorem read_two {x y : List Nat} (hl : (x ++ 47 :: y).length ≤ 60) (hc : ∀ c ∈ x ++ 47 :: y, c < 1114112) (hx : 47 ∉ x) (hy : 47 ∉ y) :
    f_law_read (tx (x ++ 47 :: y)) = .ok (if ¬ (x = [] ∨ x = [45]) ∧ ¬ (y = [] ∨ y = [45]) ∧ SB x ∧ SB y ∧ 1 ≤ valZ y ∧ Nat.gcd (valZ x).natAbs (valZ y).toNat = 1 ∧ wz (valZ x) (valZ y).toNat = x ++ 47 :: y then .tup [.int (valZ x), .int (valZ y)] else .non) := by
  have hxy : x.length + y.length ≤ 59 := by rw [List.length_append, List.length_cons] at hl; omega
  have cx : ∀ c ∈ x, c < 1114112 := fun c h => hc c (List.mem_append_left _ h)
  have cy : ∀ c ∈ y, c < 1114112 := fun c h => hc c (List.mem_append_right _ (List.mem_cons_of_mem _ h))
  unfold f_law_read
  simp only [bk, ck, str_s, str_e, str_m, split_all (show (x ++ 47 :: y).length ≤ 1000 by omega), spl_at y x [] hx, spl_no y [] hy, List.nil_append, itl, len_l2, List.map_cons, List.map_nil, c_gt_i, decide_eq_false (show ¬ (2 : Int) < 2 by decide), ite0]
  have hf := fil_em (ps := [x, y]) (by simp)
  rw [List.map_cons, List.map_cons, List.map_nil] at hf
  rw [hf, bk]
  have hn := ne_nil (ps := [x, y].filter fun b => decide (b = [] ∨ b = [45])) fun p hp => by
    have := (List.mem_filter.mp hp).1
    rcases List.mem_cons.mp this with rfl | this
    · exact ⟨by omega, cx⟩
    · rw [List.mem_singleton.mp this]
      exact ⟨by omega, cy⟩
  simp only [bk, hn]
  by_cases h0 : x = [] ∨ x = [45]
  · rw [if_neg fun k => k.1 h0]
    simp [h0]
  · by_cases h0' : y = [] ∨ y = [45]
    · rw [if_neg fun k => k.2.1 h0']
      have e0 : (!([x, y].filter fun b => decide (b = [] ∨ b = [45])).isEmpty) = true := by
        rw [List.filter_cons_of_neg (by simpa using h0), List.filter_cons_of_pos (by simpa using h0')]
        rfl
      rw [e0, ite1]
    · have e0 : (!([x, y].filter fun b => decide (b = [] ∨ b = [45])).isEmpty) = false := by
        rw [List.filter_cons_of_neg (by simpa using h0), List.filter_cons_of_neg (by simpa using h0')]
        rfl
      rw [e0, ite0, loop2 (body_ok (show x.length ≤ 60 by omega) cx) (body_ok (show y.length ≤ 60 by omega) cy)]
      by_cases hs : SB x ∧ SB y
      · obtain ⟨hi, hv⟩ := int_ok hs.1 h0 (by omega)
        obtain ⟨hi', hv'⟩ := int_ok hs.2 h0' (by omega)
        have hend := end_ok (l := x ++ 47 :: y) hv hv'
        rw [if_pos hs]
        simp only [ix_l (ds := [tx x, tx y]) (i := 0) (by decide) rfl, ix_l (ds := [tx x, tx y]) (i := 1) (by decide) rfl, bk, ck, hi, hi', decide_eq_true (show (1 : Int) < 2 by decide), ite1, t_ix0, t_ix1, ap1, ap2, hend]
        by_cases k : 1 ≤ valZ y ∧ Nat.gcd (valZ x).natAbs (valZ y).toNat = 1 ∧ wz (valZ x) (valZ y).toNat = x ++ 47 :: y
        · rw [if_pos k, if_pos ⟨h0, h0', hs.1, hs.2, k⟩]
        · rw [if_neg k, if_neg fun z => k z.2.2.2.2]
      · rw [if_neg hs, if_neg fun z => hs ⟨z.2.2.1, z.2.2.2.1⟩]
theorem read_more {x y z : List Nat} (hl : (x ++ 47 :: (y ++ 47 :: z)).length ≤ 60) (hx : 47 ∉ x) (hy : 47 ∉ y) : f_law_read (tx (x ++ 47 :: (y ++ 47 :: z))) = .ok .non := by
  have h3 := (spl_sub z []).2.1
  have el : ownLen lens [.lst ((x :: y :: TL.spl [47] 0 [] z).map tx)] = .ok (.int ((x :: y :: TL.spl [47] 0 [] z).map tx).length) := ownLen_l (t := lens) _
  unfold f_law_read
  simp only [bk, ck, str_s, split_all (show (x ++ 47 :: (y ++ 47 :: z)).length ≤ 1000 by omega), spl_at (y ++ 47 :: z) x [] hx, spl_at z y [] hy, List.nil_append, el, c_gt_i, decide_eq_true (show (2 : Int) < (((x :: y :: TL.spl [47] 0 [] z).map tx).length : Nat) by rw [List.length_map, List.length_cons, List.length_cons]; omega), ite1]
theorem digs45 {l : List Nat} (h : AllDigits l) : 45 ∉ l := fun hm => by have := h 45 hm; omega
theorem decZ_sb (t : Int) : SB (decZ t) ∧ ¬ (decZ t = [] ∨ decZ t = [45]) ∧ valZ (decZ t) = t := by
  have f := dec_fig t.natAbs
  unfold decZ
  by_cases w : t < 0
  · rw [if_pos w]
    refine ⟨⟨by rw [List.erase_cons_head]; exact f.dg, fun k => k.2 rfl⟩, fun k => ?_, ?_⟩
    · rcases k with k | k
      · cases k
      · injection k with _ k; exact f.ne k
    · unfold valZ
      rw [if_pos (show (45 :: dec t.natAbs).head? = some 45 from rfl), List.tail_cons, val_dec]
      omega
  · rw [if_neg w]
    have n45 := digs45 f.dg
    refine ⟨⟨by rw [List.erase_of_not_mem n45]; exact f.dg, fun k => n45 k.1⟩, fun k => ?_, ?_⟩
    · rcases k with k | k
      · exact f.ne k
      · rw [k] at n45; exact n45 (by simp)
    · unfold valZ
      rw [if_neg (fun e => n45 (by obtain ⟨a, r, e2⟩ := List.exists_cons_of_ne_nil f.ne; rw [e2] at e ⊢; injection e with e; rw [e]; exact List.mem_cons_self)), val_dec]
      omega
theorem dec_decZ (q : Nat) : decZ (q : Int) = dec q := by unfold decZ; rw [if_neg (by omega), Int.natAbs_natCast]
theorem read_ok {l : List Nat} (hl : l.length ≤ 60) (hc : ∀ c ∈ l, c < 1114112) : ∃ d, f_law_read (tx l) = .ok d ∧ (GoodZ l → ∃ ds, d = .tup ds) ∧ (¬ GoodZ l → d = .non) := by
  rcases cut_at 47 l with h | ⟨x, y, rfl, hx⟩
  · refine ⟨_, read_one hl hc h, fun ⟨t, q, h1, hg, e⟩ => ?_, fun g => ?_⟩
    · have hq : q = 1 := by
        refine Classical.byContradiction fun z => h ?_
        rw [e]
        unfold wz
        rw [if_neg z]
        simp
      have el : l = decZ t := by rw [e]; unfold wz; rw [if_pos hq]
      obtain ⟨s1, s2, s3⟩ := decZ_sb t
      rw [el, s3]
      refine ⟨_, if_pos ⟨s2, s1, ?_⟩⟩
      unfold wz
      rw [if_pos rfl]
    · exact if_neg fun k => g ⟨valZ l, 1, Nat.le_refl _, Nat.gcd_one_right _, k.2.2.symm⟩
  · rcases cut_at 47 y with hy | ⟨y1, y2, rfl, hy1⟩
    · refine ⟨_, read_two hl hc hx hy, fun ⟨t, q, h1, hg, e⟩ => ?_, fun g => ?_⟩
      · have hq : ¬ q = 1 := fun z => by
          unfold wz at e
          rw [if_pos z] at e
          exact no47z t (by rw [← e]; simp)
        unfold wz at e
        rw [if_neg hq] at e
        obtain ⟨rfl, rfl⟩ := app_inj hx (no47z t) e
        obtain ⟨s1, s2, s3⟩ := decZ_sb t
        obtain ⟨r1, r2, r3⟩ := decZ_sb (q : Int)
        rw [dec_decZ] at r1 r2 r3
        rw [s3, r3, Int.toNat_natCast]
        refine ⟨_, if_pos ⟨s2, r2, s1, r1, by omega, hg, ?_⟩⟩
        unfold wz
        rw [if_neg hq]
      · exact if_neg fun k => g ⟨valZ x, (valZ y).toNat, by omega, k.2.2.2.2.2.1, k.2.2.2.2.2.2.symm⟩
    · refine ⟨_, read_more hl hx hy1, fun ⟨t, q, h1, hg, e⟩ => ?_, fun _ => rfl⟩
      exfalso
      unfold wz at e
      by_cases hq : q = 1
      · rw [if_pos hq] at e
        exact no47z t (by rw [← e]; simp)
      · rw [if_neg hq] at e
        obtain ⟨_, e2⟩ := app_inj hx (no47z t) e
        exact no47 (dec_fig q).dg (by rw [← e2]; simp)
end SL.K02
namespace SL.K02
open PySem L2 DL SL PySem.NumText
theorem nxk {m : O (Fl Unit D × List D)} (h : ∃ r, m = .ok r ∧ ∃ g', r = (Fl.nx (), g') ∧ Bag g') : ∃ g', m = .ok (Fl.nx (), g') ∧ Bag g' := by
  obtain ⟨_, e, g', rfl, b⟩ := h
  exact ⟨g', e, b⟩
theorem c_ne_sq {n W : Nat} {d : D} (h : Rep n W d) (hq : isSeqD d = true) (hn : n ≤ 60) : c_ne d d = .ok false := by
  have k : eqOk d = true := by
    unfold eqOk
    rw [h.ok, h.shaped hn]; rfl
  have e : c_eq d d = .ok true := by
    cases d with
    | tup ds =>
      show (if eqOk (.tup ds) && eqOk (.tup ds) then O.ok (PyData.eqv (toP (.tup ds)) (toP (.tup ds))) else O.bad) = _
      rw [k, PySem.SeqAt.eqv_refl _ h.cl]; rfl
    | lst ds =>
      show (if eqOk (.lst ds) && eqOk (.lst ds) then O.ok (PyData.eqv (toP (.lst ds)) (toP (.lst ds))) else O.bad) = _
      rw [k, PySem.SeqAt.eqv_refl _ h.cl]; rfl
    | _ => cases hq
  unfold c_ne
  rw [e]; rfl
theorem perm_1 (d : D) : perm [0] [d] = [d] := nrfl rfl trivial
theorem sort_1 {c : Nat} {v : D} (hc : LX.contains c = true) : sortO LX f_law_sort c [v] = f_law_sort c [v] := if_pos hc
theorem kinds_eq : c_eq (D.lst [D.bl true, D.bl false, D.bl false]) (D.lst [D.bl true, D.bl false, D.bl false]) = .ok true := by kernel_rfl
theorem kinds_n : t_count (D.lst [D.bl true, D.bl false, D.bl false]) (D.bl true) = .ok (.int 1) := by kernel_rfl
theorem sort101 {s : D} {r : Str} (e : bi_reprZ [s] = .ok (.str r)) : sortO LX f_law_sort 101 [s] = .ok (.lst [.str "InvalidText", .str r]) := by
  rw [sort_1 rfl]
  unfold f_law_sort
  have fv : fxO 101 [s] "value" = .ok s := by kernel_rfl
  simp only [show isE 101 124 = true from rfl, show isE 101 125 = false from rfl, show isE 101 126 = false from rfl, show isEB 101 "ValueError" = true from rfl, show isEB 101 "LookupError" = false from rfl, show isEB 101 "ArithmeticError" = false from rfl, show isE 101 101 = true from rfl,
    bk, ck, asBk, ite1, ite0, fv, e, List.length_nil, sized_ok (show (0 : Nat) ≤ 1000000 by decide), List.nil_append, bi_len_l, List.length_cons, c_eq_i, show decide (((0 + 1 : Nat) : Int) = 1) = true from rfl, kinds_eq, kinds_n, decide_true]
  rfl
theorem xap_r (d : D) : xap (ownStr txts) (.r d) = (ownStr txts [d]).bind fun y => .ok (.r y) := rfl
theorem xap_x (c : Nat) (fs : List D) : xap (ownStr txts) (.x c fs) = .ok (.x c fs) := rfl
theorem pow9 : b_pow (.int 10) (.int 9) = .ok (.int (10 ^ 9)) := by kernel_rfl
theorem eq_pair {n r : Str} (h1 : cpB n) (h2 : n.length ≤ 100) (h3 : cpB r) (h4 : r.length ≤ 20000) : c_eq (.lst [.str n, .str r]) (.lst [.str n, .str r]) = .ok true := by
  have p : Rep 1 20200 (.lst [.str n, .str r]) := (rep_lst (rep_cons (rep_str (n := 100) h1 h2) (rep_cons (rep_str (n := 20000) h3 h4) rep_nil))).mono (by decide) (by decide)
  have h := c_ne_sq p rfl (by decide)
  obtain ⟨k, e1, e2⟩ := O.bind_eq (show O.bind (c_eq _ _) _ = _ from h)
  cases k with
  | true => exact e1
  | false => cases e2
theorem ratio_eq_r (p q p' q' : Int) : Ratio_eq (ratD p q) (ratD p' q') = .ok (.bl (decide (p = p' ∧ q = q'))) := by
  unfold Ratio_eq
  simp only [bk, ck, ap1, is_fraction_r, asBk, Bool.not_true, ite0, as_ratio_r, fld_top, fld_bottom, c_eq_i, trk]
  by_cases z : p = p'
  · rw [decide_eq_true z, ite1]
    by_cases z2 : q = q'
    · rw [decide_eq_true z2, decide_eq_true ⟨z, z2⟩, trk]
    · rw [decide_eq_false z2, decide_eq_false fun h => z2 h.2, trk]
  · rw [decide_eq_false z, ite0, decide_eq_false fun h => z h.1, trk]
theorem own0_r (p q p' q' : Int) : ownEq eqs0 (ratD p q) (ratD p' q') = .ok (decide (p = p' ∧ q = q')) := by
  have e : ownEq eqs0 (ratD p q) (ratD p' q') = (Ratio_eq (ratD p q) (ratD p' q')).bind asB := nrfl rfl trivial
  rw [e, ratio_eq_r, bk, asBk]
theorem ownNe_l (a b : List D) : ownNe eqs0 (.lst a) (.lst b) = c_ne (.lst a) (.lst b) := nrfl rfl trivial
theorem ownEq_l (a b : List D) : ownEq eqs0 (.lst a) (.lst b) = c_eq (.lst a) (.lst b) := nrfl rfl trivial
theorem ne_pair1 {n r : Str} (h1 : cpB n) (h2 : n.length ≤ 100) (h3 : cpB r) (h4 : r.length ≤ 20000) : c_ne (.lst [.str n, .str r]) (.lst [.str n, .str r]) = .ok false := by
  have p : Rep 1 20200 (.lst [.str n, .str r]) := (rep_lst (rep_cons (rep_str (n := 100) h1 h2) (rep_cons (rep_str (n := 20000) h3 h4) rep_nil))).mono (by decide) (by decide)
  exact c_ne_sq p rfl (by decide)
theorem ask_ok {l : List Nat} (hl : l.length ≤ 50) (hc : ∀ c ∈ l, c < 1114112) : ∃ d x told, f_law_read (tx l) = .ok d ∧ x_Ratio_read (tx l) = .ok x ∧ ((xap (ownStr txts) x).bind (ansO (sortO LX f_law_sort))) = .ok told ∧
    (O.ite (c_is d .non) ((O.cons (O.ok (D.str "InvalidText")) (O.cons (bi_reprZ [tx l]) (O.ok []))).bind fun ds => O.ok (D.lst ds)) (O.ok (D.lst [D.str "returned", tx l]))) = .ok told ∧ ownNe eqs0 told told = .ok false := by
  obtain ⟨r, er, cr, lr⟩ := rps_tx hc (show l.length ≤ 1000 by omega)
  obtain ⟨d, e1, g1, g2⟩ := read_ok (show l.length ≤ 60 by omega) hc
  rcases xread_ok (show l.length ≤ 60 by omega) with ⟨g, t, q, ht, hq, e, h, _⟩ | ⟨g, h⟩
  · obtain ⟨ds, rfl⟩ := g1 g
    have ow := own_rat ht hq
    rw [← e] at ow
    have is_tup : c_is (.tup ds) .non = .ok false := nrfl rfl trivial
    refine ⟨_, _, .lst [.str "returned", tx l], e1, h, by rw [xap_r, ow, bk, bk, ansO_r], by rw [is_tup, ite0], ?_⟩
    rw [ownNe_l]
    exact ne_pair1 (cp_str _) (by decide +kernel) (tx_cp hc) (by rw [st_len]; omega)
  · have := g2 g
    subst this
    refine ⟨_, _, .lst [.str "InvalidText", .str r], e1, h, by rw [xap_x, bk, ansO_x, sort101 er], ?_, ?_⟩
    · rw [is_non, ite1, er]
      simp only [bk, ck]
    · rw [ownNe_l]
      exact ne_pair1 (cp_str _) (by decide +kernel) cr lr
theorem low_int {u : Int} {N : Nat} (hu : u.natAbs < 10 ^ 9) (n1 : 1 ≤ N) (n2 : N ≤ 60) : ∃ (t : Int) (q : Nat), f_law_low (.int u) (.int (N : Int)) = .ok (.tup [.int t, .int (q : Int)]) ∧ t.natAbs < 10 ^ 9 ∧ 1 ≤ q ∧ q ≤ 60 ∧ Nat.gcd t.natAbs q = 1 := by
  obtain ⟨t, q, e, k1, k2, k3, k4, _⟩ := mkR_int (a := u) (b := N) (by omega)
  obtain ⟨e1, e2⟩ := ratD_inj (show ratD (lows u N).1 (lows u N).2 = ratD t q from e)
  refine ⟨t, q, ?_, by omega, k1, by omega, k4⟩
  rw [low_ok (by omega) (Int.lt_of_le_of_lt (show (N : Int) ≤ 60 by omega) (by decide)), e1, e2]
def Odd (v : D) : Prop := RpS v ∧ x_Ratio_read v = .ok (.x 101 [v])
theorem good_one {l : List Nat} (h : 47 ∉ l) (g : GoodZ l) : ¬ (l = [] ∨ l = [45]) ∧ SB l ∧ wz (valZ l) 1 = l := by
  obtain ⟨t, q, h1, hg, e⟩ := g
  have hq : q = 1 := by
    refine Classical.byContradiction fun z => h ?_
    rw [e]
    unfold wz
    rw [if_neg z]
    simp
  have el : l = decZ t := by rw [e]; unfold wz; rw [if_pos hq]
  obtain ⟨s1, s2, s3⟩ := decZ_sb t
  rw [el, s3]
  refine ⟨s2, s1, ?_⟩
  unfold wz
  rw [if_pos rfl]
theorem good_two {x y : List Nat} (hx : 47 ∉ x) (hy : 47 ∉ y) (g : GoodZ (x ++ 47 :: y)) : ¬ (x = [] ∨ x = [45]) ∧ ¬ (y = [] ∨ y = [45]) ∧ SB x ∧ SB y ∧ 2 ≤ valZ y ∧ Nat.gcd (valZ x).natAbs (valZ y).toNat = 1 := by
  obtain ⟨t, q, h1, hg, e⟩ := g
  have hq : ¬ q = 1 := fun z => by
    unfold wz at e
    rw [if_pos z] at e
    exact no47z t (by rw [← e]; simp)
  unfold wz at e
  rw [if_neg hq] at e
  obtain ⟨rfl, rfl⟩ := app_inj hx (no47z t) e
  obtain ⟨s1, s2, s3⟩ := decZ_sb t
  obtain ⟨r1, r2, r3⟩ := decZ_sb (q : Int)
  rw [dec_decZ] at r1 r2 r3
  rw [s3, r3, Int.toNat_natCast]
  exact ⟨s2, r2, s1, r1, by omega, hg⟩
theorem odd_str {x : Str} {l : List Nat} (e : x = st l) (hl : l.length ≤ 50) (hc : l.all (fun c => decide (c < 1114112)) = true) (h : ¬ GoodZ l) : Odd (.str x) := by
  rw [e]
  refine ⟨rps_tx (fun c hm => of_decide_eq_true (List.all_eq_true.mp hc c hm)) (by omega), ?_⟩
  rcases xread_ok (l := l) (by omega) with ⟨g, _⟩ | ⟨_, e⟩
  · exact absurd g h
  · exact e
theorem it_1p : ∀ d ∈ [D.str "1"], It 0 2 22 d := fun d hd => by
  rw [List.mem_singleton.mp hd]
  exact it_str (x := "1") (n := 2) (cp_str _) (by decide +kernel)
theorem rps_3 : RpS (.int 3) := ⟨"3", by kernel_rfl, cp_str _, by decide +kernel⟩
theorem rps_l0 : RpS (.lst []) := rps_lst (it_lst (n := 0) (W := 2) (L := 22) (ds := []) (fun d hd => absurd hd (by simp))) (by decide) (by decide) (by decide)
theorem odd_ok {v : D} (h : v ∈ [D.non, .int 3, tx [], tx [45], tx [47], .str "1/", .str "/2", .str "0/3", .str "2/4", .str "3/1", .str "1/0", .str "-0", .str "+1", .str " 1", .str "1/-2", .tup [.str "1"], .lst []]) : Odd v := by
  simp only [List.mem_cons, List.not_mem_nil, or_false] at h
  rcases h with h | h | h | h | h | h | h | h | h | h | h | h | h | h | h | h | h <;> rw [h]
  · exact ⟨rps_non, xread_not rfl⟩
  · exact ⟨rps_3, xread_not rfl⟩
  · exact odd_str (l := []) rfl (by decide) rfl fun g => absurd (good_one (by decide) g) (by decide +kernel)
  · exact odd_str (l := [45]) rfl (by decide) rfl fun g => absurd (good_one (by decide) g) (by decide +kernel)
  · exact odd_str (l := [] ++ 47 :: []) rfl (by decide) rfl fun g => absurd (good_two (by decide) (by decide) g) (by decide +kernel)
  · exact odd_str (l := [49] ++ 47 :: []) (by decide +kernel) (by decide) rfl fun g => absurd (good_two (by decide) (by decide) g) (by decide +kernel)
  · exact odd_str (l := [] ++ 47 :: [50]) (by decide +kernel) (by decide) rfl fun g => absurd (good_two (by decide) (by decide) g) (by decide +kernel)
  · exact odd_str (l := [48] ++ 47 :: [51]) (by decide +kernel) (by decide) rfl fun g => absurd (good_two (by decide) (by decide) g) (by decide +kernel)
  · exact odd_str (l := [50] ++ 47 :: [52]) (by decide +kernel) (by decide) rfl fun g => absurd (good_two (by decide) (by decide) g) (by decide +kernel)
  · exact odd_str (l := [51] ++ 47 :: [49]) (by decide +kernel) (by decide) rfl fun g => absurd (good_two (by decide) (by decide) g) (by decide +kernel)
  · exact odd_str (l := [49] ++ 47 :: [48]) (by decide +kernel) (by decide) rfl fun g => absurd (good_two (by decide) (by decide) g) (by decide +kernel)
  · exact odd_str (l := [45, 48]) (by decide +kernel) (by decide) rfl fun g => absurd (good_one (by decide) g) (by decide +kernel)
  · exact odd_str (l := [43, 49]) (by decide +kernel) (by decide) rfl fun g => absurd (good_one (by decide) g) (by decide +kernel)
  · exact odd_str (l := [32, 49]) (by decide +kernel) (by decide) rfl fun g => absurd (good_one (by decide) g) (by decide +kernel)
  · exact odd_str (l := [49] ++ 47 :: [45, 50]) (by decide +kernel) (by decide) rfl fun g => absurd (good_two (by decide) (by decide) g) (by decide +kernel)
  · exact ⟨rps_tup (it_tup it_1p) (by decide) (by decide) (by decide), xread_not rfl⟩
  · exact ⟨rps_l0, xread_not rfl⟩
end SL.K02
namespace SL.K02
open PySem L2 DL SL PySem.NumText
theorem right_ok {g : List D} (hb : Bag g) : ∃ g', f_law_right g = .ok (.bl true, g') ∧ Bag g' := by
  unfold f_law_right
  simp only [mbind, mupa, bk, ck, rg1_i (i := 6) (by decide) (by decide)]
  refine then_loop hb (fun d hd g hb => ?_) (fun g b => ?_)
  · refine nxk ?_
    obtain ⟨r1, g1, e1, r10, r11, b1⟩ := draw_ok (w := 99) (by decide) (by decide) hb
    obtain ⟨r2, g2, e2, r20, r21, b2⟩ := draw_ok (w := 10 ^ 9) (by decide) (by decide) b1
    obtain ⟨u, g3, e3, hu, b3⟩ := one_ok (ds := [.int 0, .int 7, .int r1, .int r2]) (by simp) (by simp) b2
    obtain ⟨U, rfl, hU0, hU⟩ : ∃ U : Int, u = .int U ∧ 0 ≤ U ∧ U < 10 ^ 9 := by
      simp only [List.mem_cons, List.not_mem_nil, or_false] at hu
      rcases hu with rfl | rfl | rfl | rfl
      · exact ⟨0, rfl, by decide, by decide⟩
      · exact ⟨7, rfl, by decide, by decide⟩
      · exact ⟨r1, rfl, r10, by omega⟩
      · exact ⟨r2, rfl, r20, r21⟩
    obtain ⟨s, g4, e4, hs, b4⟩ := one_ok (ds := [.int 1, .int (-1)]) (by simp) (by simp) b3
    obtain ⟨V, eV, hV⟩ : ∃ V : Int, b_mul (.int U) s = .ok (.int V) ∧ V.natAbs < 10 ^ 9 := by
      simp only [List.mem_cons, List.not_mem_nil, or_false] at hs
      rcases hs with rfl | rfl
      · exact ⟨U * 1, b_mul_r (by decide) (by decide), by omega⟩
      · exact ⟨U * (-1), b_mul_r (by decide) (by decide), by omega⟩
    obtain ⟨r5, g5, e5, r50, r51, b5⟩ := draw_ok (w := 60) (by decide) (by decide) b4
    obtain ⟨N, en⟩ : ∃ N : Nat, 1 + r5 = (N : Int) := ⟨(1 + r5).toNat, by omega⟩
    obtain ⟨t, q, e6, ht, q1, q60, hg⟩ := low_int hV (show 1 ≤ N by omega) (show N ≤ 60 by omega)
    have ht2 : t.natAbs < 2 ^ 200 := Nat.lt_trans ht (by decide)
    have hq2 : q < 2 ^ 200 := Nat.lt_of_le_of_lt q60 (by decide)
    have lt : (decZ t).length ≤ 10 := decZ_len (k := 9) (by decide) ht
    have lq : (dec q).length ≤ 2 := dec_len 2 q (by omega) (by decide)
    have lw : (wz t q).length ≤ 13 := by
      unfold wz
      split
      · omega
      · rw [List.length_append, List.length_cons]; omega
    have gd : GoodZ (wz t q) := ⟨t, q, q1, hg, rfl⟩
    have rd : Ratio_read (tx (wz t q)) = .ok (ratD t q) := by
      rcases xread_ok (l := wz t q) (by omega) with ⟨_, t', q', ht', hq', ew, _, e⟩ | ⟨ng, _⟩
      · have r1 := rin_good q1 hg (show (wz t q).length ≤ 60 by omega)
        obtain ⟨g', _⟩ : ∃ g : GoodZ (wz t q), True := ⟨gd, trivial⟩
        have ow := own_rat ht2 hq2
        unfold Ratio_read
        simp only [bk, ck, ap1, show isiB "str" (tx (wz t q)) = .ok true from isiB_str _, trk, asBk, ite1, r1, is_rat, ite0, ow, ne_ts, decide_true, Bool.not_true]
      · exact absurd gd ng
    have mk : ((l2 Ratio_init) ([D.int t, D.int (q : Int)] ++ [])).bind (fun fs => O.ok (D.obj 0 fs)) = .ok (ratD t q) := by
      rw [mk_ratio_x (by omega) (Int.lt_of_le_of_lt (show (q : Int) ≤ 60 by omega) (by decide)), mkR_low (by omega) hg]
    have cps : ∀ c ∈ wz t q, c < 1114112 := fun c hc => by
      have hz : ∀ c ∈ decZ t, c < 1114112 := fun c hc => by
        unfold decZ at hc
        split at hc
        · rcases List.mem_cons.mp hc with rfl | hc
          · decide
          · have := (dec_fig t.natAbs).dg c hc; omega
        · have := (dec_fig t.natAbs).dg c hc; omega
      unfold wz at hc
      split at hc
      · exact hz c hc
      · rcases List.mem_append.mp hc with h | h
        · exact hz c h
        · rcases List.mem_cons.mp h with rfl | h
          · decide
          · have := (dec_fig q).dg c h; omega
    have nq : ownNe eqs0 (.lst [tx (wz t q), tx (wz t q), .bl true]) (.lst [tx (wz t q), tx (wz t q), .bl true]) = .ok false := by
      have i4 : Rep 0 20 (tx (wz t q)) := rep_str (x := st (wz t q)) (tx_cp cps) (by rw [st_len]; omega)
      have ib : Rep 0 20 (.bl true) := (rep_bl true).mono (by decide) (by decide)
      rw [ownNe_l]
      exact c_ne_sq (rep_lst (rep_cons i4 (rep_cons i4 (rep_cons ib rep_nil)))) rfl (by decide)
    have b01 : b_sub (.int 0) (.int 1) = .ok (.int (-1)) := rfl
    simp only [mbind, mitea, mconsa, mupa, mret, bk, ck, mp1, e1, pow9, e2, e3, b01, e4, eV, e5, b_add_i, en, ap2, e6, ap1, written_ok ht2 hq2, t_ix0, t_ix1, mk, own_rat ht2 hq2, rd, perm_1, own0_r, trk, and_self, decide_true, nq, bif0]
    obtain ⟨a, ga, ea, a0, a1, ba⟩ := draw_ok (w := ((wz t q).length : Int) + 1) (by omega) (by omega) b5
    obtain ⟨k, rfl⟩ := Int.eq_ofNat_of_zero_le a0
    obtain ⟨mo, gb, eb, hmo, bb⟩ := one_ok (ds := [tx [45], tx [47], .str "0", .str "1", .str "3", .str " ", .str "+", .str ".", .str "x"]) (by simp) (by simp) ba
    obtain ⟨m, rfl, hm⟩ : ∃ m, mo = tx [m] ∧ m < 1114112 := by
      have key : ∀ (x : Str) (o : Nat), x = st [o] → o < 1114112 → mo = D.str x → ∃ m, mo = tx [m] ∧ m < 1114112 := fun x o e h z => ⟨o, by rw [z, e]; rfl, h⟩
      simp only [List.mem_cons, List.not_mem_nil, or_false] at hmo
      rcases hmo with h | h | h | h | h | h | h | h | h
      · exact ⟨45, h, by decide⟩
      · exact ⟨47, h, by decide⟩
      · exact key "0" 48 (by decide +kernel) (by decide) h
      · exact key "1" 49 (by decide +kernel) (by decide) h
      · exact key "3" 51 (by decide +kernel) (by decide) h
      · exact key " " 32 (by decide +kernel) (by decide) h
      · exact key "+" 43 (by decide +kernel) (by decide) h
      · exact key "." 46 (by decide +kernel) (by decide) h
      · exact key "x" 120 (by decide +kernel) (by decide) h
    generalize wz t q = l at *
    have f1 := take_tx (l := l) k (by omega)
    have f2 := drop_tx (l := l) k (by omega)
    have f3 := drop_tx (l := l) (k + 1) (by omega)
    rw [show ((k + 1 : Nat) : Int) = (k : Int) + 1 by omega] at f3
    have lt' := List.length_take_le k l
    have ld : (l.drop k).length ≤ l.length := by rw [List.length_drop]; omega
    have ld2 : (l.drop (k + 1)).length ≤ l.length := by rw [List.length_drop]; omega
    have s1 := add_tx (a := l.take k) (b := [m]) (by rw [List.length_singleton, List.length_take]; omega)
    have s2 := add_tx (a := l.take k ++ [m]) (b := l.drop k) (by rw [List.length_append, List.length_singleton, List.length_take]; omega)
    have s3 := add_tx (a := l.take k) (b := l.drop (k + 1)) (by rw [List.length_take]; omega)
    have s4 := add_tx (a := l.take k ++ [m]) (b := l.drop (k + 1)) (by rw [List.length_append, List.length_singleton, List.length_take]; omega)
    obtain ⟨nw, gc, ec, hn, bc⟩ := one_ok (ds := [tx (l.take k ++ [m] ++ l.drop k), tx (l.take k ++ l.drop (k + 1)), tx (l.take k ++ [m] ++ l.drop (k + 1))]) (by simp) (by simp) bb
    obtain ⟨l2, rfl, hl2, hc2⟩ : ∃ l2, nw = tx l2 ∧ l2.length ≤ 50 ∧ ∀ c ∈ l2, c < 1114112 := by
      have ct : ∀ c ∈ l.take k, c < 1114112 := fun c h => cps c (List.mem_of_mem_take h)
      have cd : ∀ c ∈ l.drop k, c < 1114112 := fun c h => cps c (List.mem_of_mem_drop h)
      have cd2 : ∀ c ∈ l.drop (k + 1), c < 1114112 := fun c h => cps c (List.mem_of_mem_drop h)
      have cm : ∀ c ∈ [m], c < 1114112 := fun c h => by rw [List.mem_singleton.mp h]; exact hm
      have app : ∀ {a b : List Nat}, (∀ x ∈ a, x < 1114112) → (∀ x ∈ b, x < 1114112) → ∀ x ∈ a ++ b, x < 1114112 := fun ha hb x hx => by
        rcases List.mem_append.mp hx with h | h
        · exact ha x h
        · exact hb x h
      simp only [List.mem_cons, List.not_mem_nil, or_false] at hn
      rcases hn with h | h | h <;> rw [h]
      · exact ⟨_, rfl, by rw [List.length_append, List.length_append, List.length_singleton, List.length_take, List.length_drop]; omega, app (app ct cm) cd⟩
      · exact ⟨_, rfl, by rw [List.length_append, List.length_take, List.length_drop]; omega, app ct cd2⟩
      · exact ⟨_, rfl, by rw [List.length_append, List.length_append, List.length_singleton, List.length_take, List.length_drop]; omega, app (app ct cm) cd2⟩
    obtain ⟨d, x, told, h1, h2, h3, h4, h5⟩ := ask_ok hl2 hc2
    simp only [mbind, mitea, mconsa, mupa, mret, bk, ck, aik, ap1, mp1, str_m, str_s, olen_tx (show l.length ≤ 1000000 by omega), b_add_i, ea, eb, f1, f2, f3, s1, s2, s3, s4, ec, h1, h2, h3, h4, h5, bif0]
    exact ⟨_, rfl, gc, rfl, bc⟩
  · have add : b_add (.lst [D.non, .int 3, tx [], tx [45], tx [47], .str "1/", .str "/2", .str "0/3", .str "2/4", .str "3/1", .str "1/0"]) (.lst [.str "-0", .str "+1", .str " 1", .str "1/-2", .tup [.str "1"], .lst []]) = .ok (.lst [D.non, .int 3, tx [], tx [45], tx [47], .str "1/", .str "/2", .str "0/3", .str "2/4", .str "3/1", .str "1/0", .str "-0", .str "+1", .str " 1", .str "1/-2", .tup [.str "1"], .lst []]) := rfl
    obtain ⟨v, g', e, hv, b'⟩ := one_ok (ds := [D.non, .int 3, tx [], tx [45], tx [47], .str "1/", .str "/2", .str "0/3", .str "2/4", .str "3/1", .str "1/0", .str "-0", .str "+1", .str " 1", .str "1/-2", .tup [.str "1"], .lst []]) (by simp) (by simp) b
    obtain ⟨⟨r, er, cr, lr⟩, ex⟩ := odd_ok hv
    have q := eq_pair (n := "InvalidText") (cp_str _) (by decide +kernel) cr lr
    simp only [mbind, mupa, mret, bk, ck, str_e, str_s, str_m, add, mp1, e, ap1, ex, ansO_x, sort101 er, er, ownEq_l, q, trk]
    exact ⟨g', rfl, b'⟩
theorem main (is : List Int) (h : is.length ≤ 63) : l1 f_law [D.lst (is.map D.int)] = .ok (.bl true) := by
  rw [ap1]
  exact tail_ok right_ok is h
end SL.K02
namespace SL.K02
open PySem L2 DL SL
variable [TabL]
def topS (i : Nat) : Stmt := PySem.Challenge.pw_doughfolds_k02_texts_of_ratios.main.body.getD i (.Pass ⟨0, 0, 0, 0⟩)
abbrev s_f_law_bag : Stmt := topS 18
theorem sc_f_law_bag : FnScope ["_law_script", "_law_k", "_law_held_cell", "_law_seed", "_law_this", "_law_figures"] ["_law_script", "_law_k"] (defScope s_f_law_bag) := ⟨rfl, rfl, rfl, by decide +kernel, rfl, by decide +kernel, by decide +kernel⟩
theorem ok_f_law_bag {C : Kc} {mg : Str → Option Value} {base : Heap} {f : Addr} {fd : FuncData} (Fn : Fun C.K "_law_bag" "_law_bag" s_f_law_bag f fd) (T : Tx C mg) (t_Fold_len : C.has 1 = true → Met C.P C.w C mg base 1 1 "__len__" (spF C (l1 Fold_len))) (t_Watch_len : C.has 4 = true → Met C.P C.w C mg base 1 4 "__len__" (spF C (l1 Watch_len))) : FnOk C.P C.w C.K mg base CX0 3 f fd ["_law_script", "_law_k"] (spFN C (l2 f_law_bag)) := by
  refine fxN Fn sc_f_law_bag (fun _ _ h => l2_len h) (fun ds cdv A outer s H E hr => ar2 (S := fun ds => ⟨DL.start ["_law_script", "_law_k", "_law_held_cell", "_law_seed", "_law_this", "_law_figures"] ds, none⟩) (fun v_law_script v_law_k => ?_) ds)
  first | refine k_par2 (i := 2) (j := 3) (v_e (p_ifx (t_cmp s_lt (p_var (j := 1) rfl) (p_callB (T.bl "len") bb_len (s_olen (lenF_lens t_Fold_len t_Watch_len)) (a_cons (p_var (j := 0) rfl) a_nil))) (p_callTy (T.bl "int") bb_int s_int (a_cons (p_ix (p_var (j := 0) rfl) (p_var (j := 1) rfl)) a_nil)) p_int)) (v_e (p_op s_mul p_int (p_op s_add (p_var (j := 1) rfl) p_int))) (fun v_law_held_cell_1 v_law_seed_2 => ?_) | refine k_parT2 (i := 2) (j := 3) (v_e (p_ifx (t_cmp s_lt (p_var (j := 1) rfl) (p_callB (T.bl "len") bb_len (s_olen (lenF_lens t_Fold_len t_Watch_len)) (a_cons (p_var (j := 0) rfl) a_nil))) (p_callTy (T.bl "int") bb_int s_int (a_cons (p_ix (p_var (j := 0) rfl) (p_var (j := 1) rfl)) a_nil)) p_int)) (v_e (p_op s_mul p_int (p_op s_add (p_var (j := 1) rfl) p_int))) (fun v_law_held_cell_1 v_law_seed_2 => ?_)
  refine k_for1 (T := D) (j := 4) (fun (s3 : D) => (⟨[some (.imm v_law_script), some (.imm v_law_k), some (.imm v_law_held_cell_1), some (.imm s3), none, none], none⟩ : DL.ST)) (i_val (p_slice (p_var (j := 0) rfl) x_none (x_some p_int))) ⟨by repeat (first | exact DL.WkL.nil | refine DL.WkL.keep ?_ | refine DL.WkL.drop ?_), rfl⟩ (fun s3 v_law_this_4 => ?_) (fun s3 => ?_)
  · refine k_set (j := 3) (p_op s_mod (p_callTy (T.bl "int") bb_int s_int (a_cons (p_op s_add (p_op s_add (p_op s_mul (p_var (j := 3) rfl) p_int) (p_op s_mod (p_callTy (T.bl "int") bb_int s_int (a_cons (p_var (j := 4) rfl) a_nil)) p_int)) (p_op s_mul p_int (p_var (j := 1) rfl))) a_nil)) p_int) (fun v_law_seed_5 => ?_)
    exact k_nilB ⟨by repeat (first | exact DL.WkL.nil | refine DL.WkL.keep ?_ | refine DL.WkL.drop ?_), rfl⟩
  refine k_set (j := 5) (p_ifx (t_w (w_or (t_cmp s_lt (p_var (j := 2) rfl) p_int) (w_or1 (t_cmp s_ge (p_var (j := 2) rfl) (p_op s_pow p_int p_int))))) (p_callB (T.bl "abs") bb_abs s_abs (a_cons (p_var (j := 2) rfl) a_nil)) p_int) (fun v_law_figures_6 => ?_)
  exact k_retN (o_lst (a_cons (p_var (j := 5) rfl) (a_cons (p_op s_mod (p_callTy (T.bl "int") bb_int s_int (a_cons (p_op s_add (p_var (j := 3) rfl) (p_op s_mul p_int (p_op s_mod (p_callTy (T.bl "int") bb_int s_int (a_cons (p_var (j := 2) rfl) a_nil)) p_int))) a_nil)) p_int) (a_cons p_int a_nil))))
abbrev s_f_law_draw : Stmt := topS 19
theorem sc_f_law_draw : FnScope ["_law_bag_here", "_law_wide", "_law_figure", "_law_held", "_law_times"] ["_law_bag_here", "_law_wide"] (defScope s_f_law_draw) := ⟨rfl, rfl, rfl, by decide +kernel, rfl, by decide +kernel, by decide +kernel⟩
theorem ok_f_law_draw {C : Kc} {mg : Str → Option Value} {base : Heap} {f : Addr} {fd : FuncData} (Fn : Fun C.K "_law_draw" "_law_draw" s_f_law_draw f fd) (T : Tx C mg)  : FnOk C.P C.w C.K mg base CX0 1 f fd ["_law_bag_here", "_law_wide"] (spFB C (m1 f_law_draw)) := by
  refine fxB Fn sc_f_law_draw (fun _ _ _ h => congrArg (· + 1) (m1_len h)) (fun b cdv A outer s H E hr => am1 (S := fun ds => DL.startB ["_law_bag_here", "_law_wide", "_law_figure", "_law_held", "_law_times"] ds) (fun v_law_wide => ?_))
  refine m_bagSet (j := 0) (me_op s_add (e_bagIx (j := 0) rfl (fun g => p_int)) (e_up fun g => p_int)) rfl (fun g => p_int) ?_
  refine m_ifr (mt_cmp s_gt (e_bagIx (j := 0) rfl (fun g => p_int)) (e_up fun g => p_int)) ?_ ?_
  · refine m_set (j := 2) (me_op s_mod (me_callTy (T.bl "int") bb_int s_int (ma_cons (e_bagIx (j := 0) rfl (fun g => p_int)) (a_up fun g => a_nil))) (e_up fun g => (p_var (j := 1) rfl))) (fun v_law_figure_1 => ?_)
    refine m_bagSet (j := 0) (me_op s_fdiv (e_bagIx (j := 0) rfl (fun g => p_int)) (e_up fun g => (p_var (j := 1) rfl))) rfl (fun g => p_int) ?_
    exact m_retA (e_up fun g => (p_var (j := 2) rfl))
  refine m_set (j := 3) (me_op s_add (me_callTy (T.bl "int") bb_int s_int (ma_cons (e_bagIx (j := 0) rfl (fun g => p_int)) (a_up fun g => a_nil))) (me_op s_mul (e_up fun g => p_int) (e_bagIx (j := 0) rfl (fun g => p_int)))) (fun v_law_held_3 => ?_)
  refine m_set (j := 4) (e_up fun g => (p_op s_add (p_op s_mod (p_callTy (T.bl "int") bb_int s_int (a_cons (p_var (j := 3) rfl) a_nil)) p_int) p_int)) (fun v_law_times_4 => ?_)
  refine m_bagSet (j := 0) (me_op s_mod (me_callTy (T.bl "int") bb_int s_int (ma_cons (me_op s_add (me_op s_add (e_up fun g => (p_op s_mul (p_var (j := 3) rfl) (p_var (j := 4) rfl))) (me_op s_mul (e_up fun g => p_int) (e_bagIx (j := 0) rfl (fun g => p_int)))) (e_up fun g => p_int)) (a_up fun g => a_nil))) (e_up fun g => p_int)) rfl (fun g => p_int) ?_
  exact m_retA (me_op s_mod (me_op s_fdiv (me_callTy (T.bl "int") bb_int s_int (ma_cons (e_bagIx (j := 0) rfl (fun g => p_int)) (a_up fun g => a_nil))) (e_up fun g => p_int)) (e_up fun g => (p_var (j := 1) rfl)))
abbrev s_f_law_one : Stmt := topS 20
theorem sc_f_law_one : FnScope ["_law_bag_here", "_law_some"] ["_law_bag_here", "_law_some"] (defScope s_f_law_one) := ⟨rfl, rfl, rfl, by decide +kernel, rfl, by decide +kernel, by decide +kernel⟩
theorem ok_f_law_one {C : Kc} {mg : Str → Option Value} {base : Heap} {f : Addr} {fd : FuncData} (Fn : Fun C.K "_law_one" "_law_one" s_f_law_one f fd) (T : Tx C mg) (t_Fold_len : C.has 1 = true → Met C.P C.w C mg base 1 1 "__len__" (spF C (l1 Fold_len))) (t_Watch_len : C.has 4 = true → Met C.P C.w C mg base 1 4 "__len__" (spF C (l1 Watch_len))) (c_law_draw : Cal C.P C.w C mg base 1 "_law_draw" (spFB C (m1 f_law_draw))) : FnOk C.P C.w C.K mg base CX0 3 f fd ["_law_bag_here", "_law_some"] (spFB C (m1 f_law_one)) := by
  refine fxB Fn sc_f_law_one (fun _ _ _ h => congrArg (· + 1) (m1_len h)) (fun b cdv A outer s H E hr => am1 (S := fun ds => DL.startB ["_law_bag_here", "_law_some"] ds) (fun v_law_some => ?_))
  exact m_retA (me_ix (e_up fun g => (p_var (j := 1) rfl)) (me_bag (j := 0) c_law_draw rfl (a_up fun g => (a_cons (p_callB (T.bl "len") bb_len (s_olen (lenF_lens t_Fold_len t_Watch_len)) (a_cons (p_var (j := 1) rfl) a_nil)) a_nil))))
abbrev s_f_law_low : Stmt := topS 21
theorem sc_f_law_low : FnScope ["_law_upper", "_law_lower", "_law_left", "_law_right_here", "_law_by"] ["_law_upper", "_law_lower"] (defScope s_f_law_low) := ⟨rfl, rfl, rfl, by decide +kernel, rfl, by decide +kernel, by decide +kernel⟩
theorem ok_f_law_low {C : Kc} {mg : Str → Option Value} {base : Heap} {f : Addr} {fd : FuncData} (Fn : Fun C.K "_law_low" "_law_low" s_f_law_low f fd) (T : Tx C mg)  : FnOk C.P C.w C.K mg base CX0 1 f fd ["_law_upper", "_law_lower"] (spF C (l2 f_law_low)) := by
  refine fx Fn sc_f_law_low (fun _ _ h => l2_len h) (fun ds cdv A outer s H E hr => ar2 (S := fun ds => ⟨DL.start ["_law_upper", "_law_lower", "_law_left", "_law_right_here", "_law_by"] ds, none⟩) (fun v_law_upper v_law_lower => ?_) ds)
  first | refine k_par2 (i := 2) (j := 3) (v_e (p_callB (T.bl "abs") bb_abs s_abs (a_cons (p_var (j := 0) rfl) a_nil))) (v_e (p_callB (T.bl "abs") bb_abs s_abs (a_cons (p_var (j := 1) rfl) a_nil))) (fun v_law_left_1 v_law_right_here_2 => ?_) | refine k_parT2 (i := 2) (j := 3) (v_e (p_callB (T.bl "abs") bb_abs s_abs (a_cons (p_var (j := 0) rfl) a_nil))) (v_e (p_callB (T.bl "abs") bb_abs s_abs (a_cons (p_var (j := 1) rfl) a_nil))) (fun v_law_left_1 v_law_right_here_2 => ?_)
  refine k_while (T := D × D) (fun (s3 : D × D) => (⟨[some (.imm v_law_upper), some (.imm v_law_lower), some (.imm s3.1), some (.imm s3.2), none], none⟩ : DL.ST)) (natOf (v_law_lower) + 1) ⟨by repeat (first | exact DL.WkL.nil | refine DL.WkL.keep ?_ | refine DL.WkL.drop ?_), rfl⟩ (fun s3 => (t_cmp s_gt (p_var (j := 3) rfl) p_int)) (fun s3 => ?_) (fun s3 => ?_)
  · first | refine k_par2 (i := 2) (j := 3) (v_e (p_var (j := 3) rfl)) (v_e (p_op s_mod (p_callTy (T.bl "int") bb_int s_int (a_cons (p_var (j := 2) rfl) a_nil)) (p_var (j := 3) rfl))) (fun v_law_left_4 v_law_right_here_5 => ?_) | refine k_parT2 (i := 2) (j := 3) (v_e (p_var (j := 3) rfl)) (v_e (p_op s_mod (p_callTy (T.bl "int") bb_int s_int (a_cons (p_var (j := 2) rfl) a_nil)) (p_var (j := 3) rfl))) (fun v_law_left_4 v_law_right_here_5 => ?_)
    exact k_nilB ⟨by repeat (first | exact DL.WkL.nil | refine DL.WkL.keep ?_ | refine DL.WkL.drop ?_), rfl⟩
  refine k_set (j := 4) (p_ifx (t_cmp s_gt (p_var (j := 1) rfl) p_int) (p_var (j := 2) rfl) (p_op s_sub p_int (p_var (j := 2) rfl))) (fun v_law_by_6 => ?_)
  exact k_retA (p_tup (a_cons (p_op s_fdiv (p_var (j := 0) rfl) (p_var (j := 4) rfl)) (a_cons (p_op s_fdiv (p_var (j := 1) rfl) (p_var (j := 4) rfl)) a_nil)))
abbrev s_Ratio_str : Stmt := inClass (topS 16) 11
theorem sc_Ratio_str : FnScope ["self"] ["self"] (defScope s_Ratio_str) := ⟨rfl, rfl, rfl, by decide +kernel, rfl, by decide +kernel, by decide +kernel⟩
theorem ok_Ratio_str {C : Kc} {mg : Str → Option Value} {base : Heap} {f : Addr} {fd : FuncData} (Fn : Fun C.K "__str__" "Ratio.__str__" s_Ratio_str f fd) (T : Tx C mg)  : FnOk C.P C.w C.K mg base CX0 1 f fd ["self"] (spF C (l1 Ratio_str)) := by
  refine fx Fn sc_Ratio_str (fun _ _ h => l1_len h) (fun ds cdv A outer s H E hr => ar1 (S := fun ds => ⟨DL.start ["self"] ds, none⟩) (fun v_self => ?_) ds)
  refine k_ifr (t_cmp s_eq (p_fld (cs := [0]) T.fl (p_var (j := 0) rfl)) p_int) ?_ ?_
  · exact k_retA (p_js1 (p_fmt (p_fld (cs := [0]) T.fl (p_var (j := 0) rfl))))
  exact k_retA (p_js (j_cons (p_fmt (p_fld (cs := [0]) T.fl (p_var (j := 0) rfl))) (j_cons p_str (j_cons (p_fmt (p_fld (cs := [0]) T.fl (p_var (j := 0) rfl))) j_nil))))
abbrev s_f_law_written : Stmt := topS 24
theorem sc_f_law_written : FnScope ["_law_pair"] ["_law_pair"] (defScope s_f_law_written) := ⟨rfl, rfl, rfl, by decide +kernel, rfl, by decide +kernel, by decide +kernel⟩
theorem ok_f_law_written {C : Kc} {mg : Str → Option Value} {base : Heap} {f : Addr} {fd : FuncData} (Fn : Fun C.K "_law_written" "_law_written" s_f_law_written f fd) (T : Tx C mg) (t_Ratio_str : C.has 0 = true → Met C.P C.w C mg base 1 0 "__str__" (spF C (l1 Ratio_str))) (t_Fold_str : C.has 1 = true → Met C.P C.w C mg base 2 1 "__str__" (spF C (l1 Fold_str))) (t_Raisin_str : C.has 2 = true → Met C.P C.w C mg base 4 2 "__str__" (spF C (l1 Raisin_str))) : FnOk C.P C.w C.K mg base CX0 7 f fd ["_law_pair"] (spF C (l1 f_law_written)) := by
  refine fx Fn sc_f_law_written (fun _ _ h => l1_len h) (fun ds cdv A outer s H E hr => ar1 (S := fun ds => ⟨DL.start ["_law_pair"] ds, none⟩) (fun v_law_pair => ?_) ds)
  exact k_retA (p_ifx (t_cmp s_eq (p_ix (p_var (j := 0) rfl) p_int) p_int) (p_callTy (T.bl "str") bb_str (s_ostr (strF_txts t_Ratio_str t_Fold_str t_Raisin_str)) (a_cons (p_ix (p_var (j := 0) rfl) p_int) a_nil)) (p_op s_add (p_op s_add (p_callTy (T.bl "str") bb_str (s_ostr (strF_txts t_Ratio_str t_Fold_str t_Raisin_str)) (a_cons (p_ix (p_var (j := 0) rfl) p_int) a_nil)) p_str) (p_callTy (T.bl "str") bb_str (s_ostr (strF_txts t_Ratio_str t_Fold_str t_Raisin_str)) (a_cons (p_ix (p_var (j := 0) rfl) p_int) a_nil))))
abbrev s_f_is_integer : Stmt := topS 2
theorem sc_f_is_integer : FnScope ["value"] ["value"] (defScope s_f_is_integer) := ⟨rfl, rfl, rfl, by decide +kernel, rfl, by decide +kernel, by decide +kernel⟩
theorem ok_f_is_integer {C : Kc} {mg : Str → Option Value} {base : Heap} {f : Addr} {fd : FuncData} (Fn : Fun C.K "is_integer" "is_integer" s_f_is_integer f fd) (T : Tx C mg)  : FnOk C.P C.w C.K mg base CX0 1 f fd ["value"] (spF C (l1 f_is_integer)) := by
  refine fx Fn sc_f_is_integer (fun _ _ h => l1_len h) (fun ds cdv A outer s H E hr => ar1 (S := fun ds => ⟨DL.start ["value"] ds, none⟩) (fun v_value => ?_) ds)
  exact k_retA (p_and (x_isiB T (p_var (j := 0) rfl) bb_int) (p_one (p_not (x_isiB T (p_var (j := 0) rfl) bb_bool))))
abbrev s_f_shared_factor : Stmt := topS 12
theorem sc_f_shared_factor : FnScope ["one", "two", "high", "low"] ["one", "two"] (defScope s_f_shared_factor) := ⟨rfl, rfl, rfl, by decide +kernel, rfl, by decide +kernel, by decide +kernel⟩
theorem ok_f_shared_factor {C : Kc} {mg : Str → Option Value} {base : Heap} {f : Addr} {fd : FuncData} (Fn : Fun C.K "shared_factor" "shared_factor" s_f_shared_factor f fd) (T : Tx C mg)  : FnOk C.P C.w C.K mg base CX0 1 f fd ["one", "two"] (spF C (l2 f_shared_factor)) := by
  refine fx Fn sc_f_shared_factor (fun _ _ h => l2_len h) (fun ds cdv A outer s H E hr => ar2 (S := fun ds => ⟨DL.start ["one", "two", "high", "low"] ds, none⟩) (fun v_one v_two => ?_) ds)
  first | refine k_par2 (i := 2) (j := 3) (v_e (p_callB (T.bl "abs") bb_abs s_abs (a_cons (p_var (j := 0) rfl) a_nil))) (v_e (p_callB (T.bl "abs") bb_abs s_abs (a_cons (p_var (j := 1) rfl) a_nil))) (fun v_high_1 v_low_2 => ?_) | refine k_parT2 (i := 2) (j := 3) (v_e (p_callB (T.bl "abs") bb_abs s_abs (a_cons (p_var (j := 0) rfl) a_nil))) (v_e (p_callB (T.bl "abs") bb_abs s_abs (a_cons (p_var (j := 1) rfl) a_nil))) (fun v_high_1 v_low_2 => ?_)
  refine k_while (T := D × D) (fun (s3 : D × D) => (⟨[some (.imm v_one), some (.imm v_two), some (.imm s3.1), some (.imm s3.2)], none⟩ : DL.ST)) (natOf (v_two) + 1) ⟨by repeat (first | exact DL.WkL.nil | refine DL.WkL.keep ?_ | refine DL.WkL.drop ?_), rfl⟩ (fun s3 => (t_cmp s_gt (p_var (j := 3) rfl) p_int)) (fun s3 => ?_) (fun s3 => ?_)
  · first | refine k_par2 (i := 2) (j := 3) (v_e (p_var (j := 3) rfl)) (v_e (p_op s_mod (p_var (j := 2) rfl) (p_var (j := 3) rfl))) (fun v_high_4 v_low_5 => ?_) | refine k_parT2 (i := 2) (j := 3) (v_e (p_var (j := 3) rfl)) (v_e (p_op s_mod (p_var (j := 2) rfl) (p_var (j := 3) rfl))) (fun v_high_4 v_low_5 => ?_)
    exact k_nilB ⟨by repeat (first | exact DL.WkL.nil | refine DL.WkL.keep ?_ | refine DL.WkL.drop ?_), rfl⟩
  exact k_retA (p_var (j := 2) rfl)
abbrev s_Ratio_init : Stmt := inClass (topS 16) 0
theorem sc_Ratio_init : FnScope ["self", "top", "bottom", "factor"] ["self", "top", "bottom"] (defScope s_Ratio_init) := ⟨rfl, rfl, rfl, by decide +kernel, rfl, by decide +kernel, by decide +kernel⟩
theorem ok_Ratio_init {C : Kc} {mg : Str → Option Value} {base : Heap} {f : Addr} {fd : FuncData} {dvs : List V} {kws : List (Str × V)} (Fn : FunD C.K "__init__" "Ratio.__init__" (defArgs s_Ratio_init) (defBody s_Ratio_init) (defScope s_Ratio_init) dvs kws f fd) (T : Tx C mg) (c_is_integer : Cal C.P C.w C mg base 1 "is_integer" (spF C (l1 f_is_integer))) (c_shared_factor : Cal C.P C.w C mg base 1 "shared_factor" (spF C (l2 f_shared_factor))) (h_Ratio : C.has 0 = true) : FnOk C.P C.w C.K mg base CX0 2 f fd ["self", "top", "bottom"] (spI C 0 fun ds fs => l2 Ratio_init ds = .ok fs) := by
  refine fxID Fn sc_Ratio_init (fun _ _ h => congrArg (· + 1) (l2_len h)) (fun ds b cdv A outer s H E hr => ar2 (S := fun ds => ⟨DL.startB ["self", "top", "bottom", "factor"] ds, some (b, .ins 0 [])⟩) (fun v_top v_bottom => ?_) ds)
  refine k_ifr (t_not (t_val (p_call c_is_integer (a_cons (p_var (j := 1) rfl) a_nil)))) ?_ ?_
  · exact k_raise
  refine k_ifr (t_w (w_or (t_not (t_val (p_call c_is_integer (a_cons (p_var (j := 2) rfl) a_nil)))) (w_or1 (t_cmp s_lt (p_var (j := 2) rfl) p_int)))) ?_ ?_
  · exact k_raise
  refine k_set (j := 3) (p_call c_shared_factor (a_cons (p_var (j := 1) rfl) (a_cons (p_var (j := 2) rfl) a_nil))) (fun v_factor_1 => ?_)
  refine k_fld (j := 0) ((T.fl (cs := [0]) (f := "top")) 0 (by decide) h_Ratio) (p_op s_fdiv (p_var (j := 1) rfl) (p_var (j := 3) rfl)) rfl rfl (fun f2 => ?_)
  refine k_fld (j := 0) ((T.fl (cs := [0]) (f := "bottom")) 0 (by decide) h_Ratio) (p_op s_fdiv (p_var (j := 2) rfl) (p_var (j := 3) rfl)) rfl rfl (fun f3 => ?_)
  exact k_nilI rfl
abbrev s_f_is_fraction : Stmt := topS 13
theorem sc_f_is_fraction : FnScope ["value"] ["value"] (defScope s_f_is_fraction) := ⟨rfl, rfl, rfl, by decide +kernel, rfl, by decide +kernel, by decide +kernel⟩
theorem ok_f_is_fraction {C : Kc} {mg : Str → Option Value} {base : Heap} {f : Addr} {fd : FuncData} (Fn : Fun C.K "is_fraction" "is_fraction" s_f_is_fraction f fd) (T : Tx C mg) (c_is_integer : Cal C.P C.w C mg base 1 "is_integer" (spF C (l1 f_is_integer))) (h_Ratio : C.has 0 = true) : FnOk C.P C.w C.K mg base CX0 2 f fd ["value"] (spF C (l1 f_is_fraction)) := by
  refine fx Fn sc_f_is_fraction (fun _ _ h => l1_len h) (fun ds cdv A outer s H E hr => ar1 (S := fun ds => ⟨DL.start ["value"] ds, none⟩) (fun v_value => ?_) ds)
  exact k_retA (p_or (p_call c_is_integer (a_cons (p_var (j := 0) rfl) a_nil)) (p_one (x_isiC T h_Ratio (p_var (j := 0) rfl))))
abbrev s_f_as_ratio : Stmt := topS 14
theorem sc_f_as_ratio : FnScope ["value"] ["value"] (defScope s_f_as_ratio) := ⟨rfl, rfl, rfl, by decide +kernel, rfl, by decide +kernel, by decide +kernel⟩
theorem ok_f_as_ratio {C : Kc} {mg : Str → Option Value} {base : Heap} {f : Addr} {fd : FuncData} (Fn : Fun C.K "as_ratio" "as_ratio" s_f_as_ratio f fd) (T : Tx C mg) (h_Ratio : C.has 0 = true) (m_Ratio_1 : Mak C.P C.w C mg base 2 "Ratio" 0 (fun ds fs => l2 Ratio_init ds = .ok fs) [.int 1]) : FnOk C.P C.w C.K mg base CX0 4 f fd ["value"] (spF C (l1 f_as_ratio)) := by
  refine fx Fn sc_f_as_ratio (fun _ _ h => l1_len h) (fun ds cdv A outer s H E hr => ar1 (S := fun ds => ⟨DL.start ["value"] ds, none⟩) (fun v_value => ?_) ds)
  exact k_retA (p_ifx (t_val (x_isiC T h_Ratio (p_var (j := 0) rfl))) (p_var (j := 0) rfl) (p_make m_Ratio_1 (a_cons (p_var (j := 0) rfl) a_nil)))
abbrev s_Ratio_eq : Stmt := inClass (topS 16) 10
theorem sc_Ratio_eq : FnScope ["self", "other", "by"] ["self", "other"] (defScope s_Ratio_eq) := ⟨rfl, rfl, rfl, by decide +kernel, rfl, by decide +kernel, by decide +kernel⟩
theorem ok_Ratio_eq {C : Kc} {mg : Str → Option Value} {base : Heap} {f : Addr} {fd : FuncData} (Fn : Fun C.K "__eq__" "Ratio.__eq__" s_Ratio_eq f fd) (T : Tx C mg) (c_is_fraction : Cal C.P C.w C mg base 2 "is_fraction" (spF C (l1 f_is_fraction))) (c_as_ratio : Cal C.P C.w C mg base 4 "as_ratio" (spF C (l1 f_as_ratio))) : FnOk C.P C.w C.K mg base CX0 5 f fd ["self", "other"] (spF C (l2 Ratio_eq)) := by
  refine fx Fn sc_Ratio_eq (fun _ _ h => l2_len h) (fun ds cdv A outer s H E hr => ar2 (S := fun ds => ⟨DL.start ["self", "other", "by"] ds, none⟩) (fun v_self v_other => ?_) ds)
  refine k_ifr (t_not (t_val (p_call c_is_fraction (a_cons (p_var (j := 1) rfl) a_nil)))) ?_ ?_
  · exact k_retA p_bl
  refine k_set (j := 2) (p_call c_as_ratio (a_cons (p_var (j := 1) rfl) a_nil)) (fun v_by_1 => ?_)
  exact k_retA (p_and (p_cmp s_eq (p_fld (cs := [0]) T.fl (p_var (j := 0) rfl)) (p_fld (cs := [0]) T.fl (p_var (j := 2) rfl))) (p_one (p_cmp s_eq (p_fld (cs := [0]) T.fl (p_var (j := 0) rfl)) (p_fld (cs := [0]) T.fl (p_var (j := 2) rfl)))))
abbrev s_f_are_figures : Stmt := topS 3
theorem sc_f_are_figures : FnScope ["text", "sign"] ["text"] (defScope s_f_are_figures) := ⟨rfl, rfl, rfl, by decide +kernel, rfl, by decide +kernel, by decide +kernel⟩
theorem ok_f_are_figures {C : Kc} {mg : Str → Option Value} {base : Heap} {f : Addr} {fd : FuncData} (Fn : Fun C.K "are_figures" "are_figures" s_f_are_figures f fd) (T : Tx C mg)  : FnOk C.P C.w C.K mg base CX0 1 f fd ["text"] (spF C (l1 f_are_figures)) := by
  refine fx Fn sc_f_are_figures (fun _ _ h => l1_len h) (fun ds cdv A outer s H E hr => ar1 (S := fun ds => ⟨DL.start ["text", "sign"] ds, none⟩) (fun v_text => ?_) ds)
  refine k_ifr (t_w (w_or (t_cmp s_eq (p_var (j := 0) rfl) p_str) (w_or1 (t_not (t_val (p_callB (T.bl "all") bb_all s_all (a_cons (p_do (o_lc (fun _ => blkOk_by (own := [("sign", 1)]) (by first | rfl | decide +kernel)) (lc_map (j := 1) (own := [("sign", 1)]) (i_val (p_var (j := 0) rfl)) (fun v_sign => (p_cmp s_in (p_var (j := 1) rfl) p_str))))) a_nil))))))) ?_ ?_
  · exact k_retA p_bl
  exact k_retA (p_or (p_cmp s_eq (p_var (j := 0) rfl) p_str) (p_one (p_cmp s_ne (p_ix (p_var (j := 0) rfl) p_int) p_str)))
abbrev s_f_ratio_in : Stmt := topS 15
theorem sc_f_ratio_in : FnScope ["text", "sign", "first", "line", "second", "bottom"] ["text"] (defScope s_f_ratio_in) := ⟨rfl, rfl, rfl, by decide +kernel, rfl, by decide +kernel, by decide +kernel⟩
theorem ok_f_ratio_in {C : Kc} {mg : Str → Option Value} {base : Heap} {f : Addr} {fd : FuncData} (Fn : Fun C.K "ratio_in" "ratio_in" s_f_ratio_in f fd) (T : Tx C mg) (g_LONGEST : ∃ t, mg "LONGEST" = some (.int 4000 t)) (c_are_figures : Cal C.P C.w C mg base 1 "are_figures" (spF C (l1 f_are_figures))) (m_Ratio_2 : Mak C.P C.w C mg base 2 "Ratio" 0 (fun ds fs => l2 Ratio_init ds = .ok fs) []) : FnOk C.P C.w C.K mg base CX0 4 f fd ["text"] (spF C (l1 f_ratio_in)) := by
  refine fx Fn sc_f_ratio_in (fun _ _ h => l1_len h) (fun ds cdv A outer s H E hr => ar1 (S := fun ds => ⟨DL.start ["text", "sign", "first", "line", "second", "bottom"] ds, none⟩) (fun v_text => ?_) ds)
  refine k_ifr (t_cmp s_gt (p_callB (T.bl "len") bb_len s_len (a_cons (p_var (j := 0) rfl) a_nil)) (x_LONGEST g_LONGEST)) ?_ ?_
  · exact k_retA p_non
  refine k_set (j := 1) (p_ifx (t_cmp s_eq (p_slice (p_var (j := 0) rfl) x_none (x_some p_int)) p_str) (p_un s_neg p_int) p_int) (fun v_sign_1 => ?_)
  refine k_asg3 (i := 2) (j := 3) (l := 4) (p_ifx (t_cmp s_lt (p_var (j := 1) rfl) p_int) (p_part (p_slice (p_var (j := 0) rfl) (x_some p_int) x_none) p_str) (p_part (p_var (j := 0) rfl) p_str)) (fun v_first_2 v_line_3 v_second_4 => ?_)
  refine k_ifr (t_w (w_or (t_not (t_val (p_call c_are_figures (a_cons (p_var (j := 2) rfl) a_nil)))) (w_or1 (t_w (w_and (t_cmp s_ne (p_var (j := 3) rfl) p_str) (w_and1 (t_not (t_val (p_call c_are_figures (a_cons (p_var (j := 4) rfl) a_nil)))))))))) ?_ ?_
  · exact k_retA p_non
  refine k_set (j := 5) (p_ifx (t_cmp s_ne (p_var (j := 3) rfl) p_str) (p_callTy (T.bl "int") bb_int s_int (a_cons (p_var (j := 4) rfl) a_nil)) p_int) (fun v_bottom_5 => ?_)
  exact k_retA (p_ifx (t_cmp s_gt (p_var (j := 5) rfl) p_int) (p_make m_Ratio_2 (a_cons (p_op s_mul (p_var (j := 1) rfl) (p_callTy (T.bl "int") bb_int s_int (a_cons (p_var (j := 2) rfl) a_nil))) (a_cons (p_var (j := 5) rfl) a_nil))) p_non)
abbrev s_Ratio_read : Stmt := inClass (topS 16) 1
theorem sc_Ratio_read : FnScope ["text", "found"] ["text"] (defScope s_Ratio_read) := ⟨rfl, rfl, rfl, by decide +kernel, rfl, by decide +kernel, by decide +kernel⟩
theorem ok_Ratio_read {C : Kc} {mg : Str → Option Value} {base : Heap} {f : Addr} {fd : FuncData} (Fn : Fun C.K "read" "Ratio.read" s_Ratio_read f fd) (T : Tx C mg) (c_ratio_in : Cal C.P C.w C mg base 4 "ratio_in" (spF C (l1 f_ratio_in))) (t_Ratio_str : C.has 0 = true → Met C.P C.w C mg base 1 0 "__str__" (spF C (l1 Ratio_str))) (t_Fold_str : C.has 1 = true → Met C.P C.w C mg base 2 1 "__str__" (spF C (l1 Fold_str))) (t_Raisin_str : C.has 2 = true → Met C.P C.w C mg base 4 2 "__str__" (spF C (l1 Raisin_str))) : FnOk C.P C.w C.K mg base CX0 7 f fd ["text"] (spF C (l1 Ratio_read)) := by
  refine fx Fn sc_Ratio_read (fun _ _ h => l1_len h) (fun ds cdv A outer s H E hr => ar1 (S := fun ds => ⟨DL.start ["text", "found"] ds, none⟩) (fun v_text => ?_) ds)
  refine k_set (j := 1) (p_ifx (t_val (x_isiB T (p_var (j := 0) rfl) bb_str)) (p_call c_ratio_in (a_cons (p_var (j := 0) rfl) a_nil)) p_non) (fun v_found_1 => ?_)
  refine k_ifr (t_w (w_or (t_cmp s_is (p_var (j := 1) rfl) p_non) (w_or1 (t_cmp s_ne (p_callTy (T.bl "str") bb_str (s_ostr (strF_txts t_Ratio_str t_Fold_str t_Raisin_str)) (a_cons (p_var (j := 1) rfl) a_nil)) (p_var (j := 0) rfl))))) ?_ ?_
  · exact k_raise
  exact k_retA (p_var (j := 1) rfl)
abbrev s_x_Ratio_read : Stmt := inClass (topS 16) 1
theorem sc_x_Ratio_read : FnScope ["text", "found"] ["text"] (defScope s_x_Ratio_read) := ⟨rfl, rfl, rfl, by decide +kernel, rfl, by decide +kernel, by decide +kernel⟩
theorem ok_x_Ratio_read {C : Kc} {mg : Str → Option Value} {base : Heap} {f : Addr} {fd : FuncData} (Fn : Fun C.K "read" "Ratio.read" s_x_Ratio_read f fd) (T : Tx C mg) (c_ratio_in : Cal C.P C.w C mg base 4 "ratio_in" (spF C (l1 f_ratio_in))) (t_Ratio_str : C.has 0 = true → Met C.P C.w C mg base 1 0 "__str__" (spF C (l1 Ratio_str))) (t_Fold_str : C.has 1 = true → Met C.P C.w C mg base 2 1 "__str__" (spF C (l1 Fold_str))) (t_Raisin_str : C.has 2 = true → Met C.P C.w C mg base 4 2 "__str__" (spF C (l1 Raisin_str))) (xt_101 : ∃ qn fI, PySem.XvX.XvTxt C.K mg (excName 101) qn (C.xc 101) fI) : FnOk C.P C.w C.K mg base (L2.CX C.P C.w) 7 f fd ["text"] (spFX C (l1 x_Ratio_read)) := by
  refine fxX Fn sc_x_Ratio_read (fun _ _ h => l1_len h) (fun ds cdv A outer s H E hr => ar1 (S := fun ds => ⟨DL.start ["text", "found"] ds, none⟩) (fun v_text => ?_) ds)
  refine k_set (j := 1) (p_ifx (t_val (x_isiB T (p_var (j := 0) rfl) bb_str)) (p_call c_ratio_in (a_cons (p_var (j := 0) rfl) a_nil)) p_non) (fun v_found_1 => ?_)
  refine k_ifr (t_w (w_or (t_cmp s_is (p_var (j := 1) rfl) p_non) (w_or1 (t_cmp s_ne (p_callTy (T.bl "str") bb_str (s_ostr (strF_txts t_Ratio_str t_Fold_str t_Raisin_str)) (a_cons (p_var (j := 1) rfl) a_nil)) (p_var (j := 0) rfl))))) ?_ ?_
  · exact k_raiseE (c := 101) (rx := fun c fs => Xr.x c fs) xt_101 (p_var (j := 0) rfl)
  exact k_ret (ret := fun d => Xr.r d) (p_var (j := 1) rfl)
abbrev s_f_law_sort : Stmt := topS 23
theorem sc_f_law_sort : FnScope ["_law_e", "_law_bases", "_law_kinds", "_law_found"] ["_law_e"] (defScope s_f_law_sort) := ⟨rfl, rfl, rfl, by decide +kernel, rfl, by decide +kernel, by decide +kernel⟩
theorem ok_f_law_sort {C : Kc} {mg : Str → Option Value} {base : Heap} {f : Addr} {fd : FuncData} {k : Nat} (Fn : Fun C.K "_law_sort" "_law_sort" s_f_law_sort f fd) (T : Tx C mg) (te : TxE C mg LX LN)  (hm : mg "_law_sort" = some (.ref f)) (hb : Binds C.K fd ["_law_e"] []) : SortOk C.P C.w C mg base (k + 1) "_law_sort" (sortO LX f_law_sort) := by
  refine fxH Fn sc_f_law_sort (fun cx fx hc a dx p cdv A outer s H E hr hA0 pin => ?_) hm hb
  have hA : A.guards = some [] ∧ True := ⟨hA0, trivial⟩
  refine k_set (j := 1) (p_lst (a_cons (p_isX te hc pin (p_var (j := 0) rfl) (T.bl "isinstance") 124) (a_cons (p_isX te hc pin (p_var (j := 0) rfl) (T.bl "isinstance") 125) (a_cons (p_isX te hc pin (p_var (j := 0) rfl) (T.bl "isinstance") 126) a_nil)))) (fun v_law_bases_1 => ?_)
  refine k_set (j := 2) (p_lst (a_cons (p_isXB te hc pin (p_var (j := 0) rfl) (T.bl "isinstance") "ValueError") (a_cons (p_isXB te hc pin (p_var (j := 0) rfl) (T.bl "isinstance") "LookupError") (a_cons (p_isXB te hc pin (p_var (j := 0) rfl) (T.bl "isinstance") "ArithmeticError") a_nil)))) (fun v_law_kinds_2 => ?_)
  refine k_setO (j := 3) (o_lst a_nil) (fun v_law_found_3 => ?_)
  refine k_ifj (T := List D) (fun j5 => (⟨[some (.imm (.cst (.ref a))), some (.imm v_law_bases_1), some (.imm v_law_kinds_2), some (.own (.lst j5))], some (dx, .xd ((excFields cx).zip fx))⟩ : DL.ST)) (t_val (p_isX te hc pin (p_var (j := 0) rfl) (T.bl "isinstance") 101)) ?_ ?_ (fun j5 => ?_)
  · refine k_append (j := 3) (p_lst (a_cons p_str (a_cons (p_callB (T.bl "repr") bb_repr (s_reprZ (fun _ => hA.1)) (a_cons (p_fx te hc pin (p_var (j := 0) rfl)) a_nil)) a_nil))) rfl (fun a4 => ?_)
    exact k_nilJ ⟨by repeat (first | exact DL.WkL.nil | refine DL.WkL.keep ?_ | refine DL.WkL.drop ?_), rfl⟩
  · exact k_nilJ ⟨by repeat (first | exact DL.WkL.nil | refine DL.WkL.keep ?_ | refine DL.WkL.drop ?_), rfl⟩
  refine k_fz (j := 3) rfl ?_
  exact k_retA (p_ifx (t_w (w_and (t_cmp s_eq (p_callB (T.bl "len") bb_len s_len (a_cons (p_var (j := 3) rfl) a_nil)) p_int) (w_and (t_cmp s_eq (p_var (j := 1) rfl) (p_var (j := 2) rfl)) (w_and1 (t_cmp s_eq (p_count (p_var (j := 1) rfl) p_bl) p_int))))) (p_ix (p_var (j := 3) rfl) p_int) (p_lst (a_cons p_str a_nil)))
abbrev s_f_law_answer : Stmt := topS 22
theorem sc_f_law_answer : FnScope ["_law_act", "_law_got", "_law_e"] ["_law_act"] (defScope s_f_law_answer) := ⟨rfl, rfl, rfl, by decide +kernel, rfl, by decide +kernel, by decide +kernel⟩
abbrev s_f_law_read : Stmt := topS 25
theorem sc_f_law_read : FnScope ["_law_line", "_law_bits", "_law_bit", "_law_pair", "_law_sign"] ["_law_line"] (defScope s_f_law_read) := ⟨rfl, rfl, rfl, by decide +kernel, rfl, by decide +kernel, by decide +kernel⟩
theorem ok_f_law_read {C : Kc} {mg : Str → Option Value} {base : Heap} {f : Addr} {fd : FuncData} (Fn : Fun C.K "_law_read" "_law_read" s_f_law_read f fd) (T : Tx C mg) (t_Fold_len : C.has 1 = true → Met C.P C.w C mg base 1 1 "__len__" (spF C (l1 Fold_len))) (t_Watch_len : C.has 4 = true → Met C.P C.w C mg base 1 4 "__len__" (spF C (l1 Watch_len))) (c_law_low : Cal C.P C.w C mg base 1 "_law_low" (spF C (l2 f_law_low))) (c_law_written : Cal C.P C.w C mg base 7 "_law_written" (spF C (l1 f_law_written))) : FnOk C.P C.w C.K mg base CX0 8 f fd ["_law_line"] (spF C (l1 f_law_read)) := by
  refine fx Fn sc_f_law_read (fun _ _ h => l1_len h) (fun ds cdv A outer s H E hr => ar1 (S := fun ds => ⟨DL.start ["_law_line", "_law_bits", "_law_bit", "_law_pair", "_law_sign"] ds, none⟩) (fun v_law_line => ?_) ds)
  refine k_setT (j := 1) (p_var (j := 0) rfl) (fun v_law_bits_1 => ?_)
  refine kT_ifr (t_w (w_or (t_cmp s_gt (p_callB (T.bl "len") bb_len (s_olen (lenF_lens t_Fold_len t_Watch_len)) (a_cons (p_var (j := 1) rfl) a_nil)) p_int) (w_or1 (t_cmp s_ne (p_do (o_lc (fun _ => blkOk_by (own := [("_law_bit", 2)]) (by first | rfl | decide +kernel)) (lc_fil (j := 2) (own := [("_law_bit", 2)]) (i_val (p_var (j := 1) rfl)) (fun v_law_bit => (t_cmp s_in (p_var (j := 2) rfl) (p_lst (a_cons p_str (a_cons p_str a_nil))))) (fun v_law_bit => (p_var (j := 2) rfl))))) (p_lst a_nil))))) ?_ ?_
  · exact k_retA p_non
  refine kT_for1R (T := Unit) (j := 2) (fun (s2 : Unit) => (⟨[some (.imm v_law_line), some (.imm v_law_bits_1), none, none, none], none⟩ : DL.ST)) (i_val (p_var (j := 1) rfl)) ⟨by repeat (first | exact DL.WkL.nil | refine DL.WkL.keep ?_ | refine DL.WkL.drop ?_), rfl⟩ (fun s2 v_law_bit_3 => ?_) (fun s2 => ?_)
  · refine kT_strike (i := 2) rfl ?_ ?_
    · exact k_ret (ret := fun d => Fl.rt (d)) p_non
    refine k_ifr (t_w (w_and (t_cmp s_in p_str (p_var (j := 2) rfl)) (w_and1 (t_cmp s_ne (p_ix (p_var (j := 2) rfl) p_int) p_str)))) ?_ ?_
    · exact k_ret (ret := fun d => Fl.rt (d)) p_non
    exact k_nilL ⟨by repeat (first | exact DL.WkL.nil | refine DL.WkL.keep ?_ | refine DL.WkL.drop ?_), rfl⟩
  refine kT_of ?_
  refine k_set (j := 3) (p_tup (a_cons (p_callTy (T.bl "int") bb_int s_int (a_cons (p_ix (p_var (j := 1) rfl) p_int) a_nil)) (a_cons (p_ifx (t_cmp s_gt (p_callB (T.bl "len") bb_len (s_olen (lenF_lens t_Fold_len t_Watch_len)) (a_cons (p_var (j := 1) rfl) a_nil)) p_int) (p_callTy (T.bl "int") bb_int s_int (a_cons (p_ix (p_var (j := 1) rfl) p_int) a_nil)) p_int) a_nil))) (fun v_law_pair_4 => ?_)
  refine k_ifr (t_w (w_or (t_cmp s_lt (p_ix (p_var (j := 3) rfl) p_int) p_int) (w_or (t_cmp s_ne (p_call c_law_low (a_cons (p_ix (p_var (j := 3) rfl) p_int) (a_cons (p_ix (p_var (j := 3) rfl) p_int) a_nil))) (p_var (j := 3) rfl)) (w_or1 (t_cmp s_ne (p_call c_law_written (a_cons (p_var (j := 3) rfl) a_nil)) (p_var (j := 0) rfl)))))) ?_ ?_
  · exact k_retA p_non
  exact k_retA (p_var (j := 3) rfl)
abbrev s_f_law_right : Stmt := topS 26
theorem sc_f_law_right : FnScope ["_law_bag_here", "_law_turn", "_law_upper", "_law_pair", "_law_line", "_law_mine", "_law_at", "_law_more", "_law_ways", "_law_told", "_law_some", "_law_odd"] ["_law_bag_here"] (defScope s_f_law_right) := ⟨rfl, rfl, rfl, by decide +kernel, rfl, by decide +kernel, by decide +kernel⟩
theorem ok_f_law_right {C : Kc} {mg : Str → Option Value} {base : Heap} {f : Addr} {fd : FuncData} {cc cp : Addr} (Fn : Fun C.K "_law_right" "_law_right" s_f_law_right f fd) (T : Tx C mg) (tb : LamX.TabB base mg cc cp) (co : fd.code = .ref cc) (mm : (cp, (("_law_right.<locals>." : Str) ++ "<lambda>")) ∈ TabL.T) (un : ∀ p ∈ TabL.T, p.1 = cp → p.2 = (("_law_right.<locals>." : Str) ++ "<lambda>")) (c_law_draw : Cal C.P C.w C mg base 1 "_law_draw" (spFB C (m1 f_law_draw))) (c_law_one : Cal C.P C.w C mg base 3 "_law_one" (spFB C (m1 f_law_one))) (c_law_low : Cal C.P C.w C mg base 1 "_law_low" (spF C (l2 f_law_low))) (c_law_written : Cal C.P C.w C mg base 7 "_law_written" (spF C (l1 f_law_written))) (m_Ratio_2 : Mak C.P C.w C mg base 2 "Ratio" 0 (fun ds fs => l2 Ratio_init ds = .ok fs) []) (t_Ratio_eq : C.has 0 = true → Met C.P C.w C mg base 5 0 "__eq__" (spF C (l2 Ratio_eq))) (t_Ratio_str : C.has 0 = true → Met C.P C.w C mg base 1 0 "__str__" (spF C (l1 Ratio_str))) (t_Fold_str : C.has 1 = true → Met C.P C.w C mg base 2 1 "__str__" (spF C (l1 Fold_str))) (t_Raisin_str : C.has 2 = true → Met C.P C.w C mg base 4 2 "__str__" (spF C (l1 Raisin_str))) (st_Ratio_read : Sta C.P C.w C mg base 7 0 "read" (spF C (l1 Ratio_read))) (stK_Ratio_read_text : StaK C.P C.w C mg base 7 0 "read" (spF C (l1 Ratio_read)) ["text"] [0]) (t_Fold_len : C.has 1 = true → Met C.P C.w C mg base 1 1 "__len__" (spF C (l1 Fold_len))) (t_Watch_len : C.has 4 = true → Met C.P C.w C mg base 1 4 "__len__" (spF C (l1 Watch_len))) (sx_Ratio_read : StaX C.P C.w C mg base 7 0 "read" (spFX C (l1 x_Ratio_read))) (an_law_answer : AnsOk C.P C.w C mg base 7 "_law_answer" (sortO LX f_law_sort)) (c_law_read : Cal C.P C.w C mg base 8 "_law_read" (spF C (l1 f_law_read))) : FnG C.P C.w C.K mg base 10 f fd ["_law_bag_here"] (spFB C (m0 f_law_right)) := by
  refine fxBG Fn sc_f_law_right (fun _ _ _ h => congrArg (· + 1) (m0_len h)) (fun b cdv A outer s H E hr hA => am0 (S := fun ds => DL.startB ["_law_bag_here", "_law_turn", "_law_upper", "_law_pair", "_law_line", "_law_mine", "_law_at", "_law_more", "_law_ways", "_law_told", "_law_some", "_law_odd"] ds) (?_))
  have LT : LamT (famD C mg base ["_law_bag_here", "_law_turn", "_law_upper", "_law_pair", "_law_line", "_law_mine", "_law_at", "_law_more", "_law_ways", "_law_told", "_law_some", "_law_odd"] sc_f_law_right.nd "_law_right" (defScope s_f_law_right) f cdv A outer s H E _ hr) cc cp "_law_right.<locals>." := ⟨tb, fun _ => hA.2.symm.trans co, fun _ => rfl, mm, un⟩
  refine m_for1R (T := Unit) (j := 1) (fun (s1 : Unit) => [some .bag, none, none, none, none, none, none, none, none, none, none, none]) (i_up fun g => (i_range1 (T.bl "range") p_int)) (by repeat (first | exact DL.WkL.nil | refine DL.WkL.keep ?_ | refine DL.WkL.drop ?_)) (fun s1 v_law_turn_2 => ?_) (fun s1 => ?_)
  · refine m_set (j := 2) (me_op s_mul (me_bag (j := 0) c_law_one rfl (ma_cons (me_lst (ma_cons (e_up fun g => p_int) (ma_cons (e_up fun g => p_int) (ma_cons (me_bag (j := 0) c_law_draw rfl (a_up fun g => (a_cons p_int a_nil))) (ma_cons (me_bag (j := 0) c_law_draw rfl (a_up fun g => (a_cons (p_op s_pow p_int p_int) a_nil))) (a_up fun g => a_nil)))))) (a_up fun g => a_nil))) (me_bag (j := 0) c_law_one rfl (a_up fun g => (a_cons (p_lst (a_cons p_int (a_cons (p_op s_sub p_int p_int) a_nil))) a_nil)))) (fun v_law_upper_3 => ?_)
    refine m_set (j := 3) (me_call c_law_low (ma_cons (e_up fun g => (p_var (j := 2) rfl)) (ma_cons (me_op s_add (e_up fun g => p_int) (me_bag (j := 0) c_law_draw rfl (a_up fun g => (a_cons p_int a_nil)))) (a_up fun g => a_nil)))) (fun v_law_pair_4 => ?_)
    first | refine m_par2 (i := 4) (j := 5) (vm_e (e_up fun g => (p_call c_law_written (a_cons (p_var (j := 3) rfl) a_nil)))) (vm_e (e_up fun g => (p_make m_Ratio_2 (a_cons (p_ix (p_var (j := 3) rfl) p_int) (a_cons (p_ix (p_var (j := 3) rfl) p_int) a_nil))))) (fun v_law_line_5 v_law_mine_6 => ?_) | refine m_parT2 (i := 4) (j := 5) (vm_e (e_up fun g => (p_call c_law_written (a_cons (p_var (j := 3) rfl) a_nil)))) (vm_e (e_up fun g => (p_make m_Ratio_2 (a_cons (p_ix (p_var (j := 3) rfl) p_int) (a_cons (p_ix (p_var (j := 3) rfl) p_int) a_nil))))) (fun v_law_line_5 v_law_mine_6 => ?_)
    refine m_ifr (t_up fun g => (t_cmp (s_one T (eqF_eqs0 t_Ratio_eq)) (p_lst (a_cons (p_callTy (T.bl "str") bb_str (s_ostr (strF_txts t_Ratio_str t_Fold_str t_Raisin_str)) (a_cons (p_var (j := 5) rfl) a_nil)) (a_cons (p_callTy (T.bl "str") bb_str (s_ostr (strF_txts t_Ratio_str t_Fold_str t_Raisin_str)) (a_cons (p_static (pl := fun _ => _) st_Ratio_read (a_cons (p_var (j := 4) rfl) a_nil)) a_nil)) (a_cons (p_cmp (s_oeq T (eqF_eqs0 t_Ratio_eq)) (p_staticK (pl := fun _ => _) stK_Ratio_read_text (kw_cons (p_var (j := 4) rfl) kw_nil)) (p_var (j := 5) rfl)) a_nil)))) (p_lst (a_cons (p_var (j := 4) rfl) (a_cons (p_var (j := 4) rfl) (a_cons p_bl a_nil)))))) ?_ ?_
    · exact m_ret (ret := fun d => Fl.rt (d)) (e_up fun g => p_bl) (by intro _ _; exact ⟨rfl, rfl⟩)
    first | refine m_par2 (i := 6) (j := 7) (vm_e (me_bag (j := 0) c_law_draw rfl (a_up fun g => (a_cons (p_op s_add (p_callB (T.bl "len") bb_len (s_olen (lenF_lens t_Fold_len t_Watch_len)) (a_cons (p_var (j := 4) rfl) a_nil)) p_int) a_nil)))) (vm_e (me_bag (j := 0) c_law_one rfl (a_up fun g => (a_cons (p_lst (a_cons p_str (a_cons p_str (a_cons p_str (a_cons p_str (a_cons p_str (a_cons p_str (a_cons p_str (a_cons p_str (a_cons p_str a_nil)))))))))) a_nil)))) (fun v_law_at_7 v_law_more_8 => ?_) | refine m_parT2 (i := 6) (j := 7) (vm_e (me_bag (j := 0) c_law_draw rfl (a_up fun g => (a_cons (p_op s_add (p_callB (T.bl "len") bb_len (s_olen (lenF_lens t_Fold_len t_Watch_len)) (a_cons (p_var (j := 4) rfl) a_nil)) p_int) a_nil)))) (vm_e (me_bag (j := 0) c_law_one rfl (a_up fun g => (a_cons (p_lst (a_cons p_str (a_cons p_str (a_cons p_str (a_cons p_str (a_cons p_str (a_cons p_str (a_cons p_str (a_cons p_str (a_cons p_str a_nil)))))))))) a_nil)))) (fun v_law_at_7 v_law_more_8 => ?_)
    refine m_set (j := 8) (e_up fun g => (p_lst (a_cons (p_op s_add (p_op s_add (p_slice (p_var (j := 4) rfl) x_none (x_some (p_var (j := 6) rfl))) (p_var (j := 7) rfl)) (p_slice (p_var (j := 4) rfl) (x_some (p_var (j := 6) rfl)) x_none)) (a_cons (p_op s_add (p_slice (p_var (j := 4) rfl) x_none (x_some (p_var (j := 6) rfl))) (p_slice (p_var (j := 4) rfl) (x_some (p_op s_add (p_var (j := 6) rfl) p_int)) x_none)) (a_cons (p_op s_add (p_op s_add (p_slice (p_var (j := 4) rfl) x_none (x_some (p_var (j := 6) rfl))) (p_var (j := 7) rfl)) (p_slice (p_var (j := 4) rfl) (x_some (p_op s_add (p_var (j := 6) rfl) p_int)) x_none)) a_nil))))) (fun v_law_ways_9 => ?_)
    refine m_set (j := 4) (me_bag (j := 0) c_law_one rfl (a_up fun g => (a_cons (p_var (j := 8) rfl) a_nil))) (fun v_law_line_10 => ?_)
    refine m_set (j := 9) (e_up fun g => (p_answer LT an_law_answer (fun _ => hA.1) (fun E => (x_callTy (T.bl "str") bb_str (s_ostr (strF_txts t_Ratio_str t_Fold_str t_Raisin_str)) (x_static sx_Ratio_read famL_takes (a_cons (p_var (j := 4) rfl) a_nil) (pl := fun _ => _)))))) (fun v_law_told_11 => ?_)
    refine m_ifr (t_up fun g => (t_cmp (s_one T (eqF_eqs0 t_Ratio_eq)) (p_var (j := 9) rfl) (p_ifx (t_cmp s_is (p_call c_law_read (a_cons (p_var (j := 4) rfl) a_nil)) p_non) (p_lst (a_cons p_str (a_cons (p_callB (T.bl "repr") bb_repr (s_reprZ (fun _ => hA.1)) (a_cons (p_var (j := 4) rfl) a_nil)) a_nil))) (p_lst (a_cons p_str (a_cons (p_var (j := 4) rfl) a_nil)))))) ?_ ?_
    · exact m_ret (ret := fun d => Fl.rt (d)) (e_up fun g => p_bl) (by intro _ _; exact ⟨rfl, rfl⟩)
    exact m_nilL (by repeat (first | exact DL.WkL.nil | refine DL.WkL.keep ?_ | refine DL.WkL.drop ?_))
  refine m_set (j := 10) (e_up fun g => (p_lst (a_cons p_non (a_cons p_int (a_cons p_str (a_cons p_str (a_cons p_str (a_cons p_str (a_cons p_str (a_cons p_str (a_cons p_str (a_cons p_str (a_cons p_str a_nil))))))))))))) (fun v_law_some_12 => ?_)
  refine m_set (j := 11) (me_bag (j := 0) c_law_one rfl (a_up fun g => (a_cons (p_op s_add (p_var (j := 10) rfl) (p_lst (a_cons p_str (a_cons p_str (a_cons p_str (a_cons p_str (a_cons (p_tup (a_cons p_str a_nil)) (a_cons (p_lst a_nil) a_nil)))))))) a_nil))) (fun v_law_odd_13 => ?_)
  exact m_retA (e_up fun g => (p_cmp (s_oeq T (eqF_eqs0 t_Ratio_eq)) (p_answer LT an_law_answer (fun _ => hA.1) (fun E => (x_static sx_Ratio_read famL_takes (a_cons (p_var (j := 11) rfl) a_nil) (pl := fun _ => _)))) (p_lst (a_cons p_str (a_cons (p_callB (T.bl "repr") bb_repr (s_reprZ (fun _ => hA.1)) (a_cons (p_var (j := 11) rfl) a_nil)) a_nil)))))
abbrev s_f_law : Stmt := topS 27
theorem sc_f_law : FnScope ["_law_script", "_law_k"] ["_law_script"] (defScope s_f_law) := ⟨rfl, rfl, rfl, by decide +kernel, rfl, by decide +kernel, by decide +kernel⟩
theorem ok_f_law {C : Kc} {mg : Str → Option Value} {base : Heap} {f : Addr} {fd : FuncData} (Fn : Fun C.K "law" "law" s_f_law f fd) (T : Tx C mg) (t_Fold_len : C.has 1 = true → Met C.P C.w C mg base 1 1 "__len__" (spF C (l1 Fold_len))) (t_Watch_len : C.has 4 = true → Met C.P C.w C mg base 1 4 "__len__" (spF C (l1 Watch_len))) (c_law_bag : Cal C.P C.w C mg base 3 "_law_bag" (spFN C (l2 f_law_bag))) (c_law_right : CalG C.P C.w C mg base 10 "_law_right" (spFB C (m0 f_law_right))) : FnG C.P C.w C.K mg base 11 f fd ["_law_script"] (spF C (l1 f_law)) := by
  refine fxG Fn sc_f_law (fun _ _ h => l1_len h) (fun ds cdv A outer s H E hr hA => ar1 (S := fun ds => ⟨DL.start ["_law_script", "_law_k"] ds, none⟩) (fun v_law_script => ?_) ds)
  exact k_retA (p_callB (T.bl "all") bb_all s_all (a_cons (p_do (o_lc (fun _ => blkOk_by (own := [("_law_k", 1)]) (by first | rfl | decide +kernel)) (lc_map (j := 1) (own := [("_law_k", 1)]) (i_range1 (T.bl "range") (p_callB (T.bl "max") bb_max s_max (a_cons p_int (a_cons (p_callB (T.bl "min") bb_min s_min (a_cons (p_callB (T.bl "len") bb_len (s_olen (lenF_lens t_Fold_len t_Watch_len)) (a_cons (p_var (j := 0) rfl) a_nil)) (a_cons p_int a_nil))) a_nil)))) (fun v_law_k => (p_callNewG (fun _ => hA.1) c_law_right (o_call c_law_bag (a_cons (p_var (j := 0) rfl) (a_cons (p_var (j := 1) rfl) a_nil)))))))) a_nil))
abbrev s_xi_101 : Stmt := inClass (topS 7) 0
theorem xs_101 : ∃ p1 p2 q1 q2 q3 q4, defArgs s_xi_101 = PySem.XvX.iA p1 p2 ∧ defBody s_xi_101 = PySem.XvX.iB q1 q2 q3 q4 ∧ defScope s_xi_101 = PySem.XvX.iS := ⟨_, _, _, _, _, _, rfl, rfl, rfl⟩
end SL.K02
namespace SL.K02
open PySem L2 DL SL
theorem all_mk {l : PySem.W.OpenLaw} {w : World} {K : PySem.W.Frag} {mg : Str → Option Value} {fa : Addr} {c_Ratio fA_law_bag fA_law_draw fA_law_one fA_law_low fA_Ratio_str fA_law_written fA_is_integer fA_shared_factor fA_Ratio_init fA_is_fraction fA_as_ratio fA_Ratio_eq fA_are_figures fA_ratio_in fA_Ratio_read fA_law_sort fA_law_answer fA_law_read fA_law_right fA_law cc_law_right cp_law_right : Addr} {fd_law_bag fd_law_draw fd_law_one fd_law_low fd_Ratio_str fd_law_written fd_is_integer fd_shared_factor fd_Ratio_init fd_is_fraction fd_as_ratio fd_Ratio_eq fd_are_figures fd_ratio_in fd_Ratio_read fd_law_sort fd_law_answer fd_law_read fd_law_right fd_law : FuncData} (hfa : mg "law" = some (.ref fa))
    (gc_Ratio : mg "Ratio" = some (.ref c_Ratio))
    (ins_Ratio : InsF K c_Ratio)
    (FD_law_bag : FunD K "_law_bag" "_law_bag" (defArgs s_f_law_bag) (defBody s_f_law_bag) (defScope s_f_law_bag) [] [] fA_law_bag fd_law_bag)
    (g_law_bag : mg "_law_bag" = some (.ref fA_law_bag))
    (FD_law_draw : FunD K "_law_draw" "_law_draw" (defArgs s_f_law_draw) (defBody s_f_law_draw) (defScope s_f_law_draw) [] [] fA_law_draw fd_law_draw)
    (g_law_draw : mg "_law_draw" = some (.ref fA_law_draw))
    (FD_law_one : FunD K "_law_one" "_law_one" (defArgs s_f_law_one) (defBody s_f_law_one) (defScope s_f_law_one) [] [] fA_law_one fd_law_one)
    (g_law_one : mg "_law_one" = some (.ref fA_law_one))
    (FD_law_low : FunD K "_law_low" "_law_low" (defArgs s_f_law_low) (defBody s_f_law_low) (defScope s_f_law_low) [] [] fA_law_low fd_law_low)
    (g_law_low : mg "_law_low" = some (.ref fA_law_low))
    (FD_Ratio_str : FunD K "__str__" "Ratio.__str__" (defArgs s_Ratio_str) (defBody s_Ratio_str) (defScope s_Ratio_str) [] [] fA_Ratio_str fd_Ratio_str)
    (me_Ratio_str : Meth K c_Ratio "__str__" fA_Ratio_str)
    (FD_law_written : FunD K "_law_written" "_law_written" (defArgs s_f_law_written) (defBody s_f_law_written) (defScope s_f_law_written) [] [] fA_law_written fd_law_written)
    (g_law_written : mg "_law_written" = some (.ref fA_law_written))
    (FD_is_integer : FunD K "is_integer" "is_integer" (defArgs s_f_is_integer) (defBody s_f_is_integer) (defScope s_f_is_integer) [] [] fA_is_integer fd_is_integer)
    (g_is_integer : mg "is_integer" = some (.ref fA_is_integer))
    (FD_shared_factor : FunD K "shared_factor" "shared_factor" (defArgs s_f_shared_factor) (defBody s_f_shared_factor) (defScope s_f_shared_factor) [] [] fA_shared_factor fd_shared_factor)
    (g_shared_factor : mg "shared_factor" = some (.ref fA_shared_factor))
    (FD_Ratio_init : FunD K "__init__" "Ratio.__init__" (defArgs s_Ratio_init) (defBody s_Ratio_init) (defScope s_Ratio_init) [V.int 1] [] fA_Ratio_init fd_Ratio_init)
    (me_Ratio_init : Meth K c_Ratio "__init__" fA_Ratio_init)
    (M_Ratio : Mk K c_Ratio fA_Ratio_init)
    (FD_is_fraction : FunD K "is_fraction" "is_fraction" (defArgs s_f_is_fraction) (defBody s_f_is_fraction) (defScope s_f_is_fraction) [] [] fA_is_fraction fd_is_fraction)
    (g_is_fraction : mg "is_fraction" = some (.ref fA_is_fraction))
    (FD_as_ratio : FunD K "as_ratio" "as_ratio" (defArgs s_f_as_ratio) (defBody s_f_as_ratio) (defScope s_f_as_ratio) [] [] fA_as_ratio fd_as_ratio)
    (g_as_ratio : mg "as_ratio" = some (.ref fA_as_ratio))
    (FD_Ratio_eq : FunD K "__eq__" "Ratio.__eq__" (defArgs s_Ratio_eq) (defBody s_Ratio_eq) (defScope s_Ratio_eq) [] [] fA_Ratio_eq fd_Ratio_eq)
    (me_Ratio_eq : Meth K c_Ratio "__eq__" fA_Ratio_eq)
    (FD_are_figures : FunD K "are_figures" "are_figures" (defArgs s_f_are_figures) (defBody s_f_are_figures) (defScope s_f_are_figures) [] [] fA_are_figures fd_are_figures)
    (g_are_figures : mg "are_figures" = some (.ref fA_are_figures))
    (FD_ratio_in : FunD K "ratio_in" "ratio_in" (defArgs s_f_ratio_in) (defBody s_f_ratio_in) (defScope s_f_ratio_in) [] [] fA_ratio_in fd_ratio_in)
    (g_ratio_in : mg "ratio_in" = some (.ref fA_ratio_in))
    (FD_Ratio_read : FunD K "read" "Ratio.read" (defArgs s_Ratio_read) (defBody s_Ratio_read) (defScope s_Ratio_read) [] [] fA_Ratio_read fd_Ratio_read)
    (sm_Ratio_read : SMet K c_Ratio "read" fA_Ratio_read)
    (FD_law_sort : FunD K "_law_sort" "_law_sort" (defArgs s_f_law_sort) (defBody s_f_law_sort) (defScope s_f_law_sort) [] [] fA_law_sort fd_law_sort)
    (g_law_sort : mg "_law_sort" = some (.ref fA_law_sort))
    (FD_law_answer : FunD K "_law_answer" "_law_answer" (defArgs s_f_law_answer) (defBody s_f_law_answer) (defScope s_f_law_answer) [] [] fA_law_answer fd_law_answer)
    (g_law_answer : mg "_law_answer" = some (.ref fA_law_answer))
    (FD_law_read : FunD K "_law_read" "_law_read" (defArgs s_f_law_read) (defBody s_f_law_read) (defScope s_f_law_read) [] [] fA_law_read fd_law_read)
    (g_law_read : mg "_law_read" = some (.ref fA_law_read))
    (FD_law_right : FunD K "_law_right" "_law_right" (defArgs s_f_law_right) (defBody s_f_law_right) (defScope s_f_law_right) [] [] fA_law_right fd_law_right)
    (g_law_right : mg "_law_right" = some (.ref fA_law_right))
    (FD_law : FunD K "law" "law" (defArgs s_f_law) (defBody s_f_law) (defScope s_f_law) [] [] fA_law fd_law)
    (g_law : mg "law" = some (.ref fA_law))
    (te : TxE (⟨K, l.prog, w, clF c_Ratio 0 0 0 0 0 0, hasF true false false false false false false, EXX.xa K⟩ : Kc) mg LX LN)
    (xt_101 : ∃ qn fI, PySem.XvX.XvTxt K mg (excName 101) qn (EXX.xa K 101) fI)
    (co_law_right : fd_law_right.code = .ref cc_law_right)
    (zz_isinstance : mg "isinstance" = none)
    (zz_len : mg "len" = none)
    (zz_int : mg "int" = none)
    (zz_bool : mg "bool" = none)
    (zz_str : mg "str" = none)
    (zz_tuple : mg "tuple" = none)
    (zz_list : mg "list" = none)
    (zz_range : mg "range" = none)
    (zz_enumerate : mg "enumerate" = none)
    (zz_abs : mg "abs" = none)
    (zz_max : mg "max" = none)
    (zz_min : mg "min" = none)
    (zz_all : mg "all" = none)
    (zz_any : mg "any" = none)
    (zz_sum : mg "sum" = none)
    (zz_repr : mg "repr" = none)
    (zz_sorted : mg "sorted" = none)
    (zz_set : mg "set" = none)
    (zz_dict : mg "dict" = none)
    (zz_zip : mg "zip" = none)
    (n_Ratio_top : PySem.W.findIn K (.ref c_Ratio) "top" = some none)
    (n_Ratio_bottom : PySem.W.findIn K (.ref c_Ratio) "bottom" = some none)
    (kO_Ratio_int : PySem.W.kitOne K (.ref c_Ratio) (.type "int") = some false)
    (kO_Ratio_bool : PySem.W.kitOne K (.ref c_Ratio) (.type "bool") = some false)
    (kO_Ratio_str : PySem.W.kitOne K (.ref c_Ratio) (.type "str") = some false)
    (kO_Ratio_tuple : PySem.W.kitOne K (.ref c_Ratio) (.type "tuple") = some false)
    (kB_Ratio_NoneType : PySem.W.kitOne K (.type "NoneType") (.ref c_Ratio) = some false)
    (kB_Ratio_bool : PySem.W.kitOne K (.type "bool") (.ref c_Ratio) = some false)
    (kB_Ratio_int : PySem.W.kitOne K (.type "int") (.ref c_Ratio) = some false)
    (kB_Ratio_str : PySem.W.kitOne K (.type "str") (.ref c_Ratio) = some false)
    (kB_Ratio_tuple : PySem.W.kitOne K (.type "tuple") (.ref c_Ratio) = some false)
    (kB_Ratio_list : PySem.W.kitOne K (.type "list") (.ref c_Ratio) = some false)
    (kB_Ratio_dict : PySem.W.kitOne K (.type "dict") (.ref c_Ratio) = some false)
    (nT_Ratio_NoneType : PySem.W.notFirst K c_Ratio (.type "NoneType") = true)
    (nT_Ratio_bool : PySem.W.notFirst K c_Ratio (.type "bool") = true)
    (nT_Ratio_int : PySem.W.notFirst K c_Ratio (.type "int") = true)
    (nT_Ratio_str : PySem.W.notFirst K c_Ratio (.type "str") = true)
    (nT_Ratio_tuple : PySem.W.notFirst K c_Ratio (.type "tuple") = true)
    (nT_Ratio_list : PySem.W.notFirst K c_Ratio (.type "list") = true)
    (nT_Ratio_dict : PySem.W.notFirst K c_Ratio (.type "dict") = true)
    (ne_Ratio : PySem.W.findIn K (.ref c_Ratio) "__ne__" = some (some (.builtin "object.__ne__")))
    (nf_Ratio_Ratio : PySem.W.notFirst K c_Ratio (.ref c_Ratio) = true)
    (sf : PySem.W.selfFirst K c_Ratio = true)
    (ic : PySem.W.subIn K (.type "int") (.ref c_Ratio) = some false)
    (ci : PySem.W.subIn K (.ref c_Ratio) (.type "int") = some false)
    (opA : ∃ fo ro, PySem.W.findIn K (.type "int") (PySem.dunder Operator.Add.info.2) = some fo ∧ PySem.W.findIn K (.type "int") (dunderR Operator.Add.info.2) = some ro ∧ ((fo.isSome && !isSeqSlot fo) || (ro.isSome && !isSeqSlot ro)) = true)
    (opS : ∃ fo ro, PySem.W.findIn K (.type "int") (PySem.dunder Operator.Sub.info.2) = some fo ∧ PySem.W.findIn K (.type "int") (dunderR Operator.Sub.info.2) = some ro ∧ ((fo.isSome && !isSeqSlot fo) || (ro.isSome && !isSeqSlot ro)) = true)
    (opM : ∃ fo ro, PySem.W.findIn K (.type "int") (PySem.dunder Operator.Mult.info.2) = some fo ∧ PySem.W.findIn K (.type "int") (dunderR Operator.Mult.info.2) = some ro ∧ ((fo.isSome && !isSeqSlot fo) || (ro.isSome && !isSeqSlot ro)) = true)
    (g_LONGEST : ∃ t, mg "LONGEST" = some (.int 4000 t))
    : ∃ fd : FuncData, (∀ (s : Shared) (v : Value), BindsTo s fd ⟨[v], []⟩ [("_law_script", v)]) ∧ ∀ base : Heap, K.In base → base.Ns mainGlobals mg → (∀ p ∈ ([(cc_law_right, cp_law_right)] : List (Addr × Addr)), LamX.TabB base mg p.1 p.2) → FnG l.prog w K mg base 11 fa fd ["_law_script"] (@spLaw ⟨[(cp_law_right, (("_law_right.<locals>." : Str) ++ "<lambda>"))]⟩ K) := by
  have e := hfa.symm.trans g_law
  cases e
  have cl_Ratio := ins_Ratio.cl
  have F_law_bag := EX.fun_ofD FD_law_bag
  have b_law_bag := F_law_bag.binds (ps := ["_law_script", "_law_k"]) fun _ _ _ _ _ _ us hl => match us, hl with | [_, _], _ => rfl
  have F_law_draw := EX.fun_ofD FD_law_draw
  have b_law_draw := F_law_draw.binds (ps := ["_law_bag_here", "_law_wide"]) fun _ _ _ _ _ _ us hl => match us, hl with | [_, _], _ => rfl
  have F_law_one := EX.fun_ofD FD_law_one
  have b_law_one := F_law_one.binds (ps := ["_law_bag_here", "_law_some"]) fun _ _ _ _ _ _ us hl => match us, hl with | [_, _], _ => rfl
  have F_law_low := EX.fun_ofD FD_law_low
  have b_law_low := F_law_low.binds (ps := ["_law_upper", "_law_lower"]) fun _ _ _ _ _ _ us hl => match us, hl with | [_, _], _ => rfl
  have F_Ratio_str := EX.fun_ofD FD_Ratio_str
  have b_Ratio_str := F_Ratio_str.binds (ps := ["self"]) fun _ _ _ _ _ _ us hl => match us, hl with | [_], _ => rfl
  have F_law_written := EX.fun_ofD FD_law_written
  have b_law_written := F_law_written.binds (ps := ["_law_pair"]) fun _ _ _ _ _ _ us hl => match us, hl with | [_], _ => rfl
  have F_is_integer := EX.fun_ofD FD_is_integer
  have b_is_integer := F_is_integer.binds (ps := ["value"]) fun _ _ _ _ _ _ us hl => match us, hl with | [_], _ => rfl
  have F_shared_factor := EX.fun_ofD FD_shared_factor
  have b_shared_factor := F_shared_factor.binds (ps := ["one", "two"]) fun _ _ _ _ _ _ us hl => match us, hl with | [_, _], _ => rfl
  have F_Ratio_init := FD_Ratio_init
  have F_is_fraction := EX.fun_ofD FD_is_fraction
  have b_is_fraction := F_is_fraction.binds (ps := ["value"]) fun _ _ _ _ _ _ us hl => match us, hl with | [_], _ => rfl
  have F_as_ratio := EX.fun_ofD FD_as_ratio
  have b_as_ratio := F_as_ratio.binds (ps := ["value"]) fun _ _ _ _ _ _ us hl => match us, hl with | [_], _ => rfl
  have F_Ratio_eq := EX.fun_ofD FD_Ratio_eq
  have b_Ratio_eq := F_Ratio_eq.binds (ps := ["self", "other"]) fun _ _ _ _ _ _ us hl => match us, hl with | [_, _], _ => rfl
  have F_are_figures := EX.fun_ofD FD_are_figures
  have b_are_figures := F_are_figures.binds (ps := ["text"]) fun _ _ _ _ _ _ us hl => match us, hl with | [_], _ => rfl
  have F_ratio_in := EX.fun_ofD FD_ratio_in
  have b_ratio_in := F_ratio_in.binds (ps := ["text"]) fun _ _ _ _ _ _ us hl => match us, hl with | [_], _ => rfl
  have F_Ratio_read := EX.fun_ofD FD_Ratio_read
  have b_Ratio_read := F_Ratio_read.binds (ps := ["text"]) fun _ _ _ _ _ _ us hl => match us, hl with | [_], _ => rfl
  have F_law_sort := EX.fun_ofD FD_law_sort
  have b_law_sort := F_law_sort.binds (ps := ["_law_e"]) fun _ _ _ _ _ _ us hl => match us, hl with | [_], _ => rfl
  have F_law_answer := EX.fun_ofD FD_law_answer
  have b_law_answer := F_law_answer.binds (ps := ["_law_act"]) fun _ _ _ _ _ _ us hl => match us, hl with | [_], _ => rfl
  have F_law_read := EX.fun_ofD FD_law_read
  have b_law_read := F_law_read.binds (ps := ["_law_line"]) fun _ _ _ _ _ _ us hl => match us, hl with | [_], _ => rfl
  have F_law_right := EX.fun_ofD FD_law_right
  have b_law_right := F_law_right.binds (ps := ["_law_bag_here"]) fun _ _ _ _ _ _ us hl => match us, hl with | [_], _ => rfl
  have F_law := EX.fun_ofD FD_law
  have bL := FunD.bindsA (ps := ["_law_script"]) FD_law fun _ _ _ _ _ _ us hl => match us, hl with | [_], _ => rfl
  refine ⟨fd_law, fun s v => bL s [v] rfl, fun base _ _ tbs => ?_⟩
  letI TLi : TabL := ⟨[(cp_law_right, (("_law_right.<locals>." : Str) ++ "<lambda>"))]⟩
  have Tcn : ∀ c, Kc.has (⟨K, l.prog, w, clF c_Ratio 0 0 0 0 0 0, hasF true false false false false false false, EXX.xa K⟩ : Kc) c = true → mg (clsName c) = some (.ref (Kc.cl (⟨K, l.prog, w, clF c_Ratio 0 0 0 0 0 0, hasF true false false false false false false, EXX.xa K⟩ : Kc) c)) := fun c h => by
    rcases c with _ | _ | _ | _ | _ | _ | _ | c
    · exact gc_Ratio
    · exact absurd (show false = true from h) Bool.false_ne_true
    · exact absurd (show false = true from h) Bool.false_ne_true
    · exact absurd (show false = true from h) Bool.false_ne_true
    · exact absurd (show false = true from h) Bool.false_ne_true
    · exact absurd (show false = true from h) Bool.false_ne_true
    · exact absurd (show false = true from h) Bool.false_ne_true
    · exact absurd (show false = true from h) Bool.false_ne_true
  have Tins : ∀ c, Kc.has (⟨K, l.prog, w, clF c_Ratio 0 0 0 0 0 0, hasF true false false false false false false, EXX.xa K⟩ : Kc) c = true → InsF K (Kc.cl (⟨K, l.prog, w, clF c_Ratio 0 0 0 0 0 0, hasF true false false false false false false, EXX.xa K⟩ : Kc) c) := fun c h => by
    rcases c with _ | _ | _ | _ | _ | _ | _ | c
    · exact ins_Ratio
    · exact absurd (show false = true from h) Bool.false_ne_true
    · exact absurd (show false = true from h) Bool.false_ne_true
    · exact absurd (show false = true from h) Bool.false_ne_true
    · exact absurd (show false = true from h) Bool.false_ne_true
    · exact absurd (show false = true from h) Bool.false_ne_true
    · exact absurd (show false = true from h) Bool.false_ne_true
    · exact absurd (show false = true from h) Bool.false_ne_true
  have Tna : ∀ c, Kc.has (⟨K, l.prog, w, clF c_Ratio 0 0 0 0 0 0, hasF true false false false false false false, EXX.xa K⟩ : Kc) c = true → ∀ f ∈ clsFields c, NoAttr K (Kc.cl (⟨K, l.prog, w, clF c_Ratio 0 0 0 0 0 0, hasF true false false false false false false, EXX.xa K⟩ : Kc) c) f := fun c h => by
    rcases c with _ | _ | _ | _ | _ | _ | _ | c
    · exact fun t ht => by
        simp only [clsFields, List.mem_cons, List.not_mem_nil, or_false] at ht
        rcases ht with rfl | rfl
        · exact n_Ratio_top
        · exact n_Ratio_bottom
    · exact absurd (show false = true from h) Bool.false_ne_true
    · exact absurd (show false = true from h) Bool.false_ne_true
    · exact absurd (show false = true from h) Bool.false_ne_true
    · exact absurd (show false = true from h) Bool.false_ne_true
    · exact absurd (show false = true from h) Bool.false_ne_true
    · exact absurd (show false = true from h) Bool.false_ne_true
    · exact absurd (show false = true from h) Bool.false_ne_true
  have TkO : ∀ c, Kc.has (⟨K, l.prog, w, clF c_Ratio 0 0 0 0 0 0, hasF true false false false false false false, EXX.xa K⟩ : Kc) c = true → ∀ T ∈ isiNames, PySem.W.kitOne K (.ref (Kc.cl (⟨K, l.prog, w, clF c_Ratio 0 0 0 0 0 0, hasF true false false false false false false, EXX.xa K⟩ : Kc) c)) (.type T) = some false := fun c h => by
    rcases c with _ | _ | _ | _ | _ | _ | _ | c
    · exact fun t ht => by
        simp only [isiNames, List.mem_cons, List.not_mem_nil, or_false] at ht
        rcases ht with rfl | rfl | rfl | rfl
        · exact kO_Ratio_int
        · exact kO_Ratio_bool
        · exact kO_Ratio_str
        · exact kO_Ratio_tuple
    · exact absurd (show false = true from h) Bool.false_ne_true
    · exact absurd (show false = true from h) Bool.false_ne_true
    · exact absurd (show false = true from h) Bool.false_ne_true
    · exact absurd (show false = true from h) Bool.false_ne_true
    · exact absurd (show false = true from h) Bool.false_ne_true
    · exact absurd (show false = true from h) Bool.false_ne_true
    · exact absurd (show false = true from h) Bool.false_ne_true
  have TkB : ∀ c, Kc.has (⟨K, l.prog, w, clF c_Ratio 0 0 0 0 0 0, hasF true false false false false false false, EXX.xa K⟩ : Kc) c = true → ∀ T ∈ tyNames, PySem.W.kitOne K (.type T) (.ref (Kc.cl (⟨K, l.prog, w, clF c_Ratio 0 0 0 0 0 0, hasF true false false false false false false, EXX.xa K⟩ : Kc) c)) = some false := fun c h => by
    rcases c with _ | _ | _ | _ | _ | _ | _ | c
    · exact fun t ht => by
        simp only [tyNames, List.mem_cons, List.not_mem_nil, or_false] at ht
        rcases ht with rfl | rfl | rfl | rfl | rfl | rfl | rfl
        · exact kB_Ratio_NoneType
        · exact kB_Ratio_bool
        · exact kB_Ratio_int
        · exact kB_Ratio_str
        · exact kB_Ratio_tuple
        · exact kB_Ratio_list
        · exact kB_Ratio_dict
    · exact absurd (show false = true from h) Bool.false_ne_true
    · exact absurd (show false = true from h) Bool.false_ne_true
    · exact absurd (show false = true from h) Bool.false_ne_true
    · exact absurd (show false = true from h) Bool.false_ne_true
    · exact absurd (show false = true from h) Bool.false_ne_true
    · exact absurd (show false = true from h) Bool.false_ne_true
    · exact absurd (show false = true from h) Bool.false_ne_true
  have TnT : ∀ c, Kc.has (⟨K, l.prog, w, clF c_Ratio 0 0 0 0 0 0, hasF true false false false false false false, EXX.xa K⟩ : Kc) c = true → ∀ T ∈ tyNames, PySem.W.notFirst K (Kc.cl (⟨K, l.prog, w, clF c_Ratio 0 0 0 0 0 0, hasF true false false false false false false, EXX.xa K⟩ : Kc) c) (.type T) = true := fun c h => by
    rcases c with _ | _ | _ | _ | _ | _ | _ | c
    · exact fun t ht => by
        simp only [tyNames, List.mem_cons, List.not_mem_nil, or_false] at ht
        rcases ht with rfl | rfl | rfl | rfl | rfl | rfl | rfl
        · exact nT_Ratio_NoneType
        · exact nT_Ratio_bool
        · exact nT_Ratio_int
        · exact nT_Ratio_str
        · exact nT_Ratio_tuple
        · exact nT_Ratio_list
        · exact nT_Ratio_dict
    · exact absurd (show false = true from h) Bool.false_ne_true
    · exact absurd (show false = true from h) Bool.false_ne_true
    · exact absurd (show false = true from h) Bool.false_ne_true
    · exact absurd (show false = true from h) Bool.false_ne_true
    · exact absurd (show false = true from h) Bool.false_ne_true
    · exact absurd (show false = true from h) Bool.false_ne_true
    · exact absurd (show false = true from h) Bool.false_ne_true
  have Tne : ∀ c, Kc.has (⟨K, l.prog, w, clF c_Ratio 0 0 0 0 0 0, hasF true false false false false false false, EXX.xa K⟩ : Kc) c = true → PySem.W.findIn K (.ref (Kc.cl (⟨K, l.prog, w, clF c_Ratio 0 0 0 0 0 0, hasF true false false false false false false, EXX.xa K⟩ : Kc) c)) "__ne__" = some (some (.builtin "object.__ne__")) := fun c h => by
    rcases c with _ | _ | _ | _ | _ | _ | _ | c
    · exact ne_Ratio
    · exact absurd (show false = true from h) Bool.false_ne_true
    · exact absurd (show false = true from h) Bool.false_ne_true
    · exact absurd (show false = true from h) Bool.false_ne_true
    · exact absurd (show false = true from h) Bool.false_ne_true
    · exact absurd (show false = true from h) Bool.false_ne_true
    · exact absurd (show false = true from h) Bool.false_ne_true
    · exact absurd (show false = true from h) Bool.false_ne_true
  have TkC : ∀ c, Kc.has (⟨K, l.prog, w, clF c_Ratio 0 0 0 0 0 0, hasF true false false false false false false, EXX.xa K⟩ : Kc) c = true → ∀ c', Kc.has (⟨K, l.prog, w, clF c_Ratio 0 0 0 0 0 0, hasF true false false false false false false, EXX.xa K⟩ : Kc) c' = true → c ≠ c' → PySem.W.kitOne K (.ref (Kc.cl (⟨K, l.prog, w, clF c_Ratio 0 0 0 0 0 0, hasF true false false false false false false, EXX.xa K⟩ : Kc) c)) (.ref (Kc.cl (⟨K, l.prog, w, clF c_Ratio 0 0 0 0 0 0, hasF true false false false false false false, EXX.xa K⟩ : Kc) c')) = some false := fun c h => by
    rcases c with _ | _ | _ | _ | _ | _ | _ | c
    · intro c' h' nn
      rcases c' with _ | _ | _ | _ | _ | _ | _ | c'
      · exact absurd rfl nn
      · exact absurd (show false = true from h') Bool.false_ne_true
      · exact absurd (show false = true from h') Bool.false_ne_true
      · exact absurd (show false = true from h') Bool.false_ne_true
      · exact absurd (show false = true from h') Bool.false_ne_true
      · exact absurd (show false = true from h') Bool.false_ne_true
      · exact absurd (show false = true from h') Bool.false_ne_true
      · exact absurd (show false = true from h') Bool.false_ne_true
    · exact absurd (show false = true from h) Bool.false_ne_true
    · exact absurd (show false = true from h) Bool.false_ne_true
    · exact absurd (show false = true from h) Bool.false_ne_true
    · exact absurd (show false = true from h) Bool.false_ne_true
    · exact absurd (show false = true from h) Bool.false_ne_true
    · exact absurd (show false = true from h) Bool.false_ne_true
    · exact absurd (show false = true from h) Bool.false_ne_true
  have Tnf : ∀ c, Kc.has (⟨K, l.prog, w, clF c_Ratio 0 0 0 0 0 0, hasF true false false false false false false, EXX.xa K⟩ : Kc) c = true → ∀ c', Kc.has (⟨K, l.prog, w, clF c_Ratio 0 0 0 0 0 0, hasF true false false false false false false, EXX.xa K⟩ : Kc) c' = true → True → PySem.W.notFirst K (Kc.cl (⟨K, l.prog, w, clF c_Ratio 0 0 0 0 0 0, hasF true false false false false false false, EXX.xa K⟩ : Kc) c) (.ref (Kc.cl (⟨K, l.prog, w, clF c_Ratio 0 0 0 0 0 0, hasF true false false false false false false, EXX.xa K⟩ : Kc) c')) = true := fun c h => by
    rcases c with _ | _ | _ | _ | _ | _ | _ | c
    · intro c' h' nn
      rcases c' with _ | _ | _ | _ | _ | _ | _ | c'
      · exact nf_Ratio_Ratio
      · exact absurd (show false = true from h') Bool.false_ne_true
      · exact absurd (show false = true from h') Bool.false_ne_true
      · exact absurd (show false = true from h') Bool.false_ne_true
      · exact absurd (show false = true from h') Bool.false_ne_true
      · exact absurd (show false = true from h') Bool.false_ne_true
      · exact absurd (show false = true from h') Bool.false_ne_true
      · exact absurd (show false = true from h') Bool.false_ne_true
    · exact absurd (show false = true from h) Bool.false_ne_true
    · exact absurd (show false = true from h) Bool.false_ne_true
    · exact absurd (show false = true from h) Bool.false_ne_true
    · exact absurd (show false = true from h) Bool.false_ne_true
    · exact absurd (show false = true from h) Bool.false_ne_true
    · exact absurd (show false = true from h) Bool.false_ne_true
    · exact absurd (show false = true from h) Bool.false_ne_true
  have Tnb : ∀ n ∈ bltNames, mg n = none := fun n hn => by
    simp only [bltNames, List.mem_cons, List.not_mem_nil, or_false] at hn
    rcases hn with rfl | rfl | rfl | rfl | rfl | rfl | rfl | rfl | rfl | rfl | rfl | rfl | rfl | rfl | rfl | rfl | rfl | rfl | rfl | rfl
    · exact zz_isinstance
    · exact zz_len
    · exact zz_int
    · exact zz_bool
    · exact zz_str
    · exact zz_tuple
    · exact zz_list
    · exact zz_range
    · exact zz_enumerate
    · exact zz_abs
    · exact zz_max
    · exact zz_min
    · exact zz_all
    · exact zz_any
    · exact zz_sum
    · exact zz_repr
    · exact zz_sorted
    · exact zz_set
    · exact zz_dict
    · exact zz_zip
  obtain ⟨foA, roA, fA, rA, sA⟩ := opA
  obtain ⟨foS, roS, fS, rS, sS⟩ := opS
  obtain ⟨foM, roM, fM, rM, sM⟩ := opM
  have T : Tx (⟨K, l.prog, w, clF c_Ratio 0 0 0 0 0 0, hasF true false false false false false false, EXX.xa K⟩ : Kc) mg := ⟨Tnb, Tcn, Tins, Tna, TkO, TkB, fun c c' h h' n => TkC c h c' h' n, fun c c' h h' => Tnf c h c' h' trivial, TnT, Tne, fun _ => ⟨sf, ic, ci⟩, fun _ => ⟨foA, roA, fA, rA, sA⟩, fun _ => ⟨foS, roS, fS, rS, sS⟩, fun _ => ⟨foM, roM, fM, rM, sM⟩⟩
  have h_Ratio : Kc.has (⟨K, l.prog, w, clF c_Ratio 0 0 0 0 0 0, hasF true false false false false false false, EXX.xa K⟩ : Kc) 0 = true := rfl
  have t_Fold_len : (⟨K, l.prog, w, clF c_Ratio 0 0 0 0 0 0, hasF true false false false false false false, EXX.xa K⟩ : Kc).has 1 = true → Met l.prog w (⟨K, l.prog, w, clF c_Ratio 0 0 0 0 0 0, hasF true false false false false false false, EXX.xa K⟩ : Kc) mg base 1 1 "__len__" (spF (⟨K, l.prog, w, clF c_Ratio 0 0 0 0 0 0, hasF true false false false false false false, EXX.xa K⟩ : Kc) (l1 Fold_len)) := fun h => absurd (show false = true from h) Bool.false_ne_true
  have t_Watch_len : (⟨K, l.prog, w, clF c_Ratio 0 0 0 0 0 0, hasF true false false false false false false, EXX.xa K⟩ : Kc).has 4 = true → Met l.prog w (⟨K, l.prog, w, clF c_Ratio 0 0 0 0 0 0, hasF true false false false false false false, EXX.xa K⟩ : Kc) mg base 1 4 "__len__" (spF (⟨K, l.prog, w, clF c_Ratio 0 0 0 0 0 0, hasF true false false false false false false, EXX.xa K⟩ : Kc) (l1 Watch_len)) := fun h => absurd (show false = true from h) Bool.false_ne_true
  have t_Fold_str : (⟨K, l.prog, w, clF c_Ratio 0 0 0 0 0 0, hasF true false false false false false false, EXX.xa K⟩ : Kc).has 1 = true → Met l.prog w (⟨K, l.prog, w, clF c_Ratio 0 0 0 0 0 0, hasF true false false false false false false, EXX.xa K⟩ : Kc) mg base 2 1 "__str__" (spF (⟨K, l.prog, w, clF c_Ratio 0 0 0 0 0 0, hasF true false false false false false false, EXX.xa K⟩ : Kc) (l1 Fold_str)) := fun h => absurd (show false = true from h) Bool.false_ne_true
  have t_Raisin_str : (⟨K, l.prog, w, clF c_Ratio 0 0 0 0 0 0, hasF true false false false false false false, EXX.xa K⟩ : Kc).has 2 = true → Met l.prog w (⟨K, l.prog, w, clF c_Ratio 0 0 0 0 0 0, hasF true false false false false false false, EXX.xa K⟩ : Kc) mg base 4 2 "__str__" (spF (⟨K, l.prog, w, clF c_Ratio 0 0 0 0 0 0, hasF true false false false false false false, EXX.xa K⟩ : Kc) (l1 Raisin_str)) := fun h => absurd (show false = true from h) Bool.false_ne_true
  have c_law_bag := cal_mk (C := (⟨K, l.prog, w, clF c_Ratio 0 0 0 0 0 0, hasF true false false false false false false, EXX.xa K⟩ : Kc)) (ok_f_law_bag (C := (⟨K, l.prog, w, clF c_Ratio 0 0 0 0 0 0, hasF true false false false false false false, EXX.xa K⟩ : Kc)) (mg := mg) (base := base) F_law_bag T t_Fold_len t_Watch_len) F_law_bag b_law_bag g_law_bag
  have c_law_draw := cal_mk (C := (⟨K, l.prog, w, clF c_Ratio 0 0 0 0 0 0, hasF true false false false false false false, EXX.xa K⟩ : Kc)) (ok_f_law_draw (C := (⟨K, l.prog, w, clF c_Ratio 0 0 0 0 0 0, hasF true false false false false false false, EXX.xa K⟩ : Kc)) (mg := mg) (base := base) F_law_draw T ) F_law_draw b_law_draw g_law_draw
  have c_law_one := cal_mk (C := (⟨K, l.prog, w, clF c_Ratio 0 0 0 0 0 0, hasF true false false false false false false, EXX.xa K⟩ : Kc)) (ok_f_law_one (C := (⟨K, l.prog, w, clF c_Ratio 0 0 0 0 0 0, hasF true false false false false false false, EXX.xa K⟩ : Kc)) (mg := mg) (base := base) F_law_one T t_Fold_len t_Watch_len c_law_draw) F_law_one b_law_one g_law_one
  have c_law_low := cal_mk (C := (⟨K, l.prog, w, clF c_Ratio 0 0 0 0 0 0, hasF true false false false false false false, EXX.xa K⟩ : Kc)) (ok_f_law_low (C := (⟨K, l.prog, w, clF c_Ratio 0 0 0 0 0 0, hasF true false false false false false false, EXX.xa K⟩ : Kc)) (mg := mg) (base := base) F_law_low T ) F_law_low b_law_low g_law_low
  have t_Ratio_str : (⟨K, l.prog, w, clF c_Ratio 0 0 0 0 0 0, hasF true false false false false false false, EXX.xa K⟩ : Kc).has 0 = true → Met l.prog w (⟨K, l.prog, w, clF c_Ratio 0 0 0 0 0 0, hasF true false false false false false false, EXX.xa K⟩ : Kc) mg base 1 0 "__str__" (spF (⟨K, l.prog, w, clF c_Ratio 0 0 0 0 0 0, hasF true false false false false false false, EXX.xa K⟩ : Kc) (l1 Ratio_str)) := fun _ => ⟨_, _, _, (ok_Ratio_str (C := (⟨K, l.prog, w, clF c_Ratio 0 0 0 0 0 0, hasF true false false false false false false, EXX.xa K⟩ : Kc)) (mg := mg) (base := base) F_Ratio_str T ), cl_Ratio, me_Ratio_str, b_Ratio_str⟩
  have c_law_written := cal_mk (C := (⟨K, l.prog, w, clF c_Ratio 0 0 0 0 0 0, hasF true false false false false false false, EXX.xa K⟩ : Kc)) (ok_f_law_written (C := (⟨K, l.prog, w, clF c_Ratio 0 0 0 0 0 0, hasF true false false false false false false, EXX.xa K⟩ : Kc)) (mg := mg) (base := base) F_law_written T t_Ratio_str t_Fold_str t_Raisin_str) F_law_written b_law_written g_law_written
  have c_is_integer := cal_mk (C := (⟨K, l.prog, w, clF c_Ratio 0 0 0 0 0 0, hasF true false false false false false false, EXX.xa K⟩ : Kc)) (ok_f_is_integer (C := (⟨K, l.prog, w, clF c_Ratio 0 0 0 0 0 0, hasF true false false false false false false, EXX.xa K⟩ : Kc)) (mg := mg) (base := base) F_is_integer T ) F_is_integer b_is_integer g_is_integer
  have c_shared_factor := cal_mk (C := (⟨K, l.prog, w, clF c_Ratio 0 0 0 0 0 0, hasF true false false false false false false, EXX.xa K⟩ : Kc)) (ok_f_shared_factor (C := (⟨K, l.prog, w, clF c_Ratio 0 0 0 0 0 0, hasF true false false false false false false, EXX.xa K⟩ : Kc)) (mg := mg) (base := base) F_shared_factor T ) F_shared_factor b_shared_factor g_shared_factor
  have oI_Ratio := (ok_Ratio_init (C := (⟨K, l.prog, w, clF c_Ratio 0 0 0 0 0 0, hasF true false false false false false false, EXX.xa K⟩ : Kc)) (mg := mg) (base := base) F_Ratio_init T c_is_integer c_shared_factor h_Ratio)
  have m_Ratio_1 : Mak l.prog w (⟨K, l.prog, w, clF c_Ratio 0 0 0 0 0 0, hasF true false false false false false false, EXX.xa K⟩ : Kc) mg base 2 "Ratio" 0 (fun ds fs => l2 Ratio_init ds = .ok fs) [.int 1] := by
    obtain ⟨ds, h1, h2⟩ := F_Ratio_init.binds1 (ps := ["self", "top", "bottom"]) 2 0 (by simp) rfl fun _ _ _ _ _ _ _ us its hl hi => match us, hl, its, hi with | [_, _], _, [_], _ => ⟨_, rfl, rfl⟩
    exact ⟨_, _, _, ds, [V.int 1], oI_Ratio, gc_Ratio, M_Ratio, h2, h1, fun _ => (.cons (.int _) .nil), rfl⟩
  have m_Ratio_2 : Mak l.prog w (⟨K, l.prog, w, clF c_Ratio 0 0 0 0 0 0, hasF true false false false false false false, EXX.xa K⟩ : Kc) mg base 2 "Ratio" 0 (fun ds fs => l2 Ratio_init ds = .ok fs) [] := by
    obtain ⟨ds, h1, h2⟩ := F_Ratio_init.binds1 (ps := ["self", "top", "bottom"]) 3 1 (by simp) rfl fun _ _ _ _ _ _ _ us its hl hi => match us, hl, its, hi with | [_, _, _], _, [_], _ => ⟨_, rfl, rfl⟩
    exact ⟨_, _, _, ds, [], oI_Ratio, gc_Ratio, M_Ratio, h2, h1, fun _ => .nil, rfl⟩
  have c_is_fraction := cal_mk (C := (⟨K, l.prog, w, clF c_Ratio 0 0 0 0 0 0, hasF true false false false false false false, EXX.xa K⟩ : Kc)) (ok_f_is_fraction (C := (⟨K, l.prog, w, clF c_Ratio 0 0 0 0 0 0, hasF true false false false false false false, EXX.xa K⟩ : Kc)) (mg := mg) (base := base) F_is_fraction T c_is_integer h_Ratio) F_is_fraction b_is_fraction g_is_fraction
  have c_as_ratio := cal_mk (C := (⟨K, l.prog, w, clF c_Ratio 0 0 0 0 0 0, hasF true false false false false false false, EXX.xa K⟩ : Kc)) (ok_f_as_ratio (C := (⟨K, l.prog, w, clF c_Ratio 0 0 0 0 0 0, hasF true false false false false false false, EXX.xa K⟩ : Kc)) (mg := mg) (base := base) F_as_ratio T h_Ratio m_Ratio_1) F_as_ratio b_as_ratio g_as_ratio
  have t_Ratio_eq : (⟨K, l.prog, w, clF c_Ratio 0 0 0 0 0 0, hasF true false false false false false false, EXX.xa K⟩ : Kc).has 0 = true → Met l.prog w (⟨K, l.prog, w, clF c_Ratio 0 0 0 0 0 0, hasF true false false false false false false, EXX.xa K⟩ : Kc) mg base 5 0 "__eq__" (spF (⟨K, l.prog, w, clF c_Ratio 0 0 0 0 0 0, hasF true false false false false false false, EXX.xa K⟩ : Kc) (l2 Ratio_eq)) := fun _ => ⟨_, _, _, (ok_Ratio_eq (C := (⟨K, l.prog, w, clF c_Ratio 0 0 0 0 0 0, hasF true false false false false false false, EXX.xa K⟩ : Kc)) (mg := mg) (base := base) F_Ratio_eq T c_is_fraction c_as_ratio), cl_Ratio, me_Ratio_eq, b_Ratio_eq⟩
  have c_are_figures := cal_mk (C := (⟨K, l.prog, w, clF c_Ratio 0 0 0 0 0 0, hasF true false false false false false false, EXX.xa K⟩ : Kc)) (ok_f_are_figures (C := (⟨K, l.prog, w, clF c_Ratio 0 0 0 0 0 0, hasF true false false false false false false, EXX.xa K⟩ : Kc)) (mg := mg) (base := base) F_are_figures T ) F_are_figures b_are_figures g_are_figures
  have c_ratio_in := cal_mk (C := (⟨K, l.prog, w, clF c_Ratio 0 0 0 0 0 0, hasF true false false false false false false, EXX.xa K⟩ : Kc)) (ok_f_ratio_in (C := (⟨K, l.prog, w, clF c_Ratio 0 0 0 0 0 0, hasF true false false false false false false, EXX.xa K⟩ : Kc)) (mg := mg) (base := base) F_ratio_in T g_LONGEST c_are_figures m_Ratio_2) F_ratio_in b_ratio_in g_ratio_in
  have st_Ratio_read : Sta l.prog w (⟨K, l.prog, w, clF c_Ratio 0 0 0 0 0 0, hasF true false false false false false false, EXX.xa K⟩ : Kc) mg base 7 0 "read" (spF (⟨K, l.prog, w, clF c_Ratio 0 0 0 0 0 0, hasF true false false false false false false, EXX.xa K⟩ : Kc) (l1 Ratio_read)) := ⟨_, _, _, (ok_Ratio_read (C := (⟨K, l.prog, w, clF c_Ratio 0 0 0 0 0 0, hasF true false false false false false false, EXX.xa K⟩ : Kc)) (mg := mg) (base := base) F_Ratio_read T c_ratio_in t_Ratio_str t_Fold_str t_Raisin_str), gc_Ratio, sm_Ratio_read, b_Ratio_read⟩
  have stK_Ratio_read_text : StaK l.prog w (⟨K, l.prog, w, clF c_Ratio 0 0 0 0 0 0, hasF true false false false false false false, EXX.xa K⟩ : Kc) mg base 7 0 "read" (spF (⟨K, l.prog, w, clF c_Ratio 0 0 0 0 0 0, hasF true false false false false false false, EXX.xa K⟩ : Kc) (l1 Ratio_read)) ["text"] [0] := ⟨_, _, _, (ok_Ratio_read (C := (⟨K, l.prog, w, clF c_Ratio 0 0 0 0 0 0, hasF true false false false false false false, EXX.xa K⟩ : Kc)) (mg := mg) (base := base) F_Ratio_read T c_ratio_in t_Ratio_str t_Fold_str t_Raisin_str), gc_Ratio, sm_Ratio_read, Fun.kbn (C := (⟨K, l.prog, w, clF c_Ratio 0 0 0 0 0 0, hasF true false false false false false false, EXX.xa K⟩ : Kc)) F_Ratio_read 0 ["text"] [0] fun _ _ _ _ _ _ us ws hl hw => match us, hl, ws, hw with | [], _, [_], _ => rfl⟩
  have sx_Ratio_read : StaX l.prog w (⟨K, l.prog, w, clF c_Ratio 0 0 0 0 0 0, hasF true false false false false false false, EXX.xa K⟩ : Kc) mg base 7 0 "read" (spFX (⟨K, l.prog, w, clF c_Ratio 0 0 0 0 0 0, hasF true false false false false false false, EXX.xa K⟩ : Kc) (l1 x_Ratio_read)) := ⟨_, _, _, (ok_x_Ratio_read (C := (⟨K, l.prog, w, clF c_Ratio 0 0 0 0 0 0, hasF true false false false false false false, EXX.xa K⟩ : Kc)) (mg := mg) (base := base) F_Ratio_read T c_ratio_in t_Ratio_str t_Fold_str t_Raisin_str xt_101), gc_Ratio, sm_Ratio_read, b_Ratio_read⟩
  have so_law_sort := ok_f_law_sort (C := (⟨K, l.prog, w, clF c_Ratio 0 0 0 0 0 0, hasF true false false false false false false, EXX.xa K⟩ : Kc)) (mg := mg) (base := base) (k := 7) F_law_sort T te  g_law_sort b_law_sort
  have an_law_answer : AnsOk l.prog w (⟨K, l.prog, w, clF c_Ratio 0 0 0 0 0 0, hasF true false false false false false false, EXX.xa K⟩ : Kc) mg base 7 "_law_answer" (sortO LX f_law_sort) := ans_ok F_law_answer g_law_answer b_law_answer sc_f_law_answer so_law_sort rfl (te.cn 124 (by decide)) (te.cn 125 (by decide)) (te.cn 126 (by decide)) rfl rfl rfl rfl rfl rfl rfl (by decide) (by decide) (by decide) (by decide) (by decide) (by decide) (by decide) (by decide) (by decide) (by decide) (fun c fs d h => te.tr c (sortO_eq h).1)
  have c_law_read := cal_mk (C := (⟨K, l.prog, w, clF c_Ratio 0 0 0 0 0 0, hasF true false false false false false false, EXX.xa K⟩ : Kc)) (ok_f_law_read (C := (⟨K, l.prog, w, clF c_Ratio 0 0 0 0 0 0, hasF true false false false false false false, EXX.xa K⟩ : Kc)) (mg := mg) (base := base) F_law_read T t_Fold_len t_Watch_len c_law_low c_law_written) F_law_read b_law_read g_law_read
  have c_law_right := calG_mk (C := (⟨K, l.prog, w, clF c_Ratio 0 0 0 0 0 0, hasF true false false false false false false, EXX.xa K⟩ : Kc)) (ok_f_law_right (C := (⟨K, l.prog, w, clF c_Ratio 0 0 0 0 0 0, hasF true false false false false false false, EXX.xa K⟩ : Kc)) (mg := mg) (base := base) F_law_right T (tbs (cc_law_right, cp_law_right) (by simp)) co_law_right (show (cp_law_right, (("_law_right.<locals>." : Str) ++ "<lambda>")) ∈ ([(cp_law_right, (("_law_right.<locals>." : Str) ++ "<lambda>"))] : List (Addr × Str)) from by simp) (show ∀ p ∈ ([(cp_law_right, (("_law_right.<locals>." : Str) ++ "<lambda>"))] : List (Addr × Str)), p.1 = cp_law_right → p.2 = (("_law_right.<locals>." : Str) ++ "<lambda>") from by intro p hp _; rw [List.mem_singleton.mp hp]) c_law_draw c_law_one c_law_low c_law_written m_Ratio_2 t_Ratio_eq t_Ratio_str t_Fold_str t_Raisin_str st_Ratio_read stK_Ratio_read_text t_Fold_len t_Watch_len sx_Ratio_read an_law_answer c_law_read) F_law_right b_law_right g_law_right
  exact law_ofG (C := (⟨K, l.prog, w, clF c_Ratio 0 0 0 0 0 0, hasF true false false false false false false, EXX.xa K⟩ : Kc)) (ok_f_law (C := (⟨K, l.prog, w, clF c_Ratio 0 0 0 0 0 0, hasF true false false false false false false, EXX.xa K⟩ : Kc)) (mg := mg) (base := base) F_law T t_Fold_len t_Watch_len c_law_bag c_law_right) fun is h => SL.K02.main is h
def r_law_bag : EX.DR := ⟨fun K => (He.ga K "_law_bag"), "_law_bag", "_law_bag", defArgs s_f_law_bag, defBody s_f_law_bag, defScope s_f_law_bag, []⟩
def r_law_draw : EX.DR := ⟨fun K => (He.ga K "_law_draw"), "_law_draw", "_law_draw", defArgs s_f_law_draw, defBody s_f_law_draw, defScope s_f_law_draw, []⟩
def r_law_one : EX.DR := ⟨fun K => (He.ga K "_law_one"), "_law_one", "_law_one", defArgs s_f_law_one, defBody s_f_law_one, defScope s_f_law_one, []⟩
def r_law_low : EX.DR := ⟨fun K => (He.ga K "_law_low"), "_law_low", "_law_low", defArgs s_f_law_low, defBody s_f_law_low, defScope s_f_law_low, []⟩
def r_Ratio_str : EX.DR := ⟨fun K => (He.ma K (He.ga K "Ratio") "__str__"), "__str__", "Ratio.__str__", defArgs s_Ratio_str, defBody s_Ratio_str, defScope s_Ratio_str, []⟩
def r_law_written : EX.DR := ⟨fun K => (He.ga K "_law_written"), "_law_written", "_law_written", defArgs s_f_law_written, defBody s_f_law_written, defScope s_f_law_written, []⟩
def r_is_integer : EX.DR := ⟨fun K => (He.ga K "is_integer"), "is_integer", "is_integer", defArgs s_f_is_integer, defBody s_f_is_integer, defScope s_f_is_integer, []⟩
def r_shared_factor : EX.DR := ⟨fun K => (He.ga K "shared_factor"), "shared_factor", "shared_factor", defArgs s_f_shared_factor, defBody s_f_shared_factor, defScope s_f_shared_factor, []⟩
def r_Ratio_init : EX.DR := ⟨fun K => (He.ma K (He.ga K "Ratio") "__init__"), "__init__", "Ratio.__init__", defArgs s_Ratio_init, defBody s_Ratio_init, defScope s_Ratio_init, [V.int 1]⟩
def r_is_fraction : EX.DR := ⟨fun K => (He.ga K "is_fraction"), "is_fraction", "is_fraction", defArgs s_f_is_fraction, defBody s_f_is_fraction, defScope s_f_is_fraction, []⟩
def r_as_ratio : EX.DR := ⟨fun K => (He.ga K "as_ratio"), "as_ratio", "as_ratio", defArgs s_f_as_ratio, defBody s_f_as_ratio, defScope s_f_as_ratio, []⟩
def r_Ratio_eq : EX.DR := ⟨fun K => (He.ma K (He.ga K "Ratio") "__eq__"), "__eq__", "Ratio.__eq__", defArgs s_Ratio_eq, defBody s_Ratio_eq, defScope s_Ratio_eq, []⟩
def r_are_figures : EX.DR := ⟨fun K => (He.ga K "are_figures"), "are_figures", "are_figures", defArgs s_f_are_figures, defBody s_f_are_figures, defScope s_f_are_figures, []⟩
def r_ratio_in : EX.DR := ⟨fun K => (He.ga K "ratio_in"), "ratio_in", "ratio_in", defArgs s_f_ratio_in, defBody s_f_ratio_in, defScope s_f_ratio_in, []⟩
def r_Ratio_read : EX.DR := ⟨fun K => (EX.stA K "Ratio" "read"), "read", "Ratio.read", defArgs s_Ratio_read, defBody s_Ratio_read, defScope s_Ratio_read, []⟩
def r_law_sort : EX.DR := ⟨fun K => (He.ga K "_law_sort"), "_law_sort", "_law_sort", defArgs s_f_law_sort, defBody s_f_law_sort, defScope s_f_law_sort, []⟩
def r_law_answer : EX.DR := ⟨fun K => (He.ga K "_law_answer"), "_law_answer", "_law_answer", defArgs s_f_law_answer, defBody s_f_law_answer, defScope s_f_law_answer, []⟩
def r_law_read : EX.DR := ⟨fun K => (He.ga K "_law_read"), "_law_read", "_law_read", defArgs s_f_law_read, defBody s_f_law_read, defScope s_f_law_read, []⟩
def r_law_right : EX.DR := ⟨fun K => (He.ga K "_law_right"), "_law_right", "_law_right", defArgs s_f_law_right, defBody s_f_law_right, defScope s_f_law_right, []⟩
def r_law : EX.DR := ⟨fun K => (He.ga K "law"), "law", "law", defArgs s_f_law, defBody s_f_law, defScope s_f_law, []⟩
def r_xi101 : EX.DR := ⟨fun K => (He.ma K (He.ga K "InvalidText") "__init__"), "__init__", "InvalidText.__init__", defArgs s_xi_101, defBody s_xi_101, defScope s_xi_101, []⟩
def rs : List EX.DR := [r_law_bag, r_law_draw, r_law_one, r_law_low, r_Ratio_str, r_law_written, r_is_integer, r_shared_factor, r_Ratio_init, r_is_fraction, r_as_ratio, r_Ratio_eq, r_are_figures, r_ratio_in, r_Ratio_read, r_law_sort, r_law_answer, r_law_read, r_law_right, r_law, r_xi101]
def fns (K : PySem.W.Frag) : List Addr := [(He.ga K "_law_right")]
def exs (K : PySem.W.Frag) : List Bool := [EX.getB K,
  He.Fa.ok K (He.Fa.glo "Ratio"),
  He.Fa.ok K (He.Fa.cls "Ratio"),
  EX.insB K (He.ga K "Ratio"),
  He.Fa.ok K (He.Fa.glo "_law_bag"),
  He.Fa.ok K (He.Fa.glo "_law_draw"),
  He.Fa.ok K (He.Fa.glo "_law_one"),
  He.Fa.ok K (He.Fa.glo "_law_low"),
  He.Fa.ok K (He.Fa.meth "Ratio" "__str__"),
  He.Fa.ok K (He.Fa.glo "_law_written"),
  He.Fa.ok K (He.Fa.glo "is_integer"),
  He.Fa.ok K (He.Fa.glo "shared_factor"),
  He.Fa.ok K (He.Fa.meth "Ratio" "__init__"),
  He.Fa.ok K (He.Fa.mkr "Ratio"),
  He.Fa.ok K (He.Fa.glo "is_fraction"),
  He.Fa.ok K (He.Fa.glo "as_ratio"),
  He.Fa.ok K (He.Fa.meth "Ratio" "__eq__"),
  He.Fa.ok K (He.Fa.glo "are_figures"),
  He.Fa.ok K (He.Fa.glo "ratio_in"),
  EX.staB K "Ratio" "read",
  EX.readB K (He.ga K "Ratio"),
  He.Fa.ok K (He.Fa.glo "_law_sort"),
  He.Fa.ok K (He.Fa.glo "_law_answer"),
  He.Fa.ok K (He.Fa.glo "_law_read"),
  He.Fa.ok K (He.Fa.glo "_law_right"),
  He.Fa.ok K (He.Fa.glo "law"),
  EXX.txB K LX LN,
  He.Fa.ok K (He.Fa.glo "InvalidText"),
  EXX.xvB K (He.ga K "InvalidText") (He.ma K (He.ga K "InvalidText") "__init__") "value",
  He.Fa.ok K (He.Fa.free "isinstance"),
  He.Fa.ok K (He.Fa.free "len"),
  He.Fa.ok K (He.Fa.free "int"),
  He.Fa.ok K (He.Fa.free "bool"),
  He.Fa.ok K (He.Fa.free "str"),
  He.Fa.ok K (He.Fa.free "tuple"),
  He.Fa.ok K (He.Fa.free "list"),
  He.Fa.ok K (He.Fa.free "range"),
  He.Fa.ok K (He.Fa.free "enumerate"),
  He.Fa.ok K (He.Fa.free "abs"),
  He.Fa.ok K (He.Fa.free "max"),
  He.Fa.ok K (He.Fa.free "min"),
  He.Fa.ok K (He.Fa.free "all"),
  He.Fa.ok K (He.Fa.free "any"),
  He.Fa.ok K (He.Fa.free "sum"),
  He.Fa.ok K (He.Fa.free "repr"),
  He.Fa.ok K (He.Fa.free "sorted"),
  He.Fa.ok K (He.Fa.free "set"),
  He.Fa.ok K (He.Fa.free "dict"),
  He.Fa.ok K (He.Fa.free "zip"),
  He.Fa.ok K (He.Fa.noat "Ratio" "top"),
  He.Fa.ok K (He.Fa.noat "Ratio" "bottom"),
  EX.eqB (PySem.W.kitOne K (.ref (He.ga K "Ratio")) (.type "int")) false,
  EX.eqB (PySem.W.kitOne K (.ref (He.ga K "Ratio")) (.type "bool")) false,
  EX.eqB (PySem.W.kitOne K (.ref (He.ga K "Ratio")) (.type "str")) false,
  EX.eqB (PySem.W.kitOne K (.ref (He.ga K "Ratio")) (.type "tuple")) false,
  EX.eqB (PySem.W.kitOne K (.type "NoneType") (.ref (He.ga K "Ratio"))) false,
  EX.eqB (PySem.W.kitOne K (.type "bool") (.ref (He.ga K "Ratio"))) false,
  EX.eqB (PySem.W.kitOne K (.type "int") (.ref (He.ga K "Ratio"))) false,
  EX.eqB (PySem.W.kitOne K (.type "str") (.ref (He.ga K "Ratio"))) false,
  EX.eqB (PySem.W.kitOne K (.type "tuple") (.ref (He.ga K "Ratio"))) false,
  EX.eqB (PySem.W.kitOne K (.type "list") (.ref (He.ga K "Ratio"))) false,
  EX.eqB (PySem.W.kitOne K (.type "dict") (.ref (He.ga K "Ratio"))) false,
  PySem.W.notFirst K (He.ga K "Ratio") (.type "NoneType"),
  PySem.W.notFirst K (He.ga K "Ratio") (.type "bool"),
  PySem.W.notFirst K (He.ga K "Ratio") (.type "int"),
  PySem.W.notFirst K (He.ga K "Ratio") (.type "str"),
  PySem.W.notFirst K (He.ga K "Ratio") (.type "tuple"),
  PySem.W.notFirst K (He.ga K "Ratio") (.type "list"),
  PySem.W.notFirst K (He.ga K "Ratio") (.type "dict"),
  He.eqO (PySem.W.findIn K (.ref (He.ga K "Ratio")) "__ne__") (some (some (.builtin "object.__ne__"))),
  PySem.W.notFirst K (He.ga K "Ratio") (.ref (He.ga K "Ratio")),
  PySem.W.selfFirst K (He.ga K "Ratio"),
  EX.eqB (PySem.W.subIn K (.type "int") (.ref (He.ga K "Ratio"))) false,
  EX.eqB (PySem.W.subIn K (.ref (He.ga K "Ratio")) (.type "int")) false,
  EX.opB K .Add,
  EX.opB K .Sub,
  EX.opB K .Mult,
  He.Fa.ok K (He.Fa.int "LONGEST" 4000)]
theorem facts {l : PySem.W.OpenLaw} {w : World} {K : PySem.W.Frag} {hp : Heap} {mg : Str → Option Value} {fa : Addr} (X : K.In hp) (G : hp.Ns mainGlobals mg) (hfa : mg "law" = some (.ref fa)) (cz : EXX.SaysZ rs exs fns hp K)
    : ∃ fd : FuncData, (∀ (s : Shared) (v : Value), BindsTo s fd ⟨[v], []⟩ [("_law_script", v)]) ∧ ∀ base : Heap, K.In base → base.Ns mainGlobals mg → (∀ p ∈ ([(((EXX.cTa K (He.ga K "_law_right")).1), ((EXX.cTa K (He.ga K "_law_right")).2))] : List (Addr × Addr)), LamX.TabB base mg p.1 p.2) → FnG l.prog w K mg base 11 fa fd ["_law_script"] (@spLaw ⟨[(((EXX.cTa K (He.ga K "_law_right")).2), (("_law_right.<locals>." : Str) ++ "<lambda>"))]⟩ K) := by
  have c := cz.y
  obtain ⟨fd_law_bag, FD_law_bag⟩ : ∃ fd, FunD K "_law_bag" "_law_bag" (defArgs s_f_law_bag) (defBody s_f_law_bag) (defScope s_f_law_bag) [] [] (He.ga K "_law_bag") fd := EX.defAt c 0 (d := r_law_bag) rfl
  obtain ⟨fd_law_draw, FD_law_draw⟩ : ∃ fd, FunD K "_law_draw" "_law_draw" (defArgs s_f_law_draw) (defBody s_f_law_draw) (defScope s_f_law_draw) [] [] (He.ga K "_law_draw") fd := EX.defAt c 1 (d := r_law_draw) rfl
  obtain ⟨fd_law_one, FD_law_one⟩ : ∃ fd, FunD K "_law_one" "_law_one" (defArgs s_f_law_one) (defBody s_f_law_one) (defScope s_f_law_one) [] [] (He.ga K "_law_one") fd := EX.defAt c 2 (d := r_law_one) rfl
  obtain ⟨fd_law_low, FD_law_low⟩ : ∃ fd, FunD K "_law_low" "_law_low" (defArgs s_f_law_low) (defBody s_f_law_low) (defScope s_f_law_low) [] [] (He.ga K "_law_low") fd := EX.defAt c 3 (d := r_law_low) rfl
  obtain ⟨fd_Ratio_str, FD_Ratio_str⟩ : ∃ fd, FunD K "__str__" "Ratio.__str__" (defArgs s_Ratio_str) (defBody s_Ratio_str) (defScope s_Ratio_str) [] [] (He.ma K (He.ga K "Ratio") "__str__") fd := EX.defAt c 4 (d := r_Ratio_str) rfl
  obtain ⟨fd_law_written, FD_law_written⟩ : ∃ fd, FunD K "_law_written" "_law_written" (defArgs s_f_law_written) (defBody s_f_law_written) (defScope s_f_law_written) [] [] (He.ga K "_law_written") fd := EX.defAt c 5 (d := r_law_written) rfl
  obtain ⟨fd_is_integer, FD_is_integer⟩ : ∃ fd, FunD K "is_integer" "is_integer" (defArgs s_f_is_integer) (defBody s_f_is_integer) (defScope s_f_is_integer) [] [] (He.ga K "is_integer") fd := EX.defAt c 6 (d := r_is_integer) rfl
  obtain ⟨fd_shared_factor, FD_shared_factor⟩ : ∃ fd, FunD K "shared_factor" "shared_factor" (defArgs s_f_shared_factor) (defBody s_f_shared_factor) (defScope s_f_shared_factor) [] [] (He.ga K "shared_factor") fd := EX.defAt c 7 (d := r_shared_factor) rfl
  obtain ⟨fd_Ratio_init, FD_Ratio_init⟩ : ∃ fd, FunD K "__init__" "Ratio.__init__" (defArgs s_Ratio_init) (defBody s_Ratio_init) (defScope s_Ratio_init) [V.int 1] [] (He.ma K (He.ga K "Ratio") "__init__") fd := EX.defAt c 8 (d := r_Ratio_init) rfl
  obtain ⟨fd_is_fraction, FD_is_fraction⟩ : ∃ fd, FunD K "is_fraction" "is_fraction" (defArgs s_f_is_fraction) (defBody s_f_is_fraction) (defScope s_f_is_fraction) [] [] (He.ga K "is_fraction") fd := EX.defAt c 9 (d := r_is_fraction) rfl
  obtain ⟨fd_as_ratio, FD_as_ratio⟩ : ∃ fd, FunD K "as_ratio" "as_ratio" (defArgs s_f_as_ratio) (defBody s_f_as_ratio) (defScope s_f_as_ratio) [] [] (He.ga K "as_ratio") fd := EX.defAt c 10 (d := r_as_ratio) rfl
  obtain ⟨fd_Ratio_eq, FD_Ratio_eq⟩ : ∃ fd, FunD K "__eq__" "Ratio.__eq__" (defArgs s_Ratio_eq) (defBody s_Ratio_eq) (defScope s_Ratio_eq) [] [] (He.ma K (He.ga K "Ratio") "__eq__") fd := EX.defAt c 11 (d := r_Ratio_eq) rfl
  obtain ⟨fd_are_figures, FD_are_figures⟩ : ∃ fd, FunD K "are_figures" "are_figures" (defArgs s_f_are_figures) (defBody s_f_are_figures) (defScope s_f_are_figures) [] [] (He.ga K "are_figures") fd := EX.defAt c 12 (d := r_are_figures) rfl
  obtain ⟨fd_ratio_in, FD_ratio_in⟩ : ∃ fd, FunD K "ratio_in" "ratio_in" (defArgs s_f_ratio_in) (defBody s_f_ratio_in) (defScope s_f_ratio_in) [] [] (He.ga K "ratio_in") fd := EX.defAt c 13 (d := r_ratio_in) rfl
  obtain ⟨fd_Ratio_read, FD_Ratio_read⟩ : ∃ fd, FunD K "read" "Ratio.read" (defArgs s_Ratio_read) (defBody s_Ratio_read) (defScope s_Ratio_read) [] [] (EX.stA K "Ratio" "read") fd := EX.defAt c 14 (d := r_Ratio_read) rfl
  obtain ⟨fd_law_sort, FD_law_sort⟩ : ∃ fd, FunD K "_law_sort" "_law_sort" (defArgs s_f_law_sort) (defBody s_f_law_sort) (defScope s_f_law_sort) [] [] (He.ga K "_law_sort") fd := EX.defAt c 15 (d := r_law_sort) rfl
  obtain ⟨fd_law_answer, FD_law_answer⟩ : ∃ fd, FunD K "_law_answer" "_law_answer" (defArgs s_f_law_answer) (defBody s_f_law_answer) (defScope s_f_law_answer) [] [] (He.ga K "_law_answer") fd := EX.defAt c 16 (d := r_law_answer) rfl
  obtain ⟨fd_law_read, FD_law_read⟩ : ∃ fd, FunD K "_law_read" "_law_read" (defArgs s_f_law_read) (defBody s_f_law_read) (defScope s_f_law_read) [] [] (He.ga K "_law_read") fd := EX.defAt c 17 (d := r_law_read) rfl
  obtain ⟨fd_law_right, FD_law_right⟩ : ∃ fd, FunD K "_law_right" "_law_right" (defArgs s_f_law_right) (defBody s_f_law_right) (defScope s_f_law_right) [] [] (He.ga K "_law_right") fd := EX.defAt c 18 (d := r_law_right) rfl
  obtain ⟨fd_law, FD_law⟩ : ∃ fd, FunD K "law" "law" (defArgs s_f_law) (defBody s_f_law) (defScope s_f_law) [] [] (He.ga K "law") fd := EX.defAt c 19 (d := r_law) rfl
  obtain ⟨fd_xi101, FD_xi101⟩ : ∃ fd, FunD K "__init__" "InvalidText.__init__" (defArgs s_xi_101) (defBody s_xi_101) (defScope s_xi_101) [] [] (He.ma K (He.ga K "InvalidText") "__init__") fd := EX.defAt c 20 (d := r_xi101) rfl
  exact all_mk (c_Ratio := (He.ga K "Ratio")) (fA_law_bag := (He.ga K "_law_bag")) (fA_law_draw := (He.ga K "_law_draw")) (fA_law_one := (He.ga K "_law_one")) (fA_law_low := (He.ga K "_law_low")) (fA_Ratio_str := (He.ma K (He.ga K "Ratio") "__str__")) (fA_law_written := (He.ga K "_law_written")) (fA_is_integer := (He.ga K "is_integer")) (fA_shared_factor := (He.ga K "shared_factor")) (fA_Ratio_init := (He.ma K (He.ga K "Ratio") "__init__")) (fA_is_fraction := (He.ga K "is_fraction")) (fA_as_ratio := (He.ga K "as_ratio")) (fA_Ratio_eq := (He.ma K (He.ga K "Ratio") "__eq__")) (fA_are_figures := (He.ga K "are_figures")) (fA_ratio_in := (He.ga K "ratio_in")) (fA_Ratio_read := (EX.stA K "Ratio" "read")) (fA_law_sort := (He.ga K "_law_sort")) (fA_law_answer := (He.ga K "_law_answer")) (fA_law_read := (He.ga K "_law_read")) (fA_law_right := (He.ga K "_law_right")) (fA_law := (He.ga K "law")) (cc_law_right := (EXX.cTa K (He.ga K "_law_right")).1) (cp_law_right := (EXX.cTa K (He.ga K "_law_right")).2) hfa
    (He.glo_ok X G (EX.fact c 1 rfl))
    (EX.ins_of (EX.fact c 2 rfl) (EX.fact c 3 rfl) (EX.fact c 0 rfl))
    FD_law_bag
    (He.glo_ok X G (EX.fact c 4 rfl))
    FD_law_draw
    (He.glo_ok X G (EX.fact c 5 rfl))
    FD_law_one
    (He.glo_ok X G (EX.fact c 6 rfl))
    FD_law_low
    (He.glo_ok X G (EX.fact c 7 rfl))
    FD_Ratio_str
    (EX.meth_of (EX.fact c 8 rfl))
    FD_law_written
    (He.glo_ok X G (EX.fact c 9 rfl))
    FD_is_integer
    (He.glo_ok X G (EX.fact c 10 rfl))
    FD_shared_factor
    (He.glo_ok X G (EX.fact c 11 rfl))
    FD_Ratio_init
    (EX.meth_of (EX.fact c 12 rfl))
    (EX.mk_of (EX.fact c 13 rfl))
    FD_is_fraction
    (He.glo_ok X G (EX.fact c 14 rfl))
    FD_as_ratio
    (He.glo_ok X G (EX.fact c 15 rfl))
    FD_Ratio_eq
    (EX.meth_of (EX.fact c 16 rfl))
    FD_are_figures
    (He.glo_ok X G (EX.fact c 17 rfl))
    FD_ratio_in
    (He.glo_ok X G (EX.fact c 18 rfl))
    FD_Ratio_read
    ⟨(EX.read_of (EX.fact c 20 rfl)), (EX.staB_ok (EX.fact c 19 rfl)), FD_Ratio_read.kp⟩
    FD_law_sort
    (He.glo_ok X G (EX.fact c 21 rfl))
    FD_law_answer
    (He.glo_ok X G (EX.fact c 22 rfl))
    FD_law_read
    (He.glo_ok X G (EX.fact c 23 rfl))
    FD_law_right
    (He.glo_ok X G (EX.fact c 24 rfl))
    FD_law
    (He.glo_ok X G (EX.fact c 25 rfl))
    (EXX.tx_of rfl X G (EX.fact c 26 rfl))
    (EXX.xv_at xs_101 (He.glo_ok X G (EX.fact c 27 rfl)) (EX.fact c 28 rfl) FD_xi101)
    ((EXX.codeB_ok (cz.cd _ (by simp [fns]))).1 FD_law_right)
    (He.free_ok X G (EX.fact c 29 rfl))
    (He.free_ok X G (EX.fact c 30 rfl))
    (He.free_ok X G (EX.fact c 31 rfl))
    (He.free_ok X G (EX.fact c 32 rfl))
    (He.free_ok X G (EX.fact c 33 rfl))
    (He.free_ok X G (EX.fact c 34 rfl))
    (He.free_ok X G (EX.fact c 35 rfl))
    (He.free_ok X G (EX.fact c 36 rfl))
    (He.free_ok X G (EX.fact c 37 rfl))
    (He.free_ok X G (EX.fact c 38 rfl))
    (He.free_ok X G (EX.fact c 39 rfl))
    (He.free_ok X G (EX.fact c 40 rfl))
    (He.free_ok X G (EX.fact c 41 rfl))
    (He.free_ok X G (EX.fact c 42 rfl))
    (He.free_ok X G (EX.fact c 43 rfl))
    (He.free_ok X G (EX.fact c 44 rfl))
    (He.free_ok X G (EX.fact c 45 rfl))
    (He.free_ok X G (EX.fact c 46 rfl))
    (He.free_ok X G (EX.fact c 47 rfl))
    (He.free_ok X G (EX.fact c 48 rfl))
    (EX.eqO_ok (EX.fact c 49 rfl))
    (EX.eqO_ok (EX.fact c 50 rfl))
    (EX.eqB_ok (EX.fact c 51 rfl))
    (EX.eqB_ok (EX.fact c 52 rfl))
    (EX.eqB_ok (EX.fact c 53 rfl))
    (EX.eqB_ok (EX.fact c 54 rfl))
    (EX.eqB_ok (EX.fact c 55 rfl))
    (EX.eqB_ok (EX.fact c 56 rfl))
    (EX.eqB_ok (EX.fact c 57 rfl))
    (EX.eqB_ok (EX.fact c 58 rfl))
    (EX.eqB_ok (EX.fact c 59 rfl))
    (EX.eqB_ok (EX.fact c 60 rfl))
    (EX.eqB_ok (EX.fact c 61 rfl))
    (EX.fact c 62 rfl)
    (EX.fact c 63 rfl)
    (EX.fact c 64 rfl)
    (EX.fact c 65 rfl)
    (EX.fact c 66 rfl)
    (EX.fact c 67 rfl)
    (EX.fact c 68 rfl)
    (EX.eqO_ok (EX.fact c 69 rfl))
    (EX.fact c 70 rfl)
    (EX.fact c 71 rfl)
    (EX.eqB_ok (EX.fact c 72 rfl))
    (EX.eqB_ok (EX.fact c 73 rfl))
    (EX.opB_ok (EX.fact c 74 rfl))
    (EX.opB_ok (EX.fact c 75 rfl))
    (EX.opB_ok (EX.fact c 76 rfl))
    (He.int_ok X G (EX.fact c 77 rfl))
def nm0 : List Str := ["_wall", "is_integer", "are_figures", "ShapeError", "InvalidNumber", "InvalidText", "QuestionError", "SizeError", "LONGEST", "shared_factor", "is_fraction", "as_ratio", "ratio_in", "Ratio", "_law_bag", "_law_draw", "_law_one", "_law_low", "_law_answer", "_law_sort", "_law_written", "_law_read", "_law_right"]
def nms : List Str := nm0
abbrev RR : PySem.W.OpenRow := PySem.W.OpenLaw.row PySem.Challenge.rw_doughfolds_k02_texts_of_ratios
theorem run (w : World) : HandSHeadRun.RunEq RR (PySem.W.view RR.prog [27]) (EXX.hookZ rs exs fns) (EXX.obZ rs exs fns) 60000 nms w := by
  intro os
  kernel_rfl
end SL.K02
open PySem PySem.W PySem.Calls PyProof.Rows in
set_option maxRecDepth 100000 in
set_option maxHeartbeats 0 in
theorem PySem.Challenge.cw_doughfolds_k02_texts_of_ratios_holds : PySem.Challenge.rw_doughfolds_k02_texts_of_ratios.Holds := by
  w_on; o_law
  refine HandSHeadRun.head_any (r := OpenLaw.row PySem.Challenge.rw_doughfolds_k02_texts_of_ratios) (q := view (OpenLaw.row PySem.Challenge.rw_doughfolds_k02_texts_of_ratios).prog [27]) (H := EXX.hookZ SL.K02.rs SL.K02.exs SL.K02.fns) (ob := EXX.obZ SL.K02.rs SL.K02.exs SL.K02.fns) (M := 60000) (loose := SL.K02.nms) (d := HandSHeadRun.topDef (OpenLaw.row PySem.Challenge.rw_doughfolds_k02_texts_of_ratios).prog 27) (kwd := []) (EXX.obZ_eq SL.K02.rs SL.K02.exs SL.K02.fns)
    (by kernel_rfl) (fun s => by kernel_rfl) SL.K02.run (by kernel_rfl) (by kernel_rfl) (by kernel_rfl) (by rfl) (by first | assumption | decide +kernel) (by decide +kernel) ⟨rfl, rfl, rfl, rfl, rfl, by decide +kernel⟩ ?hw ?hc
  case hw => w_witness2
  case hc =>
    refine EXX.walkZ (l := PySem.Challenge.rw_doughfolds_k02_texts_of_ratios) (k := 11) "_law_script" (by decide) (hn := rfl) (hdf := by kernel_rfl) (F := ?F)
    intro w mg fa hp Y G hmg0
    obtain ⟨K, KX, c⟩ := Y
    have hmg : mg ("law" : PySem.Str) = some (.ref fa) := by
      have e : (HandSHeadRun.topDef (OpenLaw.row PySem.Challenge.rw_doughfolds_k02_texts_of_ratios).prog 27).name = ("law" : PySem.Str) := by kernel_rfl
      rw [← e]
      exact hmg0
    obtain ⟨fd, hb, hF⟩ := SL.K02.facts (l := PySem.Challenge.rw_doughfolds_k02_texts_of_ratios) (w := w) KX G hmg c
    refine ⟨K, fd, _, _, KX, fun p hp => ?_, fun p hp => ?_, fun p hp => ?_, fun q hq => ?_, hb, hF⟩
    · simp only [List.mem_cons, List.not_mem_nil, or_false] at hp
      rcases hp with rfl
      · exact c.em _ (by simp [SL.K02.fns])
    · simp only [List.mem_cons, List.not_mem_nil, or_false] at hp
      rcases hp with rfl
      · exact (EXX.codeB_ok (c.cd _ (by simp [SL.K02.fns]))).2.2.1
    · simp only [List.mem_cons, List.not_mem_nil, or_false] at hp
      rcases hp with rfl
      · exact PySem.W.codeHd_of_K KX (EXX.codeB_ok (c.cd _ (by simp [SL.K02.fns]))).2.1
    · simp only [List.mem_cons, List.not_mem_nil, or_false] at hq
      rcases hq with rfl
      · exact ⟨_, by simp, rfl⟩
#print axioms PySem.Challenge.cw_doughfolds_k02_texts_of_ratios_holds
