import PyProof.Rows.All
import Wide.All
import OpenK.AllK
import Wide.FinOn
import HandS.ForMost
import HandS.Small
import HandS.TupLen
import KE.KDictKeyed
import KE.KeyNested
import HandS.Flow
import HandS.Conv
import HandS.IsInst
import HandS.OwnEq
import HandS.MakeKw
import HandS.Defaults
import HandS.Lambda
import HandS.HotCalls
import HandS.MakeKwOnly
import HandS.Style
import PyProof.ReprRoads
import KE.KOpsOwn
import OpenK.KOps
import HandS.TupAny
import HandS.TupMul
import HandS.Words
import HandS.FStr
import HandS.TryOnly
import HandS.List
import KE.KCallOwn
import HandS.Iter
import HandS.Text
import KE.GoesEnum
import HandS.DictTup
import HandS.DictComp
import HandS.ReCall
import KE.KDictCopyH
import KE.KDictWalk
import KE.KDictSum
import HandS.Wide
import PyProof.StrOps2
import HandS.SortInts
import HandS.Deep
import HandS.RaiseMore
import KE.KRevSl
import HandS.ClsMeth
import HandS.Replace
import HandS.SetFor
import HandS.Strs
import HandS.Zip
import KE.KEqNest
import HandS.WordsDict
import PyProof.Rows.IntBool
import PyProof.CallStr
import PyProof.AutoSeq1
import HandS.HeadEnd
import HandS.HeadHook1
import HandS.HeadHook2
import HandS.Head0
import HandS.Head1
import HandS.Head2
import PyProof.Rows.StrLawsPart
import PyProof.StrLawsIn
import PySem.Challenge.RW_doughfolds_k39_whole_staying_lengths_of
set_option Elab.async false
set_option linter.all false
set_option maxRecDepth 100000
set_option maxHeartbeats 4000000
namespace ND
open PySem PySem.Spec PyProof.Rows L2
abbrev NEnt := NestedKey × Addr × Value
def NDO (P : Program) (w : World) (a : Addr) (o : Obj) (xs : List NEnt) : HO := .ext fun h => xs.length ≤ 1000000 ∧ (a == sysModules) = false ∧ (xs.map (·.1)).Nodup ∧ ∃ es ep, h.get? a = some o ∧ o.ExactDict ∧ o.data = .dict es ep ∧ es.toList = xs.map (entryOfKey (nestedKind P w))
theorem ndo_mk {P : Program} {w : World} {H : Hp} {h : Heap} {a : Addr} {o : Obj} {xs : List NEnt} (hl : xs.length ≤ 1000000) (hm : (a == sysModules) = false) (hn : (xs.map (·.1)).Nodup) (hd : ∃ es ep, h.get? a = some o ∧ o.ExactDict ∧ o.data = .dict es ep ∧ es.toList = xs.map (entryOfKey (nestedKind P w))) : ObjOk P w H h a (NDO P w a o xs) := by
  obtain ⟨es, ep, h1, h2, h3, h4⟩ := hd
  exact ⟨⟨hl, hm, hn, es, ep, h1, h2, h3, h4⟩, ⟨o, h1⟩, fun g1 g2 ⟨k1, k2, k3, es', ep', k4, k5, k6, k7⟩ q => ⟨k1, k2, k3, es', ep', q _ k4, k5, k6, k7⟩⟩
inductive NkH (K : PySem.W.Frag) (H : Hp) : V → NestedKey → Prop where
  | non : NkH K H .non .none
  | bl (b : Bool) : NkH K H (.bl b) (.num (if b = true then 1 else 0))
  | int (i : Int) : NkH K H (.int i) (.num i)
  | str (x : Str) : NkH K H (.str x) (.text x)
  | nil {a : Addr} : SqT K H a [] → NkH K H (.ref a) (.tup [])
  | cons {a : Addr} {v : V} {vs : List V} {k : NestedKey} {ks : List NestedKey} : SqT K H a (v :: vs) → NkH K H v k → (∀ (i : Nat) v k, vs[i]? = some v → ks[i]? = some k → NkH K H v k) → vs.length = ks.length → NkH K H (.ref a) (.tup (k :: ks))
theorem nall_of {h : Heap} : ∀ {vs : List Value} {ks : List NestedKey}, vs.length = ks.length → (∀ (i : Nat) v k, vs[i]? = some v → ks[i]? = some k → NestedIs h k v) → NestedAll h ks vs
  | [], [], _, _ => .nil
  | [], _ :: _, h, _ => nomatch h
  | _ :: _, [], h, _ => nomatch h
  | v :: vs, k :: ks, hl, h => .cons (h 0 v k rfl rfl) (nall_of (Nat.succ.inj hl) fun i v k a b => h (i + 1) v k (by simpa using a) (by simpa using b))
section
variable {X : Cx} {pins : List (Addr × Obj)} {σ : L2.St} {H : Hp} {s : Shared}
theorem nk_is (I : Inv X pins σ H s) {v : V} {k : NestedKey} (h : NkH X.K H v k) : ∀ {u : Value}, RelV v u → NestedIs s.heap k u := by
  induction h with
  | non => intro u r; cases r; exact .none
  | bl b => intro u r; cases r; exact .bool rfl
  | int i => intro u r; obtain ⟨t, rfl⟩ := r; exact .int i t
  | str x => intro u r; obtain ⟨t, rfl⟩ := r; exact .text x t
  | nil h =>
    intro u r
    cases r
    obtain ⟨its, rv, ⟨o, e, c, n, d⟩, _⟩ := I.tuple h
    cases rv
    exact .tup e c d .nil
  | @cons a v vs k ks h h1 h2 hl ih1 ih2 =>
    intro u r
    cases r
    obtain ⟨its, rv, ⟨o, e, c, n, d⟩, _⟩ := I.tuple h
    cases rv with
    | @cons _ y _ ys r1 r2 =>
      refine .tup e c d ?_
      show NestedAll s.heap (k :: ks) (y :: ys)
      refine .cons (ih1 r1) (nall_of (by rw [← r2.length]; exact hl) fun i u' k' a b => ?_)
      have hi : i < vs.length := by rw [r2.length]; exact (List.getElem?_eq_some_iff.mp a).1
      obtain ⟨w', e1, e2⟩ := Vals.get (i := i) r2 (List.getElem?_eq_getElem hi)
      rw [a] at e1
      cases e1
      exact ih2 i _ _ (List.getElem?_eq_getElem hi) b e2
def KH (K : PySem.W.Frag) (H : Hp) (xs : List NEnt) : Prop := ∀ x ∈ xs, NkH K H (.ref x.2.1) x.1 ∧ x.1.depth ≤ 8
theorem ndo_at (I : Inv X pins σ H s) {a : Addr} {o : Obj} {xs : List NEnt} (h : H a = some (NDO X.prog X.w a o xs)) (hk : KH X.K H xs) : xs.length ≤ 1000000 ∧ (a == sysModules) = false ∧ s.heap.DictOfH (nestedKind X.prog X.w) a xs := by
  obtain ⟨⟨h1, h2, h3, es, ep, h4, h5, h6, h7⟩, _, _⟩ := I.hok a _ h
  exact ⟨h1, h2, o, es, ep, h4, h5, h6, h7, fun x hx => ⟨nk_is I (hk x hx).1 rfl, (hk x hx).2⟩, h3⟩
theorem room8 (hu : X.A.units + 64 < cLine) : (nestedKind X.prog X.w).room X.A.in1 := by
  show X.A.in1.units + 8 < cLine
  have : X.A.in1.units = X.A.units + 1 := rfl
  omega
def rNLen (K : PySem.W.Frag) (P : Program) (w : World) : List V → Hp → VK → Prop := fun vs H Q => ∃ (a : Addr) (o : Obj) (xs : List NEnt), vs = [.ref a] ∧ H a = some (NDO P w a o xs) ∧ KH K H xs ∧ Q (.int ((xs.length : Nat) : Int)) H
theorem cr_nlen : CallR X (.builtin "len") (rNLen X.K X.prog X.w) := by
  intro pins s σ H vs us Q I r h
  obtain ⟨a, o, xs, rfl, ha, hk, q⟩ := h
  obtain ⟨u, rfl, rx⟩ := vals1 r
  obtain rfl : u = .ref a := rx
  obtain ⟨h1, h2, h3⟩ := ndo_at I ha hk
  exact call_len_dictH h2 h3 (by omega) ⟨.int ((xs.length : Nat) : Int), H, I.tok _, ⟨_, rfl⟩, q⟩
def rNIn (K : PySem.W.Frag) (P : Program) (w : World) (neg : Bool) : R2 := fun x y H Q => ∃ (b a : Addr) (o : Obj) (xs : List NEnt) (k : NestedKey), x = .ref b ∧ y = .ref a ∧ H a = some (NDO P w a o xs) ∧ KH K H xs ∧ NkH K H (.ref b) k ∧ k.depth ≤ 8 ∧ Q (.bl (if neg then !(atKey xs k).isSome else (atKey xs k).isSome)) H
theorem or_nin (hu : X.A.units + 64 < cLine) : OpR X (compareOp .In) (rNIn X.K X.prog X.w false) := by
  intro pins s σ H x y v u Q I rx ry h
  obtain ⟨b, a, od, xs, k, rfl, rfl, ha, hk, hb, h8, q⟩ := h
  cases rx
  cases ry
  obtain ⟨_, h2, h3⟩ := ndo_at I ha hk
  exact wpAny_in_heap (room8 hu) ⟨nk_is I hb rfl, h8⟩ h2 h3 ⟨.bl (atKey xs k).isSome, H, I.tok _, rfl, q⟩
def rNIx (K : PySem.W.Frag) (P : Program) (w : World) : R2 := fun x y H Q => ∃ (b a : Addr) (o : Obj) (xs : List NEnt) (k : NestedKey) (p : Addr × Value) (v : V), x = .ref a ∧ y = .ref b ∧ H a = some (NDO P w a o xs) ∧ KH K H xs ∧ NkH K H (.ref b) k ∧ k.depth ≤ 8 ∧ atKey xs k = some p ∧ RelV v p.2 ∧ Q v H
theorem pe_nget {o i : Expr} {td ty : TE} {pos : Pos} (hu : X.A.units + 64 < cLine) (ho : PE X o td) (hi : PE X i ty) (hs : NoSl i) : PE X (.Subscript o i pos) (tOp (rNIx X.K X.prog X.w) td ty) := by
  refine ⟨fun pins s σ H Q I h => ?_⟩
  refine subD_of PySem.F.slot_dict_getitem.lookup hs (thn (ho.run pins s σ H _ I h) fun u s1 ⟨x, H1, I1, rx, q1⟩ => thn (hi.run pins s1 σ H1 _ I1 q1) fun iv s2 ⟨y, H2, I2, ry, z⟩ => ?_)
  obtain ⟨b, a, od, xs, k, p, v, rfl, rfl, ha, hk, hb, h8, hp, rv, q⟩ := z
  cases rx
  cases ry
  obtain ⟨_, h2, h3⟩ := ndo_at I2 ha hk
  exact ⟨h3.typeIs, wpAny_getItem_heap (room8 hu) ⟨nk_is I2 hb rfl, h8⟩ h3 hp ⟨v, H2, I2.tok _, rv, q⟩⟩
def rNSet (K : PySem.W.Frag) (P : Program) (w : World) : TSet := fun x y v H Q => ∃ (b a : Addr) (o : Obj) (xs : List NEnt) (k : NestedKey), x = .ref a ∧ y = .ref b ∧ H a = some (NDO P w a o xs) ∧ KH K H xs ∧ NkH K H (.ref b) k ∧ k.depth ≤ 8 ∧ xs.length < 1000000 ∧ ∀ u o', RelV v u → Q (upd H a (NDO P w a o' (storedH xs k b u)))
theorem len_stored {K : Type} [DecidableEq K] (xs : List (K × Addr × Value)) (k : K) (b : Addr) (u : Value) : (storedH xs k b u).length ≤ xs.length + 1 := by
  unfold storedH
  split
  · rw [List.length_map]; omega
  · rw [List.length_append]; exact Nat.le_refl _
theorem set_nd (hu : X.A.units + 64 < cLine) : PSet X (rNSet X.K X.prog X.w) := by
  intro pins s σ H o i v ov iv u Q I ro ri rv h
  obtain ⟨b, a, od, xs, k, rfl, rfl, ha, hk, hb, h8, hl, q⟩ := h
  cases ro
  cases ri
  obtain ⟨h1, h2, h3⟩ := ndo_at I ha hk
  refine wpAny_setItem_heap (hsz := by rw [sizeLine_eq]; omega) (room8 hu) ⟨nk_is I hb rfl, h8⟩ h3 fun h' hd hs => by
    obtain ⟨o, es, ep, k1, k2, k3, k4, _, k5⟩ := hd
    exact ⟨_, d_write I (by rw [ha]; exact True.intro) hs ⟨o, k1⟩ (ndo_mk (by have := len_stored xs k b u; omega) h2 k5 ⟨es, ep, k1, k2, k3, k4⟩), q u o rv⟩
def tNNew (P : Program) (w : World) : TE := fun _ H Q => ∀ p o, H p = none → Q (.ref p) (upd H p (NDO P w p o []))
theorem pe_nnew {pos : Pos} : PE X (.Dict [] [] pos) (tNNew X.prog X.w) := ⟨fun pins s σ H Q I h =>
  wpAny_Dict_empty ⟨.ref s.heap.objs.size, _, I.laid (a := s.heap.objs.size) (o := NDO X.prog X.w s.heap.objs.size { cls := .type "dict", data := .dict #[] } []) (t' := s.toks) (fun _ _ q => Heap.get?_push_of_some _ q) (Nat.le_refl _)
    (ndo_mk (Nat.zero_le _) (beq_eq_false_iff_ne.mpr (Ne.symm (Nat.ne_of_lt I.big))) List.nodup_nil ⟨#[], 0, Heap.get?_push_size _ rfl, ⟨rfl, rfl, rfl⟩, rfl, rfl⟩), rfl, h _ _ (I.hok.fresh (Nat.le_refl _))⟩⟩
end
end ND
namespace DL
open PySem L2
inductive D where
  | non | bl (b : Bool) | int (i : Int) | str (x : Str) | tup (xs : List D) | lst (xs : List D) | obj (c : Nat) (fs : List (Str × D)) | cst (v : V) | dic (kvs : List (D × D)) | dik (kvs : List (Key × D)) | dim (kvs : List (Key × D))
structure Kc where
  K : PySem.W.Frag
  P : Program
  w : World
  cl : Nat → Addr
  has : Nat → Bool
  xc : Nat → Addr := fun _ => 0
mutual
def nkD : D → Option NestedKey
  | .non => some .none
  | .bl b => some (.num (if b = true then 1 else 0))
  | .int i => some (.num i)
  | .str x => some (.text x)
  | .tup ds => (nkDs ds).map .tup
  | _ => none
def nkDs : List D → Option (List NestedKey)
  | [] => some []
  | d :: ds => (nkD d).bind fun k => (nkDs ds).map (k :: ·)
end
mutual
inductive Den (C : Kc) (G : Hp) : V → D → Prop where
  | non : Den C G .non .non
  | bl (b : Bool) : Den C G (.bl b) (.bl b)
  | int (i : Int) : Den C G (.int i) (.int i)
  | str (x : Str) : Den C G (.str x) (.str x)
  | tup {a : Addr} {xs : List V} {ds : List D} : SqT C.K G a xs → DenL C G xs ds → Den C G (.ref a) (.tup ds)
  | lst {a : Addr} {xs : List V} {ds : List D} : SqL C.K G a xs → DenL C G xs ds → Den C G (.ref a) (.lst ds)
  | obj {a dx : Addr} {c : Nat} {vs : List (Str × V)} {fs : List (Str × D)} : C.has c = true → G a = some (.ins (C.cl c) dx vs) → DenF C G vs fs → Den C G (.ref a) (.obj c fs)
  | cst (v : V) : Den C G v (.cst v)
  | dN {a : Addr} {o : Obj} {xs : List ND.NEnt} {kds : List (D × D)} : G a = some (ND.NDO C.P C.w a o xs) → DenN C G xs kds → Den C G (.ref a) (.dic kds)
  | dK {a : Addr} {o : Obj} {xs : List (Key × V)} {kds : List (Key × D)} : G a = some (.frz o (.dK xs)) → DenK C G xs kds → Den C G (.ref a) (.dik kds)
  | dM {a : Addr} {xs : List (Key × V)} {kds : List (Key × D)} : G a = some (.dK xs) → DenK C G xs kds → Den C G (.ref a) (.dim kds)
inductive DenK (C : Kc) (G : Hp) : List (Key × V) → List (Key × D) → Prop where
  | nil : DenK C G [] []
  | cons {k : Key} {v : V} {d : D} {vs : List (Key × V)} {ds : List (Key × D)} : Den C G v d → DenK C G vs ds → DenK C G ((k, v) :: vs) ((k, d) :: ds)
inductive DenL (C : Kc) (G : Hp) : List V → List D → Prop where
  | nil : DenL C G [] []
  | cons {v : V} {d : D} {vs : List V} {ds : List D} : Den C G v d → DenL C G vs ds → DenL C G (v :: vs) (d :: ds)
inductive DenF (C : Kc) (G : Hp) : List (Str × V) → List (Str × D) → Prop where
  | nil : DenF C G [] []
  | cons {f : Str} {v : V} {d : D} {vs : List (Str × V)} {ds : List (Str × D)} : Den C G v d → DenF C G vs ds → DenF C G ((f, v) :: vs) ((f, d) :: ds)
inductive DenN (C : Kc) (G : Hp) : List ND.NEnt → List (D × D) → Prop where
  | nil : DenN C G [] []
  | cons {k : NestedKey} {b : Addr} {u : Value} {v : V} {kd d : D} {xs : List ND.NEnt} {ds : List (D × D)} : nkD kd = some k → k.depth ≤ 8 → Den C G (.ref b) kd → RelV v u → Den C G v d → DenN C G xs ds → DenN C G ((k, b, u) :: xs) ((kd, d) :: ds)
end
theorem same_t {K : PySem.W.Frag} {H H' : Hp} {a : Addr} {xs : List V} (e : Same H H') (h : SqT K H a xs) : SqT K H' a xs := by
  rcases h with (h | ⟨o, h⟩) | h
  · exact .inl (.inl (e _ _ h))
  · exact .inl (.inr ⟨o, e _ _ h⟩)
  · exact .inr h
mutual
theorem Den.mono {C : Kc} {G G' : Hp} (e : Same G G') : ∀ {v : V} {d : D}, Den C G v d → Den C G' v d
  | _, _, .non => .non
  | _, _, .bl b => .bl b
  | _, _, .int i => .int i
  | _, _, .str x => .str x
  | _, _, .tup h l => .tup (same_t e h) (DenL.mono e l)
  | _, _, .lst h l => .lst (e.seq h) (DenL.mono e l)
  | _, _, .obj q h l => .obj q (e _ _ h) (DenF.mono e l)
  | _, _, .cst v => .cst v
  | _, _, .dN h l => .dN (e _ _ h) (DenN.mono e l)
  | _, _, .dK h l => .dK (e _ _ h) (DenK.mono e l)
  | _, _, .dM h l => .dM (e _ _ h) (DenK.mono e l)
theorem DenK.mono {C : Kc} {G G' : Hp} (e : Same G G') : ∀ {v : List (Key × V)} {d : List (Key × D)}, DenK C G v d → DenK C G' v d
  | _, _, .nil => .nil
  | _, _, .cons h l => .cons (Den.mono e h) (DenK.mono e l)
theorem DenL.mono {C : Kc} {G G' : Hp} (e : Same G G') : ∀ {v : List V} {d : List D}, DenL C G v d → DenL C G' v d
  | _, _, .nil => .nil
  | _, _, .cons h l => .cons (Den.mono e h) (DenL.mono e l)
theorem DenF.mono {C : Kc} {G G' : Hp} (e : Same G G') : ∀ {v : List (Str × V)} {d : List (Str × D)}, DenF C G v d → DenF C G' v d
  | _, _, .nil => .nil
  | _, _, .cons h l => .cons (Den.mono e h) (DenF.mono e l)
theorem DenN.mono {C : Kc} {G G' : Hp} (e : Same G G') : ∀ {v : List ND.NEnt} {d : List (D × D)}, DenN C G v d → DenN C G' v d
  | _, _, .nil => .nil
  | _, _, .cons h1 h2 h3 h4 h5 l => .cons h1 h2 (Den.mono e h3) h4 (Den.mono e h5) (DenN.mono e l)
end
theorem DenL.length {C : Kc} {G : Hp} : ∀ {vs : List V} {ds : List D}, DenL C G vs ds → vs.length = ds.length
  | _, _, .nil => rfl
  | _, _, .cons _ l => by rw [List.length_cons, List.length_cons, DenL.length l]
theorem DenL.get {C : Kc} {G : Hp} : ∀ {vs : List V} {ds : List D} {i : Nat} {d : D}, DenL C G vs ds → ds[i]? = some d → ∃ v, vs[i]? = some v ∧ Den C G v d
  | _, _, _, _, .nil, e => by simp at e
  | _, _, 0, _, .cons h _, e => by simp at e; subst e; exact ⟨_, rfl, h⟩
  | _, _, i + 1, d, .cons _ l, e => by
    obtain ⟨v, h1, h2⟩ := DenL.get (i := i) (d := d) l (by simpa using e)
    exact ⟨v, by simpa using h1, h2⟩
theorem DenL.set {C : Kc} {G : Hp} {v : V} {d : D} (h : Den C G v d) : ∀ {vs : List V} {ds : List D} (i : Nat), DenL C G vs ds → DenL C G (vs.set i v) (ds.set i d)
  | _, _, _, .nil => .nil
  | _, _, 0, .cons _ l => .cons h l
  | _, _, i + 1, .cons q l => .cons q (DenL.set h i l)
theorem DenL.append {C : Kc} {G : Hp} : ∀ {vs ws : List V} {ds es : List D}, DenL C G vs ds → DenL C G ws es → DenL C G (vs ++ ws) (ds ++ es)
  | _, _, _, _, .nil, s => s
  | _, _, _, _, .cons r t, s => .cons r (DenL.append t s)
theorem DenL.take {C : Kc} {G : Hp} : ∀ {vs : List V} {ds : List D} (n : Nat), DenL C G vs ds → DenL C G (vs.take n) (ds.take n)
  | _, _, 0, _ => .nil
  | _, _, _ + 1, .nil => .nil
  | _, _, n + 1, .cons r t => .cons r (DenL.take n t)
theorem DenL.drop {C : Kc} {G : Hp} : ∀ {vs : List V} {ds : List D} (n : Nat), DenL C G vs ds → DenL C G (vs.drop n) (ds.drop n)
  | _, _, 0, r => r
  | _, _, _ + 1, .nil => .nil
  | _, _, n + 1, .cons _ t => DenL.drop n t
theorem DenL.split {C : Kc} {G : Hp} : ∀ {vs : List V} {ds es : List D}, DenL C G vs (ds ++ es) → ∃ us ws, vs = us ++ ws ∧ DenL C G us ds ∧ DenL C G ws es
  | vs, [], es, h => ⟨[], vs, rfl, .nil, h⟩
  | _, d :: ds, es, .cons h l => by
    obtain ⟨us, ws, e, h1, h2⟩ := DenL.split (ds := ds) (es := es) l
    exact ⟨_ :: us, ws, by rw [e]; rfl, .cons h h1, h2⟩
theorem DenF.look {C : Kc} {G : Hp} {f : Str} : ∀ {vs : List (Str × V)} {ds : List (Str × D)} {d : D}, DenF C G vs ds → ds.lookup f = some d → ∃ v, vs.lookup f = some v ∧ Den C G v d
  | _, _, _, .nil, e => by simp at e
  | _, _, d, .cons (f := g) (v := v) h l, e => by
    rw [List.lookup_cons] at e ⊢
    cases q : (f == g) with
    | true => rw [q] at e; exact ⟨v, rfl, Option.some.inj e ▸ h⟩
    | false => rw [q] at e; exact DenF.look (d := d) l e
theorem DenF.lookN {C : Kc} {G : Hp} {f : Str} : ∀ {vs : List (Str × V)} {ds : List (Str × D)}, DenF C G vs ds → ds.lookup f = none → vs.lookup f = none
  | _, _, .nil, _ => rfl
  | _, _, .cons (f := g) h l, e => by
    rw [List.lookup_cons] at e ⊢
    cases q : (f == g) with
    | true => rw [q] at e; cases e
    | false => rw [q] at e; exact DenF.lookN l e
def putD (f : Str) (d : D) : List (Str × D) → List (Str × D)
  | [] => [(f, d)]
  | (g, x) :: r => if g = f then (g, d) :: r else (g, x) :: putD f d r
theorem DenF.put {C : Kc} {G : Hp} {f : Str} {v : V} {d : D} (h : Den C G v d) : ∀ {vs : List (Str × V)} {ds : List (Str × D)}, DenF C G vs ds → DenF C G (putF f v vs) (putD f d ds)
  | _, _, .nil => .cons h .nil
  | _, _, .cons (f := g) q l => by
    unfold putF putD
    by_cases e : g = f
    · rw [if_pos e, if_pos e]; exact .cons h l
    · rw [if_neg e, if_neg e]; exact .cons q (DenF.put h l)
theorem DenF.length {C : Kc} {G : Hp} : ∀ {vs : List (Str × V)} {ds : List (Str × D)}, DenF C G vs ds → vs.length = ds.length
  | _, _, .nil => rfl
  | _, _, .cons _ l => by rw [List.length_cons, List.length_cons, DenF.length l]
class TabL where
  T : List (Addr × Str)
instance (priority := low) tabL0 : TabL := ⟨[]⟩
variable [TabL]
def NT (o : HO) : Prop := ∀ ps, o ≠ .tbl ps
theorem nt_lst {xs : List V} : NT (.lst xs) := fun _ z => nomatch z
theorem nt_ins {c d : Addr} {xs : List (Str × V)} : NT (.ins c d xs) := fun _ z => nomatch z
theorem nt_nd {P : Program} {w : World} {a : Addr} {o : Obj} {xs : List ND.NEnt} : NT (ND.NDO P w a o xs) := fun _ z => by unfold ND.NDO at z; nomatch z
structure KT (H H2 : Hp) : Prop where
  k : ∀ a o, NT o → H a = some o → H2 a = some o
  d : ∀ a, H a ≠ none → H2 a ≠ none
  t : LamX.Tabs TabL.T H → LamX.Tabs TabL.T H2
theorem Same.dom0 {H H2 : Hp} (k : Same H H2) : ∀ a, H a ≠ none → H2 a ≠ none := fun a h => by
  cases q : H a with
  | none => exact absurd q h
  | some o => rw [k a o q]; simp
theorem Same.kt {H H2 : Hp} (k : Same H H2) : KT H H2 := ⟨fun a o _ h => k a o h, Same.dom0 k, fun t => t.ext k⟩
theorem KT.refl (H : Hp) : KT H H := ⟨fun _ _ _ h => h, fun _ h => h, fun t => t⟩
theorem KT.trans {H H1 H2 : Hp} (a : KT H H1) (b : KT H1 H2) : KT H H2 := ⟨fun x o n h => b.k x o n (a.k x o n h), fun x h => b.d x (a.d x h), fun t => b.t (a.t t)⟩
structure Sub (G H : Hp) : Prop where
  s : Same G H
  t : LamX.Tabs TabL.T H
  n : ∀ p ∈ TabL.T, G p.1 = none
theorem tabs_there {H : Hp} (t : LamX.Tabs TabL.T H) : ∀ p ∈ TabL.T, H p.1 ≠ none := fun p hp z => by
  obtain ⟨ps, e, _⟩ := t p hp
  rw [z] at e
  cases e
theorem tabs_ne {H : Hp} (t : LamX.Tabs TabL.T H) {a : Addr} {o : HO} (h : H a = some o) (n : NT o) : ∀ p ∈ TabL.T, p.1 ≠ a := fun p hp z => by
  obtain ⟨ps, e, _⟩ := t p hp
  rw [z, h] at e
  exact n ps (Option.some.inj e)
instance {G H : Hp} : Coe (Sub G H) (Same G H) := ⟨Sub.s⟩
instance {G H : Hp} : CoeFun (Sub G H) (fun _ => ∀ a o, G a = some o → H a = some o) := ⟨fun c => c.s⟩
theorem Sub.free {G H : Hp} (c : Sub G H) {a : Addr} (h : H a = none) : G a = none := Same.free c.s h
theorem Sub.seq {K : PySem.W.Frag} {G H : Hp} {a : Addr} {xs : List V} (c : Sub G H) (h : SqL K G a xs) : SqL K H a xs := Same.seq c.s h
theorem Sub.trans {G H H2 : Hp} (c : Sub G H) (e : Same H H2) : Sub G H2 := ⟨Same.trans c.s e, c.t.ext e, c.n⟩
def NC (o : HO) : Prop := ∀ c q, o ≠ LamX.CodeO c q
theorem nc_lst {xs : List V} : NC (.lst xs) := fun _ _ z => by unfold LamX.CodeO at z; nomatch z
theorem nc_ins {c d : Addr} {xs : List (Str × V)} : NC (.ins c d xs) := fun _ _ z => by unfold LamX.CodeO at z; nomatch z
theorem nc_xd {xs : List (Str × V)} : NC (.xd xs) := fun _ _ z => by unfold LamX.CodeO at z; nomatch z
def mkHp (o : Obj) : Nat → Heap
  | 0 => default
  | n + 1 => (mkHp o n).push o
theorem mkHp_size (o : Obj) : ∀ n, (mkHp o n).objs.size = n
  | 0 => rfl
  | n + 1 => by show ((mkHp o n).push o).objs.size = _; rw [Heap.size_push, mkHp_size o n]
theorem nc_nd {P : Program} {w : World} {a : Addr} {o : Obj} {xs : List ND.NEnt} : NC (ND.NDO P w a o xs) := fun c q z => by
  unfold ND.NDO LamX.CodeO at z
  injection z with z
  have g := congrFun z (mkHp ⟨.none, none, .fields #[.none, .str q 0], #[]⟩ (c + 1))
  have at_ : (mkHp ⟨.none, none, .fields #[.none, .str q 0], #[]⟩ (c + 1)).get? c = some ⟨.none, none, .fields #[.none, .str q 0], #[]⟩ := by
    have e := Heap.get?_push_size (mkHp ⟨.none, none, .fields #[.none, .str q 0], #[]⟩ c) (o := ⟨.none, none, .fields #[.none, .str q 0], #[]⟩) rfl
    rw [mkHp_size] at e
    exact e
  have r : ∃ (oc : Obj) (vs : Array Value) (t : Tok), (mkHp ⟨.none, none, .fields #[.none, .str q 0], #[]⟩ (c + 1)).get? c = some oc ∧ oc.data = .fields vs ∧ vs[1]? = some (.str q t) := ⟨_, _, 0, at_, rfl, rfl⟩
  rw [← g] at r
  obtain ⟨_, _, _, es, ep, h1, h2, h3, _⟩ := r
  have all : ∀ (n b : Nat) (u : Obj), (mkHp ⟨.none, none, .fields #[.none, .str q 0], #[]⟩ n).get? b = some u → u.data = .fields #[.none, .str q 0] := fun n => by
    induction n with
    | zero => intro b u e; exact absurd (Heap.lt_size e) (Nat.not_lt_zero b)
    | succ n ih =>
      intro b u e
      by_cases k : b < n
      · have lt : b < (mkHp ⟨.none, none, .fields #[.none, .str q 0], #[]⟩ n).objs.size := by rw [mkHp_size]; exact k
        cases y : (mkHp ⟨.none, none, .fields #[.none, .str q 0], #[]⟩ n).get? b with
        | some u' =>
          have := Heap.get?_push_of_some (⟨.none, none, .fields #[.none, .str q 0], #[]⟩ : Obj) y
          have e' : ((mkHp ⟨.none, none, .fields #[.none, .str q 0], #[]⟩ n).push ⟨.none, none, .fields #[.none, .str q 0], #[]⟩).get? b = some u := e
          rw [this] at e'
          cases e'
          exact ih b _ y
        | none =>
          obtain ⟨m, rfl⟩ : ∃ m, n = m + 1 := ⟨n - 1, by omega⟩
          exact absurd y (by
            have live : ∀ (m b : Nat), b < m → (mkHp ⟨.none, none, .fields #[.none, .str q 0], #[]⟩ m).get? b ≠ none := fun m => by
              induction m with
              | zero => intro b hb; omega
              | succ m ih2 =>
                intro b hb
                by_cases hb2 : b < m
                · cases y2 : (mkHp ⟨.none, none, .fields #[.none, .str q 0], #[]⟩ m).get? b with
                  | none => exact absurd y2 (ih2 b hb2)
                  | some u2 =>
                    show ((mkHp ⟨.none, none, .fields #[.none, .str q 0], #[]⟩ m).push _).get? b ≠ none
                    rw [Heap.get?_push_of_some _ y2]; simp
                · have eb : b = m := by omega
                  have e3 := Heap.get?_push_size (mkHp ⟨.none, none, .fields #[.none, .str q 0], #[]⟩ m) (o := ⟨.none, none, .fields #[.none, .str q 0], #[]⟩) rfl
                  rw [mkHp_size] at e3
                  rw [eb]
                  show ((mkHp ⟨.none, none, .fields #[.none, .str q 0], #[]⟩ m).push _).get? m ≠ none
                  rw [e3]; simp
            exact live (m + 1) b k)
      · have lt := Heap.lt_size e
        rw [mkHp_size] at lt
        have lt : b < n + 1 := lt
        have eb : b = n := by omega
        have e3 := Heap.get?_push_size (mkHp ⟨.none, none, .fields #[.none, .str q 0], #[]⟩ n) (o := ⟨.none, none, .fields #[.none, .str q 0], #[]⟩) rfl
        rw [mkHp_size] at e3
        have e' : ((mkHp ⟨.none, none, .fields #[.none, .str q 0], #[]⟩ n).push ⟨.none, none, .fields #[.none, .str q 0], #[]⟩).get? b = some u := e
        rw [eb, e3] at e'
        cases e'
        rfl
  rw [all _ _ _ h1] at h3
  cases h3
theorem tabs_upd {T : List (Addr × Str)} {H : Hp} {a : Addr} {o o' : HO} (t : LamX.Tabs T H) (ha : H a = some o) (h1 : NT o) (h2 : NC o) : LamX.Tabs T (upd H a o') := fun p hp => by
  obtain ⟨ps, e1, e2, e3⟩ := t p hp
  have ne : p.1 ≠ a := fun z => by rw [z, ha] at e1; exact h1 ps (Option.some.inj e1)
  refine ⟨ps, by rw [upd_ne ne]; exact e1, e2, fun pos cv hc => ?_⟩
  obtain ⟨c, f1, f2⟩ := e3 pos cv hc
  have nc : c ≠ a := fun z => by rw [z, ha] at f2; exact h2 _ _ (Option.some.inj f2)
  exact ⟨c, f1, by rw [upd_ne nc]; exact f2⟩
inductive MO where
  | lst (ds : List D) | dic (kvs : List (D × D)) | dik (kvs : List (Key × D))
def dOf : MO → D
  | .lst ds => .lst ds
  | .dic kvs => .dic kvs
  | .dik kvs => .dim kvs
inductive MOk (C : Kc) (G : Hp) (a : Addr) : HO → MO → Prop where
  | lst {vs : List V} {ds : List D} : DenL C G vs ds → MOk C G a (.lst vs) (.lst ds)
  | dN {o : Obj} {xs : List ND.NEnt} {kds : List (D × D)} : DenN C G xs kds → MOk C G a (ND.NDO C.P C.w a o xs) (.dic kds)
  | dK {xs : List (Key × V)} {kds : List (Key × D)} : DenK C G xs kds → MOk C G a (.dK xs) (.dik kds)
theorem MOk.mono {C : Kc} {G G' : Hp} {a : Addr} (e : Same G G') {o : HO} {m : MO} (h : MOk C G a o m) : MOk C G' a o m := by
  cases h with
  | lst h => exact .lst (h.mono e)
  | dN h => exact .dN (h.mono e)
  | dK h => exact .dK (h.mono e)
theorem MOk.den {C : Kc} {G : Hp} {o : HO} {m : MO} {a : Addr} (ha : G a = some o) (h : MOk C G a o m) : Den C G (.ref a) (dOf m) := by
  cases h with
  | lst h => exact .lst (SqL.of ha) h
  | dN h => exact .dN ha h
  | dK h => exact .dM ha h
theorem MOk.nt {C : Kc} {G : Hp} {a : Addr} {o : HO} {m : MO} (h : MOk C G a o m) : NT o := by
  cases h with
  | lst h => exact nt_lst
  | dN h => exact nt_nd
  | dK h => exact fun _ z => nomatch z
theorem MOk.nc {C : Kc} {G : Hp} {a : Addr} {o : HO} {m : MO} (h : MOk C G a o m) : NC o := by
  cases h with
  | lst h => exact nc_lst
  | dN h => exact nc_nd
  | dK h => exact fun _ _ z => nomatch z
theorem MOk.isL {C : Kc} {G : Hp} {a : Addr} {o : HO} {ds : List D} (h : MOk C G a o (.lst ds)) : ∃ vs, o = .lst vs ∧ DenL C G vs ds := by
  cases h with
  | lst h => exact ⟨_, rfl, h⟩
theorem MOk.isN {C : Kc} {G : Hp} {a : Addr} {o : HO} {ds : List (D × D)} (h : MOk C G a o (.dic ds)) : ∃ od xs, o = ND.NDO C.P C.w a od xs ∧ DenN C G xs ds := by
  cases h with
  | dN h => exact ⟨_, _, rfl, h⟩
inductive DV where
  | imm (d : D) | own (m : MO) | bag
inductive BG where
  | lst (ds : List D) | ins (c : Nat) (fs : List (Str × D)) | xd (fs : List (Str × D))
structure ST where
  s : List (Option DV)
  g : Option (Addr × BG)
def ST.set (S : ST) (i : Nat) (d : D) : ST := ⟨S.s.set i (some (.imm d)), S.g⟩
def ST.setM (S : ST) (i : Nat) (m : MO) : ST := ⟨S.s.set i (some (.own m)), S.g⟩
abbrev ST.setO (S : ST) (i : Nat) (ds : List D) : ST := S.setM i (.lst ds)
def BagOk (C : Kc) (G H : Hp) : Option (Addr × BG) → Prop
  | none => True
  | some (b, .lst ds) => G b = none ∧ ∃ vs, H b = some (.lst vs) ∧ DenL C G vs ds
  | some (b, .ins c fs) => G b = none ∧ ∃ dx vs, H b = some (.ins (C.cl c) dx vs) ∧ DenF C G vs fs
  | some (b, .xd fs) => G b = none ∧ ∃ vs, H b = some (.xd vs) ∧ DenF C G vs fs
theorem nt_xd {xs : List (Str × V)} : NT (.xd xs) := fun _ z => nomatch z
structure Ctx (C : Kc) (G H : Hp) (σ : L2.St) (S : ST) : Prop where
  sub : Sub G H
  len : σ.length = S.s.length
  im : ∀ (i : Nat) d, S.s[i]? = some (some (.imm d)) → ∃ v, σ[i]? = some (some v) ∧ Den C G v d
  ow : ∀ (i : Nat) ds, S.s[i]? = some (some (.own ds)) → ∃ a o, σ[i]? = some (some (.ref a)) ∧ G a = none ∧ H a = some o ∧ MOk C G a o ds
  apart : ∀ (i j : Nat) ds es a, S.s[i]? = some (some (.own ds)) → S.s[j]? = some (some (.own es)) → σ[i]? = some (some (.ref a)) → σ[j]? = some (some (.ref a)) → i = j
  bg : ∀ (i : Nat) b o, S.g = some (b, o) → S.s[i]? = some (some .bag) → σ[i]? = some (some (.ref b))
  bag : BagOk C G H S.g
  nob : ∀ (i : Nat) b o ds, S.g = some (b, o) → S.s[i]? = some (some (.own ds)) → σ[i]? ≠ some (some (.ref b))
def OA (C : Kc) (σ : L2.St) (S : ST) (a : Addr) : Prop := (∃ (i : Nat) (ds : MO), S.s[i]? = some (some (.own ds)) ∧ σ[i]? = some (some (.ref a))) ∨ ∃ o, S.g = some (a, o)
structure Go (A : Addr → Prop) (G H G2 H2 : Hp) : Prop where
  keep : ∀ a o, ¬ A a → NT o → H a = some o → H2 a = some o
  gg : Same G G2
  fr : ∀ a, ¬ A a → H a ≠ none → G a = none → G2 a = none
  dom : ∀ a, H a ≠ none → H2 a ≠ none
  tb : LamX.Tabs TabL.T H → LamX.Tabs TabL.T H2
theorem Go.refl {A : Addr → Prop} {G H : Hp} : Go A G H G H := ⟨fun _ _ _ _ h => h, fun _ _ h => h, fun _ _ _ h => h, fun _ h => h, fun t => t⟩
theorem Go.trans {A A2 : Addr → Prop} {G H G1 H1 G2 H2 : Hp} (a : Go A G H G1 H1) (b : Go A2 G1 H1 G2 H2) (h : ∀ x, A2 x → A x ∨ H x = none) : Go A G H G2 H2 where
  keep := fun x o n nt e => b.keep x o (fun z => (h x z).elim n fun q => by rw [q] at e; cases e) nt (a.keep x o n nt e)
  gg := a.gg.trans b.gg
  fr := fun x n e g => b.fr x (fun z => (h x z).elim n fun q' => e q') (a.dom x e) (a.fr x n e g)
  dom := fun x h => b.dom x (a.dom x h)
  tb := fun t => b.tb (a.tb t)
theorem Go.mono {A A2 : Addr → Prop} {G H G2 H2 : Hp} (a : Go A G H G2 H2) (h : ∀ x, A x → A2 x) : Go A2 G H G2 H2 := ⟨fun x o n => a.keep x o fun z => n (h x z), a.gg, fun x n => a.fr x fun z => n (h x z), a.dom, a.tb⟩
structure Mv (C : Kc) (σ : L2.St) (S : ST) (G H : Hp) (S2 : ST) (G2 H2 : Hp) : Prop where
  go : Go (OA C σ S) G H G2 H2
  cx : Ctx C G2 H2 σ S2
  oa : ∀ a, OA C σ S2 a → OA C σ S a
theorem Mv.trans {C : Kc} {σ : L2.St} {S S1 S2 : ST} {G H G1 H1 G2 H2 : Hp} (a : Mv C σ S G H S1 G1 H1) (b : Mv C σ S1 G1 H1 S2 G2 H2) : Mv C σ S G H S2 G2 H2 :=
  ⟨a.go.trans b.go fun x z => .inl (a.oa x z), b.cx, fun x z => a.oa x (b.oa x z)⟩
theorem Mv.refl {C : Kc} {σ : L2.St} {S : ST} {G H : Hp} (c : Ctx C G H σ S) : Mv C σ S G H S G H := ⟨.refl, c, fun _ z => z⟩
theorem Ctx.step {C : Kc} {G H G2 H2 : Hp} {σ : L2.St} {S : ST} (c : Ctx C G H σ S) (k : KT H H2) (gg : Same G G2) (sub : Same G2 H2) (fr : ∀ a, H a ≠ none → G a = none → G2 a = none) : Ctx C G2 H2 σ S where
  sub := ⟨sub, k.t c.sub.t, fun p hp => fr _ (tabs_there c.sub.t p hp) (c.sub.n p hp)⟩
  len := c.len
  im := fun i d h => let ⟨v, h1, h2⟩ := c.im i d h; ⟨v, h1, h2.mono gg⟩
  ow := fun i ds h => let ⟨a, vs, h1, h2, h3, h4⟩ := c.ow i ds h; ⟨a, vs, h1, fr a (by rw [h3]; simp) h2, k.k _ _ h4.nt h3, h4.mono gg⟩
  apart := c.apart
  bg := c.bg
  bag := by
    have z := c.bag
    cases q : S.g with
    | none => trivial
    | some bo =>
      obtain ⟨b, o⟩ := bo
      rw [q] at z
      cases o with
      | lst ds => obtain ⟨h1, vs, h2, h3⟩ := z; exact ⟨fr _ (by rw [h2]; simp) h1, vs, k.k _ _ nt_lst h2, h3.mono gg⟩
      | ins cc fs => obtain ⟨h1, dx, vs, h2, h3⟩ := z; exact ⟨fr _ (by rw [h2]; simp) h1, dx, vs, k.k _ _ nt_ins h2, h3.mono gg⟩
      | xd fs => obtain ⟨h1, vs, h2, h3⟩ := z; exact ⟨fr _ (by rw [h2]; simp) h1, vs, k.k _ _ nt_xd h2, h3.mono gg⟩
  nob := c.nob
theorem Ctx.mv {C : Kc} {G H G2 H2 : Hp} {σ : L2.St} {S : ST} (c : Ctx C G H σ S) (k : KT H H2) (gg : Same G G2) (sub : Same G2 H2) (fr : ∀ a, H a ≠ none → G a = none → G2 a = none) : Mv C σ S G H S G2 H2 :=
  ⟨⟨fun a o _ nt h => k.k a o nt h, gg, fun a _ h1 h2 => fr a h1 h2, k.d, k.t⟩, c.step k gg sub fr, fun _ z => z⟩
theorem Ctx.new {C : Kc} {G H : Hp} {σ : L2.St} {S : ST} {p : Addr} {o : HO} (c : Ctx C G H σ S) (hp : H p = none) : Mv C σ S G H S (upd G p o) (upd H p o) := by
  have gp : G p = none := c.sub.free hp
  refine c.mv (Same.kt fun a u h => ?_) (fun a u h => ?_) (fun a u h => ?_) (fun a h1 h2 => ?_)
  · rw [upd_ne (ne_of_none h hp)]; exact h
  · rw [upd_ne (ne_of_none h gp)]; exact h
  · by_cases e : a = p
    · subst e; rw [upd_same] at h ⊢; exact h
    · rw [upd_ne e] at h ⊢; exact c.sub _ _ h
  · have e : a ≠ p := fun z => h1 (by rw [z]; exact hp)
    rw [upd_ne e]; exact h2
def EvM (C : Kc) (te : TE) (S S' : ST) (d : D) : Prop :=
  ∀ σ G H, Ctx C G H σ S → ∀ Q : VK, (∀ v G2 H2, Mv C σ S G H S' G2 H2 → Den C G2 v d → Q v H2) → te σ H Q
def EvT (C : Kc) (tt : TT) (S S' : ST) (b : Bool) : Prop :=
  ∀ σ G H, Ctx C G H σ S → ∀ Q : Bool → Hp → Prop, (∀ G2 H2, Mv C σ S G H S' G2 H2 → Q b H2) → tt σ H Q
def EvA (C : Kc) (ta : TA) (S S' : ST) (ds : List D) : Prop :=
  ∀ σ G H, Ctx C G H σ S → ∀ Q : List V → Hp → Prop, (∀ vs G2 H2, Mv C σ S G H S' G2 H2 → DenL C G2 vs ds → Q vs H2) → ta σ H Q
def EvO (C : Kc) (te : TE) (S S' : ST) (ds : List D) : Prop :=
  ∀ σ G H, Ctx C G H σ S → ∀ Q : VK, (∀ p vs G2 H2, Mv C σ S G H S' G2 H2 → H p = none → G2 p = none → H2 p = some (.lst vs) → DenL C G2 vs ds → Q (.ref p) H2) → te σ H Q
structure Mw (C : Kc) (σ : L2.St) (S : ST) (G H : Hp) (σ2 : L2.St) (S2 : ST) (G2 H2 : Hp) : Prop where
  go : Go (OA C σ S) G H G2 H2
  cx : Ctx C G2 H2 σ2 S2
  oa : ∀ a, OA C σ2 S2 a → OA C σ S a ∨ H a = none
theorem Mw.trans {C : Kc} {σ σ1 σ2 : L2.St} {S S1 S2 : ST} {G H G1 H1 G2 H2 : Hp} (a : Mw C σ S G H σ1 S1 G1 H1) (b : Mw C σ1 S1 G1 H1 σ2 S2 G2 H2) : Mw C σ S G H σ2 S2 G2 H2 :=
  ⟨a.go.trans b.go a.oa, b.cx, fun x z => by
    rcases b.oa x z with q | q
    · exact a.oa x q
    · refine .inr ?_
      cases r : H x with
      | none => rfl
      | some o => exact absurd q (a.go.dom x (by rw [r]; simp))⟩
theorem Mw.refl {C : Kc} {σ : L2.St} {S : ST} {G H : Hp} (c : Ctx C G H σ S) : Mw C σ S G H σ S G H := ⟨.refl, c, fun _ z => .inl z⟩
theorem Mv.mw {C : Kc} {σ : L2.St} {S S2 : ST} {G H G2 H2 : Hp} (a : Mv C σ S G H S2 G2 H2) : Mw C σ S G H σ S2 G2 H2 := ⟨a.go, a.cx, fun x z => .inl (a.oa x z)⟩
def excFields : Nat → List Str
  | 102 => ["index"]
  | 108 => ["index"]
  | 112 => ["index"]
  | 113 => ["index"]
  | 119 => ["given"]
  | 122 => ["deed", "shown"]
  | 123 => ["limit"]
  | 120 => []
  | 121 => []
  | _ => ["value"]
def DenX (C : Kc) (G : Hp) (c : Nat) (fv : List (Str × V)) (fs : List D) : Prop := DenF C G fv ((excFields c).zip fs) ∧ fs.length = (excFields c).length
structure Po where
  nx : ST → Prop := fun _ => False
  rt : D → ST → Prop := fun _ _ => False
  bk : ST → Prop := fun _ => False
  ct : ST → Prop := fun _ => False
  ro : List D → ST → Prop := fun _ _ => False
  W : WX := fun _ _ _ _ => False
  xc : Nat → List D → ST → Prop := fun _ _ _ => False
structure Meets (C : Kc) (P : Po) (σ : L2.St) (S : ST) (G H : Hp) (E : Ends) : Prop where
  nx : ∀ σ2 S2 G2 H2, Mw C σ S G H σ2 S2 G2 H2 → P.nx S2 → E.nx σ2 H2
  rt : ∀ v d σ2 S2 G2 H2, Mw C σ S G H σ2 S2 G2 H2 → Den C G2 v d → P.rt d S2 → E.rt v H2
  bk : ∀ σ2 S2 G2 H2, Mw C σ S G H σ2 S2 G2 H2 → P.bk S2 → E.bk σ2 H2
  ct : ∀ σ2 S2 G2 H2, Mw C σ S G H σ2 S2 G2 H2 → P.ct S2 → E.ct σ2 H2
  ro : ∀ p ev es σ2 S2 G2 H2, Mw C σ S G H σ2 S2 G2 H2 → (H p = none ∨ OA C σ S p) → G2 p = none → H2 p = some (.lst ev) → DenL C G2 ev es → P.ro es S2 → E.rt (.ref p) H2
  xc : ∀ c fs dx fv σ2 S2 G2 H2, Mw C σ S G H σ2 S2 G2 H2 → H dx = none → G2 dx = none → H2 dx = some (.xd fv) → DenX C G2 c fv fs → P.xc c fs S2 → P.W (.ref (C.xc c)) (some dx) σ2 H2
theorem back_none {A : Addr → Prop} {G H G2 H2 : Hp} (g : Go A G H G2 H2) {p : Addr} (h : H2 p = none) : H p = none := by
  cases r : H p with
  | none => rfl
  | some o => exact absurd h (g.dom p (by rw [r]; simp))
theorem Meets.move {C : Kc} {P : Po} {σ σ1 : L2.St} {S S1 : ST} {G H G1 H1 : Hp} {E : Ends} (m : Meets C P σ S G H E) (a : Mw C σ S G H σ1 S1 G1 H1) : Meets C P σ1 S1 G1 H1 E :=
  ⟨fun σ2 S2 G2 H2 b h => m.nx _ _ _ _ (a.trans b) h, fun v d σ2 S2 G2 H2 b q h => m.rt v d _ _ _ _ (a.trans b) q h, fun σ2 S2 G2 H2 b h => m.bk _ _ _ _ (a.trans b) h, fun σ2 S2 G2 H2 b h => m.ct _ _ _ _ (a.trans b) h, fun p ev es σ2 S2 G2 H2 b h1 h2 h3 h4 h => m.ro p ev es _ _ _ _ (a.trans b) (h1.elim (fun z => .inl (back_none a.go z)) fun z => (a.oa p z).symm) h2 h3 h4 h, fun c fs dx fv σ2 S2 G2 H2 b h1 h2 h3 h4 h => m.xc c fs dx fv _ _ _ _ (a.trans b) (back_none a.go h1) h2 h3 h4 h⟩
def SD (C : Kc) (ts : TS) (S : ST) (P : Po) : Prop := ∀ σ G H, Ctx C G H σ S → ∀ E : Ends, Meets C P σ S G H E → ts E σ H
theorem Ctx.store {C : Kc} {G H : Hp} {σ : L2.St} {S : ST} {i : Nat} {v : V} {d : D} (c : Ctx C G H σ S) (h : Den C G v d) : Mw C σ S G H (σ.set i (some v)) (S.set i d) G H := by
  refine ⟨.refl, ⟨c.sub, by simp [ST.set, c.len], fun j e q => ?_, fun j e q => ?_, fun j k ds es a q1 q2 q3 q4 => ?_, fun j b o hg q => ?_, c.bag, fun j b o ds q q2 => ?_⟩, fun a z => ?_⟩
  · by_cases ij : i = j
    · subst ij
      have hl : i < S.s.length := by
        rcases Nat.lt_or_ge i S.s.length with z | z
        · exact z
        · rw [ST.set, List.getElem?_eq_none (by simpa using z)] at q; cases q
      rw [ST.set, List.getElem?_set_self hl] at q
      cases q
      exact ⟨v, List.getElem?_set_self (by rw [c.len]; exact hl), h⟩
    · rw [ST.set, List.getElem?_set_ne ij] at q
      rw [List.getElem?_set_ne ij]
      exact c.im j e q
  · by_cases ij : i = j
    · subst ij
      rcases Nat.lt_or_ge i S.s.length with z | z
      · rw [ST.set, List.getElem?_set_self z] at q; cases q
      · rw [ST.set, List.getElem?_eq_none (by simpa using z)] at q; cases q
    · rw [ST.set, List.getElem?_set_ne ij] at q
      rw [List.getElem?_set_ne ij]
      exact c.ow j e q
  · have key : ∀ (j : Nat) ds, (S.set i d).s[j]? = some (some (DV.own ds)) → i ≠ j ∧ S.s[j]? = some (some (DV.own ds)) := fun j ds q => by
      by_cases ij : i = j
      · subst ij
        rcases Nat.lt_or_ge i S.s.length with z | z
        · rw [ST.set, List.getElem?_set_self z] at q; cases q
        · rw [ST.set, List.getElem?_eq_none (by simpa using z)] at q; cases q
      · rw [ST.set, List.getElem?_set_ne ij] at q; exact ⟨ij, q⟩
    obtain ⟨n1, k1⟩ := key j ds q1
    obtain ⟨n2, k2⟩ := key k es q2
    rw [List.getElem?_set_ne n1] at q3
    rw [List.getElem?_set_ne n2] at q4
    exact c.apart j k ds es a k1 k2 q3 q4
  · by_cases ij : i = j
    · subst ij
      rcases Nat.lt_or_ge i S.s.length with z | z
      · rw [ST.set, List.getElem?_set_self z] at q; cases q
      · rw [ST.set, List.getElem?_eq_none (by simpa using z)] at q; cases q
    · rw [ST.set, List.getElem?_set_ne ij] at q
      rw [List.getElem?_set_ne ij]
      exact c.bg j b o hg q
  · by_cases ij : i = j
    · subst ij
      rcases Nat.lt_or_ge i S.s.length with z | z
      · rw [ST.set, List.getElem?_set_self z] at q2; cases q2
      · rw [ST.set, List.getElem?_eq_none (by simpa using z)] at q2; cases q2
    · rw [ST.set, List.getElem?_set_ne ij] at q2
      rw [List.getElem?_set_ne ij]
      exact c.nob j b o ds q q2
  · rcases z with ⟨j, ds, q1, q2⟩ | z
    · have ij : i ≠ j := fun ij => by
        subst ij
        rcases Nat.lt_or_ge i S.s.length with z | z
        · rw [ST.set, List.getElem?_set_self z] at q1; cases q1
        · rw [ST.set, List.getElem?_eq_none (by simpa using z)] at q1; cases q1
      rw [ST.set, List.getElem?_set_ne ij] at q1
      rw [List.getElem?_set_ne ij] at q2
      exact .inl (.inl ⟨j, ds, q1, q2⟩)
    · exact .inl (.inr z)
end DL
namespace DL
open PySem L2
variable [TabL]
structure Fam where
  I : Type
  X : I → Cx
  P : Program
  w : World
  C : Kc
  mg : Str → Option Value
  base : Heap
  N : List Str
  k : Nat
  hP : ∀ i, (X i).prog = P
  hw : ∀ i, (X i).w = w
  hK : ∀ i, (X i).K = C.K
  hmg : ∀ i, (X i).mg = mg
  hbase : ∀ i, (X i).base = base
  hN : ∀ i, (X i).N = N
  nd : N.Nodup
  roomH : ∀ i, L2H.RoomH k (X i).A
  cP : C.P = P
  cw : C.w = w
class Calm (F : Fam) : Prop where
  c : ∀ i, (F.X i).calm = true
  h : ∀ i, (F.X i).A.handled = none
theorem Fam.room (F : Fam) [Calm F] (i : F.I) : Room F.k (F.X i).A := ⟨Calm.h i, (F.roomH i).dp, (F.roomH i).un⟩
theorem Fam.calm (F : Fam) [Calm F] (i : F.I) : (F.X i).calm = true := Calm.c i
theorem Fam.units (F : Fam) (i : F.I) : (F.X i).A.units + 64 < cLine := by have := (F.roomH i).un; omega
theorem Fam.units0 (F : Fam) (i : F.I) : (F.X i).A.units < cLine := by have := (F.roomH i).un; omega
def anyE (F : Fam) (e : Expr) : TE := fun σ H Q => ∃ te, (∀ i, PE (F.X i) e te) ∧ te σ H Q
def anyT (F : Fam) (e : Expr) : TT := fun σ H Q => ∃ te, (∀ i, PT (F.X i) e te) ∧ te σ H Q
def anyW (F : Fam) (e : Expr) : TT := fun σ H Q => ∃ te, (∀ i, PW (F.X i) e te) ∧ te σ H Q
def anyA (F : Fam) (e : List Expr) : TA := fun σ H Q => ∃ te, (∀ i, PA (F.X i) e te) ∧ te σ H Q
def anyK (F : Fam) (e : List Keyword) : TA := fun σ H Q => ∃ te, (∀ i, PK (F.X i) e te) ∧ te σ H Q
def any1 (F : Fam) (e : Stmt) : TS := fun E σ H => ∃ te, (∀ i, PS (F.X i) e te) ∧ te E σ H
def anyS (F : Fam) (e : List Stmt) : TS := fun E σ H => ∃ te, (∀ i, PSs (F.X i) e te) ∧ te E σ H
theorem anyE_ok {F : Fam} {e : Expr} (i : F.I) : PE (F.X i) e (anyE F e) := ⟨fun pins s σ H Q I h => let ⟨te, h1, h2⟩ := h; (h1 i).run pins s σ H Q I h2⟩
theorem anyT_ok {F : Fam} {e : Expr} (i : F.I) : PT (F.X i) e (anyT F e) := ⟨fun pins s σ H Q I h => let ⟨te, h1, h2⟩ := h; (h1 i).run pins s σ H Q I h2⟩
theorem anyW_ok {F : Fam} {e : Expr} (i : F.I) : PW (F.X i) e (anyW F e) := ⟨fun wh pins s σ H Q I h => let ⟨te, h1, h2⟩ := h; (h1 i).run wh pins s σ H Q I h2⟩
theorem anyA_ok {F : Fam} {e : List Expr} (i : F.I) : PA (F.X i) e (anyA F e) := ⟨fun pos pins s σ H Q I h => let ⟨te, h1, h2⟩ := h; (h1 i).run pos pins s σ H Q I h2⟩
theorem anyK_ok {F : Fam} {e : List Keyword} (i : F.I) : PK (F.X i) e (anyK F e) := ⟨fun pos pins s σ H Q I h => let ⟨te, h1, h2⟩ := h; (h1 i).run pos pins s σ H Q I h2⟩
theorem any1_ok {F : Fam} {e : Stmt} (i : F.I) : PS (F.X i) e (any1 F e) := ⟨fun pins s σ H Q I h => let ⟨te, h1, h2⟩ := h; (h1 i).run pins s σ H Q I h2⟩
theorem anyS_ok {F : Fam} {e : List Stmt} (i : F.I) : PSs (F.X i) e (anyS F e) := ⟨fun pins s σ H Q I h => let ⟨te, h1, h2⟩ := h; (h1 i).run pins s σ H Q I h2⟩
def DE (F : Fam) (e : Expr) (S S' : ST) (d : D) : Prop := EvM F.C (anyE F e) S S' d
def DT (F : Fam) (e : Expr) (S S' : ST) (b : Bool) : Prop := EvT F.C (anyT F e) S S' b
def DW (F : Fam) (e : Expr) (S S' : ST) (b : Bool) : Prop := EvT F.C (anyW F e) S S' b
def DA (F : Fam) (e : List Expr) (S S' : ST) (ds : List D) : Prop := EvA F.C (anyA F e) S S' ds
def DK (F : Fam) (e : List Keyword) (S S' : ST) (ds : List D) : Prop := EvA F.C (anyK F e) S S' ds
def DO (F : Fam) (e : Expr) (S S' : ST) (ds : List D) : Prop := EvO F.C (anyE F e) S S' ds
def D1 (F : Fam) (e : Stmt) (S : ST) (P : Po) : Prop := SD F.C (any1 F e) S P
def DS (F : Fam) (e : List Stmt) (S : ST) (P : Po) : Prop := SD F.C (anyS F e) S P
section
variable {F : Fam} {S S1 S2 S3 : ST} {e a b : Expr} {d x y z : D} {pos : Pos} {P : Po}
theorem de_of {te : TE} (h : ∀ i, PE (F.X i) e te) (v : EvM F.C te S S' d) : DE F e S S' d := fun σ G H c Q q => ⟨te, h, v σ G H c Q q⟩
theorem dt_of {te : TT} {b : Bool} (h : ∀ i, PT (F.X i) e te) (v : EvT F.C te S S' b) : DT F e S S' b := fun σ G H c Q q => ⟨te, h, v σ G H c Q q⟩
theorem dw_of {te : TT} {b : Bool} (h : ∀ i, PW (F.X i) e te) (v : EvT F.C te S S' b) : DW F e S S' b := fun σ G H c Q q => ⟨te, h, v σ G H c Q q⟩
theorem da_of {es : List Expr} {te : TA} {ds : List D} (h : ∀ i, PA (F.X i) es te) (v : EvA F.C te S S' ds) : DA F es S S' ds := fun σ G H c Q q => ⟨te, h, v σ G H c Q q⟩
theorem dk_of {es : List Keyword} {te : TA} {ds : List D} (h : ∀ i, PK (F.X i) es te) (v : EvA F.C te S S' ds) : DK F es S S' ds := fun σ G H c Q q => ⟨te, h, v σ G H c Q q⟩
theorem do_of {te : TE} {ds : List D} (h : ∀ i, PE (F.X i) e te) (v : EvO F.C te S S' ds) : DO F e S S' ds := fun σ G H c Q q => ⟨te, h, v σ G H c Q q⟩
theorem d1_of {st : Stmt} {te : TS} (h : ∀ i, PS (F.X i) st te) (v : SD F.C te S P) : D1 F st S P := fun σ G H c E m => ⟨te, h, v σ G H c E m⟩
theorem ds_of {st : List Stmt} {te : TS} (h : ∀ i, PSs (F.X i) st te) (v : SD F.C te S P) : DS F st S P := fun σ G H c E m => ⟨te, h, v σ G H c E m⟩
structure Pu (G H G2 H2 : Hp) : Prop where
  hh : KT H H2
  gg : Same G G2
  sub : Sub G2 H2
  fr : ∀ a, H a ≠ none → G a = none → G2 a = none
theorem Pu.refl {G H : Hp} (s : Sub G H) : Pu G H G H := ⟨KT.refl _, fun _ _ h => h, s, fun _ _ h => h⟩
theorem Pu.trans {G H G1 H1 G2 H2 : Hp} (a : Pu G H G1 H1) (b : Pu G1 H1 G2 H2) : Pu G H G2 H2 :=
  ⟨a.hh.trans b.hh, a.gg.trans b.gg, b.sub, fun x h1 h2 => b.fr x (a.hh.d x h1) (a.fr x h1 h2)⟩
theorem Pu.new {G H : Hp} {p : Addr} {o : HO} (s : Sub G H) (hp : H p = none) : Pu G H (upd G p o) (upd H p o) := by
  have gp : G p = none := s.free hp
  have kk : Same H (upd H p o) := fun a u h => by rw [upd_ne (ne_of_none h hp)]; exact h
  have fr : ∀ a, H a ≠ none → G a = none → upd G p o a = none := fun a h1 h2 => by
    have e : a ≠ p := fun z => h1 (by rw [z]; exact hp)
    rw [upd_ne e]; exact h2
  refine ⟨Same.kt kk, fun a u h => ?_, ⟨fun a u h => ?_, s.t.ext kk, fun q hq => fr _ (tabs_there s.t q hq) (s.n q hq)⟩, fun a h1 h2 => ?_⟩
  · rw [upd_ne (ne_of_none h gp)]; exact h
  · by_cases e : a = p
    · subst e; rw [upd_same] at h ⊢; exact h
    · rw [upd_ne e] at h ⊢; exact s _ _ h
  · have e : a ≠ p := fun z => h1 (by rw [z]; exact hp)
    rw [upd_ne e]; exact h2
theorem Ctx.pu {C : Kc} {G H G2 H2 : Hp} {σ : L2.St} {S : ST} (c : Ctx C G H σ S) (p : Pu G H G2 H2) : Mv C σ S G H S G2 H2 := c.mv p.hh p.gg p.sub p.fr
theorem Mv.pu {C : Kc} {G H G1 H1 G2 H2 : Hp} {σ : L2.St} {S S1 : ST} (m : Mv C σ S G H S1 G1 H1) (p : Pu G1 H1 G2 H2) : Mv C σ S G H S1 G2 H2 := m.trans (m.cx.pu p)
def RD (C : Kc) (r : R2) (x y z : D) : Prop := ∀ G H u v, Sub G H → Den C G u x → Den C G v y → ∀ Q : VK, (∀ w G2 H2, Pu G H G2 H2 → Den C G2 w z → Q w H2) → r u v H Q
def RD1 (C : Kc) (r : V → Hp → VK → Prop) (x z : D) : Prop := ∀ G H u, Sub G H → Den C G u x → ∀ Q : VK, (∀ w G2 H2, Pu G H G2 H2 → Den C G2 w z → Q w H2) → r u H Q
def RDL (C : Kc) (r : List V → Hp → VK → Prop) (xs : List D) (z : D) : Prop := ∀ G H us, Sub G H → DenL C G us xs → ∀ Q : VK, (∀ w G2 H2, Pu G H G2 H2 → Den C G2 w z → Q w H2) → r us H Q
theorem de_var {j : Nat} {x : Str} (h : S.s[j]? = some (some (.imm d))) (hN : ∀ i, (F.X i).N[j]? = some x := by intro _; rfl)
    (hv : ∀ i, Vis (F.X i).env.scope x := by intro _; first | exact Or.inl rfl | exact Or.inr (Or.inl rfl) | exact Or.inr (Or.inr rfl))
    (hd : (x == ("__debug__" : Str)) = false := by decide) (hcd : (x == ("__classdict__" : Str)) = false := by decide) : DE F (.Name x pos) S S d :=
  de_of (fun i => pe_var (hN i) (hv i) hd hcd) fun σ G H c Q q => by
    obtain ⟨v, h1, h2⟩ := c.im j d h
    exact ⟨v, h1, q v G H (.refl c) h2⟩
theorem de_int {i : Int} {k : Nat} : DE F (.Constant (.int i) k pos) S S (.int i) := de_of (fun _ => pe_int) fun _ _ _ c _ q => q _ _ _ (.refl c) (.int i)
theorem de_bl {i : Bool} {k : Nat} : DE F (.Constant (.bool i) k pos) S S (.bl i) := de_of (fun _ => pe_bl) fun _ _ _ c _ q => q _ _ _ (.refl c) (.bl i)
theorem de_str {i : Str} {k : Nat} : DE F (.Constant (.str i) k pos) S S (.str i) := de_of (fun _ => pe_str) fun _ _ _ c _ q => q _ _ _ (.refl c) (.str i)
theorem de_glob {x : Str} {v : V} {u : Value} (hm : F.mg x = some u) (r : RelV v u) (hd : ∀ G, Den F.C G v d) (hg : ∀ i, Gl (F.X i) x := by intro _; rfl) (hb : (x == ("__debug__" : Str)) = false := by decide) : DE F (.Name x pos) S S d :=
  de_of (fun i => pe_glob (hg i) (by rw [F.hmg i]; exact hm) r hb) fun _ G _ c _ q => q _ _ _ (.refl c) (hd G)
theorem de_bltn {x : Str} {v : V} {u : Value} (hm : F.mg x = none) (hv : bootBuiltins x = some u) (r : RelV v u) (hg : ∀ i, Gl (F.X i) x := by intro _; rfl) (hn : x ≠ "__name__" := by decide) (hb : (x == ("__debug__" : Str)) = false := by decide) : DE F (.Name x pos) S S (.cst v) :=
  de_of (fun i => pe_bltn (hg i) (by rw [F.hmg i]; exact hm) hv r hn hb) fun _ G _ c _ q => q _ _ _ (.refl c) (.cst v)
def OpD (F : Fam) (f : Value → Value → Sem Value) (x y z : D) : Prop := ∃ r, (∀ i, OpR (F.X i) f r) ∧ RD F.C r x y z
def UnD (F : Fam) (f : Value → Sem Value) (x z : D) : Prop := ∃ r, (∀ i, UnR (F.X i) f r) ∧ RD1 F.C r x z
theorem ev_op {C : Kc} {r : R2} {ta tb : TE} (hr : RD C r x y z) (ha : EvM C ta S S1 x) (hb : EvM C tb S1 S2 y) : EvM C (tOp r ta tb) S S2 z := fun σ G H c Q q =>
  ha σ G H c _ fun u G1 H1 m1 d1 => hb σ G1 H1 m1.cx _ fun v G2 H2 m2 d2 => hr G2 H2 u v m2.cx.sub (d1.mono m2.go.gg) d2 Q fun w G3 H3 p d3 => q w G3 H3 ((m1.trans m2).pu p) d3
theorem de_op {op : Operator} (ha : DE F a S S1 x) (hb : DE F b S1 S2 y) (hr : OpD F (binaryOp op) x y z) : DE F (.BinOp a op b pos) S S2 z := by
  obtain ⟨r, h1, h2⟩ := hr
  exact de_of (fun i => pe_op (h1 i) (anyE_ok i) (anyE_ok i)) (ev_op h2 ha hb)
theorem de_un {op : UnaryOp} (ha : DE F a S S1 x) (hr : UnD F (unaryOp op) x z) : DE F (.UnaryOp op a pos) S S1 z := by
  obtain ⟨r, h1, h2⟩ := hr
  exact de_of (fun i => pe_un (h1 i) (anyE_ok i)) fun σ G H c Q q => ha σ G H c _ fun u G1 H1 m1 d1 => h2 G1 H1 u m1.cx.sub d1 Q fun w G2 H2 p d2 => q w G2 H2 (m1.pu p) d2
theorem de_cmp {op : CmpOp} (ha : DE F a S S1 x) (hb : DE F b S1 S2 y) (hr : OpD F (compareOp op) x y z) (hm : behindInMarks op b = false := by first | exact nomark _ | rfl) : DE F (.Compare a [op] [b] pos) S S2 z := by
  obtain ⟨r, h1, h2⟩ := hr
  exact de_of (fun i => pe_cmpR (h1 i) (anyE_ok i) (anyE_ok i) hm) (ev_op h2 ha hb)
theorem dt_cmp {op : CmpOp} {k : Bool} (ha : DE F a S S1 x) (hb : DE F b S1 S2 y) (hr : OpD F (compareOp op) x y (.bl k)) (hm : behindInMarks op b = false := by first | exact nomark _ | rfl) : DT F (.Compare a [op] [b] pos) S S2 k := by
  obtain ⟨r, h1, h2⟩ := hr
  refine dt_of (fun i => pt_cmpR (h1 i) (anyE_ok i) (anyE_ok i) hm) fun σ G H c Q q => ?_
  refine ev_op h2 ha hb σ G H c _ fun v G2 H2 m d => ?_
  cases d with
  | bl => exact ⟨k, rfl, q G2 H2 m⟩
theorem de_chain {op op' : CmpOp} {c : Expr} {w : D} {k l : Bool} (ha : DE F a S S1 x) (hb : DE F b S1 S2 y) (hc : k = true → DE F c S2 S3 w) (hr : OpD F (compareOp op) x y (.bl k)) (hr' : k = true → OpD F (compareOp op') y w (.bl l)) (h0 : k = false → S2 = S3 := by intro _; rfl) (hm : lastMarks [op, op'] [b, c] = false := by with_unfolding_all rfl) : DE F (.Compare a [op, op'] [b, c] pos) S S3 (.bl (k && l)) := by
  obtain ⟨r, h1, h2⟩ := hr
  cases k with
  | true =>
    obtain ⟨r', h1', h2'⟩ := hr' rfl
    refine de_of (fun i => pe_chain (h1 i) (h1' i) (anyE_ok i) (anyE_ok i) (anyE_ok i) (hm := hm)) fun σ G H c' Q q => ?_
    refine ha σ G H c' _ fun u G1 H1 m1 d1 => hb σ G1 H1 m1.cx _ fun v G2 H2 m2 d2 => h2 G2 H2 u v m2.cx.sub (d1.mono m2.go.gg) d2 _ fun t G3 H3 p d3 => ?_
    cases d3 with
    | bl =>
      refine ⟨true, rfl, ?_⟩
      rw [if_pos rfl]
      have m3 := (m1.trans m2).pu p
      refine hc rfl σ G3 H3 m3.cx _ fun t' G4 H4 m4 d4 => h2' G4 H4 v t' m4.cx.sub ((d2.mono p.gg).mono m4.go.gg) d4 _ fun w5 G5 H5 p5 d5 => ?_
      exact q _ _ _ ((m3.trans m4).pu p5) d5
  | false =>
    cases h0 rfl
    refine de_of (fun i => pe_chain (h1 i) (fun _ _ _ _ _ _ _ _ _ _ _ _ z => False.elim z : OpR (F.X i) (compareOp op') fun _ _ _ _ => False) (anyE_ok i) (anyE_ok i) (anyE_ok i) (hm := hm)) fun σ G H c' Q q => ?_
    refine ha σ G H c' _ fun u G1 H1 m1 d1 => hb σ G1 H1 m1.cx _ fun v G2 H2 m2 d2 => h2 G2 H2 u v m2.cx.sub (d1.mono m2.go.gg) d2 _ fun t G3 H3 p d3 => ?_
    cases d3 with
    | bl =>
      refine ⟨false, rfl, ?_⟩
      rw [if_neg Bool.false_ne_true]
      exact q _ _ _ ((m1.trans m2).pu p) (.bl false)
theorem rd_I0 {C : Kc} {g : Int → Int → V} {i j : Int} {z : D} (h : ∀ G, Den C G (g i j) z) : RD C (rI0 g) (.int i) (.int j) z := fun G H u v s hu hv Q q => by
  cases hu; cases hv
  exact ⟨i, j, rfl, rfl, q _ _ _ (.refl s) (h G)⟩
theorem rd_I {C : Kc} {c : Int → Int → Prop} {g : Int → Int → V} {i j : Int} {z : D} (hc : c i j) (h : ∀ G, Den C G (g i j) z) : RD C (rI c g) (.int i) (.int j) z := fun G H u v s hu hv Q q => by
  cases hu; cases hv
  exact ⟨i, j, rfl, rfl, hc, q _ _ _ (.refl s) (h G)⟩
theorem od_add {i j : Int} : OpD F (binaryOp .Add) (.int i) (.int j) (.int (i + j)) := ⟨_, fun _ => op_add, rd_I0 fun _ => .int _⟩
theorem od_sub {i j : Int} : OpD F (binaryOp .Sub) (.int i) (.int j) (.int (i - j)) := ⟨_, fun _ => op_sub, rd_I0 fun _ => .int _⟩
theorem od_mul {i j : Int} (h : CMul i j) : OpD F (binaryOp .Mult) (.int i) (.int j) (.int (i * j)) := ⟨_, fun _ => op_mul, rd_I h fun _ => .int _⟩
theorem od_mod {i j : Int} (h : 0 < j) : OpD F (binaryOp .Mod) (.int i) (.int j) (.int (i % j)) := ⟨_, fun _ => op_mod, rd_I h fun _ => .int _⟩
theorem od_pow {i j : Int} (h : CPow i j) : OpD F (binaryOp .Pow) (.int i) (.int j) (.int (i ^ j.toNat)) := ⟨_, fun _ => op_pow, rd_I h fun _ => .int _⟩
theorem od_lt {i j : Int} : OpD F (compareOp .Lt) (.int i) (.int j) (.bl (decide (i < j))) := ⟨_, fun _ => op_lt, rd_I0 fun _ => .bl _⟩
theorem od_le {i j : Int} : OpD F (compareOp .LtE) (.int i) (.int j) (.bl (decide (i ≤ j))) := ⟨_, fun _ => op_le, rd_I0 fun _ => .bl _⟩
theorem od_gt {i j : Int} : OpD F (compareOp .Gt) (.int i) (.int j) (.bl (decide (j < i))) := ⟨_, fun _ => op_gt, rd_I0 fun _ => .bl _⟩
theorem od_ge {i j : Int} : OpD F (compareOp .GtE) (.int i) (.int j) (.bl (decide (j ≤ i))) := ⟨_, fun _ => op_ge, rd_I0 fun _ => .bl _⟩
theorem ud_neg {i : Int} : UnD F (unaryOp .USub) (.int i) (.int (-i)) := ⟨_, fun _ => un_neg, fun G H u s hu Q q => by
  cases hu
  exact ⟨i, rfl, q _ _ _ (.refl s) (.int _)⟩⟩
theorem od_eqI {i j : Int} : OpD F (compareOp .Eq) (.int i) (.int j) (.bl (decide (i = j))) := ⟨_, fun _ => op_eq, fun G H u v s hu hv Q q => by
  cases hu; cases hv
  refine ⟨rfl, ?_⟩
  have e : decide (V.int i = V.int j) = decide (i = j) := by rw [dec_int]; by_cases h : i = j <;> simp [h]
  rw [e]
  exact q _ _ _ (.refl s) (.bl _)⟩
theorem od_neI {i j : Int} : OpD F (compareOp .NotEq) (.int i) (.int j) (.bl (!decide (i = j))) := ⟨_, fun _ => op_ne, fun G H u v s hu hv Q q => by
  cases hu; cases hv
  refine ⟨rfl, ?_⟩
  have e : decide (V.int i = V.int j) = decide (i = j) := by rw [dec_int]; by_cases h : i = j <;> simp [h]
  rw [e]
  exact q _ _ _ (.refl s) (.bl _)⟩
theorem od_eqB {i j : Bool} : OpD F (compareOp .Eq) (.bl i) (.bl j) (.bl (decide (i = j))) := ⟨_, fun _ => op_eq, fun G H u v s hu hv Q q => by
  cases hu; cases hv
  refine ⟨rfl, ?_⟩
  have e : decide (V.bl i = V.bl j) = decide (i = j) := by cases i <;> cases j <;> rfl
  rw [e]
  exact q _ _ _ (.refl s) (.bl _)⟩
theorem od_neB {i j : Bool} : OpD F (compareOp .NotEq) (.bl i) (.bl j) (.bl (!decide (i = j))) := ⟨_, fun _ => op_ne, fun G H u v s hu hv Q q => by
  cases hu; cases hv
  refine ⟨rfl, ?_⟩
  have e : decide (V.bl i = V.bl j) = decide (i = j) := by cases i <;> cases j <;> rfl
  rw [e]
  exact q _ _ _ (.refl s) (.bl _)⟩
theorem dt_val {k : Bool} (h : DE F e S S1 (.bl k)) (he : ∀ i whole, isTrue e (F.X i).env whole = (do let v ← whole; standAt e.pos; holding [v] (truthy v)) := by intro _ _; rfl) : DT F e S S1 k :=
  dt_of (fun i => pt_val (anyE_ok i) (he i)) fun σ G H c Q q => h σ G H c _ fun v G2 H2 m d => by
    cases d with
    | bl => exact ⟨k, rfl, q G2 H2 m⟩
theorem dt_w {k : Bool} (h : DW F e S S1 k) : DT F e S S1 k := dt_of (fun i => (anyW_ok i).pt) h
theorem dw_and1 {k : Bool} (h : DT F a S S1 k) : DW F (.BoolOp .And [a] pos) S S1 k := dw_of (fun i => pw_and1 (anyT_ok i)) h
theorem dw_or1 {k : Bool} (h : DT F a S S1 k) : DW F (.BoolOp .Or [a] pos) S S1 k := dw_of (fun i => pw_or1 (anyT_ok i)) h
theorem dw_and {k l : Bool} {rest : List Expr} (h : DT F a S S1 k) (h2 : k = true → DW F (.BoolOp .And (b :: rest) pos) S1 S2 l) (h0 : k = false → S1 = S2 := by intro _; rfl) : DW F (.BoolOp .And (a :: b :: rest) pos) S S2 (k && l) :=
  dw_of (fun i => pw_and (anyT_ok i) (anyW_ok i)) fun σ G H c Q q => h σ G H c _ fun G1 H1 m => by
    cases k with
    | true => rw [if_pos rfl]; exact h2 rfl σ G1 H1 m.cx _ fun G2 H2 m2 => q G2 H2 (m.trans m2)
    | false => rw [if_neg Bool.false_ne_true]; cases h0 rfl; exact q G1 H1 m
theorem dw_or {k l : Bool} {rest : List Expr} (h : DT F a S S1 k) (h2 : k = false → DW F (.BoolOp .Or (b :: rest) pos) S1 S2 l) (h0 : k = true → S1 = S2 := by intro _; rfl) : DW F (.BoolOp .Or (a :: b :: rest) pos) S S2 (k || l) :=
  dw_of (fun i => pw_or (anyT_ok i) (anyW_ok i)) fun σ G H c Q q => h σ G H c _ fun G1 H1 m => by
    cases k with
    | false => rw [if_neg Bool.false_ne_true]; exact h2 rfl σ G1 H1 m.cx _ fun G2 H2 m2 => q G2 H2 (m.trans m2)
    | true => rw [if_pos rfl]; cases h0 rfl; exact q G1 H1 m
theorem dt_not {k : Bool} (h : DT F a S S1 k) : DT F (.UnaryOp .Not a pos) S S1 (!k) := dt_of (fun i => pt_not (anyT_ok i)) fun σ G H c Q q => h σ G H c _ fun G2 H2 m => q G2 H2 m
theorem de_one {op : BoolOp} (h : DE F a S S1 d) : DE F (.BoolOp op [a] pos) S S1 d := de_of (fun i => pe_one (anyE_ok i)) h
theorem de_and {k l : Bool} {rest : List Expr} (h : DE F a S S1 (.bl k)) (h2 : k = true → DE F (.BoolOp .And (b :: rest) pos) S1 S2 (.bl l)) (h0 : k = false → S1 = S2 := by intro _; rfl) : DE F (.BoolOp .And (a :: b :: rest) pos) S S2 (.bl (k && l)) :=
  de_of (fun i => pe_and (anyE_ok i) (anyE_ok i)) fun σ G H c Q q => h σ G H c _ fun v G1 H1 m dv => by
    cases dv with
    | bl =>
      refine ⟨k, rfl, ?_⟩
      cases k with
      | true => rw [if_pos rfl]; exact h2 rfl σ G1 H1 m.cx _ fun v2 G2 H2 m2 d2 => q v2 G2 H2 (m.trans m2) d2
      | false => rw [if_neg Bool.false_ne_true]; cases h0 rfl; exact q _ G1 H1 m (.bl false)
theorem de_or {k l : Bool} {rest : List Expr} (h : DE F a S S1 (.bl k)) (h2 : k = false → DE F (.BoolOp .Or (b :: rest) pos) S1 S2 (.bl l)) (h0 : k = true → S1 = S2 := by intro _; rfl) : DE F (.BoolOp .Or (a :: b :: rest) pos) S S2 (.bl (k || l)) :=
  de_of (fun i => pe_or (anyE_ok i) (anyE_ok i)) fun σ G H c Q q => h σ G H c _ fun v G1 H1 m dv => by
    cases dv with
    | bl =>
      refine ⟨k, rfl, ?_⟩
      cases k with
      | false => rw [if_neg Bool.false_ne_true]; exact h2 rfl σ G1 H1 m.cx _ fun v2 G2 H2 m2 d2 => q v2 G2 H2 (m.trans m2) d2
      | true => rw [if_pos rfl]; cases h0 rfl; exact q _ G1 H1 m (.bl true)
theorem de_not {k : Bool} (h : DE F a S S1 (.bl k)) : DE F (.UnaryOp .Not a pos) S S1 (.bl (!k)) := de_of (fun i => pe_not (anyE_ok i)) fun σ G H c Q q => h σ G H c _ fun v G1 H1 m dv => by
  cases dv with
  | bl => exact ⟨k, rfl, q _ G1 H1 m (.bl _)⟩
theorem de_if {c : Expr} {k : Bool} (hc : DT F c S S1 k) (h1 : k = true → DE F a S1 S2 d) (h2 : k = false → DE F b S1 S2 d) : DE F (.IfExp c a b pos) S S2 d :=
  de_of (fun i => pe_ifExp (anyT_ok i) (anyE_ok i) (anyE_ok i)) fun σ G H cx Q q => hc σ G H cx _ fun G1 H1 m => by
    cases k with
    | true => rw [if_pos rfl]; exact h1 rfl σ G1 H1 m.cx _ fun v2 G2 H2 m2 d2 => q v2 G2 H2 (m.trans m2) d2
    | false => rw [if_neg Bool.false_ne_true]; exact h2 rfl σ G1 H1 m.cx _ fun v2 G2 H2 m2 d2 => q v2 G2 H2 (m.trans m2) d2
theorem da_nil : DA F [] S S [] := da_of (fun _ => pa_nil) fun _ _ _ c _ q => q _ _ _ (.refl c) .nil
theorem da_cons {es : List Expr} {ds : List D} (h : DE F e S S1 d) (hr : DA F es S1 S2 ds) (hs : ∀ i, starEach (e :: es) (F.X i).env = (false, eval e (F.X i).env) :: starEach es (F.X i).env := by intro _; rfl) : DA F (e :: es) S S2 (d :: ds) :=
  da_of (fun i => pa_cons (anyE_ok i) (anyA_ok i) (hs i)) fun σ G H c Q q => h σ G H c _ fun v G1 H1 m d1 => hr σ G1 H1 m.cx _ fun vs G2 H2 m2 d2 => q _ G2 H2 (m.trans m2) (.cons (d1.mono m2.go.gg) d2)
theorem dk_nil : DK F [] S S [] := dk_of (fun _ => pk_nil) fun _ _ _ c _ q => q _ _ _ (.refl c) .nil
theorem dk_cons {nm : Option Str} {kpos : Pos} {es : List Keyword} {ds : List D} (h : DE F e S S1 d) (hr : DK F es S1 S2 ds) : DK F (⟨nm, e, kpos⟩ :: es) S S2 (d :: ds) :=
  dk_of (fun i => pk_cons (anyE_ok i) (anyK_ok i)) fun σ G H c Q q => h σ G H c _ fun v G1 H1 m d1 => hr σ G1 H1 m.cx _ fun vs G2 H2 m2 d2 => q _ G2 H2 (m.trans m2) (.cons (d1.mono m2.go.gg) d2)
theorem de_tup {es : List Expr} {x1 : Nat} {ds : List D} (h : DA F es S S1 ds) (hl : ds.length ≤ sizeLine := by decide) : DE F (.Tuple es x1 pos) S S1 (.tup ds) :=
  de_of (fun i => pe_tup (anyA_ok i)) fun σ G H c Q q => h σ G H c _ fun vs G1 H1 m dl => ⟨by rw [dl.length]; exact hl, fun p hp => by
    have n := m.cx.new (o := .tup vs) hp
    exact q _ _ _ (m.trans n) (.tup (SqT.of upd_same) (dl.mono n.go.gg))⟩
theorem de_lst {es : List Expr} {ds : List D} (h : DA F es S S1 ds) (hl : ds.length ≤ sizeLine := by decide) : DE F (.List es pos) S S1 (.lst ds) :=
  de_of (fun i => pe_lst (anyA_ok i)) fun σ G H c Q q => h σ G H c _ fun vs G1 H1 m dl => ⟨by rw [dl.length]; exact hl, fun p hp => by
    have n := m.cx.new (o := .lst vs) hp
    exact q _ _ _ (m.trans n) (.lst (SqL.of upd_same) (dl.mono n.go.gg))⟩
theorem atI_den {C : Kc} {G : Hp} {vs : List V} {ds : List D} {i : Int} {d : D} (h : DenL C G vs ds) (e : atI ds i = some d) : ∃ v, atI vs i = some v ∧ Den C G v d := by
  unfold atI at e ⊢
  rw [h.length]
  cases q : ixN ds.length i with
  | none => rw [q] at e; cases e
  | some j =>
    rw [q] at e
    exact h.get e
theorem de_ixT {i : Int} {ds : List D} (ha : DE F a S S1 (.tup ds)) (hb : DE F b S1 S2 (.int i)) (hi : atI ds i = some d) (hs : PlainIx b := by intro _ _; rfl) : DE F (.Subscript a b pos) S S2 d :=
  de_of (te := tOp (rIxT F.C.K) (anyE F a) (anyE F b)) (fun j => by have := pe_ix (pos := pos) (ix_tup (X := F.X j)) (anyE_ok (e := a) j) (anyE_ok (e := b) j) hs; rw [F.hK j] at this; exact this)
    (ev_op (fun G H u v s hu hv Q q => by
      cases hu with
      | tup h l =>
        cases hv
        obtain ⟨w, h1, h2⟩ := atI_den l hi
        exact ⟨_, _, i, w, rfl, rfl, same_t s h, h1, q _ _ _ (.refl s) h2⟩) ha hb)
theorem de_ixL {i : Int} {ds : List D} (ha : DE F a S S1 (.lst ds)) (hb : DE F b S1 S2 (.int i)) (hi : atI ds i = some d) (hs : PlainIx b := by intro _ _; rfl) : DE F (.Subscript a b pos) S S2 d :=
  de_of (te := tOp (rIxL F.C.K) (anyE F a) (anyE F b)) (fun j => by have := pe_ix (pos := pos) (ix_list (X := F.X j)) (anyE_ok (e := a) j) (anyE_ok (e := b) j) hs; rw [F.hK j] at this; exact this)
    (ev_op (fun G H u v s hu hv Q q => by
      cases hu with
      | lst h l =>
        cases hv
        obtain ⟨w, h1, h2⟩ := atI_den l hi
        exact ⟨_, _, i, w, rfl, rfl, s.seq h, h1, q _ _ _ (.refl s) h2⟩) ha hb)
theorem ev_bag {C : Kc} {tb : TE} {j : Nat} {i : Int} {bb : Addr} {ds : List D} (hj : S.s[j]? = some (some .bag)) (hb : EvM C tb S S1 (.int i)) (hj1 : S1.g = some (bb, .lst ds)) (hg : S.g = some (bb, .lst ds)) (hi : atI ds i = some d) : EvM C (tOp (rIxL C.K) (tVar j) tb) S S1 d := fun σ G H c Q q =>
  ⟨_, c.bg j _ _ hg hj, hb σ G H c _ fun v G1 H1 m dv => by
    cases dv
    have z := m.cx.bag
    rw [hj1] at z
    obtain ⟨_, vs, z2, z3⟩ := z
    obtain ⟨w, h1, h2⟩ := atI_den z3 hi
    exact ⟨_, vs, i, w, rfl, rfl, SqL.of z2, h1, q _ _ _ m h2⟩⟩
theorem de_bagIx {j : Nat} {x : Str} {i : Int} {p : Pos} {bb : Addr} {ds : List D} (hj : S.s[j]? = some (some .bag)) (hb : DE F b S S1 (.int i)) (hj1 : S1.g = some (bb, .lst ds)) (hg : S.g = some (bb, .lst ds)) (hi : atI ds i = some d) (hs : PlainIx b := by intro _ _; rfl)
    (hN : ∀ i, (F.X i).N[j]? = some x := by intro _; rfl) (hv : ∀ i, Vis (F.X i).env.scope x := by intro _; first | exact Or.inl rfl | exact Or.inr (Or.inl rfl) | exact Or.inr (Or.inr rfl))
    (hd : (x == ("__debug__" : Str)) = false := by decide) (hcd : (x == ("__classdict__" : Str)) = false := by decide) : DE F (.Subscript (.Name x p) b pos) S S1 d :=
  de_of (te := tOp (rIxL F.C.K) (tVar j) (anyE F b)) (fun k => by have := pe_ix (pos := pos) (ix_list (X := F.X k)) (pe_var (pos := p) (hN k) (hv k) hd hcd) (anyE_ok (e := b) k) hs; rw [F.hK k] at this; exact this) (ev_bag hj hb hj1 hg hi)
def CaD (F : Fam) (f : Value) (xs : List D) (z : D) : Prop := ∃ r, (∀ i, CallR (F.X i) f r) ∧ RDL F.C r xs z
theorem ev_cb {C : Kc} {r : List V → Hp → VK → Prop} {ta : TA} {ds : List D} (hr : RDL C r ds z) (ha : EvA C ta S S1 ds) : EvM C (tCB r ta) S S1 z := fun σ G H c Q q =>
  ha σ G H c _ fun vs G1 H1 m dl => hr G1 H1 vs m.cx.sub dl Q fun w G2 H2 p d2 => q w G2 H2 (m.pu p) d2
theorem de_callB {x : Str} {id : String} {p : Pos} {es : List Expr} {ds : List D} (hm : F.mg x = none) (hv : bootBuiltins x = some (.builtin id)) (ha : DA F (e :: es) S S1 ds) (hr : CaD F (.builtin id) ds z)
    (hg : ∀ i, Gl (F.X i) x := by intro _; rfl) (hn : x ≠ "__name__" := by decide) (hdb : (x == ("__debug__" : Str)) = false := by decide)
    (he : ∀ i, starEach (e :: es) (F.X i).env = (false, eval e (F.X i).env) :: starEach es (F.X i).env := by intro _; rfl) (hpl : ∀ i, (backTo pos (starEach es (F.X i).env)).any (·.1) = false := by intro _; rfl) : DE F (.Call (.Name x p) (e :: es) [] pos) S S1 z := by
  obtain ⟨r, h1, h2⟩ := hr
  exact de_of (fun i => pe_callB (h1 i) (hg i) (by rw [F.hmg i]; exact hm) hv (anyA_ok i) hn hdb (he i) (hpl i)) (ev_cb h2 ha)
theorem de_callTy {x : Str} {T : String} {p : Pos} {es : List Expr} {ds : List D} (hm : F.mg x = none) (hv : bootBuiltins x = some (.type T)) (ha : DA F (e :: es) S S1 ds) (hr : CaD F (.type T) ds z)
    (hg : ∀ i, Gl (F.X i) x := by intro _; rfl) (hn : x ≠ "__name__" := by decide) (hdb : (x == ("__debug__" : Str)) = false := by decide)
    (he : ∀ i, starEach (e :: es) (F.X i).env = (false, eval e (F.X i).env) :: starEach es (F.X i).env := by intro _; rfl) (hpl : ∀ i, (backTo pos (starEach es (F.X i).env)).any (·.1) = false := by intro _; rfl) : DE F (.Call (.Name x p) (e :: es) [] pos) S S1 z := by
  obtain ⟨r, h1, h2⟩ := hr
  exact de_of (fun i => pe_callTy (h1 i) (hg i) (by rw [F.hmg i]; exact hm) hv (anyA_ok i) hn hdb (he i) (hpl i)) (ev_cb h2 ha)
theorem ca_abs {i : Int} : CaD F (.builtin "abs") [.int i] (.int (if i < 0 then -i else i)) := ⟨_, fun _ => call_abs, fun G H us s h Q q => by
  cases h with
  | cons h l => cases h; cases l; exact ⟨i, rfl, q _ _ _ (.refl s) (.int _)⟩⟩
theorem ca_int {i : Int} : CaD F (.type "int") [.int i] (.int i) := ⟨_, fun _ => call_int1, fun G H us s h Q q => by
  cases h with
  | cons h l => cases h; cases l; exact .inl ⟨i, rfl, q _ _ _ (.refl s) (.int _)⟩⟩
theorem ca_intB {k : Bool} : CaD F (.type "int") [.bl k] (.int (if k then 1 else 0)) := ⟨_, fun _ => call_int1, fun G H us s h Q q => by
  cases h with
  | cons h l => cases h; cases l; exact .inr ⟨k, rfl, q _ _ _ (.refl s) (.int _)⟩⟩
theorem ca_max [Calm F] {i j : Int} : CaD F (.builtin "max") [.int i, .int j] (.int (if j > i then j else i)) := ⟨_, fun k => call_max2 (F.calm k), fun G H us s h Q q => by
  cases h with
  | cons h l => cases l with
    | cons h2 l => cases h; cases h2; cases l; exact ⟨i, j, rfl, q _ _ _ (.refl s) (.int _)⟩⟩
theorem ca_min [Calm F] {i j : Int} : CaD F (.builtin "min") [.int i, .int j] (.int (if j < i then j else i)) := ⟨_, fun k => call_min2 (F.calm k), fun G H us s h Q q => by
  cases h with
  | cons h l => cases l with
    | cons h2 l => cases h; cases h2; cases l; exact ⟨i, j, rfl, q _ _ _ (.refl s) (.int _)⟩⟩
theorem ca_lenT {ds : List D} : CaD F (.builtin "len") [.tup ds] (.int ds.length) := ⟨fun xs H Q => ∃ p ys, xs = [.ref p] ∧ (SqL F.C.K H p ys ∨ SqT F.C.K H p ys) ∧ Q (.int ys.length) H, fun i => by have := call_len_seq (X := F.X i); rw [F.hK i] at this; exact this, fun G H us s h Q q => by
  cases h with
  | cons h l => cases h with
    | tup h1 h2 => cases l; exact ⟨_, _, rfl, .inr (same_t s h1), q _ _ _ (.refl s) (by rw [h2.length]; exact .int _)⟩⟩
theorem ca_lenL {ds : List D} : CaD F (.builtin "len") [.lst ds] (.int ds.length) := ⟨fun xs H Q => ∃ p ys, xs = [.ref p] ∧ (SqL F.C.K H p ys ∨ SqT F.C.K H p ys) ∧ Q (.int ys.length) H, fun i => by have := call_len_seq (X := F.X i); rw [F.hK i] at this; exact this, fun G H us s h Q q => by
  cases h with
  | cons h l => cases h with
    | lst h1 h2 => cases l; exact ⟨_, _, rfl, .inl (s.seq h1), q _ _ _ (.refl s) (by rw [h2.length]; exact .int _)⟩⟩
theorem ca_lenS {x : Str} (hx : x.length ≤ sizeLine) : CaD F (.builtin "len") [.str x] (.int x.length) := ⟨_, fun _ => call_len_str, fun G H us s h Q q => by
  cases h with
  | cons h l => cases h; cases l; exact ⟨x, rfl, hx, q _ _ _ (.refl s) (.int _)⟩⟩
end
end DL
namespace DL
open PySem L2
variable [TabL]
def spP (C : Kc) (R : List D → D → Prop) : Sp := fun vs H Q _ => ∃ (G : Hp) (ds : List D) (d : D), R ds d ∧ Sub G H ∧ DenL C G vs ds ∧ ∀ v G2 H2, Pu G H G2 H2 → Den C G2 v d → Q v H2
def spB (C : Kc) (R : List D → List D → D → List D → Prop) : Sp := fun vs H Q _ => ∃ (G : Hp) (b : Addr) (ws gv : List V) (ds gs : List D) (d : D) (gs' : List D), vs = .ref b :: ws ∧ R ds gs d gs' ∧ Sub G H ∧ G b = none ∧ H b = some (.lst gv) ∧ DenL C G gv gs ∧ DenL C G ws ds ∧
  ∀ v G2 H2 gv', Go (fun a => a = b) G H G2 H2 → Sub G2 H2 → G2 b = none → H2 b = some (.lst gv') → DenL C G2 gv' gs' → Den C G2 v d → Q v H2
def spO (C : Kc) (R : List D → List D → Prop) : Sp := fun vs H Q _ => ∃ (G : Hp) (ds es : List D), R ds es ∧ Sub G H ∧ DenL C G vs ds ∧ ∀ p ev G2 H2, Pu G H G2 H2 → H p = none → G2 p = none → H2 p = some (.lst ev) → DenL C G2 ev es → Q (.ref p) H2
def spI (C : Kc) (c : Nat) (R : List D → List (Str × D) → Prop) : Sp := fun vs H Q _ => ∃ (G : Hp) (b dx : Addr) (ws : List V) (ds : List D) (fs : List (Str × D)), vs = .ref b :: ws ∧ R ds fs ∧ Sub G H ∧ G b = none ∧ H b = some (.ins (C.cl c) dx []) ∧ DenL C G ws ds ∧
  ∀ G2 H2 dx2 fv, Go (fun a => a = b) G H G2 H2 → Sub G2 H2 → G2 b = none → H2 b = some (.ins (C.cl c) dx2 fv) → DenF C G2 fv fs → Q .non H2
def perm {α : Type} : List Nat → List α → List α
  | [], _ => []
  | i :: r, xs => match xs[i]? with
    | some x => x :: perm r xs
    | none => perm r xs
theorem DenL.perm {C : Kc} {G : Hp} {vs : List V} {ds : List D} (h : DenL C G vs ds) : ∀ ix : List Nat, DenL C G (perm ix vs) (perm ix ds)
  | [] => .nil
  | i :: r => by
    unfold DL.perm
    cases q : ds[i]? with
    | none =>
      have : vs[i]? = none := by
        rw [List.getElem?_eq_none_iff] at q ⊢
        rw [h.length]; exact q
      rw [this]
      exact DenL.perm h r
    | some d =>
      obtain ⟨v, h1, h2⟩ := h.get q
      rw [h1]
      exact .cons h2 (DenL.perm h r)
theorem Vals.perm {vs : List V} {us : List Value} (h : Vals vs us) : ∀ ix : List Nat, Vals (perm ix vs) (perm ix us)
  | [] => .nil
  | i :: r => by
    unfold DL.perm
    cases q : vs[i]? with
    | none => rw [h.none_of q]; exact Vals.perm h r
    | some d =>
      obtain ⟨v, h1, h2⟩ := h.get q
      rw [h1]
      exact .cons h2 (Vals.perm h r)
section
variable (P : Program) (w : World) (C : Kc) (mg : Str → Option Value) (base : Heap)
def Cal (k : Nat) (x : Str) (sp : Sp) : Prop := ∃ f fd ps, FnOk P w C.K mg base CX0 k f fd ps sp ∧ mg x = some (.ref f) ∧ PySem.W.keepIn C.K (.ref f) = true ∧ Binds C.K fd ps []
def CalK (k : Nat) (x : Str) (sp : Sp) (ks : List Str) (ix : List Nat) : Prop := ∃ f fd ps, FnOk P w C.K mg base CX0 k f fd ps sp ∧ mg x = some (.ref f) ∧ PySem.W.keepIn C.K (.ref f) = true ∧ KBn C.K fd ps 0 ks (fun us ws => us ++ perm ix ws) (fun vs zs => vs ++ perm ix zs)
def Mak (k : Nat) (x : Str) (c : Nat) (R : List D → List (Str × D) → Prop) (dd : List D) : Prop := ∃ f fd ps ds dvs, FnOk P w C.K mg base CX0 k f fd ps (spI C c R) ∧ mg x = some (.ref (C.cl c)) ∧ Mk C.K (C.cl c) f ∧ Binds C.K fd ps ds ∧ Vals dvs ds ∧ (∀ G, DenL C G dvs dd) ∧ C.has c = true
def Met (k : Nat) (c : Nat) (m : Str) (sp : Sp) : Prop := ∃ f fd ps, FnOk P w C.K mg base CX0 k f fd ps sp ∧ Cls C.K (C.cl c) ∧ Meth C.K (C.cl c) m f ∧ Binds C.K fd ps []
end
section
variable {F : Fam} {S S1 S2 S3 : ST} {e a b : Expr} {d x y z : D} {pos p apos : Pos} {es : List Expr} {ds : List D} {k : Nat} {nm : Str} {kws : List Keyword}
theorem fn_at {i : F.I} {k : Nat} {f : Addr} {fd : FuncData} {ps : List Str} {sp : Sp} (G : FnOk F.P F.w F.C.K F.mg F.base CX0 k f fd ps sp) : FnOk (F.X i).prog (F.X i).w (F.X i).K (F.X i).mg (F.X i).base CX0 k f fd ps sp := by
  rw [F.hP, F.hw, F.hK, F.hmg, F.hbase]; exact G
theorem de_call [Calm F] {R : List D → D → Prop} (c : Cal F.P F.w F.C F.mg F.base k nm (spP F.C R)) (ha : DA F (e :: es) S S1 ds) (hR : R ds d) (hk : k ≤ F.k := by exact Nat.le_of_ble_eq_true rfl)
    (hg : ∀ i, Gl (F.X i) nm := by intro _; rfl) (hdb : (nm == ("__debug__" : Str)) = false := by decide)
    (he : ∀ i, starEach (e :: es) (F.X i).env = (false, eval e (F.X i).env) :: starEach es (F.X i).env := by intro _; rfl) (hpl : ∀ i, (backTo pos (starEach es (F.X i).env)).any (·.1) = false := by intro _; rfl) : DE F (.Call (.Name nm p) (e :: es) [] pos) S S1 d := by
  obtain ⟨f, fd, ps, G, hm, hkp, hb⟩ := c
  refine de_of (te := tCall (spP F.C R) [] E0 (anyA F (e :: es))) (fun i => pe_call (fn_at G) ((F.room i).mono hk) (hg i) (by rw [F.hmg i]; exact hm) (by rw [F.hK i]; exact hkp) (by rw [F.hK i]; exact hb) .nil pass0 (anyA_ok i) hdb (he i) (hpl i)) ?_
  intro σ G H cx Q q
  refine ha σ G H cx _ fun vs G1 H1 m dl => ?_
  rw [List.append_nil]
  exact ⟨G1, ds, d, hR, m.cx.sub, dl, fun v G2 H2 p dv => q v G2 H2 (m.pu p) dv⟩
theorem pe_callK0 {X : Cx} {f : Addr} {fd : FuncData} {ps ks : List Str} {sp : Sp} {E : XK} {x : Str} {g : List Value → List Value → List Value} {gV : List V → List V → List V} {CX : CXT} {tk : TA}
    (G : FnOk X.prog X.w X.K X.mg X.base CX k f fd ps sp) (hr : Room k X.A) (hg : Gl X x) (hm : X.mg x = some (.ref f)) (hk : PySem.W.keepIn X.K (.ref f) = true) (hb : KBn X.K fd ps 0 ks g gV) (hx : Passes CX X E) (hkw : PK X kws tk)
    (hall : (backToKw pos (keywordEach kws X.env)).all (·.1.isSome) = true := by rfl) (hks : (backToKw pos (keywordEach kws X.env)).filterMap (·.1) = ks := by rfl) (hdb : (x == ("__debug__" : Str)) = false := by decide)
    (hpl : ((backTo pos (starEach [] X.env)).any (·.1) || (backToKw pos (keywordEach kws X.env)).any (·.1.isNone)) = false := by rfl) :
    PE X (.Call (.Name x p) [] kws pos) (tCallN 0 ks.length sp gV E tNil tk) := by
  refine ⟨fun pins s σ H Q I h => ?_⟩
  refine wpAny_Call_Name_kw (ld_glob I hg hm ?_ hdb)
  refine PySem.W.callWith_KW0 (h₀ := X.base) I.ok.mod.kin hk hall ?_ hpl
  refine thn (hkw.run pos pins s σ H _ I h) fun ws s2 ⟨zs, H2, I2, rz, l1, l2, q2⟩ => ⟨I2.kIn, ?_⟩
  rw [hks]
  exact run_fnN (us := []) (vs := []) G hr hb hx I2 .nil rz rfl l2 q2
theorem de_callK [Calm F] {R : List D → D → Prop} {ks : List Str} {ix : List Nat} (c : CalK F.P F.w F.C F.mg F.base k nm (spP F.C R) ks ix) (ha : DK F kws S S1 ds) (hR : R (perm ix ds) d) (hl : ds.length = ks.length := by rfl) (hk : k ≤ F.k := by exact Nat.le_of_ble_eq_true rfl)
    (hg : ∀ i, Gl (F.X i) nm := by intro _; rfl) (hdb : (nm == ("__debug__" : Str)) = false := by decide) (hall : ∀ i, (backToKw pos (keywordEach kws (F.X i).env)).all (·.1.isSome) = true := by intro _; rfl)
    (hks : ∀ i, (backToKw pos (keywordEach kws (F.X i).env)).filterMap (·.1) = ks := by intro _; rfl) (hpl : ∀ i, ((backTo pos (starEach [] (F.X i).env)).any (·.1) || (backToKw pos (keywordEach kws (F.X i).env)).any (·.1.isNone)) = false := by intro _; rfl) : DE F (.Call (.Name nm p) [] kws pos) S S1 d := by
  obtain ⟨f, fd, ps, G, hm, hkp, hb⟩ := c
  refine de_of (te := tCallN 0 ks.length (spP F.C R) (fun vs zs => vs ++ perm ix zs) E0 tNil (anyK F kws)) (fun i => pe_callK0 (fn_at G) ((F.room i).mono hk) (hg i) (by rw [F.hmg i]; exact hm) (by rw [F.hK i]; exact hkp) (by rw [F.hK i]; exact hb) pass0 (anyK_ok i) (hall i) (hks i) hdb (hpl i)) ?_
  intro σ G H cx Q q
  refine ha σ G H cx _ fun vs G1 H1 m dl => ?_
  refine ⟨rfl, by rw [dl.length]; exact hl, ?_⟩
  show spP F.C R (perm ix vs) H1 Q E0
  exact ⟨G1, _, d, hR, m.cx.sub, dl.perm ix, fun v G2 H2 p dv => q v G2 H2 (m.pu p) dv⟩
theorem make_ev {C : Kc} {c : Nat} {R : List D → List (Str × D) → Prop} {fs : List (Str × D)} {σ : L2.St} {G H : Hp} {vs : List V} {E : XK} {Q : VK} (cx : Ctx C G H σ S) (hh : C.has c = true) (dl : DenL C G vs ds) (hR : R ds fs)
    (q : ∀ v G2 H2, Mv C σ S G H S G2 H2 → Den C G2 v (.obj c fs) → Q v H2) :
    ∀ x dx, H x = none → H dx = none → dx ≠ x → spI C c R (.ref x :: vs) (upd (upd H dx (.own x)) x (.ins (C.cl c) dx [])) (fun v H2 => v = .non ∧ Q (.ref x) H2) E := by
  intro x dx hx hdx ne
  have gx : G x = none := cx.sub.free hx
  have gd : G dx = none := cx.sub.free hdx
  have s1 : Same H (upd (upd H dx (.own x)) x (.ins (C.cl c) dx [])) := fun a o h => by
    rw [upd_ne (ne_of_none h hx), upd_ne (ne_of_none h hdx)]; exact h
  refine ⟨G, x, dx, vs, ds, fs, rfl, hR, cx.sub.trans s1, gx, upd_same, dl, fun G2 H2 dx2 fv go sub g2 h2 df => ⟨rfl, ?_⟩⟩
  have hk : KT H H2 := ⟨fun a o nt h => go.keep a o (ne_of_none h hx) nt (s1 a o h), fun a h => go.dom a (Same.dom0 s1 a h), fun t => go.tb (t.ext s1)⟩
  refine q (.ref x) (upd G2 x (.ins (C.cl c) dx2 fv)) H2 ?_ (.obj hh upd_same (df.mono fun a o h => by rw [upd_ne (ne_of_none h g2)]; exact h))
  refine cx.mv hk (fun a o h => ?_) (fun a o h => ?_) (fun a h1 hg => ?_)
  · rw [upd_ne (ne_of_none h gx)]; exact go.gg a o h
  · by_cases z : a = x
    · subst z; rw [upd_same] at h; cases h; exact h2
    · rw [upd_ne z] at h; exact sub a o h
  · have z : a ≠ x := fun z => h1 (by rw [z]; exact hx)
    rw [upd_ne z]
    exact go.fr a z (by
      rw [upd_ne z]
      by_cases z2 : a = dx
      · subst z2; rw [upd_same]; simp
      · rw [upd_ne z2]; exact h1) hg
theorem de_make [Calm F] {c : Nat} {R : List D → List (Str × D) → Prop} {dd : List D} {fs : List (Str × D)} (mk : Mak F.P F.w F.C F.mg F.base k nm c R dd) (ha : DA F (e :: es) S S1 ds) (hR : R (ds ++ dd) fs) (hk : k + 1 ≤ F.k := by exact Nat.le_of_ble_eq_true rfl)
    (hg : ∀ i, Gl (F.X i) nm := by intro _; rfl) (hdb : (nm == ("__debug__" : Str)) = false := by decide)
    (he : ∀ i, starEach (e :: es) (F.X i).env = (false, eval e (F.X i).env) :: starEach es (F.X i).env := by intro _; rfl) (hpl : ∀ i, (backTo pos (starEach es (F.X i).env)).any (·.1) = false := by intro _; rfl) : DE F (.Call (.Name nm p) (e :: es) [] pos) S S1 (.obj c fs) := by
  obtain ⟨f, fd, ps, dus, dvs, G, hm, M, hb, hv, hd, hh⟩ := mk
  refine de_of (te := tMake (F.C.cl c) (spI F.C c R) dvs E0 (anyA F (e :: es))) (fun i => pe_make (by rw [F.hK i]; exact M) (fn_at G) ((F.room i).mono hk) (hg i) (by rw [F.hmg i]; exact hm) (by rw [F.hK i]; exact hb) hv pass0 (anyA_ok i) hdb (he i) (hpl i)) ?_
  intro σ G H cx Q q
  refine ha σ G H cx _ fun vs G1 H1 m dl => ?_
  exact make_ev m.cx hh (dl.append (hd G1)) hR fun v G2 H2 m2 dv => q v G2 H2 (m.trans m2) dv
theorem de_meth [Calm F] {c : Nat} {m : Str} {fs : List (Str × D)} {R : List D → D → Prop} (mt : Met F.P F.w F.C F.mg F.base k c m (spP F.C R)) (ho : DE F a S S1 (.obj c fs)) (ha : DA F (e :: es) S1 S2 ds) (hR : R (.obj c fs :: ds) d) (hn : fs.lookup m = none := by rfl) (hk : k ≤ F.k := by exact Nat.le_of_ble_eq_true rfl)
    (pl : F.I → Sem Bool) (he : ∀ i, starEach (e :: es) (F.X i).env = (false, eval e (F.X i).env) :: starEach es (F.X i).env := by intro _; rfl) (hpl : ∀ i, (backTo pos (starEach es (F.X i).env)).any (·.1) = false := by intro _; rfl)
    (ht : ∀ i, eval (.Call (.Attribute a m apos) (e :: es) [] pos) (F.X i).env = (do
      let ov ← eval a (F.X i).env
      standAt apos.atName
      let (f, first) ← holding [ov] (getMethod ov m (pl i))
      callWith pos f first (backTo pos (starEach (e :: es) (F.X i).env)) (backToKw pos (keywordEach [] (F.X i).env))) := by intro _; rfl) : DE F (.Call (.Attribute a m apos) (e :: es) [] pos) S S2 d := by
  obtain ⟨f, fd, ps, G, hc, hme, hb⟩ := mt
  refine de_of (te := tMeth (F.C.cl c) m (spP F.C R) [] E0 (anyE F a) (anyA F (e :: es))) (fun i => pe_meth (pl := pl i) (anyE_ok i) (by rw [F.hK i]; exact hc) (by rw [F.hK i]; exact hme) (fn_at G) ((F.room i).mono hk) (by rw [F.hK i]; exact hb) .nil pass0 (anyA_ok i) (he i) (hpl i) (ht i)) ?_
  intro σ G H cx Q q
  refine ho σ G H cx _ fun v G1 H1 m1 dv => ?_
  cases dv with
  | @obj o dx _ vs _ hq h1 h2 =>
    refine ⟨o, dx, vs, rfl, m1.cx.sub _ _ h1, h2.lookN hn, ?_⟩
    refine ha σ G1 H1 m1.cx _ fun vs G2 H2 m2 dl => ?_
    rw [List.append_nil]
    exact ⟨G2, _, d, hR, m2.cx.sub, .cons ((Den.obj hq h1 h2).mono m2.go.gg) dl, fun v G3 H3 p dv => q v G3 H3 ((m1.trans m2).pu p) dv⟩
theorem ctx_bag {C : Kc} {σ : L2.St} {G H G2 H2 : Hp} {bb : Addr} {gs gs' : List D} {gv' : List V} (cx : Ctx C G H σ S) (hg : S.g = some (bb, .lst gs)) (go : Go (fun a => a = bb) G H G2 H2) (sub : Sub G2 H2) (g2 : G2 bb = none) (h2 : H2 bb = some (.lst gv')) (dl : DenL C G2 gv' gs') :
    Mv C σ S G H ⟨S.s, some (bb, .lst gs')⟩ G2 H2 := by
  refine ⟨go.mono fun a z => .inr ⟨.lst gs, by rw [z]; exact hg⟩, ⟨sub, cx.len, fun i d h => ?_, fun i ds h => ?_, cx.apart, fun i b o h h1 => ?_, ⟨g2, gv', h2, dl⟩, fun i b o ds h h1 => ?_⟩, fun a z => ?_⟩
  · obtain ⟨v, h1, h2⟩ := cx.im i d h
    exact ⟨v, h1, h2.mono go.gg⟩
  · obtain ⟨a, vs, h1, h3, h4, h5⟩ := cx.ow i ds h
    have na : a ≠ bb := fun z => cx.nob i bb _ ds hg h (by rw [← z]; exact h1)
    exact ⟨a, vs, h1, go.fr a na (by rw [h4]; simp) h3, go.keep a _ na h5.nt h4, h5.mono go.gg⟩
  · cases h; exact cx.bg i bb _ hg h1
  · cases h; exact cx.nob i bb _ ds hg h1
  · rcases z with z | ⟨o, z⟩
    · exact .inl z
    · cases z; exact .inr ⟨_, hg⟩
theorem pa_bag {j : Nat} {x : Str} (i : F.I) (hN : (F.X i).N[j]? = some x) (hv : Vis (F.X i).env.scope x) (hd : (x == ("__debug__" : Str)) = false) (hcd : (x == ("__classdict__" : Str)) = false) (hs : starEach (.Name x p :: es) (F.X i).env = (false, eval (.Name x p) (F.X i).env) :: starEach es (F.X i).env) :
    PA (F.X i) (.Name x p :: es) (tCons (tVar j) (anyA F es)) := pa_cons (pe_var hN hv hd hcd) (anyA_ok i) hs
theorem de_callBag [Calm F] {R : List D → List D → D → List D → Prop} {j : Nat} {x : Str} {bb : Addr} {gs gs' : List D} {q' : Pos} (c : Cal F.P F.w F.C F.mg F.base k nm (spB F.C R)) (hj : S.s[j]? = some (some .bag)) (hS : S.g.map (·.1) = some bb) (ha : DA F es S S1 ds) (hg : S1.g = some (bb, .lst gs)) (hR : R ds gs d gs') (hk : k ≤ F.k := by exact Nat.le_of_ble_eq_true rfl)
    (hN : ∀ i, (F.X i).N[j]? = some x := by intro _; rfl) (hv : ∀ i, Vis (F.X i).env.scope x := by intro _; first | exact Or.inl rfl | exact Or.inr (Or.inl rfl) | exact Or.inr (Or.inr rfl))
    (hd : (x == ("__debug__" : Str)) = false := by decide) (hcd : (x == ("__classdict__" : Str)) = false := by decide)
    (hgl : ∀ i, Gl (F.X i) nm := by intro _; rfl) (hdb : (nm == ("__debug__" : Str)) = false := by decide)
    (he : ∀ i, starEach (.Name x q' :: es) (F.X i).env = (false, eval (.Name x q') (F.X i).env) :: starEach es (F.X i).env := by intro _; rfl) (hpl : ∀ i, (backTo pos (starEach es (F.X i).env)).any (·.1) = false := by intro _; rfl) :
    DE F (.Call (.Name nm p) (.Name x q' :: es) [] pos) S ⟨S1.s, some (bb, .lst gs')⟩ d := by
  obtain ⟨f, fd, ps, G, hm, hkp, hb⟩ := c
  refine de_of (te := tCall (spB F.C R) [] E0 (tCons (tVar j) (anyA F es))) (fun i => pe_call (fn_at G) ((F.room i).mono hk) (hgl i) (by rw [F.hmg i]; exact hm) (by rw [F.hK i]; exact hkp) (by rw [F.hK i]; exact hb) .nil pass0 (pa_bag i (hN i) (hv i) hd hcd (he i)) hdb (he i) (hpl i)) ?_
  intro σ G H cx Q q
  have hb0 : σ[j]? = some (some (.ref bb)) := by
    cases e : S.g with
    | none => rw [e] at hS; cases hS
    | some bo =>
      obtain ⟨b0, o⟩ := bo
      rw [e] at hS
      cases hS
      exact cx.bg j _ o e hj
  refine ⟨_, hb0, ha σ G H cx _ fun vs G1 H1 m dl => ?_⟩
  have z := m.cx.bag
  rw [hg] at z
  obtain ⟨z1, gv, z2, z3⟩ := z
  refine ⟨G1, bb, vs, gv, ds, gs, d, gs', List.append_nil _, hR, m.cx.sub, z1, z2, z3, dl, fun v G2 H2 gv' go sub g2 h2 dl' dv => ?_⟩
  exact q v G2 H2 (m.trans (ctx_bag m.cx hg go sub g2 h2 dl')) dv
end
def famD (C : Kc) (mg : Str → Option Value) (base : Heap) (N : List Str) (nd : N.Nodup) (qual : Str) (sc : Scope) (f : Addr) (cdv : Value) (A : Around) (outer : List Env) (s : Shared) (H : Hp) (E : XK) (k : Nat) (hr : Room k (A.deeper (PyProof.Rows.envOfC qual sc s.heap.objs.size f cdv))) : Fam where
  I := Unit
  X := fun _ => (cxOf CX0 C.P C.w C.K mg base N qual sc f cdv A outer s H E).nox
  P := C.P
  w := C.w
  C := C
  mg := mg
  base := base
  N := N
  k := k
  hP := fun _ => rfl
  hw := fun _ => rfl
  hK := fun _ => rfl
  hmg := fun _ => rfl
  hbase := fun _ => rfl
  hN := fun _ => rfl
  nd := nd
  roomH := fun _ => ⟨hr.dp, hr.un⟩
  cP := rfl
  cw := rfl
instance {C : Kc} {mg : Str → Option Value} {base : Heap} {N : List Str} {nd : N.Nodup} {qual : Str} {sc : Scope} {f : Addr} {cdv : Value} {A : Around} {outer : List Env} {s : Shared} {H : Hp} {E : XK} {k : Nat} {hr : Room k (A.deeper (PyProof.Rows.envOfC qual sc s.heap.objs.size f cdv))} : Calm (famD C mg base N nd qual sc f cdv A outer s H E k hr) := ⟨fun _ => rfl, fun _ => hr.hd⟩
def start (N : List Str) (ds : List D) : List (Option DV) := ds.map (fun d => some (.imm d)) ++ List.replicate (N.length - ds.length) none
theorem start_get {N : List Str} {C : Kc} {G : Hp} {vs : List V} {ds : List D} (h : DenL C G vs ds) (i : Nat) (e : DV) (q : (start N ds)[i]? = some (some e)) : ∃ v d, (L2.start N vs)[i]? = some (some v) ∧ e = .imm d ∧ Den C G v d := by
  unfold start at q
  unfold L2.start
  rcases Nat.lt_or_ge i ds.length with hi | hi
  · rw [List.getElem?_append_left (by simpa using hi), List.getElem?_map] at q
    cases r : ds[i]? with
    | none => rw [r] at q; cases q
    | some d =>
      rw [r] at q
      obtain ⟨v, h1, h2⟩ := h.get r
      refine ⟨v, d, ?_, by simpa using q.symm, h2⟩
      rw [List.getElem?_append_left (by rw [List.length_map, h.length]; exact hi), List.getElem?_map, h1]
      rfl
  · rw [List.getElem?_append_right (by simpa using hi)] at q
    rw [List.getElem?_replicate] at q
    split at q <;> cases q
theorem ctx_start {N : List Str} {C : Kc} {G H : Hp} {vs : List V} {ds : List D} (s : Sub G H) (h : DenL C G vs ds) : Ctx C G H (L2.start N vs) ⟨start N ds, none⟩ where
  sub := s
  len := by simp [L2.start, start, h.length]
  im := fun i d q => by
    obtain ⟨v, d', h1, h2, h3⟩ := start_get h i _ q
    cases h2
    exact ⟨v, h1, h3⟩
  ow := fun i ds q => by obtain ⟨_, _, _, z, _⟩ := start_get h i _ q; cases z
  apart := fun i j ds es a q => by obtain ⟨_, _, _, z, _⟩ := start_get h i _ q; cases z
  bg := fun i b o z => by cases z
  bag := trivial
  nob := fun i b o ds z => by cases z
theorem oa_start {N : List Str} {C : Kc} {G : Hp} {vs : List V} {ds : List D} (h : DenL C G vs ds) (a : Addr) : ¬ OA C (L2.start N vs) ⟨start N ds, none⟩ a := fun z => by
  rcases z with ⟨i, es, q, _⟩ | ⟨o, z⟩
  · obtain ⟨_, _, _, z, _⟩ := start_get h i _ q; cases z
  · cases z
section
variable {P : Program} {w : World} {C : Kc} {mg : Str → Option Value} {base : Heap}
theorem fnP {x qual : Str} {st : Stmt} {f : Addr} {fd : FuncData} {N ps : List Str} {k : Nat} {R : List D → D → Prop} (F : Fun C.K x qual st f fd) (Sc : FnScope N ps (defScope st)) (len : ∀ ds d, R ds d → ds.length = ps.length)
    (body : ∀ ds d, R ds d → ∀ cdv A outer s H E hr, DS (famD C mg base N Sc.nd qual (defScope st) f cdv A outer s H E k hr) (defBody st) ⟨start N ds, none⟩ { rt := fun d' _ => d' = d, nx := fun _ => d = .non }) : FnOk C.P C.w C.K mg base CX0 (k + 1) f fd ps (spP C R) := by
  refine F.ok Sc (fun vs H Q E h => ?_) (fun cdv A outer s H vs Q E hr h => ?_)
  · obtain ⟨G, ds, d, hR, _, dl, _⟩ := h
    rw [dl.length]; exact len ds d hR
  · obtain ⟨G, ds, d, hR, sub, dl, q⟩ := h
    refine ⟨_, anyS_ok (F := famD C mg base N Sc.nd qual (defScope st) f cdv A outer s H E k hr) (), ?_⟩
    have key : ∀ σ2 S2 G2 H2, Mw C (L2.start N vs) ⟨start N ds, none⟩ G H σ2 S2 G2 H2 → Pu G H G2 H2 := fun σ2 S2 G2 H2 m =>
      ⟨⟨fun a o nt h => m.go.keep a o (oa_start dl a) nt h, m.go.dom, m.go.tb⟩, m.go.gg, m.cx.sub, fun a h1 h2 => m.go.fr a (oa_start dl a) h1 h2⟩
    refine body ds d hR cdv A outer s H E hr (L2.start N vs) G H (ctx_start sub dl) _ ⟨fun σ2 S2 G2 H2 m e => ?_, fun v d' σ2 S2 G2 H2 m dv e => ?_, fun _ _ _ _ _ e => e.elim, fun _ _ _ _ _ e => e.elim, fun _ _ _ _ _ _ _ _ _ _ _ _ e => e.elim, fun _ _ _ _ _ _ _ _ _ _ _ _ _ e => e.elim⟩
    · exact q .non G2 H2 (key _ _ _ _ m) (by rw [e]; exact .non)
    · cases e
      exact q v G2 H2 (key _ _ _ _ m) dv
theorem fnO {x qual : Str} {st : Stmt} {f : Addr} {fd : FuncData} {N ps : List Str} {k : Nat} {R : List D → List D → Prop} (F : Fun C.K x qual st f fd) (Sc : FnScope N ps (defScope st)) (len : ∀ ds es, R ds es → ds.length = ps.length)
    (body : ∀ ds es, R ds es → ∀ cdv A outer s H E hr, DS (famD C mg base N Sc.nd qual (defScope st) f cdv A outer s H E k hr) (defBody st) ⟨start N ds, none⟩ { ro := fun es' _ => es' = es }) : FnOk C.P C.w C.K mg base CX0 (k + 1) f fd ps (spO C R) := by
  refine F.ok Sc (fun vs H Q E h => ?_) (fun cdv A outer s H vs Q E hr h => ?_)
  · obtain ⟨G, ds, es, hR, _, dl, _⟩ := h
    rw [dl.length]; exact len ds es hR
  · obtain ⟨G, ds, es, hR, sub, dl, q⟩ := h
    refine ⟨_, anyS_ok (F := famD C mg base N Sc.nd qual (defScope st) f cdv A outer s H E k hr) (), ?_⟩
    refine body ds es hR cdv A outer s H E hr (L2.start N vs) G H (ctx_start sub dl) _ ⟨fun _ _ _ _ _ e => e.elim, fun _ _ _ _ _ _ _ _ e => e.elim, fun _ _ _ _ _ e => e.elim, fun _ _ _ _ _ e => e.elim, fun p ev es' σ2 S2 G2 H2 m h1 h2 h3 h4 e => ?_, fun _ _ _ _ _ _ _ _ _ _ _ _ _ e => e.elim⟩
    cases e
    exact q p ev G2 H2 ⟨⟨fun a o nt h => m.go.keep a o (oa_start dl a) nt h, m.go.dom, m.go.tb⟩, m.go.gg, m.cx.sub, fun a h1 h2 => m.go.fr a (oa_start dl a) h1 h2⟩ (h1.resolve_right (oa_start dl p)) h2 h3 h4
def startB (N : List Str) (ds : List D) : List (Option DV) := some .bag :: start N.tail ds
theorem ctx_startB {n : Str} {N : List Str} {G H : Hp} {b : Addr} {vs : List V} {ds : List D} {bo : BG} (s : Sub G H) (h : DenL C G vs ds) (hb : BagOk C G H (some (b, bo))) : Ctx C G H (L2.start (n :: N) (.ref b :: vs)) ⟨startB (n :: N) ds, some (b, bo)⟩ := by
  have e : L2.start (n :: N) (.ref b :: vs) = some (.ref b) :: L2.start N vs := by simp [L2.start]
  have c := ctx_start (N := N) s h
  rw [e]
  refine ⟨s, by simp [startB, c.len, start, L2.start, h.length], fun i d q => ?_, fun i es q => ?_, fun i j es fs a q => ?_, fun i b' o z q => ?_, hb, fun i b' o es z q => ?_⟩
  · cases i with
    | zero => cases q
    | succ i => simpa using c.im i d (by simpa [startB] using q)
  · cases i with
    | zero => cases q
    | succ i => simpa using c.ow i es (by simpa [startB] using q)
  · cases i with
    | zero => cases q
    | succ i => obtain ⟨_, _, _, z, _⟩ := start_get (N := N) h i _ (by simpa [startB] using q); cases z
  · cases z
    cases i with
    | zero => rfl
    | succ i => obtain ⟨_, _, _, z, _⟩ := start_get (N := N) h i _ (by simpa [startB] using q); cases z
  · cases i with
    | zero => cases q
    | succ i => obtain ⟨_, _, _, z, _⟩ := start_get (N := N) h i _ (by simpa [startB] using q); cases z
theorem oa_startB {n : Str} {N : List Str} {G : Hp} {b : Addr} {vs : List V} {ds : List D} {bo : BG} (h : DenL C G vs ds) (a : Addr) (z : OA C (L2.start (n :: N) (.ref b :: vs)) ⟨startB (n :: N) ds, some (b, bo)⟩ a) : a = b := by
  rcases z with ⟨i, es, q, _⟩ | ⟨o, z⟩
  · cases i with
    | zero => cases q
    | succ i => obtain ⟨_, _, _, z, _⟩ := start_get (N := N) h i _ (by simpa [startB] using q); cases z
  · cases z; rfl
theorem fnB {x qual : Str} {st : Stmt} {f : Addr} {fd : FuncData} {n : Str} {N ps : List Str} {k : Nat} {R : List D → List D → D → List D → Prop} (F : Fun C.K x qual st f fd) (Sc : FnScope (n :: N) ps (defScope st)) (len : ∀ ds gs d gs', R ds gs d gs' → ds.length + 1 = ps.length)
    (body : ∀ ds gs d gs', R ds gs d gs' → ∀ b cdv A outer s H E hr, DS (famD C mg base (n :: N) Sc.nd qual (defScope st) f cdv A outer s H E k hr) (defBody st) ⟨startB (n :: N) ds, some (b, .lst gs)⟩
      { rt := fun d' S => d' = d ∧ S.g = some (b, .lst gs'), nx := fun S => d = .non ∧ S.g = some (b, .lst gs') }) : FnOk C.P C.w C.K mg base CX0 (k + 1) f fd ps (spB C R) := by
  refine F.ok Sc (fun vs H Q E h => ?_) (fun cdv A outer s H vs Q E hr h => ?_)
  · obtain ⟨G, b, ws, gv, ds, gs, d, gs', rfl, hR, _, _, _, _, dl, _⟩ := h
    rw [List.length_cons, dl.length]; exact len ds gs d gs' hR
  · obtain ⟨G, b, ws, gv, ds, gs, d, gs', rfl, hR, sub, gb, hb, dg, dl, q⟩ := h
    refine ⟨_, anyS_ok (F := famD C mg base (n :: N) Sc.nd qual (defScope st) f cdv A outer s H E k hr) (), ?_⟩
    have fin : ∀ v σ2 S2 G2 H2, Mw C (L2.start (n :: N) (.ref b :: ws)) ⟨startB (n :: N) ds, some (b, .lst gs)⟩ G H σ2 S2 G2 H2 → S2.g = some (b, .lst gs') → Den C G2 v d → Q v H2 := fun v σ2 S2 G2 H2 m e dv => by
      have z := m.cx.bag
      rw [e] at z
      obtain ⟨z1, gv', z2, z3⟩ := z
      exact q v G2 H2 gv' (m.go.mono fun a => oa_startB dl a) m.cx.sub z1 z2 z3 dv
    refine body ds gs d gs' hR b cdv A outer s H E hr _ G H (ctx_startB sub dl ⟨gb, gv, hb, dg⟩) _ ⟨fun σ2 S2 G2 H2 m e => ?_, fun v d' σ2 S2 G2 H2 m dv e => ?_, fun _ _ _ _ _ e => e.elim, fun _ _ _ _ _ e => e.elim, fun _ _ _ _ _ _ _ _ _ _ _ _ e => e.elim, fun _ _ _ _ _ _ _ _ _ _ _ _ _ e => e.elim⟩
    · exact fin .non _ _ _ _ m e.2 (by rw [e.1]; exact .non)
    · exact fin v _ _ _ _ m e.2 (e.1 ▸ dv)
theorem fnI {x qual : Str} {st : Stmt} {f : Addr} {fd : FuncData} {c : Nat} {n : Str} {N ps : List Str} {k : Nat} {R : List D → List (Str × D) → Prop} (F : Fun C.K x qual st f fd) (Sc : FnScope (n :: N) ps (defScope st)) (len : ∀ ds fs, R ds fs → ds.length + 1 = ps.length)
    (body : ∀ ds fs, R ds fs → ∀ b cdv A outer s H E hr, DS (famD C mg base (n :: N) Sc.nd qual (defScope st) f cdv A outer s H E k hr) (defBody st) ⟨startB (n :: N) ds, some (b, .ins c [])⟩
      { nx := fun S => S.g = some (b, .ins c fs) }) : FnOk C.P C.w C.K mg base CX0 (k + 1) f fd ps (spI C c R) := by
  refine F.ok Sc (fun vs H Q E h => ?_) (fun cdv A outer s H vs Q E hr h => ?_)
  · obtain ⟨G, b, dx, ws, ds, fs, rfl, hR, _, _, _, dl, _⟩ := h
    rw [List.length_cons, dl.length]; exact len ds fs hR
  · obtain ⟨G, b, dx, ws, ds, fs, rfl, hR, sub, gb, hb, dl, q⟩ := h
    refine ⟨_, anyS_ok (F := famD C mg base (n :: N) Sc.nd qual (defScope st) f cdv A outer s H E k hr) (), ?_⟩
    refine body ds fs hR b cdv A outer s H E hr _ G H (ctx_startB sub dl ⟨gb, dx, [], hb, .nil⟩) _ ⟨fun σ2 S2 G2 H2 m e => ?_, fun v d' σ2 S2 G2 H2 m dv e => e.elim, fun _ _ _ _ _ e => e.elim, fun _ _ _ _ _ e => e.elim, fun _ _ _ _ _ _ _ _ _ _ _ _ e => e.elim, fun _ _ _ _ _ _ _ _ _ _ _ _ _ e => e.elim⟩
    have z := m.cx.bag
    rw [e] at z
    obtain ⟨z1, dx2, fv, z2, z3⟩ := z
    exact q G2 H2 dx2 fv (m.go.mono fun a => oa_startB dl a) m.cx.sub z1 z2 z3
theorem fnID {x qual : Str} {st : Stmt} {dvs : List V} {kws : List (Str × V)} {f : Addr} {fd : FuncData} {c : Nat} {n : Str} {N ps : List Str} {k : Nat} {R : List D → List (Str × D) → Prop} (F : FunD C.K x qual (defArgs st) (defBody st) (defScope st) dvs kws f fd) (Sc : FnScope (n :: N) ps (defScope st)) (len : ∀ ds fs, R ds fs → ds.length + 1 = ps.length)
    (body : ∀ ds fs, R ds fs → ∀ b cdv A outer s H E hr, DS (famD C mg base (n :: N) Sc.nd qual (defScope st) f cdv A outer s H E k hr) (defBody st) ⟨startB (n :: N) ds, some (b, .ins c [])⟩
      { nx := fun S => S.g = some (b, .ins c fs) }) : FnOk C.P C.w C.K mg base CX0 (k + 1) f fd ps (spI C c R) := by
  refine F.ok Sc (fun vs H Q E h => ?_) (fun cdv A outer s H vs Q E hr h => ?_)
  · obtain ⟨G, b, dx, ws, ds, fs, rfl, hR, _, _, _, dl, _⟩ := h
    rw [List.length_cons, dl.length]; exact len ds fs hR
  · obtain ⟨G, b, dx, ws, ds, fs, rfl, hR, sub, gb, hb, dl, q⟩ := h
    refine ⟨_, PSs.nox (anyS_ok (F := famD C mg base (n :: N) Sc.nd qual (defScope st) f cdv A outer s H E k hr) ()), ?_⟩
    refine body ds fs hR b cdv A outer s H E hr _ G H (ctx_startB sub dl ⟨gb, dx, [], hb, .nil⟩) _ ⟨fun σ2 S2 G2 H2 m e => ?_, fun v d' σ2 S2 G2 H2 m dv e => e.elim, fun _ _ _ _ _ e => e.elim, fun _ _ _ _ _ e => e.elim, fun _ _ _ _ _ _ _ _ _ _ _ _ e => e.elim, fun _ _ _ _ _ _ _ _ _ _ _ _ _ e => e.elim⟩
    have z := m.cx.bag
    rw [e] at z
    obtain ⟨z1, dx2, fv, z2, z3⟩ := z
    exact q G2 H2 dx2 fv (m.go.mono fun a => oa_startB dl a) m.cx.sub z1 z2 z3
end
end DL
namespace DL
open PySem L2
variable [TabL]
section
variable {F : Fam} {S S1 S2 S3 : ST} {e a b : Expr} {d x y z : D} {pos p apos : Pos} {es : List Expr} {ds : List D} {k : Bool} {nm : Str} {P : Po} {rest t u : List Stmt} {st : Stmt} {M : ST → Prop}
theorem ds_nil (h : P.nx S) : DS F [] S P := ds_of (fun _ => pss_nil) fun σ G H c E m => m.nx σ S G H (.refl c) h
theorem ds_cons (h1 : D1 F st S { P with nx := M }) (h2 : ∀ S2, M S2 → DS F rest S2 P) : DS F (st :: rest) S P :=
  ds_of (te := tSeq (any1 F st) (anyS F rest)) (fun i => pss_cons (any1_ok i) (anyS_ok i)) fun σ G H c E m =>
    h1 σ G H c _ ⟨fun σ2 S2 G2 H2 a q => h2 S2 q σ2 G2 H2 a.cx E (m.move a), m.rt, m.bk, m.ct, m.ro, m.xc⟩
theorem ds_mono {P' : Po} {sts : List Stmt} (h : DS F sts S P) (h1 : ∀ S, P.nx S → P'.nx S) (h2 : ∀ d S, P.rt d S → P'.rt d S) (h3 : ∀ S, P.bk S → P'.bk S) (h4 : ∀ S, P.ct S → P'.ct S) (h5 : ∀ es S, P.ro es S → P'.ro es S := by intro _ _ z; exact z) (h6 : (∀ c fs S, ¬ P.xc c fs S) ∨ (P.W = P'.W ∧ ∀ c fs S, P.xc c fs S → P'.xc c fs S) := by first | exact Or.inl (fun _ _ _ z => z.elim) | exact Or.inr ⟨rfl, fun _ _ _ z => z⟩) : DS F sts S P' := fun σ G H c E m =>
  h σ G H c E ⟨fun σ2 S2 G2 H2 a q => m.nx _ _ _ _ a (h1 _ q), fun v d σ2 S2 G2 H2 a q r => m.rt _ _ _ _ _ _ a q (h2 _ _ r), fun σ2 S2 G2 H2 a q => m.bk _ _ _ _ a (h3 _ q), fun σ2 S2 G2 H2 a q => m.ct _ _ _ _ a (h4 _ q), fun p ev es σ2 S2 G2 H2 a r1 r2 r3 r4 q => m.ro _ _ _ _ _ _ _ a r1 r2 r3 r4 (h5 _ _ q), fun c fs dx fv σ2 S2 G2 H2 a r1 r2 r3 r4 q => by
    rcases h6 with n | ⟨ew, k⟩
    · exact absurd q (n _ _ _)
    · rw [ew]; exact m.xc c fs dx fv _ _ _ _ a r1 r2 r3 r4 (k _ _ _ q)⟩
theorem d1_ret (h : DE F e S S1 d) (q : P.rt d S1) : D1 F (.Return (some e) pos) S P := d1_of (te := tRet (anyE F e)) (fun i => ps_ret (anyE_ok i)) fun σ G H c E m =>
  h σ G H c _ fun v G1 H1 m1 dv => m.rt v d σ S1 G1 H1 m1.mw dv q
theorem d1_retO (h : DO F e S S1 ds) (q : P.ro ds S1) : D1 F (.Return (some e) pos) S P := d1_of (te := tRet (anyE F e)) (fun i => ps_ret (anyE_ok i)) fun σ G H c E m =>
  h σ G H c _ fun p ev G1 H1 m1 h1 h2 h3 h4 => m.ro p ev ds σ S1 G1 H1 m1.mw (.inl h1) h2 h3 h4 q
theorem ds_retO (h : DO F e S S1 ds) (q : P.ro ds S1) : DS F (.Return (some e) pos :: rest) S P := ds_cons (M := fun _ => False) (d1_retO h q) fun _ z => z.elim
theorem ds_ret (h : DE F e S S1 d) (q : P.rt d S1) : DS F (.Return (some e) pos :: rest) S P := ds_cons (M := fun _ => False) (d1_ret h q) fun _ z => z.elim
theorem d1_expr (h : DE F e S S1 d) (q : P.nx S1) (hs : ∀ i, swapsWith e none pos.line (F.X i).env = pure false := by intro _; rfl) : D1 F (.Expr e pos) S P := d1_of (te := tDrop (anyE F e)) (fun i => ps_expr (anyE_ok i) (hs i)) fun σ G H c E m =>
  h σ G H c _ fun v G1 H1 m1 dv => m.nx σ S1 G1 H1 m1.mw q
theorem ds_expr (h : DE F e S S1 d) (q : DS F rest S1 P) (hs : ∀ i, swapsWith e none pos.line (F.X i).env = pure false := by intro _; rfl) : DS F (.Expr e pos :: rest) S P :=
  ds_cons (M := fun S2 => S2 = S1) (d1_expr h rfl hs) fun _ z => z ▸ q
theorem d1_if {c : Expr} (hc : DT F c S S1 k) (h1 : k = true → DS F t S1 P) (h2 : k = false → DS F u S1 P) : D1 F (.If c t u pos) S P :=
  d1_of (te := tIfS (anyT F c) (anyS F t) (anyS F u)) (fun i => ps_if (anyT_ok i) (anyS_ok i) (anyS_ok i)) fun σ G H cx E m => hc σ G H cx _ fun G1 H1 m1 => by
    cases k with
    | true => rw [if_pos rfl]; exact h1 rfl σ G1 H1 m1.cx E (m.move m1.mw)
    | false => rw [if_neg Bool.false_ne_true]; exact h2 rfl σ G1 H1 m1.cx E (m.move m1.mw)
theorem ds_ifr {c : Expr} (hc : DT F c S S1 k) (h1 : k = true → DS F t S1 { P with nx := fun _ => False }) (h2 : k = false → DS F rest S1 P) : DS F (.If c t [] pos :: rest) S P :=
  ds_cons (M := fun S2 => S2 = S1 ∧ k = false) (d1_if hc (fun h => ds_mono (h1 h) (fun _ z => z.elim) (fun _ _ z => z) (fun _ z => z) fun _ z => z) fun h => ds_nil ⟨rfl, h⟩) fun _ ⟨z, h⟩ => z ▸ h2 h
theorem ds_if (M : ST → Prop) {c : Expr} (hc : DT F c S S1 k) (h1 : k = true → DS F t S1 { P with nx := M }) (h2 : k = false → DS F u S1 { P with nx := M }) (h3 : ∀ S2, M S2 → DS F rest S2 P) : DS F (.If c t u pos :: rest) S P :=
  ds_cons (M := M) (d1_if hc h1 h2) h3
theorem d1_set {j : Nat} {x : Str} {pos' : Pos} (he : DE F e S S1 d) (q : P.nx (S1.set j d)) (hN : ∀ i, (F.X i).N[j]? = some x := by intro _; rfl) (hx : ∀ i, Loc (F.X i).env.scope x := by intro _; first | exact Or.inl rfl | exact Or.inr rfl)
    (hs : ∀ i, swapsWith e (some (.Name x pos')) pos.line (F.X i).env = pure false := by intro _; rfl) (hf : ∀ i, (F.X i).fn x = true ∨ (F.X i).env.scope.names.lookup x = some .local := by intro _; first | exact .inl rfl | exact .inr rfl) : D1 F (.Assign [.Name x pos'] e pos) S P :=
  d1_of (te := tAsg (anyE F e) (gName j)) (fun i => ps_set (by rw [F.hN i]; exact F.nd) (hN i) (hx i) (anyE_ok i) (hs i) (hf i)) fun σ G H c E m => he σ G H c _ fun v G1 H1 m1 dv =>
    m.nx _ _ G1 H1 (m1.mw.trans (m1.cx.store dv)) q
theorem ds_set {j : Nat} {x : Str} {pos' : Pos} (he : DE F e S S1 d) (q : DS F rest (S1.set j d) P) (hN : ∀ i, (F.X i).N[j]? = some x := by intro _; rfl) (hx : ∀ i, Loc (F.X i).env.scope x := by intro _; first | exact Or.inl rfl | exact Or.inr rfl)
    (hs : ∀ i, swapsWith e (some (.Name x pos')) pos.line (F.X i).env = pure false := by intro _; rfl) (hf : ∀ i, (F.X i).fn x = true ∨ (F.X i).env.scope.names.lookup x = some .local := by intro _; first | exact .inl rfl | exact .inr rfl) : DS F (.Assign [.Name x pos'] e pos :: rest) S P :=
  ds_cons (M := fun S2 => S2 = S1.set j d) (d1_set he rfl hN hx hs hf) fun _ z => z ▸ q
def anyG (F : Fam) (tg : Expr) : TG := fun v σ H Q => ∃ g, (∀ i, PG (F.X i) tg g) ∧ g v σ H Q
theorem anyG_ok {tg : Expr} (i : F.I) : PG (F.X i) tg (anyG F tg) := by
  constructor
  intro pins s σ H v u Q I r h
  obtain ⟨g, h1, h2⟩ := h
  exact (h1 i).run pins s σ H v u Q I r h2
def Only (js : List Nat) (σ σ2 : L2.St) : Prop := ∀ vs : List Nat, (∀ j ∈ js, j ∈ vs) → wipe σ2 vs = wipe σ vs
theorem wipe_set_none (σ : L2.St) (j : Nat) (x : Option V) : ∀ vs : List Nat, (wipe (σ.set j x) vs).set j none = (wipe σ vs).set j none
  | [] => by unfold wipe; rw [List.set_set]
  | v :: vs => by
    unfold wipe
    by_cases h : v = j
    · subst h
      rw [List.set_set, List.set_set, wipe_set_none σ v x vs]
    · rw [List.set_comm _ _ h, wipe_set_none σ j x vs, List.set_comm _ _ h]
theorem wipe_set_in (σ : L2.St) (j : Nat) (x : Option V) : ∀ vs : List Nat, j ∈ vs → wipe (σ.set j x) vs = wipe σ vs
  | [], h => nomatch h
  | v :: vs, h => by
    unfold wipe
    by_cases e : v = j
    · subst e; exact wipe_set_none σ v x vs
    · have : j ∈ vs := by
        rcases List.mem_cons.mp h with z | z
        · exact absurd z.symm e
        · exact z
      rw [wipe_set_in σ j x vs this]
def DG (F : Fam) (tg : Expr) (d : D) (S S' : ST) (js : List Nat) : Prop := ∀ σ G H v, Ctx F.C G H σ S → Den F.C G v d → ∀ Q : L2.St → Hp → Prop, (∀ σ2 G2 H2, Mw F.C σ S G H σ2 S' G2 H2 → Only js σ σ2 → Q σ2 H2) → anyG F tg v σ H Q
def anyGs (F : Fam) (tg : List Expr) : TGs := fun v σ H Q => ∃ g, (∀ i, PGs (F.X i) tg g) ∧ g v σ H Q
theorem anyGs_ok {tg : List Expr} (i : F.I) : PGs (F.X i) tg (anyGs F tg) := by
  constructor
  intro pins s σ H v u Q I r h
  obtain ⟨g, h1, h2⟩ := h
  exact (h1 i).run pins s σ H v u Q I r h2
def DGs (F : Fam) (tg : List Expr) (ds : List D) (S S' : ST) (js : List Nat) : Prop := ∀ σ G H vs, Ctx F.C G H σ S → DenL F.C G vs ds → ∀ Q : L2.St → Hp → Prop, (∀ σ2 G2 H2, Mw F.C σ S G H σ2 S' G2 H2 → Only js σ σ2 → Q σ2 H2) → anyGs F tg vs σ H Q
theorem dg_name {j : Nat} {x : Str} (hN : ∀ i, (F.X i).N[j]? = some x := by intro _; rfl) (hx : ∀ i, Loc (F.X i).env.scope x := by intro _; first | exact Or.inl rfl | exact Or.inr rfl)
    (hf : ∀ i, (F.X i).fn x = true ∨ (F.X i).env.scope.names.lookup x = some .local := by intro _; first | exact .inl rfl | exact .inr rfl) : DG F (.Name x pos) d S (S.set j d) [j] := fun σ G H v c dv Q q =>
  ⟨gName j, fun i => pg_name (by rw [F.hN i]; exact F.nd) (hN i) (hx i) (hf i), q _ G H (c.store dv) fun vs h => wipe_set_in σ j _ vs (h j List.mem_cons_self)⟩
theorem dgs_nil : DGs F [] [] S S [] := fun σ G H vs c dv Q q => ⟨gNil, fun i => pgs_nil, by cases dv; exact ⟨rfl, q _ G H (.refl c) fun _ _ => rfl⟩⟩
theorem dgs_cons {tg : Expr} {tgs : List Expr} {js ks : List Nat} (h1 : DG F tg d S S1 js) (h2 : DGs F tgs ds S1 S2 ks) (hs : ∀ i, PGs (F.X i) (tg :: tgs) (gCons (anyG F tg) (anyGs F tgs)) := by intro i; exact pgs_cons (anyG_ok i) (anyGs_ok i)) : DGs F (tg :: tgs) (d :: ds) S S2 (js ++ ks) := fun σ G H vs c dv Q q =>
  ⟨gCons (anyG F tg) (anyGs F tgs), hs, by
    cases dv with
    | cons hd hl => exact ⟨_, _, rfl, h1 σ G H _ c hd _ fun σ1 G1 H1 m1 o1 => h2 σ1 G1 H1 _ m1.cx (hl.mono m1.go.gg) Q fun σ2 G2 H2 m2 o2 => q σ2 G2 H2 (m1.trans m2) fun vs h => (o2 vs fun j hj => h j (List.mem_append_right _ hj)).trans (o1 vs fun j hj => h j (List.mem_append_left _ hj))⟩⟩
theorem dg_tup {tgs : List Expr} {kk : Nat} {js : List Nat} (h : DGs F tgs ds S S1 js) (hp : ∀ i, PG (F.X i) (.Tuple tgs kk pos) (gTup (F.X i).K ds.length (anyGs F tgs)) := by intro i; exact pg_tup (Fam.calm _ i) (anyGs_ok i)) : DG F (.Tuple tgs kk pos) (.tup ds) S S1 js := fun σ G H v c dv Q q =>
  ⟨gTup F.C.K ds.length (anyGs F tgs), fun i => by have := hp i; rw [F.hK i] at this; exact this, by
    cases dv with
    | tup h1 h2 => exact ⟨_, _, rfl, same_t c.sub h1, h2.length, h σ G H _ c h2 Q q⟩⟩
theorem ds_asg {tg : Expr} {js : List Nat} (he : DE F e S S1 d) (hg : DG F tg d S1 S2 js) (q : DS F rest S2 P)
    (ho : ∀ i, PS (F.X i) (.Assign [tg] e pos) (tAsg (anyE F e) (anyG F tg)) := by intro i; exact ps_asg (anyE_ok i) (anyG_ok i)) : DS F (.Assign [tg] e pos :: rest) S P :=
  ds_cons (M := fun S3 => S3 = S2) (d1_of (te := tAsg (anyE F e) (anyG F tg)) ho fun σ G H c E m => he σ G H c _ fun v G1 H1 m1 dv => hg σ G1 H1 v m1.cx dv _ fun σ2 G2 H2 m2 _ => m.nx _ _ _ _ (m1.mw.trans m2) rfl) fun _ z => z ▸ q
end
end DL
namespace DL
open PySem L2
variable [TabL]
section
variable {F : Fam} {S S1 S2 S3 : ST} {e a b c : Expr} {d x y z : D} {pos p apos : Pos} {es : List Expr} {ds : List D} {k : Bool} {nm : Str} {P : Po} {rest t u : List Stmt} {st : Stmt} {M : ST → Prop}
theorem Fam.ndX (F : Fam) (o : F.I) : (F.X o).N.Nodup := by rw [F.hN o]; exact F.nd
theorem ctx_bagSet {C : Kc} {σ : L2.St} {G H : Hp} {bb : Addr} {o o' : BG} {ho : HO} (cx : Ctx C G H σ S) (hg : S.g = some (bb, o)) (g2 : G bb = none) (hb : BagOk C G (upd H bb ho) (some (bb, o'))) : Mv C σ S G H ⟨S.s, some (bb, o')⟩ G (upd H bb ho) := by
  have ne : ∀ a, ¬ OA C σ S a → a ≠ bb := fun a n z => n (.inr ⟨o, by rw [z]; exact hg⟩)
  have tb : LamX.Tabs TabL.T H → LamX.Tabs TabL.T (upd H bb ho) := fun t => by
    have z := cx.bag
    rw [hg] at z
    cases o with
    | lst => obtain ⟨_, _, z2, _⟩ := z; exact tabs_upd t z2 nt_lst nc_lst
    | ins => obtain ⟨_, _, _, z2, _⟩ := z; exact tabs_upd t z2 nt_ins nc_ins
    | xd => obtain ⟨_, _, z2, _⟩ := z; exact tabs_upd t z2 nt_xd nc_xd
  refine ⟨⟨fun a u n _ h => by rw [upd_ne (ne a n)]; exact h, fun _ _ h => h, fun _ _ _ h => h, fun a h => by
    by_cases z : a = bb
    · rw [z, upd_same]; simp
    · rw [upd_ne z]; exact h, tb⟩, ⟨⟨fun a u h => ?_, tb cx.sub.t, cx.sub.n⟩, cx.len, cx.im, fun i ds h => ?_, cx.apart, fun i b o2 h h1 => ?_, hb, fun i b o2 ds h h1 => ?_⟩, fun a z => ?_⟩
  · have na : a ≠ bb := fun z => by rw [z, g2] at h; cases h
    rw [upd_ne na]; exact cx.sub _ _ h
  · obtain ⟨a, vs, h1, h3, h4, h5⟩ := cx.ow i ds h
    have na : a ≠ bb := fun z => cx.nob i bb _ ds hg h (by rw [← z]; exact h1)
    exact ⟨a, vs, h1, h3, by rw [upd_ne na]; exact h4, h5⟩
  · cases h; exact cx.bg i bb _ hg h1
  · cases h; exact cx.nob i bb _ ds hg h1
  · rcases z with z | ⟨o2, z⟩
    · exact .inl z
    · cases z; exact .inr ⟨_, hg⟩
theorem ds_bagSet {j : Nat} {x : Str} {i : Int} {n : Nat} {q1 : Pos} {bb : Addr} {gs : List D} (he : DE F e S S1 d) (hj : S1.s[j]? = some (some .bag)) (hb : DE F b S1 S1 (.int i)) (hg : S1.g = some (bb, .lst gs)) (hi : ixN gs.length i = some n) (q : DS F rest ⟨S1.s, some (bb, .lst (gs.set n d))⟩ P)
    (hN : ∀ i, (F.X i).N[j]? = some x := by intro _; rfl) (hv : ∀ i, Vis (F.X i).env.scope x := by intro _; first | exact Or.inl rfl | exact Or.inr (Or.inl rfl) | exact Or.inr (Or.inr rfl))
    (hd : (x == ("__debug__" : Str)) = false := by decide) (hcd : (x == ("__classdict__" : Str)) = false := by decide)
    (hp : ∀ i, PS (F.X i) (.Assign [.Subscript (.Name x q1) b p] e pos) (tAsg (anyE F e) (gSub (tVar j) (anyE F b) rSetL)) := by
      intro i; exact ps_asg (anyE_ok i) (pg_sub (pv _) (anyE_ok i) set_list)) :
    DS F (.Assign [.Subscript (.Name x q1) b p] e pos :: rest) S P := by
  refine ds_cons (M := fun S3 => S3 = ⟨S1.s, some (bb, .lst (gs.set n d))⟩) (d1_of (te := tAsg (anyE F e) (gSub (tVar j) (anyE F b) rSetL)) hp ?_) fun _ z => z ▸ q
  intro σ G H c E m
  refine he σ G H c _ fun v G1 H1 m1 dv => ⟨_, m1.cx.bg j _ _ hg hj, ?_⟩
  refine hb σ G1 H1 m1.cx _ fun w G2 H2 m2 dw => ?_
  cases dw
  have z := m2.cx.bag
  rw [hg] at z
  obtain ⟨z1, gv, z2, z3⟩ := z
  refine ⟨bb, gv, i, n, rfl, rfl, z2, by rw [z3.length]; exact hi, ?_⟩
  exact m.nx _ _ _ _ (m1.mw.trans (m2.mw.trans (ctx_bagSet (o' := .lst (gs.set n d)) m2.cx hg z1 ⟨z1, _, upd_same, z3.set (dv.mono m2.go.gg) n⟩).mw)) rfl
theorem ds_fld {j : Nat} {x f : Str} {q1 q2 : Pos} {bb : Addr} {cn : Nat} {fs : List (Str × D)} (he : DE F e S S1 d) (hj : S1.s[j]? = some (some .bag)) (hg : S1.g = some (bb, .ins cn fs)) (hc : Cls F.C.K (F.C.cl cn)) (hn : NoAttr F.C.K (F.C.cl cn) f) (q : DS F rest ⟨S1.s, some (bb, .ins cn (putD f d fs))⟩ P) (hl : fs.length < 1000 := by decide)
    (hN : ∀ i, (F.X i).N[j]? = some x := by intro _; rfl) (hv : ∀ i, Vis (F.X i).env.scope x := by intro _; first | exact Or.inl rfl | exact Or.inr (Or.inl rfl) | exact Or.inr (Or.inr rfl))
    (hd : (x == ("__debug__" : Str)) = false := by decide) (hcd : (x == ("__classdict__" : Str)) = false := by decide)
    (hs : ∀ i, swapsWith e (some (.Attribute (.Name x q1) f q2)) pos.line (F.X i).env = pure false := by intro _; rfl) : DS F (.Assign [.Attribute (.Name x q1) f q2] e pos :: rest) S P := by
  refine ds_cons (M := fun S3 => S3 = ⟨S1.s, some (bb, .ins cn (putD f d fs))⟩) (d1_of (te := sFld F.C.K (tVar j) (anyE F e) f) (fun i => by have := ps_fld (f := f) (pos := pos) (pos' := q2) (pe_var (pos := q1) (hN i) (hv i) hd hcd) (anyE_ok (e := e) i) (hs i); rw [F.hK i] at this; exact this) ?_) fun _ z => z ▸ q
  intro σ G H c E m
  refine he σ G H c _ fun v G1 H1 m1 dv => ⟨_, m1.cx.bg j _ _ hg hj, ?_⟩
  have z := m1.cx.bag
  rw [hg] at z
  obtain ⟨z1, dx, gv, z2, z3⟩ := z
  refine ⟨bb, _, dx, gv, rfl, z2, hc, hn, by rw [z3.length]; exact hl, ?_⟩
  exact m.nx _ _ _ _ (m1.mw.trans (ctx_bagSet (o' := .ins cn (putD f d fs)) m1.cx hg z1 ⟨z1, dx, _, upd_same, z3.put dv⟩).mw) rfl
theorem Ctx.storeO {C : Kc} {G H : Hp} {σ : L2.St} {S : ST} {i : Nat} {q : Addr} {vs : HO} {ds : MO} (c : Ctx C G H σ S) (gq : G q = none) (hq : H q = some vs) (dl : MOk C G q vs ds) (hi : i < S.s.length) (no : ∀ (j : Nat) es, S.s[j]? = some (some (.own es)) → σ[j]? ≠ some (some (.ref q))) (nb : ∀ o, S.g ≠ some (q, o)) :
    Ctx C G H (σ.set i (some (.ref q))) (S.setM i ds) := by
  have hi2 : i < σ.length := by rw [c.len]; exact hi
  have key : ∀ (j : Nat) (o : DV), i ≠ j → (S.setM i ds).s[j]? = some (some o) → S.s[j]? = some (some o) := fun j o ij q => by rw [ST.setM, List.getElem?_set_ne ij] at q; exact q
  have self : (S.setM i ds).s[i]? = some (some (.own ds)) := List.getElem?_set_self hi
  have selfσ : (σ.set i (some (V.ref q)))[i]? = some (some (.ref q)) := List.getElem?_set_self hi2
  refine ⟨c.sub, by simp [ST.setM, c.len], fun j e r => ?_, fun j e r => ?_, fun j k' es fs a r1 r2 r3 r4 => ?_, fun j b o hg r => ?_, c.bag, fun j b o es hg r => ?_⟩
  · by_cases ij : i = j
    · subst ij; rw [self] at r; cases r
    · rw [List.getElem?_set_ne ij]; exact c.im j e (key j _ ij r)
  · by_cases ij : i = j
    · subst ij; rw [self] at r; cases r; exact ⟨q, vs, selfσ, gq, hq, dl⟩
    · rw [List.getElem?_set_ne ij]; exact c.ow j e (key j _ ij r)
  · by_cases ij : i = j
    · by_cases ik : i = k'
      · exact ij.symm.trans ik
      · subst ij
        rw [selfσ] at r3; cases r3
        rw [List.getElem?_set_ne ik] at r4
        exact absurd r4 (no k' fs (key k' _ ik r2))
    · by_cases ik : i = k'
      · subst ik
        rw [selfσ] at r4; cases r4
        rw [List.getElem?_set_ne ij] at r3
        exact absurd r3 (no j es (key j _ ij r1))
      · rw [List.getElem?_set_ne ij] at r3
        rw [List.getElem?_set_ne ik] at r4
        exact c.apart j k' es fs a (key j _ ij r1) (key k' _ ik r2) r3 r4
  · by_cases ij : i = j
    · subst ij; rw [self] at r; cases r
    · rw [List.getElem?_set_ne ij]; exact c.bg j b o hg (key j _ ij r)
  · by_cases ij : i = j
    · subst ij; rw [selfσ]; intro z; cases z; exact nb o hg
    · rw [List.getElem?_set_ne ij]; exact c.nob j b o es hg (key j _ ij r)
theorem do_lst {es : List Expr} {ds : List D} (h : DA F es S S1 ds) (hl : ds.length ≤ sizeLine := by decide) : DO F (.List es pos) S S1 ds :=
  do_of (fun i => pe_lst (anyA_ok i)) fun σ G H c Q q => h σ G H c _ fun vs G1 H1 m dl => ⟨by rw [dl.length]; exact hl, fun p hp => by
    have sm : Same H1 (upd H1 p (.lst vs)) := fun a u h => by rw [upd_ne (ne_of_none h hp)]; exact h
    have hp0 : H p = none := back_none m.go hp
    have g1 : G1 p = none := m.cx.sub.free hp
    exact q p vs G1 _ (m.trans (m.cx.mv (Same.kt sm) (fun _ _ h => h) (m.cx.sub.trans sm) fun _ _ h => h)) hp0 g1 upd_same dl⟩
end
end DL
namespace DL
open PySem L2
variable [TabL]
section
variable {F : Fam} {S S1 S2 S3 : ST} {e a b c tg iter : Expr} {d x y z : D} {pos p apos : Pos} {es : List Expr} {ds : List D} {k : Bool} {nm : Str} {P : Po} {rest t u body : List Stmt} {st : Stmt} {M : ST → Prop}
theorem Ctx.putO {C : Kc} {G H : Hp} {σ : L2.St} {S : ST} {j : Nat} {a : Addr} {vs' : HO} {ds ds' : MO} (c : Ctx C G H σ S) (hj : S.s[j]? = some (some (.own ds))) (ha : σ[j]? = some (some (.ref a))) (ga : G a = none) (dl : MOk C G a vs' ds') :
    Mv C σ S G H (S.setM j ds') G (upd H a vs') := by
  have hjl : j < S.s.length := by
    rcases Nat.lt_or_ge j S.s.length with z | z
    · exact z
    · rw [List.getElem?_eq_none z] at hj; cases hj
  have self : (S.setM j ds').s[j]? = some (some (.own ds')) := List.getElem?_set_self hjl
  have key : ∀ (i : Nat) (o : DV), j ≠ i → (S.setM j ds').s[i]? = some (some o) → S.s[i]? = some (some o) := fun i o ij q => by rw [ST.setM, List.getElem?_set_ne ij] at q; exact q
  have own : ∀ (i : Nat) es, (S.setM j ds').s[i]? = some (some (.own es)) → ∃ es', S.s[i]? = some (some (.own es')) := fun i es q => by
    by_cases ij : j = i
    · subst ij; exact ⟨ds, hj⟩
    · exact ⟨es, key i _ ij q⟩
  have oa : ∀ x, OA C σ (S.setM j ds') x → OA C σ S x := fun x z => by
    rcases z with ⟨i, es, r1, r2⟩ | z
    · obtain ⟨es', r⟩ := own i es r1
      exact .inl ⟨i, es', r, r2⟩
    · exact .inr z
  have na : ∀ x, ¬ OA C σ S x → x ≠ a := fun x n z => n (.inl ⟨j, ds, hj, by rw [z]; exact ha⟩)
  have tb : LamX.Tabs TabL.T H → LamX.Tabs TabL.T (upd H a _) := fun t => by
    obtain ⟨a', o', r1, _, r3, r4⟩ := c.ow j ds hj
    rw [ha] at r1
    cases r1
    exact tabs_upd (o' := vs') t r3 r4.nt r4.nc
  refine ⟨⟨fun x o n _ h => by rw [upd_ne (na x n)]; exact h, fun _ _ h => h, fun _ _ _ h => h, fun x h => ?_, tb⟩, ⟨⟨fun x o h => ?_, tb c.sub.t, c.sub.n⟩, by simp [ST.setM, c.len], fun i d q => ?_, fun i es q => ?_, fun i i' es es' q q1 q2 q3 q4 => ?_, fun i b o hg q => ?_, ?_, fun i b o es hg q => ?_⟩, oa⟩
  · by_cases z : x = a
    · rw [z, upd_same]; simp
    · rw [upd_ne z]; exact h
  · have z : x ≠ a := fun z => by rw [z, ga] at h; cases h
    rw [upd_ne z]; exact c.sub _ _ h
  · by_cases ij : j = i
    · subst ij; rw [self] at q; cases q
    · exact c.im i d (key i _ ij q)
  · by_cases ij : j = i
    · subst ij; rw [self] at q; cases q; exact ⟨a, vs', ha, ga, upd_same, dl⟩
    · obtain ⟨a', ws, h1, h2, h3, h4⟩ := c.ow i es (key i _ ij q)
      have z : a' ≠ a := fun z => ij (c.apart j i ds es a hj (key i _ ij q) ha (by rw [← z]; exact h1))
      exact ⟨a', ws, h1, h2, by rw [upd_ne z]; exact h3, h4⟩
  · obtain ⟨e1, r1⟩ := own i es q1
    obtain ⟨e2, r2⟩ := own i' es' q2
    exact c.apart i i' e1 e2 q r1 r2 q3 q4
  · by_cases ij : j = i
    · subst ij; rw [self] at q; cases q
    · exact c.bg i b o hg (key i _ ij q)
  · have nb : ∀ b o, S.g = some (b, o) → b ≠ a := fun b o hg z => c.nob j b o ds hg hj (by rw [z]; exact ha)
    have z := c.bag
    show BagOk C G (upd H a vs') S.g
    cases q : S.g with
    | none => trivial
    | some bo =>
      obtain ⟨b, o⟩ := bo
      rw [q] at z
      cases o with
      | lst es => obtain ⟨h1, ws, h2, h3⟩ := z; exact ⟨h1, ws, by rw [upd_ne (nb b _ q)]; exact h2, h3⟩
      | ins cc fs => obtain ⟨h1, dx, ws, h2, h3⟩ := z; exact ⟨h1, dx, ws, by rw [upd_ne (nb b _ q)]; exact h2, h3⟩
      | xd es => obtain ⟨h1, ws, h2, h3⟩ := z; exact ⟨h1, ws, by rw [upd_ne (nb b _ q)]; exact h2, h3⟩
  · obtain ⟨e1, r1⟩ := own i es q
    exact c.nob i b o e1 hg r1
theorem ds_append {j : Nat} {x : Str} {q1 cpos : Pos} {gs : List D} (he : DE F e S S1 d) (hj0 : ∃ es, S.s[j]? = some (some (.own (.lst es)))) (hj : S1.s[j]? = some (some (.own (.lst gs)))) (q : DS F rest (S1.setO j (gs ++ [d])) P) (hl : gs.length < sizeLine)
    (hp : ∀ i, PE (F.X i) (.Call (.Attribute (.Name x q1) "append" apos) [e] [] cpos) (tBM (F.X i).K "list" rAppend (tVar j) (tCons (anyE F e) tNil)) := by
      intro i; exact pe_bm PySem.F.plainAttrs_list PySem.F.slot_list_append PySem.F.type_list_append mt_append (pv _) (pa_cons (anyE_ok i) pa_nil))
    (hs : ∀ i, swapsWith (.Call (.Attribute (.Name x q1) "append" apos) [e] [] cpos) none pos.line (F.X i).env = pure false := by intro _; rfl) : DS F (.Expr (.Call (.Attribute (.Name x q1) "append" apos) [e] [] cpos) pos :: rest) S P := by
  refine ds_cons (M := fun S3 => S3 = S1.setO j (gs ++ [d])) (d1_of (te := tDrop (tBM F.C.K "list" rAppend (tVar j) (tCons (anyE F e) tNil))) (fun i => ps_expr (by have := hp i; rw [F.hK i] at this; exact this) (hs i)) ?_) fun _ z => z ▸ q
  intro σ G H c E m
  obtain ⟨es, hj0⟩ := hj0
  obtain ⟨a0, _, s1, _, s3, s4⟩ := c.ow j _ hj0
  obtain ⟨vs0, rfl, _⟩ := s4.isL
  refine ⟨.ref a0, s1, .inl ⟨rfl, vs0, SqL.of s3⟩, ?_⟩
  refine he σ G H c _ fun v G1 H1 m1 dv => ?_
  obtain ⟨a, _, h1, h2, h3, h4⟩ := m1.cx.ow j _ hj
  rw [s1] at h1; cases h1
  obtain ⟨vs, e4, h5⟩ := h4.isL
  subst e4
  clear h4
  have h4 := h5
  refine ⟨a0, vs, v, rfl, rfl, h3, by rw [h4.length]; exact hl, ?_⟩
  exact m.nx _ _ _ _ (m1.mw.trans (m1.cx.putO hj s1 h2 (.lst (h4.append (.cons dv .nil)))).mw) rfl
theorem Ctx.freeze {C : Kc} {G H : Hp} {σ : L2.St} {S : ST} {j : Nat} {a : Addr} {vs : HO} {ds : MO} (c : Ctx C G H σ S) (hj : S.s[j]? = some (some (.own ds))) (ha : σ[j]? = some (some (.ref a))) (ga : G a = none) (h3 : H a = some vs) (dl : MOk C G a vs ds) :
    Mv C σ S G H (S.set j (dOf ds)) (upd G a vs) H := by
  have hjl : j < S.s.length := by
    rcases Nat.lt_or_ge j S.s.length with z | z
    · exact z
    · rw [List.getElem?_eq_none z] at hj; cases hj
  have gg : Same G (upd G a vs) := fun x o h => by rw [upd_ne (ne_of_none h ga)]; exact h
  have self : (S.set j (dOf ds)).s[j]? = some (some (.imm (dOf ds))) := List.getElem?_set_self hjl
  have key : ∀ (i : Nat) (o : DV), j ≠ i → (S.set j (dOf ds)).s[i]? = some (some o) → S.s[i]? = some (some o) := fun i o ij q => by rw [ST.set, List.getElem?_set_ne ij] at q; exact q
  have keyO : ∀ (i : Nat) es, (S.set j (dOf ds)).s[i]? = some (some (.own es)) → j ≠ i ∧ S.s[i]? = some (some (.own es)) := fun i es q => by
    by_cases ij : j = i
    · subst ij; rw [self] at q; cases q
    · exact ⟨ij, key i _ ij q⟩
  refine ⟨⟨fun _ _ _ _ h => h, gg, fun x n h g => ?_, fun _ h => h, fun t => t⟩, ⟨⟨fun x o h => ?_, c.sub.t, fun p hp => by rw [upd_ne (tabs_ne c.sub.t h3 dl.nt p hp)]; exact c.sub.n p hp⟩, by simp [ST.set, c.len], fun i d q => ?_, fun i es q => ?_, fun i i' es es' x q1 q2 q3 q4 => ?_, fun i b o hg q => ?_, ?_, fun i b o es hg q => ?_⟩, fun x z => ?_⟩
  · have : x ≠ a := fun z => n (.inl ⟨j, ds, hj, by rw [z]; exact ha⟩)
    rw [upd_ne this]; exact g
  · by_cases z : x = a
    · subst z; rw [upd_same] at h; cases h; exact h3
    · rw [upd_ne z] at h; exact c.sub _ _ h
  · by_cases ij : j = i
    · subst ij; rw [self] at q; cases q; exact ⟨.ref a, ha, (dl.mono gg).den upd_same⟩
    · obtain ⟨v, h1, h2⟩ := c.im i d (key i _ ij q)
      exact ⟨v, h1, h2.mono gg⟩
  · obtain ⟨ij, q⟩ := keyO i es q
    obtain ⟨a', ws, h1, h2, h3, h4⟩ := c.ow i es q
    have z : a' ≠ a := fun z => ij (c.apart j i ds es a hj q ha (by rw [← z]; exact h1))
    exact ⟨a', ws, h1, by rw [upd_ne z]; exact h2, h3, h4.mono gg⟩
  · exact c.apart i i' es es' x (keyO i es q1).2 (keyO i' es' q2).2 q3 q4
  · by_cases ij : j = i
    · subst ij; rw [self] at q; cases q
    · exact c.bg i b o hg (key i _ ij q)
  · have nb : ∀ b o, S.g = some (b, o) → b ≠ a := fun b o hg z => c.nob j b o ds hg hj (by rw [z]; exact ha)
    have z := c.bag
    show BagOk C (upd G a vs) H S.g
    cases q : S.g with
    | none => trivial
    | some bo =>
      obtain ⟨b, o⟩ := bo
      rw [q] at z
      cases o with
      | lst es => obtain ⟨h1, ws, h2, h3⟩ := z; exact ⟨by rw [upd_ne (nb b _ q)]; exact h1, ws, h2, h3.mono gg⟩
      | ins cc fs => obtain ⟨h1, dx, ws, h2, h3⟩ := z; exact ⟨by rw [upd_ne (nb b _ q)]; exact h1, dx, ws, h2, h3.mono gg⟩
      | xd es => obtain ⟨h1, ws, h2, h3⟩ := z; exact ⟨by rw [upd_ne (nb b _ q)]; exact h1, ws, h2, h3.mono gg⟩
  · exact c.nob i b o es hg (keyO i es q).2
  · rcases z with ⟨i, es, r1, r2⟩ | z
    · exact .inl ⟨i, es, (keyO i es r1).2, r2⟩
    · exact .inr z
structure ItD (C : Kc) (J : It) (G0 : Hp) (ds : List D) : Prop where
  go : ∀ i G H, i < ds.length → Same G0 G → Sub G H → J.go i H
  yld : ∀ i d G H x H', ds[i]? = some d → Same G0 G → Sub G H → J.yld i H x H' → ∃ G', Pu G H G' H' ∧ Den C G' x d
  stop : ∀ i G H, ds.length ≤ i → Same G0 G → Sub G H → J.stop i H
theorem ItD.mono {C : Kc} {J : It} {G0 G1 : Hp} {ds : List D} (h : ItD C J G0 ds) (e : Same G0 G1) : ItD C J G1 ds :=
  ⟨fun i G H hi s => h.go i G H hi (e.trans s), fun i d G H x H' hd s => h.yld i d G H x H' hd (e.trans s), fun i G H hi s => h.stop i G H hi (e.trans s)⟩
def anyI (F : Fam) (tg iter : Expr) : TI := fun σ H R => ∃ wi, (∀ i, PI (F.X i) tg iter wi) ∧ wi σ H R
theorem anyI_ok {tg iter : Expr} (i : F.I) : PI (F.X i) tg iter (anyI F tg iter) := ⟨fun pins s σ H R I h => let ⟨wi, h1, h2⟩ := h; (h1 i).run pins s σ H R I h2⟩
def DI (F : Fam) (tg iter : Expr) (S S1 : ST) (ds : List D) : Prop := ∀ σ G H, Ctx F.C G H σ S → ∀ R : It → Hp → Prop, (∀ J G2 H2, Mv F.C σ S G H S1 G2 H2 → ItD F.C J G2 ds → R J H2) → anyI F tg iter σ H R
theorem di_of {wi : TI} (h : ∀ i, PI (F.X i) tg iter wi) (v : ∀ σ G H, Ctx F.C G H σ S → ∀ R : It → Hp → Prop, (∀ J G2 H2, Mv F.C σ S G H S1 G2 H2 → ItD F.C J G2 ds → R J H2) → wi σ H R) : DI F tg iter S S1 ds := fun σ G H c R q => ⟨wi, h, v σ G H c R q⟩
theorem itd_list {C : Kc} {G0 : Hp} {a : Addr} {vs : List V} (h : SqL C.K G0 a vs) (dl : DenL C G0 vs ds) : ItD C (Itl C.K a) G0 ds where
  go := fun i G H hi s s2 => by
    obtain ⟨v, h1, _⟩ := dl.get (List.getElem?_eq_getElem hi)
    exact ⟨vs, v, s2.seq (s.seq h), h1⟩
  yld := fun i d G H x H' hd s s2 hy => by
    obtain ⟨rfl, hy⟩ := hy
    obtain ⟨v, h1, h2⟩ := dl.get hd
    have := hy vs (s2.seq (s.seq h))
    rw [h1] at this; cases this
    exact ⟨G, .refl s2, h2.mono s⟩
  stop := fun i G H hi s s2 => ⟨vs, s2.seq (s.seq h), by rw [dl.length]; exact hi⟩
theorem itd_tup {C : Kc} {G0 : Hp} {a : Addr} {vs : List V} (h : SqT C.K G0 a vs) (dl : DenL C G0 vs ds) : ItD C (Itt C.K a) G0 ds where
  go := fun i G H hi s s2 => by
    obtain ⟨v, h1, _⟩ := dl.get (List.getElem?_eq_getElem hi)
    exact ⟨vs, v, same_t s2 (same_t s h), h1⟩
  yld := fun i d G H x H' hd s s2 hy => by
    obtain ⟨rfl, hy⟩ := hy
    obtain ⟨v, h1, h2⟩ := dl.get hd
    have := hy vs (same_t s2 (same_t s h))
    rw [h1] at this; cases this
    exact ⟨G, .refl s2, h2.mono s⟩
  stop := fun i G H hi s s2 => ⟨vs, same_t s2 (same_t s h), by rw [dl.length]; exact hi⟩
theorem di_list (h : DE F iter S S1 (.lst ds)) : DI F tg iter S S1 ds := di_of (wi := iList F.C.K (anyE F iter)) (fun i => by have := pi_list (tg := tg) (anyE_ok (e := iter) i); rw [F.hK i] at this; exact this) fun σ G H c R q => h σ G H c _ fun v G1 H1 m dv => by
  cases dv with
  | @lst a vs _ h1 h2 => exact ⟨_, rfl, ⟨vs, m.cx.sub.seq h1⟩, q _ _ _ m (itd_list h1 h2)⟩
theorem di_tup (h : DE F iter S S1 (.tup ds)) : DI F tg iter S S1 ds := di_of (wi := iTup F.C.K (anyE F iter)) (fun i => by have := pi_tup (tg := tg) (anyE_ok (e := iter) i); rw [F.hK i] at this; exact this) fun σ G H c R q => h σ G H c _ fun v G1 H1 m dv => by
  cases dv with
  | @tup a vs _ h1 h2 => exact ⟨_, rfl, ⟨vs, same_t m.cx.sub h1⟩, q _ _ _ m (itd_tup h1 h2)⟩
def rangeD (lo : Int) (n : Nat) : List D := (List.range n).map fun (i : Nat) => D.int (lo + i)
theorem rangeD_length (lo : Int) (n : Nat) : (rangeD lo n).length = n := by simp [rangeD]
theorem rangeD_get {lo : Int} {n i : Nat} {d : D} (h : (rangeD lo n)[i]? = some d) : i < n ∧ d = .int (lo + i) := by
  unfold rangeD at h
  rw [List.getElem?_map] at h
  cases q : (List.range n)[i]? with
  | none => rw [q] at h; cases h
  | some j =>
    rw [q] at h
    rw [List.getElem?_eq_some_iff] at q
    obtain ⟨h1, h2⟩ := q
    rw [List.getElem_range] at h2
    subst h2
    exact ⟨by simpa using h1, by simpa using h.symm⟩
theorem itd_range {C : Kc} {G0 : Hp} {lo : Int} {n : Nat} : ItD C (Itr lo n) G0 (rangeD lo n) where
  go := fun i G H hi s s2 => by rw [rangeD_length] at hi; exact hi
  yld := fun i d G H x H' hd s s2 hy => by
    obtain ⟨rfl, rfl⟩ := hy
    obtain ⟨_, rfl⟩ := rangeD_get hd
    exact ⟨G, .refl s2, .int _⟩
  stop := fun i G H hi s s2 => by rw [rangeD_length] at hi; exact hi
theorem di_range1 {i : Int} {q1 : Pos} (hm : F.mg "range" = none) (h : DE F e S S1 (.int i)) (h1 : -(2 ^ 62) ≤ i) (h2 : i < 2 ^ 62) (hg : ∀ l, Gl (F.X l) "range" := by intro _; rfl) (hs : ∀ l, starEach [e] (F.X l).env = [(false, eval e (F.X l).env)] := by intro _; rfl) : DI F tg (.Call (.Name "range" p) [e] [] q1) S S1 (rangeD 0 i.toNat) :=
  di_of (wi := iRng1 (tCons (anyE F e) tNil)) (fun l => pi_range1 (hg l) (by rw [F.hmg l]; exact hm) (pa_cons (anyE_ok l) pa_nil (hs l)) (hs l)) fun σ G H c R q => h σ G H c _ fun v G1 H1 m dv => by
    cases dv
    exact ⟨i, rfl, h1, h2, q _ _ _ m itd_range⟩
theorem di_range2 {i j : Int} {q1 : Pos} (hm : F.mg "range" = none) (h : DE F a S S1 (.int i)) (h' : DE F b S1 S2 (.int j)) (hb : -(2 ^ 62) ≤ i ∧ i < 2 ^ 62 ∧ -(2 ^ 62) ≤ j ∧ j < 2 ^ 62) (hg : ∀ l, Gl (F.X l) "range" := by intro _; rfl) (hs : ∀ l, starEach [a, b] (F.X l).env = [(false, eval a (F.X l).env), (false, eval b (F.X l).env)] := by intro _; rfl)
    (hs2 : ∀ l, starEach [b] (F.X l).env = [(false, eval b (F.X l).env)] := by intro _; rfl) (hs3 : ∀ l, starEach [a, b] (F.X l).env = (false, eval a (F.X l).env) :: starEach [b] (F.X l).env := by intro _; rfl) : DI F tg (.Call (.Name "range" p) [a, b] [] q1) S S2 (rangeD i (j - i).toNat) :=
  di_of (wi := iRng2 (tCons (anyE F a) (tCons (anyE F b) tNil))) (fun l => pi_range2 (hg l) (by rw [F.hmg l]; exact hm) (pa_cons (anyE_ok l) (pa_cons (anyE_ok l) pa_nil (hs2 l)) (hs3 l)) (hs l) (hs2 l)) fun σ G H c R q => h σ G H c _ fun v G1 H1 m dv => h' σ G1 H1 m.cx _ fun v2 G2 H2 m2 dv2 => by
    cases dv
    cases dv2
    exact ⟨i, j, rfl, hb, q _ _ _ (m.trans m2) itd_range⟩
theorem ds_for (I : Nat → ST → Prop) (M : ST → Prop) (hi : DI F tg iter S S1 ds) (h0 : I 0 S1) (hb : ∀ i S d, ds[i]? = some d → I i S → ∃ S' js, DG F tg d S S' js ∧ DS F body S' { P with nx := I (i + 1), ct := I (i + 1), bk := M }) (hd : ∀ S, I ds.length S → M S) (hr : ∀ S2, M S2 → DS F rest S2 P)
    (hp : ∀ i, PassesOwn (model (F.X i).prog (F.X i).w) (F.X i).A (F.X i).env (F.X i).xe := by intro _; exact PassesOwn.never)
    (hf : ∀ i, PS (F.X i) (.For tg iter body [] pos) (tFor (anyI F tg iter) (anyG F tg) (anyS F body)) := by intro i; exact ps_for PassesOwn.never (Fam.calm _ i) (anyI_ok i) (anyG_ok i) (anyS_ok i)) : DS F (.For tg iter body [] pos :: rest) S P := by
  refine ds_cons (M := M) (d1_of (te := tFor (anyI F tg iter) (anyG F tg) (anyS F body)) hf ?_) hr
  intro σ0 G0 H0 c0 E m
  refine hi σ0 G0 H0 c0 _ fun J G1 H1 m1 it => ?_
  refine ⟨fun i m' σ H => i ≤ ds.length ∧ m' = ds.length - i ∧ ∃ S' G, Mw F.C σ0 S1 G1 H1 σ S' G H ∧ I i S', ⟨_, Nat.zero_le _, rfl, S1, G1, .refl m1.cx, h0⟩, ?_⟩
  rintro i m' σ H ⟨hle, rfl, S', G, mw, hI⟩
  by_cases hlt : i < ds.length
  · refine .inr ⟨it.go i G H hlt mw.go.gg mw.cx.sub, fun σ' H' => ∃ S2 G2, Mw F.C σ0 S1 G1 H1 σ' S2 G2 H' ∧ I (i + 1) S2, fun σ' H' ⟨S2, G2, a, b⟩ => ⟨_, by omega, hlt, rfl, S2, G2, a, b⟩, fun x H' hy => ?_⟩
    obtain ⟨G', pu, dx⟩ := it.yld i _ G H x H' (List.getElem?_eq_getElem hlt) mw.go.gg mw.cx.sub hy
    obtain ⟨S3, js, hg, hbd⟩ := hb i S' _ (List.getElem?_eq_getElem hlt) hI
    have m2 := mw.cx.pu pu
    refine hg σ G' H' x m2.cx dx _ fun σ2 G2 H2 m3 _ => ?_
    have all := (mw.trans m2.mw).trans m3
    have mm := m.move (m1.mw.trans all)
    exact hbd σ2 G2 H2 m3.cx _ ⟨fun σ3 S3 G3 H3 a q => ⟨S3, G3, all.trans a, q⟩, mm.rt, mm.nx, fun σ3 S3 G3 H3 a q => ⟨S3, G3, all.trans a, q⟩, mm.ro, mm.xc⟩
  · have e : i = ds.length := by omega
    subst e
    exact .inl ⟨it.stop _ G H (Nat.le_refl _) mw.go.gg mw.cx.sub, m.nx _ _ _ _ (m1.mw.trans mw) (hd S' hI)⟩
end
end DL
namespace DL
open PySem L2
variable [TabL]
def dkey : D → Option NestedKey
  | .tup ds => (nkDs ds).bind fun ks => if (NestedKey.tup ks).depth ≤ 8 then some (.tup ks) else none
  | _ => none
def dlook (k : NestedKey) : List (D × D) → Option D
  | [] => none
  | (kd, v) :: r => if nkD kd = some k then some v else dlook k r
def dput (k : NestedKey) (v : D) : List (D × D) → List (D × D)
  | [] => []
  | (kd, u) :: r => (if nkD kd = some k then (kd, v) else (kd, u)) :: dput k v r
def dstore (k : NestedKey) (kd v : D) (xs : List (D × D)) : List (D × D) := if (dlook k xs).isSome then dput k v xs else xs ++ [(kd, v)]
theorem dkey_eq {d : D} {k : NestedKey} (h : dkey d = some k) : nkD d = some k ∧ k.depth ≤ 8 ∧ ∃ ds, d = .tup ds := by
  cases d with
  | tup ds =>
    replace h : ((nkDs ds).bind fun ks => if (NestedKey.tup ks).depth ≤ 8 then some (NestedKey.tup ks) else none) = some k := h
    cases q : nkDs ds with
    | none => rw [q] at h; cases h
    | some ks =>
      rw [q] at h
      replace h : (if (NestedKey.tup ks).depth ≤ 8 then some (NestedKey.tup ks) else none) = some k := h
      split at h
      · rename_i h8
        cases h
        exact ⟨by show (nkDs ds).map _ = _; rw [q]; rfl, h8, ds, rfl⟩
      · cases h
  | _ => cases h
theorem nkh_nums {K : PySem.W.Frag} {H : Hp} {vs : List V} {ks : List NestedKey} {a : Addr} (h : SqT K H a vs) (l : vs.length = ks.length) (q : ∀ (i : Nat) v k, vs[i]? = some v → ks[i]? = some k → ND.NkH K H v k) : ND.NkH K H (.ref a) (.tup ks) := by
  cases vs with
  | nil =>
    cases ks with
    | nil => exact .nil h
    | cons _ _ => cases l
  | cons v vs =>
    cases ks with
    | nil => cases l
    | cons k ks => exact .cons h (q 0 v k rfl rfl) (fun i v k a b => q (i + 1) v k (by simpa using a) (by simpa using b)) (Nat.succ.inj l)
mutual
theorem nk_den {C : Kc} {G H : Hp} (s : Same G H) : ∀ {d : D} {v : V} {k : NestedKey}, Den C G v d → nkD d = some k → ND.NkH C.K H v k
  | .non, _, _, h, q => by cases h; cases q; exact .non
  | .bl b, _, _, h, q => by cases h; cases q; exact .bl b
  | .int i, _, _, h, q => by cases h; cases q; exact .int i
  | .str x, _, _, h, q => by cases h; cases q; exact .str x
  | .tup ds, _, k, h, q => by
    cases h with
    | @tup a xs _ h1 h2 =>
      cases e : nkDs ds with
      | none => rw [show nkD (.tup ds) = (nkDs ds).map .tup from rfl, e] at q; cases q
      | some ks =>
        rw [show nkD (.tup ds) = (nkDs ds).map .tup from rfl, e] at q
        cases q
        obtain ⟨l, z⟩ := nk_dens s h2 e
        exact nkh_nums (same_t s h1) l z
  | .lst _, _, _, _, q => by cases q
  | .obj _ _, _, _, _, q => by cases q
  | .cst _, _, _, _, q => by cases q
  | .dic _, _, _, _, q => by cases q
theorem nk_dens {C : Kc} {G H : Hp} (s : Same G H) : ∀ {ds : List D} {vs : List V} {ks : List NestedKey}, DenL C G vs ds → nkDs ds = some ks → vs.length = ks.length ∧ ∀ (i : Nat) v k, vs[i]? = some v → ks[i]? = some k → ND.NkH C.K H v k
  | [], _, _, h, q => by cases h; cases q; exact ⟨rfl, fun i v k a _ => by simp at a⟩
  | d :: ds, _, ks, h, q => by
    cases h with
    | @cons v _ vs _ h1 h2 =>
      cases e1 : nkD d with
      | none => rw [show nkDs (d :: ds) = (nkD d).bind fun k => (nkDs ds).map (k :: ·) from rfl, e1] at q; cases q
      | some k =>
        cases e2 : nkDs ds with
        | none => rw [show nkDs (d :: ds) = (nkD d).bind fun k => (nkDs ds).map (k :: ·) from rfl, e1, e2] at q; cases q
        | some ks' =>
          rw [show nkDs (d :: ds) = (nkD d).bind fun k => (nkDs ds).map (k :: ·) from rfl, e1, e2] at q
          cases q
          obtain ⟨l, z⟩ := nk_dens s h2 e2
          refine ⟨congrArg (· + 1) l, fun i v' k' a b => ?_⟩
          cases i with
          | zero => cases a; cases b; exact nk_den s h1 e1
          | succ i => exact z i v' k' (by simpa using a) (by simpa using b)
end
theorem kh_den {C : Kc} {G H : Hp} (s : Same G H) : ∀ {kds : List (D × D)} {xs : List ND.NEnt}, DenN C G xs kds → ND.KH C.K H xs
  | _, _, .nil => fun x hx => by cases hx
  | _, _, .cons h1 h2 h3 _ _ l => fun x hx => by
    rcases List.mem_cons.mp hx with e | e
    · subst e; exact ⟨nk_den s h3 h1, h2⟩
    · exact kh_den s l x e
theorem at_den {C : Kc} {G : Hp} {k : NestedKey} : ∀ {kds : List (D × D)} {xs : List ND.NEnt}, DenN C G xs kds → match dlook k kds with
    | none => atKey xs k = none
    | some d => ∃ p v, atKey xs k = some p ∧ RelV v p.2 ∧ Den C G v d
  | _, _, .nil => rfl
  | _, _, @DenN.cons _ _ k' b u v kd d xs ds h1 h2 h3 h4 h5 l => by
    have ih := at_den (k := k) l
    unfold dlook
    by_cases e : k' = k
    · subst e
      rw [if_pos h1]
      exact ⟨(b, u), v, by simp [atKey], h4, h5⟩
    · rw [if_neg (fun z => e (Option.some.inj (h1.symm.trans z)))]
      have r : atKey ((k', b, u) :: xs) k = atKey xs k := by simp [atKey, e]
      rw [r]
      exact ih
theorem at_some {C : Kc} {G : Hp} {k : NestedKey} {kds : List (D × D)} {xs : List ND.NEnt} {d : D} (h : DenN C G xs kds) (q : dlook k kds = some d) : ∃ p v, atKey xs k = some p ∧ RelV v p.2 ∧ Den C G v d := by
  have := at_den (k := k) h
  rw [q] at this
  exact this
theorem at_is {C : Kc} {G : Hp} {k : NestedKey} {kds : List (D × D)} {xs : List ND.NEnt} (h : DenN C G xs kds) : (atKey xs k).isSome = (dlook k kds).isSome := by
  have := at_den (k := k) h
  cases q : dlook k kds with
  | none => rw [q] at this; rw [show atKey xs k = none from this]; rfl
  | some d => rw [q] at this; obtain ⟨p, v, e, _⟩ := this; rw [e]; rfl
theorem put_den {C : Kc} {G : Hp} {k : NestedKey} {v : V} {u : Value} {d : D} (r : RelV v u) (hd : Den C G v d) : ∀ {kds : List (D × D)} {xs : List ND.NEnt}, DenN C G xs kds → DenN C G (xs.map (putAt k u)) (dput k d kds)
  | _, _, .nil => .nil
  | _, _, @DenN.cons _ _ k' b u' v' kd d' xs ds h1 h2 h3 h4 h5 l => by
    have ih := put_den (k := k) r hd l
    unfold dput
    rw [List.map_cons]
    by_cases e : k' = k
    · subst e
      rw [if_pos h1, show putAt k' u (k', b, u') = (k', b, u) from by simp [putAt]]
      exact .cons h1 h2 h3 r hd ih
    · rw [if_neg (fun z => e (Option.some.inj (h1.symm.trans z))), show putAt k u (k', b, u') = (k', b, u') from by simp [putAt, e]]
      exact .cons h1 h2 h3 h4 h5 ih
theorem app_den {C : Kc} {G : Hp} : ∀ {kds kes : List (D × D)} {xs ys : List ND.NEnt}, DenN C G xs kds → DenN C G ys kes → DenN C G (xs ++ ys) (kds ++ kes)
  | _, _, _, _, .nil, h => h
  | _, _, _, _, .cons h1 h2 h3 h4 h5 l, h => .cons h1 h2 h3 h4 h5 (app_den l h)
theorem store_den {C : Kc} {G : Hp} {k : NestedKey} {v : V} {u : Value} {d kd : D} {b : Addr} (h1 : nkD kd = some k) (h8 : k.depth ≤ 8) (hb : Den C G (.ref b) kd) (r : RelV v u) (hd : Den C G v d) {kds : List (D × D)} {xs : List ND.NEnt} (h : DenN C G xs kds) : DenN C G (storedH xs k b u) (dstore k kd d kds) := by
  unfold storedH dstore
  rw [at_is h]
  split
  · exact put_den r hd h
  · exact app_den h (.cons h1 h8 hb r hd .nil)
theorem DenN.length {C : Kc} {G : Hp} : ∀ {kds : List (D × D)} {xs : List ND.NEnt}, DenN C G xs kds → xs.length = kds.length
  | _, _, .nil => rfl
  | _, _, .cons _ _ _ _ _ l => by rw [List.length_cons, List.length_cons, DenN.length l]
section
variable {F : Fam} {S S1 S2 : ST} {e a b : Expr} {d x y z : D} {pos p : Pos} {P : Po} {rest : List Stmt}
theorem od_nd {neg : Bool} {op : CmpOp} {kds : List (D × D)} {k : NestedKey} (hop : ∀ i, (F.X i).A.units + 64 < cLine → OpR (F.X i) (compareOp op) (ND.rNIn (F.X i).K (F.X i).prog (F.X i).w neg)) (hk : dkey x = some k) : OpD F (compareOp op) x (.dic kds) (.bl (if neg then !(dlook k kds).isSome else (dlook k kds).isSome)) :=
  ⟨ND.rNIn F.C.K F.C.P F.C.w neg, fun i => by have := hop i (F.units i); rw [F.hK i, F.hP i, F.hw i] at this; rw [F.cP, F.cw]; exact this, fun G H u v s hu hv Q q => by
    obtain ⟨h1, h2, ds, rfl⟩ := dkey_eq hk
    have h3 := nk_den s.s hu h1
    cases hu with
    | @tup b xs _ t1 t2 =>
      cases hv with
      | @dN a od ys _ g1 g2 => exact ⟨b, a, od, ys, k, rfl, rfl, s _ _ g1, kh_den s g2, h3, h2, by rw [at_is g2]; exact q _ _ _ (.refl s) (.bl _)⟩⟩
theorem od_ndIn {kds : List (D × D)} {k : NestedKey} (hk : dkey x = some k) : OpD F (compareOp .In) x (.dic kds) (.bl (dlook k kds).isSome) := od_nd (neg := false) (fun i h => ND.or_nin h) hk
theorem ca_lenN {kds : List (D × D)} : CaD F (.builtin "len") [.dic kds] (.int kds.length) := ⟨ND.rNLen F.C.K F.C.P F.C.w, fun i => by
  have z := ND.cr_nlen (X := F.X i)
  rw [F.hK i, F.hP i, F.hw i, ← F.cP, ← F.cw] at z
  exact z, fun G H us s h Q q => by
  cases h with
  | cons h l => cases h with
    | dN h1 h2 => cases l; exact ⟨_, _, _, rfl, s _ _ h1, kh_den s h2, by rw [DenN.length h2]; exact q _ _ _ (.refl s) (.int _)⟩⟩
theorem ds_ndSet {j : Nat} {x : Str} {k : NestedKey} {kd : D} {kds : List (D × D)} {q1 : Pos} (he : DE F e S S1 d) (hj : S1.s[j]? = some (some (.own (.dic kds)))) (hb : DE F b S1 S1 kd) (hk : dkey kd = some k) (hl : kds.length < 1000000) (q : DS F rest (S1.setM j (.dic (dstore k kd d kds))) P)
    (hp : ∀ i, PS (F.X i) (.Assign [.Subscript (.Name x q1) b p] e pos) (tAsg (anyE F e) (gSub (tVar j) (anyE F b) (ND.rNSet (F.X i).K (F.X i).prog (F.X i).w)))) :
    DS F (.Assign [.Subscript (.Name x q1) b p] e pos :: rest) S P := by
  refine ds_cons (M := fun S3 => S3 = S1.setM j (.dic (dstore k kd d kds))) (d1_of (te := tAsg (anyE F e) (gSub (tVar j) (anyE F b) (ND.rNSet F.C.K F.C.P F.C.w))) (fun i => by have := hp i; rw [F.hK i, F.hP i, F.hw i] at this; rw [F.cP, F.cw]; exact this) ?_) fun _ z => z ▸ q
  intro σ G H c E m
  refine he σ G H c _ fun v G1 H1 m1 dv => ?_
  obtain ⟨a, _, h1, _⟩ := m1.cx.ow j _ hj
  refine ⟨.ref a, h1, ?_⟩
  refine hb σ G1 H1 m1.cx _ fun w G2 H2 m2 dw => ?_
  obtain ⟨k1, k8, ds, rfl⟩ := dkey_eq hk
  obtain ⟨a', _, h1', h2, h3, h4⟩ := m2.cx.ow j _ hj
  rw [h1] at h1'; cases h1'
  obtain ⟨od, xs, e4, h5⟩ := h4.isN
  subst e4
  have kn := nk_den m2.cx.sub.s dw k1
  have dw0 := dw
  cases dw with
  | @tup b' vs _ t1 t2 =>
    refine ⟨b', a, od, xs, k, rfl, rfl, h3, kh_den m2.cx.sub h5, kn, k8, by rw [h5.length]; exact hl, fun u o' r => ?_⟩
    exact m.nx _ _ _ _ (m1.mw.trans (m2.mw.trans (m2.cx.putO hj h1 h2 (.dN (store_den k1 k8 dw0 r (dv.mono m2.go.gg) h5))).mw)) rfl
end
end DL
namespace DL
open PySem L2
variable [TabL]
def Fam.blk (F : Fam) (scope : Scope) : Fam where
  I := F.I × (Shared × Hp × Addr × List (Str × Addr) × List Addr)
  X := fun j => (F.X j.1).blk j.2.1 j.2.2.1 scope (compEnvC scope j.2.2.2.2.1 j.2.2.2.1 (F.X j.1).env) j.2.2.2.2.2
  P := F.P
  w := F.w
  C := F.C
  mg := F.mg
  base := F.base
  N := F.N
  k := F.k
  hP := fun i => F.hP i.1
  hw := fun i => F.hw i.1
  hK := fun i => F.hK i.1
  hmg := fun i => F.hmg i.1
  hbase := fun i => F.hbase i.1
  hN := fun i => F.hN i.1
  nd := F.nd
  roomH := fun i => F.roomH i.1
  cP := F.cP
  cw := F.cw
instance {F : Fam} [Calm F] {scope : Scope} : Calm (F.blk scope) := ⟨fun i => F.calm i.1, fun i => Calm.h i.1⟩
def hidS (s : List (Option DV)) : List Nat → List (Option DV)
  | [] => s
  | v :: vs => (hidS s vs).set v none
theorem hidS_length (s : List (Option DV)) : ∀ vs, (hidS s vs).length = s.length
  | [] => by simp [hidS]
  | v :: vs => by unfold hidS; rw [List.length_set, hidS_length s vs]
theorem hidS_get {s : List (Option DV)} {i : Nat} {o : DV} : ∀ {vs : List Nat}, (hidS s vs)[i]? = some (some o) → s[i]? = some (some o) ∧ i ∉ vs
  | [], h => ⟨h, by simp⟩
  | v :: vs, h => by
    unfold hidS at h
    by_cases e : v = i
    · subst e
      rcases Nat.lt_or_ge v (hidS s vs).length with z | z
      · rw [List.getElem?_set_self z] at h; cases h
      · rw [List.getElem?_eq_none (by simpa using z)] at h; cases h
    · rw [List.getElem?_set_ne e] at h
      obtain ⟨h1, h2⟩ := hidS_get h
      exact ⟨h1, by simp only [List.mem_cons, not_or]; exact ⟨fun z => e z.symm, h2⟩⟩
theorem hidS_keep {s : List (Option DV)} {i : Nat} : ∀ {vs : List Nat}, i ∉ vs → (hidS s vs)[i]? = s[i]?
  | [], _ => rfl
  | v :: vs, h => by
    unfold hidS
    have h2 : i ≠ v ∧ i ∉ vs := by simpa using h
    rw [List.getElem?_set_ne (Ne.symm h2.1)]
    exact hidS_keep h2.2
theorem wipe_keep {σ : L2.St} {i : Nat} : ∀ {vs : List Nat}, i ∉ vs → (wipe σ vs)[i]? = σ[i]?
  | [], _ => rfl
  | v :: vs, h => by
    unfold wipe
    have h2 : i ≠ v ∧ i ∉ vs := by simpa using h
    rw [List.getElem?_set_ne (Ne.symm h2.1)]
    exact wipe_keep h2.2
theorem Ctx.hid {C : Kc} {G H : Hp} {σ : L2.St} {S : ST} (c : Ctx C G H σ S) (vs : List Nat) : Ctx C G H (wipe σ vs) ⟨hidS S.s vs, S.g⟩ where
  sub := c.sub
  len := by rw [wipe_length, hidS_length]; exact c.len
  im := fun i d h => by obtain ⟨h1, h2⟩ := hidS_get h; rw [wipe_keep h2]; exact c.im i d h1
  ow := fun i es h => by obtain ⟨h1, h2⟩ := hidS_get h; rw [wipe_keep h2]; exact c.ow i es h1
  apart := fun i j es fs a h h' q q' => by
    obtain ⟨h1, h2⟩ := hidS_get h
    obtain ⟨h3, h4⟩ := hidS_get h'
    rw [wipe_keep h2] at q
    rw [wipe_keep h4] at q'
    exact c.apart i j es fs a h1 h3 q q'
  bg := fun i b o hg h => by obtain ⟨h1, h2⟩ := hidS_get h; rw [wipe_keep h2]; exact c.bg i b o hg h1
  bag := c.bag
  nob := fun i b o es hg h => by obtain ⟨h1, h2⟩ := hidS_get h; rw [wipe_keep h2]; exact c.nob i b o es hg h1
theorem oa_hid {C : Kc} {σ : L2.St} {S : ST} {vs : List Nat} {a : Addr} (z : OA C (wipe σ vs) ⟨hidS S.s vs, S.g⟩ a) : OA C σ S a := by
  rcases z with ⟨i, es, r, q⟩ | z
  · obtain ⟨h1, h2⟩ := hidS_get r
    rw [wipe_keep h2] at q
    exact .inl ⟨i, es, h1, q⟩
  · exact .inr z
def KeepOwn (s : List (Option DV)) (vs : List Nat) (T : ST) : Prop := ∀ (i : Nat) es, s[i]? = some (some (.own es)) → i ∉ vs ∧ T.s[i]? = some (some (.own es))
theorem Ctx.outer {C : Kc} {G H G2 H2 : Hp} {σ σ2 : L2.St} {S T : ST} {vs : List Nat} (c : Ctx C G H σ S) (m : Mw C (wipe σ vs) ⟨hidS S.s vs, S.g⟩ G H σ2 T G2 H2) (hg : T.g.map (·.1) = S.g.map (·.1)) (ko : KeepOwn S.s vs T) (hσ : wipe σ2 vs = wipe σ vs) : Mv C σ S G H ⟨S.s, T.g⟩ G2 H2 := by
  have ad : ∀ b o, T.g = some (b, o) → ∃ o', S.g = some (b, o') := fun b o h => by
    rw [h] at hg
    cases q : S.g with
    | none => rw [q] at hg; cases hg
    | some bo => obtain ⟨b', o'⟩ := bo; rw [q] at hg; cases hg; exact ⟨o', rfl⟩
  have eσ : ∀ i, i ∉ vs → σ2[i]? = σ[i]? := fun i h => by
    rw [← wipe_keep (σ := σ2) h, hσ, wipe_keep h]
  refine ⟨m.go.mono fun a z => oa_hid z, ⟨m.cx.sub, c.len, fun i d h => ?_, fun i es h => ?_, c.apart, fun i b o h h1 => ?_, m.cx.bag, fun i b o es h h1 => ?_⟩, fun a z => ?_⟩
  · obtain ⟨v, h1, h2⟩ := c.im i d h
    exact ⟨v, h1, h2.mono m.go.gg⟩
  · obtain ⟨n, t⟩ := ko i es h
    obtain ⟨a, o, h1, h2, h3, h4⟩ := m.cx.ow i es t
    rw [eσ i n] at h1
    exact ⟨a, o, h1, h2, h3, h4⟩
  · obtain ⟨o', r⟩ := ad b o h
    exact c.bg i b o' r h1
  · obtain ⟨o', r⟩ := ad b o h
    exact c.nob i b o' es r h1
  · rcases z with z | ⟨o, z⟩
    · exact .inl z
    · obtain ⟨o', r⟩ := ad a o z
      exact .inr ⟨o', r⟩
theorem wipe_wipe (σ : L2.St) (vs : List Nat) : wipe (wipe σ vs) vs = wipe σ vs := by
  have key : ∀ (us : List Nat) (τ : L2.St), (∀ v ∈ us, v ∈ vs) → wipe (wipe τ us) vs = wipe τ vs := fun us => by
    induction us with
    | nil => intro τ _; rfl
    | cons u us ih =>
      intro τ h
      show wipe ((wipe τ us).set u none) vs = wipe τ vs
      rw [wipe_set_in _ u none vs (h u List.mem_cons_self)]
      exact ih τ fun v hv => h v (List.mem_cons_of_mem _ hv)
  exact key vs σ fun _ h => h
theorem ctx_priv {C : Kc} {G H : Hp} {σ : L2.St} {S : ST} {q : Addr} {o o' : HO} (c : Ctx C G H σ S) (gq : G q = none) (no : ∀ (j : Nat) es, S.s[j]? = some (some (.own es)) → σ[j]? ≠ some (some (.ref q))) (nb : ∀ o, S.g ≠ some (q, o)) (hq : H q = some o) (n1 : NT o) (n2 : NC o) : Ctx C G (upd H q o') σ S where
  sub := ⟨fun a u h => by
    have : a ≠ q := fun z => by rw [z, gq] at h; cases h
    rw [upd_ne this]; exact c.sub a u h, tabs_upd c.sub.t hq n1 n2, c.sub.n⟩
  len := c.len
  im := c.im
  ow := fun i es h => by
    obtain ⟨a, ws, h1, h2, h3, h4⟩ := c.ow i es h
    have : a ≠ q := fun z => no i es h (by rw [← z]; exact h1)
    exact ⟨a, ws, h1, h2, by rw [upd_ne this]; exact h3, h4⟩
  apart := c.apart
  bg := c.bg
  bag := by
    have z := c.bag
    cases r : S.g with
    | none => trivial
    | some bo =>
      obtain ⟨b, bo⟩ := bo
      have nq : b ≠ q := fun e => nb bo (by rw [r, e])
      rw [r] at z
      cases bo with
      | lst es => obtain ⟨h1, ws, h2, h3⟩ := z; exact ⟨h1, ws, by rw [upd_ne nq]; exact h2, h3⟩
      | ins cc fs => obtain ⟨h1, dx, ws, h2, h3⟩ := z; exact ⟨h1, dx, ws, by rw [upd_ne nq]; exact h2, h3⟩
      | xd es => obtain ⟨h1, ws, h2, h3⟩ := z; exact ⟨h1, ws, by rw [upd_ne nq]; exact h2, h3⟩
  nob := c.nob
section
variable {F : Fam} {S S1 S2 S3 : ST} {e a b c tg iter elt : Expr} {d x y z : D} {pos p apos : Pos} {es : List Expr} {ds : List D} {k : Bool} {nm : Str} {P : Po} {rest t u body : List Stmt} {st : Stmt} {M : ST → Prop} {ifs : List Expr} {scope : Scope} {own : List (Str × Nat)}
def anyTs (F : Fam) (ifs : List Expr) : TT := fun σ H Q => ∃ te, (∀ i, PTs (F.X i) ifs te) ∧ te σ H Q
theorem anyTs_ok {ifs : List Expr} (i : F.I) : PTs (F.X i) ifs (anyTs F ifs) := ⟨fun pins s σ H Q I h => let ⟨te, h1, h2⟩ := h; (h1 i).run pins s σ H Q I h2⟩
def DTs (F : Fam) (ifs : List Expr) (S S' : ST) (b : Bool) : Prop := EvT F.C (anyTs F ifs) S S' b
theorem dts_nil : DTs F [] S S true := fun σ G H c Q q => ⟨tYes, fun _ => pts_nil, q G H (.refl c)⟩
theorem dts_one {k : Bool} (h : DT F c S S1 k) : DTs F [c] S S1 k := fun σ G H cx Q q => ⟨anyT F c, fun i => pts_one (anyT_ok i), h σ G H cx Q q⟩
def Turn1 (F : Fam) (tg : Expr) (ifs : List Expr) (elt : Expr) (vs : List Nat) (s : List (Option DV)) (d : D) (g : Option (Addr × BG)) (out : List D) (g' : Option (Addr × BG)) (out' : List D) : Prop :=
  ∃ T1 T2 b js, DG F tg d ⟨hidS s vs, g⟩ T1 js ∧ (∀ j ∈ js, j ∈ vs) ∧ DTs F ifs T1 T2 b ∧ (b = true → ∃ T3 y, DE F elt T2 T3 y ∧ T3.g = g' ∧ KeepOwn s vs T3 ∧ out' = out ++ [y] ∧ out.length < sizeLine) ∧ (b = false → T2.g = g' ∧ KeepOwn s vs T2 ∧ out' = out)
theorem ev_lc {vs0 : List Nat} (hi : DI F tg iter S S1 ds) (gO : Nat → Option (Addr × BG)) (out : Nat → List D) (hg0 : gO 0 = S1.g) (ho0 : out 0 = []) (hga : ∀ i, (gO i).map (·.1) = S1.g.map (·.1))
    (step : ∀ i d, ds[i]? = some d → Turn1 (F.blk scope) tg ifs elt vs0 S1.s d (gO i) (out i) (gO (i + 1)) (out (i + 1))) :
    ∀ σ G H, Ctx F.C G H σ S → ∀ Q : VK, (∀ q vs G2 H2, Mv F.C σ S G H ⟨S1.s, gO ds.length⟩ G2 H2 → H q = none → G2 q = none → H2 q = some (.lst vs) → DenL F.C G2 vs (out ds.length) → Q (.ref q) H2) →
      tLc (anyI F tg iter) (anyG (F.blk scope) tg) (anyTs (F.blk scope) ifs) (anyE (F.blk scope) elt) vs0 σ H Q := by
  intro σ G0 H0 c0 Q q
  refine hi σ G0 H0 c0 _ fun J G1 H1 m1 it => ?_
  intro Da hD
  have gD : G1 Da = none := m1.cx.sub.free hD
  have hD0 : H0 Da = none := by
    cases r : H0 Da with
    | none => rfl
    | some o => exact absurd hD (m1.go.dom Da (by rw [r]; simp))
  refine ⟨fun i m' H => i ≤ ds.length ∧ m' = ds.length - i ∧ ∃ G vs, Mv F.C σ S1 G1 H1 ⟨S1.s, gO i⟩ G H ∧ G Da = none ∧ H Da = some (.lst vs) ∧ DenL F.C G vs (out i), ⟨_, Nat.zero_le _, rfl, G1, [], ?_, gD, upd_same, by rw [ho0]; exact .nil⟩, ?_⟩
  · have sm : Same H1 (upd H1 Da (.lst [])) := fun a o h => by rw [upd_ne (ne_of_none h hD)]; exact h
    have := m1.cx.mv (Same.kt sm) (fun _ _ h => h) (m1.cx.sub.trans sm) fun _ _ h => h
    rw [hg0]
    exact this
  · rintro i m' H ⟨hle, rfl, G, vs, mv, gDi, hDi, dl⟩
    by_cases hlt : i < ds.length
    · refine .inr ⟨it.go i G H hlt mv.go.gg mv.cx.sub, fun H' => ∃ G' vs', Mv F.C σ S1 G1 H1 ⟨S1.s, gO (i + 1)⟩ G' H' ∧ G' Da = none ∧ H' Da = some (.lst vs') ∧ DenL F.C G' vs' (out (i + 1)), fun H' z => ⟨_, by omega, hlt, rfl, z⟩, fun x H' hy => ?_⟩
      obtain ⟨G', pu, dx⟩ := it.yld i _ G H x H' (List.getElem?_eq_getElem hlt) mv.go.gg mv.cx.sub hy
      obtain ⟨T1, T2, b, js, hg, hjs, ht, h1, h2⟩ := step i _ (List.getElem?_eq_getElem hlt)
      have m2 := mv.cx.pu pu
      refine hg (wipe σ vs0) G' H' x (m2.cx.hid _) dx _ fun σ2 G2 H2 m3 only => ⟨(only _ hjs).trans (by
        have := only _ hjs
        exact wipe_wipe σ _), ?_⟩
      refine ht σ2 G2 H2 m3.cx _ fun G3 H3 m4 => ?_
      have nD : ∀ o, gO i ≠ some (Da, o) := fun o z => by
        have r := hga i
        rw [z] at r
        cases r2 : S1.g with
        | none => rw [r2] at r; cases r
        | some bo =>
          obtain ⟨b', o'⟩ := bo
          rw [r2] at r
          cases r
          have z2 := m1.cx.bag
          rw [r2] at z2
          cases o' with
          | lst => obtain ⟨_, _, z3, _⟩ := z2; rw [hD] at z3; cases z3
          | ins => obtain ⟨_, _, _, z3, _⟩ := z2; rw [hD] at z3; cases z3
          | xd => obtain ⟨_, _, z3, _⟩ := z2; rw [hD] at z3; cases z3
      have nOA : ¬ OA F.C (wipe σ vs0) ⟨hidS S1.s vs0, gO i⟩ Da := fun z => by
        rcases oa_hid (S := ⟨S1.s, gO i⟩) z with ⟨j, es, r, z⟩ | ⟨o, z⟩
        · obtain ⟨a', _, r1, r2, r3, _⟩ := m1.cx.ow j es r
          rw [r1] at z; cases z
          rw [hD] at r3; cases r3
        · exact nD o z
      have hDp : H' Da = some (.lst vs) := pu.hh.k _ _ nt_lst hDi
      have gDp : G' Da = none := pu.fr Da (by rw [hDi]; simp) gDi
      cases b with
      | false =>
        rw [if_neg Bool.false_ne_true]
        obtain ⟨e1, ko, e2⟩ := h2 rfl
        have mm := m3.trans m4.mw
        have mo := m2.cx.outer mm (by rw [e1]; exact (hga (i + 1)).trans (hga i).symm) ko ((only _ hjs).trans (wipe_wipe σ _))
        rw [e1] at mo
        refine ⟨G3, vs, (mv.trans m2).trans mo, mm.go.fr Da nOA (by rw [hDp]; simp) gDp, mm.go.keep Da _ nOA nt_lst hDp, ?_⟩
        rw [e2]
        exact (dl.mono pu.gg).mono mm.go.gg
      | true =>
        rw [if_pos rfl]
        obtain ⟨T3, y, he, e1, ko, e2, e3⟩ := h1 rfl
        refine he σ2 G3 H3 m4.cx _ fun v G4 H4 m5 dv => ?_
        have mm := (m3.trans m4.mw).trans m5.mw
        have mo := m2.cx.outer mm (by rw [e1]; exact (hga (i + 1)).trans (hga i).symm) ko ((only _ hjs).trans (wipe_wipe σ _))
        rw [e1] at mo
        have k1 := mm.go.keep Da _ nOA nt_lst hDp
        have k2 := mm.go.fr Da nOA (by rw [hDp]; simp) gDp
        refine ⟨vs, k1, by rw [dl.length]; exact e3, G4, vs ++ [v], ?_, k2, upd_same, ?_⟩
        · have mf := (mv.trans m2).trans mo
          refine ⟨⟨fun a o n nt h => ?_, mf.go.gg, mf.go.fr, fun a h => ?_, fun t => tabs_upd (mf.go.tb t) k1 nt_lst nc_lst⟩, ?_, mf.oa⟩
          · have na : a ≠ Da := fun z => by rw [z, hD] at h; cases h
            rw [upd_ne na]; exact mf.go.keep a o n nt h
          · by_cases na : a = Da
            · rw [na, upd_same]; simp
            · rw [upd_ne na]; exact mf.go.dom a h
          exact ctx_priv mo.cx k2 (fun j es r z => by
            obtain ⟨a', _, r1, r2, r3, _⟩ := m1.cx.ow j es r
            rw [r1] at z; cases z
            rw [hD] at r3; cases r3) (fun o z => by
              have r := hga (i + 1)
              have z' : gO (i + 1) = some (Da, o) := z
              rw [z'] at r
              cases r2 : S1.g with
              | none => rw [r2] at r; cases r
              | some bo =>
                obtain ⟨b', o'⟩ := bo
                rw [r2] at r
                cases r
                have z2 := m1.cx.bag
                rw [r2] at z2
                cases o' with
                | lst => obtain ⟨_, _, z3, _⟩ := z2; rw [hD] at z3; cases z3
                | ins => obtain ⟨_, _, _, z3, _⟩ := z2; rw [hD] at z3; cases z3
                | xd => obtain ⟨_, _, z3, _⟩ := z2; rw [hD] at z3; cases z3) k1 nt_lst nc_lst
        · rw [e2]
          exact ((dl.mono pu.gg).mono mm.go.gg).append (.cons dv .nil)
    · have e : i = ds.length := by omega
      subst e
      exact .inl ⟨it.stop _ G H (Nat.le_refl _) mv.go.gg mv.cx.sub, q Da vs G H (m1.trans mv) hD0 gDi hDi dl⟩
end
end DL
namespace DL
open PySem L2
variable [TabL]
theorem Mv.freezeNew {C : Kc} {σ : L2.St} {S S' : ST} {G H G2 H2 : Hp} {q : Addr} {oq : HO} (c : Ctx C G H σ S) (m : Mv C σ S G H S' G2 H2) (hq : H q = none) (gq : G2 q = none) (h2 : H2 q = some oq) : Mv C σ S G H S' (upd G2 q oq) H2 := by
  have gg : Same G2 (upd G2 q oq) := fun a o h => by rw [upd_ne (ne_of_none h gq)]; exact h
  have nOA : ¬ OA C σ S q := fun z => by
    rcases z with ⟨j, es, r1, r2⟩ | ⟨o, r⟩
    · obtain ⟨a, ws, h1, _, h3, _⟩ := c.ow j es r1
      rw [r2] at h1; cases h1; rw [hq] at h3; cases h3
    · have z := c.bag
      rw [r] at z
      cases o with
      | lst => obtain ⟨_, _, h3, _⟩ := z; rw [hq] at h3; cases h3
      | ins => obtain ⟨_, _, _, h3, _⟩ := z; rw [hq] at h3; cases h3
      | xd => obtain ⟨_, _, h3, _⟩ := z; rw [hq] at h3; cases h3
  refine ⟨⟨m.go.keep, m.go.gg.trans gg, fun a n h g => ?_, m.go.dom, m.go.tb⟩, ⟨⟨fun a o h => ?_, m.cx.sub.t, fun p hp => by rw [upd_ne (fun z => tabs_there c.sub.t p hp (by rw [z]; exact hq))]; exact m.cx.sub.n p hp⟩, m.cx.len, fun i d h => ?_, fun i es h => ?_, m.cx.apart, m.cx.bg, ?_, m.cx.nob⟩, m.oa⟩
  · have na : a ≠ q := fun z => h (by rw [z]; exact hq)
    rw [upd_ne na]; exact m.go.fr a n h g
  · by_cases na : a = q
    · subst na; rw [upd_same] at h; cases h; exact h2
    · rw [upd_ne na] at h; exact m.cx.sub a o h
  · obtain ⟨v, r1, r2⟩ := m.cx.im i d h
    exact ⟨v, r1, r2.mono gg⟩
  · obtain ⟨a, ws, r1, r2, r3, r4⟩ := m.cx.ow i es h
    have na : a ≠ q := fun z => nOA (m.oa q (.inl ⟨i, es, h, by rw [← z]; exact r1⟩))
    exact ⟨a, ws, r1, by rw [upd_ne na]; exact r2, r3, r4.mono gg⟩
  · have z := m.cx.bag
    cases r : S'.g with
    | none => trivial
    | some bo =>
      obtain ⟨b, o⟩ := bo
      have nb : b ≠ q := fun e => nOA (m.oa q (.inr ⟨o, by rw [r, e]⟩))
      rw [r] at z
      cases o with
      | lst es => obtain ⟨h1, ws, h2, h3⟩ := z; exact ⟨by rw [upd_ne nb]; exact h1, ws, h2, h3.mono gg⟩
      | ins cc fs => obtain ⟨h1, dx, ws, h2, h3⟩ := z; exact ⟨by rw [upd_ne nb]; exact h1, dx, ws, h2, h3.mono gg⟩
      | xd es => obtain ⟨h1, ws, h2, h3⟩ := z; exact ⟨by rw [upd_ne nb]; exact h1, ws, h2, h3.mono gg⟩
section
variable {F : Fam} {S S1 S2 S3 : ST} {e a b c tg iter elt : Expr} {d x y z : D} {pos p apos : Pos} {es : List Expr} {ds : List D} {k : Bool} {nm : Str} {P : Po} {rest t u body : List Stmt} {st : Stmt} {M : ST → Prop} {ifs : List Expr} {scope : Scope} {own : List (Str × Nat)}
theorem ev_freeze {C : Kc} {te : TE} (h : EvO C te S S1 ds) : EvM C te S S1 (.lst ds) := fun σ G H c Q q => h σ G H c Q fun p vs G2 H2 m hp gp h2 dl => by
  have m2 := m.freezeNew c hp gp h2
  exact q _ _ _ m2 (.lst (SqL.of upd_same) (dl.mono fun a o h => by rw [upd_ne (ne_of_none h gp)]; exact h))
theorem de_do (h : DO F e S S1 ds) : DE F e S S1 (.lst ds) := ev_freeze h
mutual
def toP : D → PyData
  | .non => .none
  | .bl b => .bool b
  | .int i => .int i
  | .str x => .str x
  | .tup xs => .tuple (toPs xs)
  | .lst xs => .list (toPs xs)
  | .obj _ _ => .none
  | .dic _ => .none
  | .dik _ => .none
  | .dim _ => .none
  | .cst _ => .none
def toPs : List D → List PyData
  | [] => []
  | x :: xs => toP x :: toPs xs
end
mutual
def okP : D → Bool
  | .non => true
  | .bl _ => true
  | .int _ => true
  | .str _ => true
  | .tup xs => okPs xs
  | .lst xs => okPs xs
  | .obj _ _ => false
  | .dic _ => false
  | .dik _ => false
  | .dim _ => false
  | .cst _ => false
def okPs : List D → Bool
  | [] => true
  | x :: xs => okP x && okPs xs
end
mutual
theorem Den.dp {C : Kc} {G H : Hp} (s : Same G H) : ∀ {v : V} {d : D}, Den C G v d → okP d = true → Dp C.K H v (toP d)
  | _, _, .non, _ => by unfold toP; exact .non
  | _, _, .bl b, _ => by unfold toP; exact .bl b
  | _, _, .int i, _ => by unfold toP; exact .int i
  | _, _, .str x, _ => by unfold toP; exact .str x
  | _, _, .tup h l, k => by
    unfold okP at k
    unfold toP
    exact .tup (same_t s h) (DenL.dp s l k)
  | _, _, .lst h l, k => by
    unfold okP at k
    unfold toP
    exact .lst (s.seq h) (DenL.dp s l k)
  | _, _, .obj _ _ _, k => by unfold okP at k; cases k
  | _, _, .cst _, k => by unfold okP at k; cases k
  | _, _, .dN _ _, k => by unfold okP at k; cases k
  | _, _, .dK _ _, k => by unfold okP at k; cases k
  | _, _, .dM _ _, k => by unfold okP at k; cases k
theorem DenL.dp {C : Kc} {G H : Hp} (s : Same G H) : ∀ {v : List V} {d : List D}, DenL C G v d → okPs d = true → DpAll C.K H v (toPs d)
  | _, _, .nil, _ => by unfold toPs; exact .nil
  | _, _, .cons h l, k => by
    unfold okPs at k
    rw [Bool.and_eq_true] at k
    unfold toPs
    exact .cons (Den.dp s h k.1) (DenL.dp s l k.2)
end
theorem od_eqP (h1 : okP x = true) (h2 : okP y = true) (h3 : SeqAt.shaped (toP x) = true) (h4 : SeqAt.shaped (toP y) = true) : OpD F (compareOp .Eq) x y (.bl (PyData.eqv (toP x) (toP y))) :=
  ⟨rEqD F.C.K, fun i => by have := op_eqD (X := F.X i) (F.units i); rw [F.hK i] at this; exact this, fun G H u v s hu hv Q q => ⟨_, _, hu.dp s h1, hv.dp s h2, h3, h4, q _ _ _ (.refl s) (.bl _)⟩⟩
theorem od_neP (h1 : okP x = true) (h2 : okP y = true) (h3 : SeqAt.shaped (toP x) = true) (h4 : SeqAt.shaped (toP y) = true) : OpD F (compareOp .NotEq) x y (.bl (!PyData.eqv (toP x) (toP y))) :=
  ⟨rNeD F.C.K, fun i => by have := op_neD (X := F.X i) (F.units i); rw [F.hK i] at this; exact this, fun G H u v s hu hv Q q => ⟨_, _, hu.dp s h1, hv.dp s h2, h3, h4, q _ _ _ (.refl s) (.bl _)⟩⟩
def tyD (C : Kc) : D → Value
  | .non => .type "NoneType"
  | .bl _ => .type "bool"
  | .int _ => .type "int"
  | .str _ => .type "str"
  | .tup _ => .type "tuple"
  | .lst _ => .type "list"
  | .obj c _ => .ref (C.cl c)
  | .cst _ => .none
  | .dic _ => .type "dict"
  | .dik _ => .type "dict"
  | .dim _ => .type "dict"
structure InsF (K : PySem.W.Frag) (c : Addr) : Prop where
  cl : Cls K c
  ha : PySem.W.findIn K (.ref c) "__class__" = some (some (.builtin "object.__class__"))
  hn : PySem.W.specialIn K (.builtin "object.__class__") "__get__" = some (some (.builtin "getset_descriptor.__get__"))
  htk : PySem.W.takesIn K (.builtin "object.__class__") = some true
  hm : PySem.W.mroIn K c (.type "object") = some true
def plD : D → Bool
  | .cst _ => false
  | .dic _ => false
  | .dik _ => false
  | .dim _ => false
  | _ => true
theorem Den.tyX {C : Kc} {G H : Hp} (s : Same G H) {v : V} {d : D} (h : Den C G v d) (ho : ∀ c fs, d = .obj c fs → C.has c = true → InsF C.K (C.cl c)) (hc : plD d = true) : TyX C.K H v (tyD C d) := by
  cases h with
  | non => exact .base .non
  | bl b => exact .base (.bl b)
  | int i => exact .base (.int i)
  | str x => exact .base (.str x)
  | tup h l =>
    rcases same_t s h with (h | ⟨o, h⟩) | ⟨o, _, _, h, h', _⟩
    · exact .base (.tup h)
    · exact .fTuple h
    · exact .kTuple h h'
  | lst h l =>
    rcases s.seq h with (h | ⟨o, h⟩) | ⟨o, _, _, h, h', _⟩
    · exact .base (.lst h)
    · exact .base (.frz h)
    · exact .kList h h'
  | obj q h l => have := ho _ _ rfl q; exact .base (.ins (s _ _ h) this.cl this.ha this.hn this.htk this.hm)
  | cst v => cases hc
  | dN h l => cases hc
  | dK h l => cases hc
  | dM h l => cases hc
theorem ca_isi {cv : V} {u : Value} {k : Bool} (hc : ClsV cv u) (ho : ∀ c fs, x = .obj c fs → F.C.has c = true → InsF F.C.K (F.C.cl c)) (hn : plD x = true) (hk : PySem.W.kitOne F.C.K (tyD F.C x) u = some k) : CaD F (.builtin "isinstance") [x, .cst cv] (.bl k) :=
  ⟨rIsi F.C.K, fun i => by have := call_isi (X := F.X i); rw [F.hK i] at this; exact this, fun G H us s h Q q => by
    cases h with
    | cons h l => cases l with
      | cons h2 l => cases l; cases h2; exact ⟨_, _, _, _, k, rfl, hc, h.tyX s ho hn, hk, q _ _ _ (.refl s) (.bl _)⟩⟩
theorem ca_isiD {cv : V} {u : Value} {k : Bool} {kvs : List (D × D)} (hc : ClsV cv u) (hk : PySem.W.kitOne F.C.K (.type "dict") u = some k) : CaD F (.builtin "isinstance") [.dic kvs, .cst cv] (.bl k) :=
  ⟨fun xs H Q => ∃ (a : Addr) (o : Obj) (es : List ND.NEnt), xs = [.ref a, cv] ∧ H a = some (ND.NDO F.C.P F.C.w a o es) ∧ Q (.bl k) H, fun i => by
    intro pins s σ H xs us Q I r h
    obtain ⟨a, o, es, rfl, ha, q⟩ := h
    obtain ⟨u1, u2, rfl, r1, r2⟩ := vals2 r
    have e2 := hc.eq r2
    subst e2
    cases (show u1 = Value.ref a from r1)
    obtain ⟨⟨_, _, _, _, _, h1, h2, _, _⟩, _, _⟩ := I.hok a _ ha
    exact PySem.W.kia_one (PySem.W.kitx_dict (K := (F.X i).K)) I.kIn ⟨o, h1, h2.1⟩ (by rw [F.hK i]; exact hk) (fun z => nomatch z) fun tk => ⟨.bl k, H, I.tok tk, rfl, q⟩, fun G H us s h Q q => by
    cases h with
    | cons h l => cases l with
      | cons h2 l => cases l; cases h2; cases h with
        | dN h1 h3 => exact ⟨_, _, _, rfl, s _ _ h1, q _ _ _ (.refl s) (.bl _)⟩⟩
theorem denL_bl {C : Kc} {G : Hp} : ∀ {vs : List V} {bs : List Bool}, DenL C G vs (bs.map D.bl) → vs = bs.map V.bl
  | _, [], .nil => rfl
  | _, b :: bs, .cons h l => by cases h; rw [denL_bl l]; rfl
theorem denL_int {C : Kc} {G : Hp} : ∀ {vs : List V} {bs : List Int}, DenL C G vs (bs.map D.int) → vs = bs.map V.int
  | _, [], .nil => rfl
  | _, b :: bs, .cons h l => by cases h; rw [denL_int l]; rfl
theorem denL_str {C : Kc} {G : Hp} : ∀ {vs : List V} {bs : List Str}, DenL C G vs (bs.map D.str) → vs = bs.map V.str
  | _, [], .nil => rfl
  | _, b :: bs, .cons h l => by cases h; rw [denL_str l]; rfl
theorem ca_all [Calm F] {bs : List Bool} : CaD F (.builtin "all") [.lst (bs.map D.bl)] (.bl (bs.all id)) := ⟨rAll F.C.K, fun i => by have := cr_all (X := F.X i) (F.calm i); rw [F.hK i] at this; exact this, fun G H us s h Q q => by
  cases h with
  | cons h l => cases h with
    | lst h1 h2 => cases l; exact ⟨_, bs, rfl, by rw [← denL_bl h2]; exact s.seq h1, q _ _ _ (.refl s) (.bl _)⟩⟩
theorem ca_sum [Calm F] {bs : List Int} : CaD F (.builtin "sum") [.lst (bs.map D.int)] (.int bs.sum) := ⟨rSum F.C.K, fun i => by have := cr_sum (X := F.X i) (F.calm i); rw [F.hK i] at this; exact this, fun G H us s h Q q => by
  cases h with
  | cons h l => cases h with
    | lst h1 h2 => cases l; exact ⟨_, bs, rfl, by rw [← denL_int h2]; exact s.seq h1, q _ _ _ (.refl s) (.int _)⟩⟩
theorem ca_tupL : CaD F (.type "tuple") [.lst ds] (.tup ds) := ⟨fun xs H Q => ∃ p ys, xs = [.ref p] ∧ ((SqL F.C.K H p ys ∧ ∀ l, H l = none → Q (.ref l) (upd H l (.tup ys))) ∨ (SqT F.C.K H p ys ∧ Q (.ref p) H)), fun i => by have := call_tuple_of (X := F.X i); rw [F.hK i] at this; exact this, fun G H us s h Q q => by
  cases h with
  | cons h l => cases h with
    | lst h1 h2 => cases l; exact ⟨_, _, rfl, .inl ⟨s.seq h1, fun p hp => by
      exact q _ _ _ (Pu.new s hp) (.tup (SqT.of upd_same) (h2.mono (Pu.new s hp).gg))⟩⟩⟩
theorem ca_tupT : CaD F (.type "tuple") [.tup ds] (.tup ds) := ⟨fun xs H Q => ∃ p ys, xs = [.ref p] ∧ ((SqL F.C.K H p ys ∧ ∀ l, H l = none → Q (.ref l) (upd H l (.tup ys))) ∨ (SqT F.C.K H p ys ∧ Q (.ref p) H)), fun i => by have := call_tuple_of (X := F.X i); rw [F.hK i] at this; exact this, fun G H us s h Q q => by
  cases h with
  | cons h l => cases h with
    | tup h1 h2 => cases l; exact ⟨_, _, rfl, .inr ⟨same_t s h1, q _ _ _ (.refl s) (.tup h1 h2)⟩⟩⟩
end
end DL
namespace DLO
open PySem PySem.W PySem.SeqAt PySem.Calls PyProof.Rows
open AutoSeq1 (wpAny_loadPart')
section
variable {M : Model} {prog : Program} {w : World} {A : Around} {E : Value → Shared → Prop} {s : Shared} {K : Frag} {x y C b f : Addr} {ox oy : Obj} {od od' : Option Obj} {dx : Addr} {i : Int} {t : Tok}
theorem int_eq_ref {Q : Fin → Shared → Prop} (hb : s.heap.get? b = some (instObj C dx)) (h : Q (.done (.ret .notImplemented)) s) : wpAny M A (Builtin.«int.__eq__» ⟨[.int i t, .ref b], []⟩) Q E s := by
  obtain ⟨hp, g, d, tk, os⟩ := s
  wp_walk using wpAny_loadPart' hb
  exact h
theorem eqR {Q : Value → Shared → Prop} (hu : A.units < cLine) (X : K.In s.heap) (J : InstAt s.heap y (instObj C dx) C od) (hs : findIn K (.ref C) "__eq__" = some (some (.ref f))) (hf : isFn K (.ref f) = true) (hsub : subIn K (.ref C) (.type "int") = some false)
    (h : wpAny (model prog w) A (call (.ref f) [.ref y, .int i t]) (PySem.W.CmpBack Q) E s) : wpAny (model prog w) A (richCompare .Eq (.int i t) (.ref y)) Q E s := by
  have one : wpAny (model prog w) A (tryCompare (.int i t) "__eq__" (.ref y)) (fun r s' => r = none ∧ s' = s) E s :=
    wpAny_tryCompare_declines (typeIs_int s i t) F.slot_int_eq (wpAny_call (codeAny_call_builtin F.slot_int_eq.plain F.entry_int_eq (F.slot_int_eq.check _ _ _ _ _ _ _ _ (typeIs_int s i t) (F.args_int_eq_2 _ _) (int_eq_ref J.at_ ⟨rfl, rfl, rfl⟩))))
  have two : wpAny (model prog w) A (tryCompare (.ref y) "__eq__" (.int i t)) (fun r s' => ∃ v, r = some v ∧ Q v s') E s := by
    unfold tryCompare
    refine wpAny_bind (ifBound_K X J hs hf (wpAny_mono h (fun v s' hv => ?_) fun _ _ e => e))
    cases v <;> first | exact hv.elim | exact wpAny_pure ⟨_, rfl, hv⟩
  have hot : oneThing? .Eq (.int i t) (.ref y) = none := rfl
  simp only [richCompare, cmpInfo_Eq, hot]
  refine wpAny_holding (wpAny_bind (wpAny_cRoomFor hu ?_))
  refine wpAny_bind (wpAny_typeOf (typeIs_int s i t) ?_)
  refine wpAny_bind (J.type.here ?_)
  have hne : (Value.type "int" != Value.ref C) = true := by
    rw [bne_iff_ne]; intro q; cases q
  rw [hne]
  refine wpAny_bind ((looks_subIn X hsub).here ?_)
  simp only [Bool.false_eq_true, if_false, Bool.not_false, if_true]
  refine wpAny_bind (m := tryCompare (.int i t) _ (.ref y)) (wpAny_mono one (fun r s1 z => ?_) fun _ _ e => e)
  obtain ⟨rfl, rfl⟩ := z
  refine wpAny_bind (m := tryCompare (.ref y) _ (.int i t)) (wpAny_mono two (fun r s2 z => ?_) fun _ _ e => e)
  obtain ⟨v, rfl, hq⟩ := z
  exact wpAny_pure hq
theorem objNe_own {v : Value} {Q : Fin → Shared → Prop} (hu : A.units < cLine) (X : K.In s.heap) (I : InstAt s.heap x ox C od) (hs : findIn K (.ref C) "__eq__" = some (some (.ref f))) (hf : isFn K (.ref f) = true)
    (h : wpAny (model prog w) A (call (.ref f) [.ref x, v]) (fun r s' => ∃ b, r = .bool b ∧ Q (.done (.ret (.bool (!b)))) s') E s) : wpAny (model prog w) A (Builtin.«object.__ne__» ⟨[.ref x, v], []⟩) Q E s := by
  have one := ifBound_K (M := model prog w) (args := [v]) (Q := fun r s' => ∃ b, r = some (.bool b) ∧ Q (.done (.ret (.bool (!b)))) s') X I hs hf (wpAny_mono h (fun r s' hr => by obtain ⟨b, rfl, hq⟩ := hr; exact ⟨b, rfl, hq⟩) fun _ _ e => e)
  obtain ⟨hp, g, d, tk, os⟩ := s
  unfold Builtin.«object.__ne__»
  repeat (first
    | with_reducible refine wpAny_cRoomFor hu ?_
    | (refine wpAny_bind (m := callSpecialIfBound? (.ref x) (Str.ofString "__eq__") [v])
        (wpAny_mono one (fun r s' hr => by
          obtain ⟨b, rfl, hq⟩ := hr
          repeat (first | exact hq | exact wpAny_pure hq | exact wpAny_truthy_bool hq | (refine wpAny_bind (m := truthy (.bool _)) (wpAny_truthy_bool ?_)) | wp_step)) fun _ _ e => e))
    | wp_step)
theorem ifBound_objNe {args : List Value} {Q : Option Value → Shared → Prop} (X : K.In s.heap) (I : InstAt s.heap x ox C od) (hs : findIn K (.ref C) "__ne__" = some (some (.builtin "object.__ne__")))
    (h : wpAny M A (call (.builtin "object.__ne__") (.ref x :: args)) (fun v => Q (some v)) E s) : wpAny M A (callSpecialIfBound? (.ref x) "__ne__" args) Q E s := by
  simp only [callSpecialIfBound?, bindSpecialIfBound?]
  refine wpAny_holding (wpAny_bind (wpAny_bind (wpAny_bind (I.type.here ((PySem.W.looks_findIn X hs).here ?_)))))
  refine wpAny_bind (wpAny_askSetting (wpAny_ite ?_))
  have fin : wpAny M A (call (.builtin "object.__ne__") ([.ref x] ++ args) >>= fun v => pure (some v)) Q E s := wpAny_bind (wpAny_mono h (fun v s' h' => wpAny_pure h') fun _ _ h' => h')
  split
  · exact wpAny_bind (wpAny_of_eq (F.cmp_object.ne.bind _) (wpAny_pure (by exact fin)))
  · exact wpAny_tryCatch (wpAny_bind (wpAny_of_eq (F.cmp_object.ne.bind _) (wpAny_pure (by exact fin))))
theorem neO {v tb : Value} {Q : Value → Shared → Prop} (hu : A.units + 1 < cLine) (X : K.In s.heap) (I : InstAt s.heap x ox C od) (hb : Looks (model prog w) s.heap (typeOf v) tb) (hn : notFirst K C tb = true) (hm : mroIn K C (.type "object") = some true)
    (hne : findIn K (.ref C) "__ne__" = some (some (.builtin "object.__ne__"))) (hs : findIn K (.ref C) "__eq__" = some (some (.ref f))) (hf : isFn K (.ref f) = true)
    (h : wpAny (model prog w) A.in1 (call (.ref f) [.ref x, v]) (fun r s' => ∃ b, r = .bool b ∧ Q (.bool (!b)) s') E s) : wpAny (model prog w) A (richCompare .NotEq (.ref x) v) Q E s := by
  have one : wpAny (model prog w) A (tryCompare (.ref x) "__ne__" v) (fun r s' => ∃ b, r = some (.bool b) ∧ Q (.bool b) s') E s := by
    unfold tryCompare
    refine wpAny_bind (ifBound_objNe X I hne (wpAny_call (codeAny_call_builtin F.cmp_object.ne.plain F.cmpEntry_ne (PySem.W.check_slot F.cmpKind_ne F.cmpSplit_ne (I.type.andThen (PySem.W.looks_mroIn X hm)) (F.cmpArgs_ne _ _) (objNe_own (A := A.in1) hu X I hs hf (wpAny_mono h (fun r s' hr => ?_) fun _ _ e => e))))))
    obtain ⟨b, rfl, hq⟩ := hr
    first | exact ⟨b, rfl, wpAny_pure ⟨_, rfl, hq⟩⟩ | exact ⟨b, rfl, ⟨_, rfl, hq⟩⟩
  unfold richCompare
  simp only [oneThing_ref]
  refine wpAny_holding (wpAny_bind (wpAny_cRoomFor (Nat.lt_of_succ_lt hu) ?_))
  rw [cmpInfo_NotEq]
  dsimp only
  refine wpAny_bind (I.type.here (wpAny_bind (hb.here ?_)))
  split
  · rename_i q
    have e : subIn K tb (.ref C) = some false := by
      rcases Bool.or_eq_true_iff.mp hn with e | e
      · rw [beq_iff_eq.mp e] at q; simp at q
      · exact beq_iff_eq.mp e
    refine wpAny_bind ((looks_subIn X e).here ?_)
    simp only [Bool.false_eq_true, if_false]
    refine wpAny_bind (wpAny_mono one (fun r s' z => ?_) fun _ _ e => e)
    obtain ⟨b, rfl, hq⟩ := z
    exact wpAny_pure hq
  · refine wpAny_bind (wpAny_pure ?_)
    simp only [Bool.false_eq_true, if_false]
    refine wpAny_bind (wpAny_mono one (fun r s' z => ?_) fun _ _ e => e)
    obtain ⟨b, rfl, hq⟩ := z
    exact wpAny_pure hq
end
end DLO
namespace DL
open PySem L2
variable [TabL]
theorem back_of {X : Cx} {pins : List (Addr × Obj)} {σ : L2.St} {Q : VK} {A : Around} {c : Sem Value} {s : Shared} {M : Model} {E : Value → Shared → Prop} (h : wpAny M A c (EP X pins σ Q) E s) : wpAny M A c (PySem.W.CmpBack (EP X pins σ Q)) E s := by
  refine wpAny_mono h (fun v s' q => ?_) fun _ _ e => e
  cases v with
  | notImplemented =>
    obtain ⟨z, _, _, r, _⟩ := q
    cases z with
    | int => obtain ⟨_, r⟩ := r; cases r
    | str => obtain ⟨_, r⟩ := r; cases r
    | byt => obtain ⟨_, r⟩ := r; cases r
    | flt => obtain ⟨_, r⟩ := r; cases r
    | non => cases r
    | bl => cases r
    | ref => cases r
    | ty => cases r
  | _ => exact q
structure OpF (K : PySem.W.Frag) (C : Addr) : Prop where
  sf : PySem.W.selfFirst K C = true
  ic : PySem.W.subIn K (.type "int") (.ref C) = some false
  ci : PySem.W.subIn K (.ref C) (.type "int") = some false
structure IntF (K : PySem.W.Frag) (op : Operator) : Prop where
  ex : ∃ fo ro, PySem.W.findIn K (.type "int") (PySem.dunder op.info.2) = some fo ∧ PySem.W.findIn K (.type "int") (dunderR op.info.2) = some ro ∧ ((fo.isSome && !isSeqSlot fo) || (ro.isSome && !isSeqSlot ro)) = true
section
variable {F : Fam} {S S1 S2 S3 : ST} {e a b c tg iter elt : Expr} {d x y z : D} {pos p apos : Pos} {es : List Expr} {ds : List D} {k : Nat} {nm : Str} {P : Po} {rest : List Stmt} {cn : Nat} {fs gs : List (Str × D)} {R R' : List D → D → Prop} {op : Operator} {m m' : Str}
theorem inst_of {X : Cx} {pins : List (Addr × Obj)} {σ : L2.St} {H : Hp} {s : Shared} {a C dx : Addr} {vs : List (Str × V)} (I : Inv X pins σ H s) (h : H a = some (.ins C dx vs)) : ∃ od, PySem.W.InstAt s.heap a (PySem.W.instObj C dx) C (some od) := by
  obtain ⟨mA, J, _⟩ := ins_get I.hok h
  obtain ⟨od, J, _⟩ := J.look
  exact ⟨od, J⟩
theorem looks_ty {X : Cx} {pins : List (Addr × Obj)} {σ : L2.St} {H : Hp} {s : Shared} {x : V} {u t : Value} (I : Inv X pins σ H s) (r : RelV x u) (ty : TyX X.K H x t) (M : Model) : PySem.W.Looks M s.heap (typeOf u) t := by
  obtain ⟨P, Z, hp, _⟩ := kit_of I r ty
  exact Z.ty M s.heap I.kIn hp
theorem od_eqO [Calm F] {kb : Bool} (mt : Met F.P F.w F.C F.mg F.base k cn "__eq__" (spP F.C R)) (hk : k ≤ F.k) (ho : ∀ c fs, y = .obj c fs → F.C.has c = true → InsF F.C.K (F.C.cl c)) (hn : plD y = true) (hf : PySem.W.notFirst F.C.K (F.C.cl cn) (tyD F.C y) = true) (hR : R [.obj cn fs, y] (.bl kb)) : OpD F (compareOp .Eq) (.obj cn fs) y (.bl kb) := by
  obtain ⟨f, fd, ps, G, hc, hme, hb⟩ := mt
  refine ⟨fun x y' H Q => ∃ a dx vs, x = .ref a ∧ H a = some (.ins (F.C.cl cn) dx vs) ∧ TyX F.C.K H y' (tyD F.C y) ∧ spP F.C R [x, y'] H Q E0, fun l => ?_, fun G H u v s hu hv Q q => ?_⟩
  · intro pins s σ H x y' v u Q I rx ry h
    obtain ⟨a, dx, vs, rfl, ha, ty, hsp⟩ := h
    cases rx
    obtain ⟨od, J⟩ := inst_of I ha
    obtain ⟨mm, hFr⟩ := I.fr
    show wpAny _ _ (richCompare .Eq _ _) _ _ _
    refine PySem.W.cmp_K (op := .Eq) (F.units0 l) hFr I.ok.mod.kin J (looks_ty I ry (by rw [F.hK l]; exact ty) _) (by rw [F.hK l]; exact hf) (by rw [F.hK l]; exact hme.at_) (by rw [F.hK l]; exact hme.fn) (back_of ?_)
    exact run_fn (vs := [.ref a, y']) (dvs := []) (fn_at G) ((F.room l).mono hk) (by rw [F.hK l]; exact hb) .nil pass0 I (.cons rfl (.cons ry .nil)) hsp
  · have hu' := hu
    cases hu with
    | obj _ h1 h2 => exact ⟨_, _, _, rfl, s _ _ h1, hv.tyX s ho hn, G, _, _, hR, s, .cons hu' (.cons hv .nil), q⟩
theorem run_in1 {X : Cx} {pins : List (Addr × Obj)} {σ : L2.St} {H : Hp} {s : Shared} {Q : VK} {us : List Value} {vs : List V} {f : Addr} {fd : FuncData} {ps : List Str} {sp : Sp} (G : FnOk X.prog X.w X.K X.mg X.base CX0 k f fd ps sp) (hr : Room (k + 1) X.A) (hb : Binds X.K fd ps []) (I : Inv X pins σ H s) (r : Vals vs us) (h : sp vs H Q E0) :
    wpAny (model X.prog X.w) X.A.in1 (call (.ref f) us) (EP X pins σ Q) X.xe s := by
  have hl : (us ++ []).length = ps.length := by rw [List.append_nil, ← r.length]; exact G.len _ _ _ _ h
  refine wpAny_call (codeAny_mono (G.run X.A.in1 X.stack s H ⟨us, []⟩ us vs Q E0 hr.in1 I.env0.in1 (by have := hb s us I.kIn hl; rw [List.append_nil] at this; exact this) r h) fun r s' hq => ?_)
  cases r with
  | error e => exact hq.elim
  | ok fl =>
    cases fl with
    | ret u => exact I.after hq
    | next => exact False.elim hq
    | brk => exact False.elim hq
    | cont => exact False.elim hq
theorem od_neO [Calm F] {kb : Bool} (mt : Met F.P F.w F.C F.mg F.base k cn "__eq__" (spP F.C R)) (hk : k + 1 ≤ F.k) (ho : ∀ c fs, y = .obj c fs → F.C.has c = true → InsF F.C.K (F.C.cl c)) (hn : plD y = true) (hf : PySem.W.notFirst F.C.K (F.C.cl cn) (tyD F.C y) = true) (hi : InsF F.C.K (F.C.cl cn)) (hne : PySem.W.findIn F.C.K (.ref (F.C.cl cn)) "__ne__" = some (some (.builtin "object.__ne__")))
    (hR : R [.obj cn fs, y] (.bl kb)) : OpD F (compareOp .NotEq) (.obj cn fs) y (.bl (!kb)) := by
  obtain ⟨f, fd, ps, G, hc, hme, hb⟩ := mt
  refine ⟨fun x y' H Q => ∃ a dx vs, x = .ref a ∧ H a = some (.ins (F.C.cl cn) dx vs) ∧ TyX F.C.K H y' (tyD F.C y) ∧ spP F.C R [x, y'] H (fun v H' => ∃ b, v = .bl b ∧ Q (.bl (!b)) H') E0, fun l => ?_, fun G H u v s hu hv Q q => ?_⟩
  · intro pins s σ H x y' v u Q I rx ry h
    obtain ⟨a, dx, vs, rfl, ha, ty, hsp⟩ := h
    cases rx
    obtain ⟨od, J⟩ := inst_of I ha
    show wpAny _ _ (richCompare .NotEq _ _) _ _ _
    refine DLO.neO (by have := (F.roomH l).un; omega) I.kIn J (looks_ty I ry (by rw [F.hK l]; exact ty) _) (by rw [F.hK l]; exact hf) (by rw [F.hK l]; exact hi.hm) (by rw [F.hK l]; exact hne) (by rw [F.hK l]; exact hme.at_) (by rw [F.hK l]; exact hme.fn) ?_
    refine wpAny_mono (run_in1 (vs := [.ref a, y']) (fn_at G) ((F.room l).mono hk) (by rw [F.hK l]; exact hb) I (.cons rfl (.cons ry .nil)) hsp) (fun w s' hw => ?_) fun _ _ e => e
    obtain ⟨w', H', I', rw', b, rfl, q⟩ := hw
    cases rw'
    exact ⟨b, rfl, .bl (!b), H', I', rfl, q⟩
  · have hu' := hu
    cases hu with
    | obj _ h1 h2 => exact ⟨_, _, _, rfl, s _ _ h1, hv.tyX s ho hn, G, _, _, hR, s, .cons hu' (.cons hv .nil), fun v G2 H2 p dv => by cases dv; exact ⟨kb, rfl, q _ _ _ p (.bl _)⟩⟩
theorem od_eqR2 [Calm F] {i : Int} {kb : Bool} (mt : Met F.P F.w F.C F.mg F.base k cn "__eq__" (spP F.C R)) (hk : k ≤ F.k) (hF : OpF F.C.K (F.C.cl cn)) (hR : R [.obj cn fs, .int i] (.bl kb)) : OpD F (compareOp .Eq) (.int i) (.obj cn fs) (.bl kb) := by
  obtain ⟨f, fd, ps, G, hc, hme, hb⟩ := mt
  refine ⟨fun x y H Q => ∃ a j dx vs, y = .ref a ∧ x = .int j ∧ H a = some (.ins (F.C.cl cn) dx vs) ∧ spP F.C R [y, x] H Q E0, fun l => ?_, fun G H u v s hu hv Q q => ?_⟩
  · intro pins s σ H x y v u Q I rx ry h
    obtain ⟨a, j, dx, vs, rfl, rfl, ha, hsp⟩ := h
    cases ry
    obtain ⟨t, rfl⟩ := rx
    obtain ⟨od, J⟩ := inst_of I ha
    show wpAny _ _ (richCompare .Eq _ _) _ _ _
    refine DLO.eqR (F.units0 l) I.kIn J (by rw [F.hK l]; exact hme.at_) (by rw [F.hK l]; exact hme.fn) (by rw [F.hK l]; exact hF.ci) (back_of ?_)
    exact run_fn (vs := [.ref a, .int j]) (dvs := []) (fn_at G) ((F.room l).mono hk) (by rw [F.hK l]; exact hb) .nil pass0 I (.cons rfl (.cons ⟨t, rfl⟩ .nil)) hsp
  · have hu' := hu
    have hv' := hv
    cases hv with
    | obj _ h1 h2 => cases hu with
      | int => exact ⟨_, _, _, _, rfl, rfl, s _ _ h1, G, _, _, hR, s, .cons hv' (.cons hu' .nil), q⟩
theorem do_call [Calm F] {R : List D → List D → Prop} {gs : List D} (c : Cal F.P F.w F.C F.mg F.base k nm (spO F.C R)) (ha : DA F (e :: es) S S1 ds) (hR : R ds gs) (hk : k ≤ F.k := by exact Nat.le_of_ble_eq_true rfl)
    (hg : ∀ i, Gl (F.X i) nm := by intro _; rfl) (hdb : (nm == ("__debug__" : Str)) = false := by decide)
    (he : ∀ i, starEach (e :: es) (F.X i).env = (false, eval e (F.X i).env) :: starEach es (F.X i).env := by intro _; rfl) (hpl : ∀ i, (backTo pos (starEach es (F.X i).env)).any (·.1) = false := by intro _; rfl) : DO F (.Call (.Name nm p) (e :: es) [] pos) S S1 gs := by
  obtain ⟨f, fd, ps, G, hm, hkp, hb⟩ := c
  refine do_of (te := tCall (spO F.C R) [] E0 (anyA F (e :: es))) (fun i => pe_call (fn_at G) ((F.room i).mono hk) (hg i) (by rw [F.hmg i]; exact hm) (by rw [F.hK i]; exact hkp) (by rw [F.hK i]; exact hb) .nil pass0 (anyA_ok i) hdb (he i) (hpl i)) ?_
  intro σ G H cx Q q
  refine ha σ G H cx _ fun vs G1 H1 m dl => ?_
  refine ⟨G1, ds, gs, hR, m.cx.sub, by rw [List.append_nil]; exact dl, fun p ev G2 H2 pu hp g2 h2 de => ?_⟩
  have hp0 : H p = none := by
    cases r : H p with
    | none => rfl
    | some o => exact absurd hp (m.go.dom p (by rw [r]; simp))
  exact q p ev G2 H2 (m.pu pu) hp0 g2 h2 de
theorem de_callNew [Calm F] {R : List D → List D → D → List D → Prop} {gs gs' : List D} (c : Cal F.P F.w F.C F.mg F.base k nm (spB F.C R)) (ha : DO F e S S1 gs) (hR : R [] gs d gs') (hk : k ≤ F.k := by exact Nat.le_of_ble_eq_true rfl)
    (hg : ∀ i, Gl (F.X i) nm := by intro _; rfl) (hdb : (nm == ("__debug__" : Str)) = false := by decide)
    (he : ∀ i, starEach [e] (F.X i).env = (false, eval e (F.X i).env) :: starEach [] (F.X i).env := by intro _; rfl) (hpl : ∀ i, (backTo pos (starEach [] (F.X i).env)).any (·.1) = false := by intro _; rfl) : DE F (.Call (.Name nm p) [e] [] pos) S S1 d := by
  obtain ⟨f, fd, ps, G, hm, hkp, hb⟩ := c
  refine de_of (te := tCall (spB F.C R) [] E0 (tCons (anyE F e) tNil)) (fun i => pe_call (fn_at G) ((F.room i).mono hk) (hg i) (by rw [F.hmg i]; exact hm) (by rw [F.hK i]; exact hkp) (by rw [F.hK i]; exact hb) .nil pass0 (pa_cons (anyE_ok i) pa_nil (he i)) hdb (he i) (hpl i)) ?_
  intro σ G H cx Q q
  refine ha σ G H cx _ fun p vs G1 H1 m hp g1 h1 dl => ?_
  have nOA : ¬ OA F.C σ S1 p := fun z => by
    rcases m.oa p z with ⟨j, es, r1, r2⟩ | ⟨o, r⟩
    · obtain ⟨a, ws, q1, _, q3, _⟩ := cx.ow j es r1
      rw [r2] at q1; cases q1; rw [hp] at q3; cases q3
    · have z := cx.bag
      rw [r] at z
      cases o with
      | lst => obtain ⟨_, _, h3, _⟩ := z; rw [hp] at h3; cases h3
      | ins => obtain ⟨_, _, _, h3, _⟩ := z; rw [hp] at h3; cases h3
      | xd => obtain ⟨_, _, h3, _⟩ := z; rw [hp] at h3; cases h3
  refine ⟨G1, p, [], vs, [], gs, d, gs', rfl, hR, m.cx.sub, g1, h1, dl, .nil, fun v G2 H2 gv' go sub g2 h2 dl' dv => ?_⟩
  refine q v G2 H2 ⟨⟨fun a o n nt h => ?_, m.go.gg.trans go.gg, fun a n h g => ?_, fun a h => go.dom a (m.go.dom a h), fun t => go.tb (m.go.tb t)⟩, ?_, m.oa⟩ dv
  · have na : a ≠ p := fun z => by rw [z, hp] at h; cases h
    exact go.keep a o na nt (m.go.keep a o n nt h)
  · have na : a ≠ p := fun z => h (by rw [z]; exact hp)
    exact go.fr a na (m.go.dom a h) (m.go.fr a n h g)
  · have c1 := m.cx
    have nb : ∀ o, S1.g ≠ some (p, o) := fun o r => nOA (.inr ⟨o, r⟩)
    refine ⟨sub, c1.len, fun i d h => ?_, fun i es h => ?_, c1.apart, c1.bg, ?_, c1.nob⟩
    · obtain ⟨v, h1, h2⟩ := c1.im i d h
      exact ⟨v, h1, h2.mono go.gg⟩
    · obtain ⟨a, ws, r1, r2, r3, r4⟩ := c1.ow i es h
      have na : a ≠ p := fun z => nOA (.inl ⟨i, es, h, by rw [← z]; exact r1⟩)
      exact ⟨a, ws, r1, go.fr a na (by rw [r3]; simp) r2, go.keep a _ na r4.nt r3, r4.mono go.gg⟩
    · have z := c1.bag
      cases r : S1.g with
      | none => trivial
      | some bo =>
        obtain ⟨b, o⟩ := bo
        have nq : b ≠ p := fun e => nb o (by rw [r, e])
        rw [r] at z
        cases o with
        | lst es => obtain ⟨h1, ws, h2, h3⟩ := z; exact ⟨go.fr b nq (by rw [h2]; simp) h1, ws, go.keep b _ nq nt_lst h2, h3.mono go.gg⟩
        | ins cc fs => obtain ⟨h1, dx, ws, h2, h3⟩ := z; exact ⟨go.fr b nq (by rw [h2]; simp) h1, dx, ws, go.keep b _ nq nt_ins h2, h3.mono go.gg⟩
        | xd es => obtain ⟨h1, ws, h2, h3⟩ := z; exact ⟨go.fr b nq (by rw [h2]; simp) h1, ws, go.keep b _ nq nt_xd h2, h3.mono go.gg⟩
end
end DL
namespace L2
open PySem PySem.Spec PyProof.Rows
def rCatK (K : PySem.W.Frag) : R2 := fun x y H Q => ∃ a b xs ys, x = V.ref a ∧ y = V.ref b ∧ SqL K H a xs ∧ SqL K H b ys ∧ xs.length + ys.length ≤ sizeLine ∧ ∀ p, H p = none → Q (.ref p) (upd H p (.lst (xs ++ ys)))
theorem op_catK {X : Cx} : OpR X (binaryOp .Add) (rCatK X.K) := by
  intro pins s σ H x y v u Q I rx ry h
  obtain ⟨l, b, xs, zs, rfl, rfl, hH, hB, hz, q⟩ := h
  cases rx
  cases ry
  obtain ⟨its, r, ⟨⟨cls, dd, data, sl⟩, n, ho, hc, hdd, hd⟩, _⟩ := I.list hH
  obtain ⟨its2, r2, ⟨⟨cls2, dd2, data2, sl2⟩, n2, ho2, hc2, hdd2, hd2⟩, _⟩ := I.list hB
  simp only at hc hd hc2 hd2
  subst hc hd hc2 hd2
  refine concat_meets ⟨_, ho, rfl⟩ ⟨_, ho2, rfl⟩ noFill_list_add seq_list_add PySem.F.slot_list_add PySem.F.entry_list_add (PySem.F.args_list_add_2 _ _) (list_addW l b its.toArray its2.toArray n n2 dd dd2 sl sl2 (by rw [List.size_toArray, List.size_toArray, ← r.length, ← r2.length]; exact hz)) ⟨ho, ho2, ?_⟩
  have ea : its.toArray ++ its2.toArray = (its ++ its2).toArray := by simp
  rw [ea]
  exact ⟨.ref _, _, I.lnew (t' := s.toks) (r.append r2) (by rw [List.length_append]; omega), rfl, q _ I.fresh⟩
end L2
namespace DL
open PySem L2
variable [TabL]
section
variable {F : Fam} {S S1 S2 S3 : ST} {e a b c : Expr} {d x y z : D} {pos p apos : Pos} {es : List Expr} {ds : List D} {k : Bool} {nm : Str} {P : Po} {rest : List Stmt}
theorem dt_chain {op op' : CmpOp} {w : D} {k l : Bool} (ha : DE F a S S1 x) (hb : DE F b S1 S2 y) (hc : k = true → DE F c S2 S3 w) (hr : OpD F (compareOp op) x y (.bl k)) (hr' : k = true → OpD F (compareOp op') y w (.bl l)) (h0 : k = false → S2 = S3 := by intro _; rfl) (hm : lastMarks [op, op'] [b, c] = false := by with_unfolding_all rfl) : DT F (.Compare a [op, op'] [b, c] pos) S S3 (k && l) := by
  obtain ⟨r, h1, h2⟩ := hr
  cases k with
  | true =>
    obtain ⟨r', h1', h2'⟩ := hr' rfl
    refine dt_of (fun i => pt_chain (h1 i) (h1' i) (anyE_ok i) (anyE_ok i) (anyE_ok i) (hm := hm)) fun σ G H c' Q q => ?_
    refine ha σ G H c' _ fun u G1 H1 m1 d1 => hb σ G1 H1 m1.cx _ fun v G2 H2 m2 d2 => h2 G2 H2 u v m2.cx.sub (d1.mono m2.go.gg) d2 _ fun t G3 H3 p d3 => ?_
    cases d3 with
    | bl =>
      refine ⟨true, rfl, ?_⟩
      rw [if_pos rfl]
      have m3 := (m1.trans m2).pu p
      refine hc rfl σ G3 H3 m3.cx _ fun t' G4 H4 m4 d4 => h2' G4 H4 v t' m4.cx.sub ((d2.mono p.gg).mono m4.go.gg) d4 _ fun w5 G5 H5 p5 d5 => ?_
      cases d5
      exact ⟨l, rfl, q _ _ ((m3.trans m4).pu p5)⟩
  | false =>
    cases h0 rfl
    refine dt_of (fun i => pt_chain (h1 i) (fun _ _ _ _ _ _ _ _ _ _ _ _ z => False.elim z : OpR (F.X i) (compareOp op') fun _ _ _ _ => False) (anyE_ok i) (anyE_ok i) (anyE_ok i) (hm := hm)) fun σ G H c' Q q => ?_
    refine ha σ G H c' _ fun u G1 H1 m1 d1 => hb σ G1 H1 m1.cx _ fun v G2 H2 m2 d2 => h2 G2 H2 u v m2.cx.sub (d1.mono m2.go.gg) d2 _ fun t G3 H3 p d3 => ?_
    cases d3 with
    | bl =>
      refine ⟨false, rfl, ?_⟩
      rw [if_neg Bool.false_ne_true]
      exact ⟨false, rfl, q _ _ ((m1.trans m2).pu p)⟩
theorem de_ixS {i : Int} {t : Str} {cc : Nat} (ha : DE F a S S1 (.str t)) (hb : DE F b S1 S2 (.int i)) (hl : t.length ≤ sizeLine) (hi : atI t.cps.toList i = some cc) (hs : PlainIx b := by intro _ _; rfl) : DE F (.Subscript a b pos) S S2 (.str ⟨#[cc]⟩) :=
  de_of (te := tOp rIxS (anyE F a) (anyE F b)) (fun j => pe_ix (pos := pos) (ix_str (X := F.X j)) (anyE_ok (e := a) j) (anyE_ok (e := b) j) hs)
    (ev_op (fun G H u v s hu hv Q q => by
      cases hu; cases hv
      exact ⟨t, i, cc, rfl, rfl, hl, hi, q _ _ _ (.refl s) (.str _)⟩) ha hb)
def anyO (F : Fam) (o : Option Expr) : TO := fun σ H Q => ∃ te, (∀ i, PO (F.X i) o te) ∧ te σ H Q
theorem anyO_ok {o : Option Expr} (i : F.I) : PO (F.X i) o (anyO F o) := ⟨fun pins s σ H Q I h => let ⟨te, h1, h2⟩ := h; (h1 i).run pins s σ H Q I h2⟩
def DOp (F : Fam) (o : Option Expr) (S S' : ST) (i : Option Int) : Prop := ∀ σ G H, Ctx F.C G H σ S → ∀ Q : Option Int → Hp → Prop, (∀ G2 H2, Mv F.C σ S G H S' G2 H2 → Q i H2) → anyO F o σ H Q
theorem do_none : DOp F none S S none := fun σ G H c Q q => ⟨tNoPart, fun _ => po_none, q G H (.refl c)⟩
theorem do_some {i : Int} (h : DE F e S S1 (.int i)) : DOp F (some e) S S1 (some i) := fun σ G H c Q q => ⟨tPart (anyE F e), fun l => po_some (anyE_ok l), h σ G H c _ fun v G1 H1 m dv => by cases dv; exact ⟨i, rfl, q G1 H1 m⟩⟩
def cutD (xs : List D) (lo hi : Option Int) : List D := (xs.drop (HT.sIx xs.length 0 lo)).take (HT.sIx xs.length xs.length hi - HT.sIx xs.length 0 lo)
theorem DenL.cut {C : Kc} {G : Hp} {vs : List V} {ds : List D} (h : DenL C G vs ds) (lo hi : Option Int) : DenL C G (cutV vs lo hi) (cutD ds lo hi) := by
  unfold cutV cutD
  rw [h.length]
  exact (h.drop _).take _
variable {lo hi : Option Expr} {l h : Option Int} {p2 : Pos}
theorem do_sliceL (ha : DE F e S S1 (.lst ds)) (hl : DOp F lo S1 S2 l) (hh : DOp F hi S2 S3 h) : DO F (.Subscript e (.Slice lo hi none p2) pos) S S3 (cutD ds l h) :=
  do_of (te := tSl (rSlL F.C.K) (anyE F e) (anyO F lo) (anyO F hi)) (fun i => by have := pe_slice (p2 := p2) (pos := pos) (sl_list (X := F.X i)) (anyE_ok (e := e) i) (anyO_ok (o := lo) i) (anyO_ok (o := hi) i); rw [F.hK i] at this; exact this) fun σ G H c Q q =>
    ha σ G H c _ fun v G1 H1 m1 dv => hl σ G1 H1 m1.cx _ fun G2 H2 m2 => hh σ G2 H2 m2.cx _ fun G3 H3 m3 => by
      cases dv with
      | @lst o vs _ h1 h2 =>
        have m := (m1.trans m2).trans m3
        refine ⟨o, vs, rfl, m3.cx.sub.seq (m3.go.gg.seq (m2.go.gg.seq h1)), fun p hp => ?_⟩
        have sm : Same H3 (upd H3 p (.lst (cutV vs l h))) := fun a u hh => by rw [upd_ne (ne_of_none hh hp)]; exact hh
        exact q p _ G3 _ (m.trans (m3.cx.mv (Same.kt sm) (fun _ _ h => h) (m3.cx.sub.trans sm) fun _ _ h => h)) (back_none m.go hp) (m3.cx.sub.free hp) upd_same (((h2.mono m2.go.gg).mono m3.go.gg).cut l h)
theorem de_sliceL (ha : DE F e S S1 (.lst ds)) (hl : DOp F lo S1 S2 l) (hh : DOp F hi S2 S3 h) : DE F (.Subscript e (.Slice lo hi none p2) pos) S S3 (.lst (cutD ds l h)) := de_do (do_sliceL ha hl hh)
theorem de_sliceT (ha : DE F e S S1 (.tup ds)) (hl : DOp F lo S1 S2 l) (hh : DOp F hi S2 S3 h) : DE F (.Subscript e (.Slice lo hi none p2) pos) S S3 (.tup (cutD ds l h)) :=
  de_of (te := tSl (rSlA F.C.K) (anyE F e) (anyO F lo) (anyO F hi)) (fun i => by have := pe_slice (p2 := p2) (pos := pos) (sl_tupA (X := F.X i)) (anyE_ok (e := e) i) (anyO_ok (o := lo) i) (anyO_ok (o := hi) i); rw [F.hK i] at this; exact this) fun σ G H c Q q =>
    ha σ G H c _ fun v G1 H1 m1 dv => hl σ G1 H1 m1.cx _ fun G2 H2 m2 => hh σ G2 H2 m2.cx _ fun G3 H3 m3 => by
      cases dv with
      | @tup o vs _ h1 h2 =>
        have m := (m1.trans m2).trans m3
        have h1' := same_t m3.go.gg (same_t m2.go.gg h1)
        have h2' := (h2.mono m2.go.gg).mono m3.go.gg
        refine ⟨o, vs, rfl, same_t m3.cx.sub h1', fun w => ?_, fun _ p hp => ?_⟩
        · have e : cutV vs l h = vs := by unfold cutV; rw [w.1, w.2]; simp
          have := h2'.cut l h
          rw [e] at this
          exact q _ _ _ m (.tup h1' this)
        · have pn := m3.cx.pu (Pu.new (o := .tup (cutV vs l h)) m3.cx.sub hp)
          exact q _ _ _ (m.trans pn) (.tup (SqT.of upd_same) ((h2'.cut l h).mono pn.go.gg))
theorem de_sliceS {t : Str} (ha : DE F e S S1 (.str t)) (hl : DOp F lo S1 S2 l) (hh : DOp F hi S2 S3 h) (hz : t.length ≤ sizeLine) : DE F (.Subscript e (.Slice lo hi none p2) pos) S S3 (.str (cutS t l h)) :=
  de_of (te := tSl rSlS (anyE F e) (anyO F lo) (anyO F hi)) (fun i => pe_slice (p2 := p2) (pos := pos) (sl_str (X := F.X i)) (anyE_ok (e := e) i) (anyO_ok (o := lo) i) (anyO_ok (o := hi) i)) fun σ G H c Q q =>
    ha σ G H c _ fun v G1 H1 m1 dv => hl σ G1 H1 m1.cx _ fun G2 H2 m2 => hh σ G2 H2 m2.cx _ fun G3 H3 m3 => by
      cases dv
      exact ⟨t, rfl, hz, q _ _ _ ((m1.trans m2).trans m3) (.str _)⟩
theorem od_addS {i j : Str} (h : i.length + j.length ≤ sizeLine) : OpD F (binaryOp .Add) (.str i) (.str j) (.str (i ++ j)) := ⟨_, fun _ => op_add_str, fun G H u v s hu hv Q q => by
  cases hu; cases hv
  exact ⟨i, j, rfl, rfl, h, q _ _ _ (.refl s) (.str _)⟩⟩
theorem od_catT {xs ys : List D} (h : xs.length + ys.length ≤ sizeLine) : OpD F (binaryOp .Add) (.tup xs) (.tup ys) (.tup (xs ++ ys)) :=
  ⟨rCatA F.C.K, fun i => by have := op_catA (X := F.X i); rw [F.hK i] at this; exact this, fun G H u v s hu hv Q q => by
    cases hu with
    | @tup a vs _ h1 h2 => cases hv with
      | @tup b ws _ h3 h4 =>
        refine ⟨a, b, vs, ws, rfl, rfl, same_t s h1, same_t s h3, by rw [h2.length, h4.length]; exact h, fun e => ?_, fun _ e => ?_, fun _ _ p hp => ?_⟩
        · subst e
          cases h2
          exact q _ _ _ (.refl s) (.tup h3 h4)
        · subst e
          cases h4
          exact q _ _ _ (.refl s) (by rw [List.append_nil]; exact .tup h1 h2)
        · exact q _ _ _ (Pu.new s hp) (.tup (SqT.of upd_same) ((h2.append h4).mono (Pu.new s hp).gg))⟩
theorem od_catL {xs ys : List D} (h : xs.length + ys.length ≤ sizeLine) : OpD F (binaryOp .Add) (.lst xs) (.lst ys) (.lst (xs ++ ys)) :=
  ⟨rCatK F.C.K, fun i => by have := op_catK (X := F.X i); rw [F.hK i] at this; exact this, fun G H u v s hu hv Q q => by
    cases hu with
    | @lst a vs _ h1 h2 => cases hv with
      | @lst b ws _ h3 h4 =>
        exact ⟨a, b, vs, ws, rfl, rfl, s.seq h1, s.seq h3, by rw [h2.length, h4.length]; exact h, fun p hp => q _ _ _ (Pu.new s hp) (.lst (SqL.of upd_same) ((h2.append h4).mono (Pu.new s hp).gg))⟩⟩
end
end DL
namespace DL
open PySem L2
variable [TabL]
def spLaw (K : PySem.W.Frag) : Sp := fun vs H Q _ => ∃ (a : Addr) (ns : List Int), vs = [.ref a] ∧ ns.length ≤ 63 ∧ LamX.Tabs TabL.T H ∧ SqL K H a (ns.map V.int) ∧ ∀ H', Q (.bl true) H'
theorem tabs_nil (h : TabL.T = []) (H : Hp) : LamX.Tabs TabL.T H := by rw [h]; exact fun _ z => absurd z List.not_mem_nil
def noTab (H : Hp) : Hp := fun a => if (TabL.T.map (·.1)).contains a = true then none else H a
theorem noTab_sub {H : Hp} (t : LamX.Tabs TabL.T H) : Sub (noTab H) H := ⟨fun a o h => by
  unfold noTab at h
  split at h
  · cases h
  · exact h, t, fun p hp => by
  unfold noTab
  rw [if_pos (by rw [List.contains_iff_mem]; exact List.mem_map.mpr ⟨p, hp, rfl⟩)]⟩
theorem noTab_at {H : Hp} (t : LamX.Tabs TabL.T H) {a : Addr} {o : HO} (h : H a = some o) (n : NT o) : noTab H a = some o := by
  unfold noTab
  rw [if_neg fun z => ?_]
  · exact h
  · rw [List.contains_iff_mem] at z
    obtain ⟨p, hp, e⟩ := List.mem_map.mp z
    exact tabs_ne t h n p hp e
theorem noTab_seq {K : PySem.W.Frag} {H : Hp} (t : LamX.Tabs TabL.T H) {a : Addr} {xs : List V} (h : SqL K H a xs) : SqL K (noTab H) a xs := by
  rcases h with (h | ⟨o, h⟩) | h
  · exact .inl (.inl (noTab_at t h nt_lst))
  · exact .inl (.inr ⟨o, noTab_at t h fun _ z => nomatch z⟩)
  · exact .inr h
theorem denL_ints {C : Kc} {G : Hp} : ∀ ns : List Int, DenL C G (ns.map V.int) (ns.map D.int)
  | [] => .nil
  | n :: ns => .cons (.int n) (denL_ints ns)
section
variable {P : Program} {w : World} {C : Kc} {mg : Str → Option Value} {base : Heap} {f : Addr} {fd : FuncData} {k : Nat} {ps : List Str}
theorem law_of {R : List D → D → Prop} (h : FnOk P w C.K mg base CX0 k f fd ps (spP C R)) (hR : ∀ is : List Int, is.length ≤ 63 → R [.lst (is.map D.int)] (.bl true)) : FnOk P w C.K mg base CX0 k f fd ps (spLaw C.K) :=
  h.imp fun vs H Q E ⟨a, ns, e, hl, hT, hS, q⟩ => ⟨noTab H, _, _, hR ns hl, noTab_sub hT, by subst e; exact .cons (.lst (noTab_seq hT hS) (denL_ints ns)) .nil, fun v G2 H2 _ d => by cases d; exact q _⟩
variable {x qual : Str} {st : Stmt} {sp : Sp}
theorem cal_mk (ok : FnOk P w C.K mg base CX0 k f fd ps sp) (F : Fun C.K x qual st f fd) (b : Binds C.K fd ps []) (hm : mg x = some (.ref f)) : Cal P w C mg base k x sp := ⟨f, fd, ps, ok, hm, F.kp, b⟩
theorem Fun.kbn (F : Fun C.K x qual st f fd) (n : Nat) (ks : List Str) (ix : List Nat)
    (h : ∀ (kV doc pm : Value) (an : Option Addr) (cdv ct : Value) (us ws : List Value), us.length = n → ws.length = ks.length → bindArgs (PySem.W.fnOf x qual (defArgs st) (defBody st) (defScope st) .none kV doc pm an cdv ct) ⟨us, ks.zip ws⟩ = pure (ps.zip (us ++ perm ix ws))) :
    KBn C.K fd ps n ks (fun us ws => us ++ perm ix ws) (fun vs zs => vs ++ perm ix zs) := by
  obtain ⟨oc, od, kV, doc, pm, an, cdv, ct, osl, rfl, lk, hcd⟩ := F.ex
  exact ⟨fun s us ws X l1 l2 => .of_eq (h kV doc pm an cdv ct us ws l1 l2), fun r1 r2 => r1.append (DL.Vals.perm r2 ix)⟩
end
end DL
namespace DL
open PySem L2
variable [TabL]
section
variable {F : Fam} {S S1 S2 S3 : ST} {e a b c : Expr} {d x y z : D} {pos p apos : Pos} {es : List Expr} {ds : List D} {k : Nat} {nm : Str} {P : Po} {rest : List Stmt} {cn : Nat} {fs : List (Str × D)} {R : List D → D → Prop}
theorem od_eqS {i j : Str} : OpD F (compareOp .Eq) (.str i) (.str j) (.bl (decide (i = j))) := ⟨_, fun _ => op_eq, fun G H u v s hu hv Q q => by
  cases hu; cases hv
  refine ⟨rfl, ?_⟩
  have e : decide (V.str i = V.str j) = decide (i = j) := by
    by_cases h : i = j
    · rw [decide_eq_true h, decide_eq_true (by rw [h])]
    · rw [decide_eq_false h, decide_eq_false (by intro z; exact h (V.str.inj z))]
  rw [e]
  exact q _ _ _ (.refl s) (.bl _)⟩
theorem od_neS {i j : Str} : OpD F (compareOp .NotEq) (.str i) (.str j) (.bl (!decide (i = j))) := ⟨_, fun _ => op_ne, fun G H u v s hu hv Q q => by
  cases hu; cases hv
  refine ⟨rfl, ?_⟩
  have e : decide (V.str i = V.str j) = decide (i = j) := by
    by_cases h : i = j
    · rw [decide_eq_true h, decide_eq_true (by rw [h])]
    · rw [decide_eq_false h, decide_eq_false (by intro z; exact h (V.str.inj z))]
  rw [e]
  exact q _ _ _ (.refl s) (.bl _)⟩
theorem dg_lst {tgs : List Expr} {kk : Nat} {js : List Nat} (h : DGs F tgs ds S S1 js) (hp : ∀ i, PG (F.X i) (.Tuple tgs kk pos) (gLst (F.X i).K ds.length (anyGs F tgs)) := by intro i; exact pg_lst (Fam.calm _ i) (anyGs_ok i)) : DG F (.Tuple tgs kk pos) (.lst ds) S S1 js := fun σ G H v c dv Q q =>
  ⟨gLst F.C.K ds.length (anyGs F tgs), fun i => by have := hp i; rw [F.hK i] at this; exact this, by
    cases dv with
    | lst h1 h2 => exact ⟨_, _, rfl, c.sub.seq h1, h2.length, h σ G H _ c h2 Q q⟩⟩
end
end DL
namespace DL
open PySem PySem.Spec PyProof.Rows L2
variable [TabL]
structure FnG (P : Program) (w : World) (K : PySem.W.Frag) (mg : Str → Option Value) (base : Heap) (k : Nat) (f : Addr) (fd : FuncData) (ps : List Str) (sp : Sp) : Prop where
  size : ∀ vs H Q E, sp vs H Q E → vs.length = ps.length
  runs : ∀ (A : Around), Room k A → A.guards = some [] → ∀ (outer : List Env) (s : Shared) (H : Hp), Env0 P w K mg base A outer s H → ∀ (args : Args) (us : List Value), BindsTo s fd args (ps.zip us) → ∀ (vs : List V) (Q : VK) (E : XK), Vals vs us → sp vs H Q E → codeAny (model P w) A (.call (.ref f) args) (CR CX0 outer P w H s Q E) s
section
variable {P : Program} {w : World} {K : PySem.W.Frag} {mg : Str → Option Value} {base : Heap} {k : Nat} {f : Addr} {fd : FuncData} {ps : List Str} {sp sp' : Sp}
theorem FnG.of (F : FnOk P w K mg base CX0 k f fd ps sp) : FnG P w K mg base k f fd ps sp := ⟨F.len, fun A hr _ outer s H e args us b vs Q E r q => F.run A outer s H args us vs Q E hr e b r q⟩
theorem FnG.imp (F : FnG P w K mg base k f fd ps sp) (h : ∀ vs H Q E, sp' vs H Q E → sp vs H Q E) : FnG P w K mg base k f fd ps sp' := ⟨fun vs H Q E q => F.size vs H Q E (h _ _ _ _ q), fun A hr hA outer s H e args us b vs Q E r q => F.runs A hr hA outer s H e args us b vs Q E r (h _ _ _ _ q)⟩
end
section
variable {F : Fam} {S S1 S2 S3 : ST} {e a b : Expr} {d x y z : D} {pos p apos : Pos} {es : List Expr} {ds : List D} {k : Nat} {nm : Str}
end
section
variable {P : Program} {w : World} {C : Kc} {mg : Str → Option Value} {base : Heap}
end
section
variable {P : Program} {w : World} {K : PySem.W.Frag} {mg mb : Str → Option Value} {s : Shared} {H : Hp} {a : Addr} {vs : List Value} {ns : List Int}
end
end DL
namespace DL
open PySem PySem.Spec PyProof.Rows L2
variable [TabL]
structure Rep (n W : Nat) (d : D) : Prop where
  ok : okP d = true
  sh : (toP d).showable = true
  ls : (toP d).leavesShort 100 = true
  nd : (toP d).hasDict = false
  dp : (toP d).depth ≤ n
  wt : (toP d).weight ≤ W
  cl : (toP d).canLay0 = true
structure RepL (n W : Nat) (d : List D) : Prop where
  ok : okPs d = true
  sh : PyData.showableAll (toPs d) = true
  ls : PyData.leavesShortAll 100 (toPs d) = true
  nd : PyData.hasDictAll (toPs d) = false
  dp : PyData.depthAll (toPs d) ≤ n
  wt : PyData.weightAll (toPs d) ≤ W
  cl : PyData.canLayAll0 (toPs d) = true
theorem Rep.mono {n W n' W' : Nat} {d : D} (h : Rep n W d) (h1 : n ≤ n') (h2 : W ≤ W') : Rep n' W' d := ⟨h.ok, h.sh, h.ls, h.nd, Nat.le_trans h.dp h1, Nat.le_trans h.wt h2, h.cl⟩
theorem RepL.mono {n W n' W' : Nat} {d : List D} (h : RepL n W d) (h1 : n ≤ n') (h2 : W ≤ W') : RepL n' W' d := ⟨h.ok, h.sh, h.ls, h.nd, Nat.le_trans h.dp h1, Nat.le_trans h.wt h2, h.cl⟩
theorem Rep.shaped {n W : Nat} {d : D} (h : Rep n W d) (hn : n ≤ 60 := by decide) : SeqAt.shaped (toP d) = true := by
  have := h.dp
  show ((toP d).canLay0 && decide ((toP d).depth ≤ 64)) = true
  rw [h.cl, decide_eq_true (by omega)]; rfl
section
variable {F : Fam} {S S1 S2 S3 : ST} {e a b c tg iter : Expr} {d x y z : D} {pos p apos : Pos} {es : List Expr} {ds : List D} {k : Nat} {nm : Str} {P : Po} {rest : List Stmt} {cn : Nat} {fs : List (Str × D)} {R : List D → D → Prop}
theorem od_ltS {i j : Str} : OpD F (compareOp .Lt) (.str i) (.str j) (.bl (decide (i.cps.toList < j.cps.toList))) := ⟨_, fun _ => op_lt_str, fun G H u v s hu hv Q q => by
  cases hu; cases hv
  exact ⟨i, j, rfl, rfl, q _ _ _ (.refl s) (.bl _)⟩⟩
theorem od_leS {i j : Str} : OpD F (compareOp .LtE) (.str i) (.str j) (.bl (!decide (j.cps.toList < i.cps.toList))) := ⟨_, fun _ => op_le_str, fun G H u v s hu hv Q q => by
  cases hu; cases hv
  exact ⟨i, j, rfl, rfl, q _ _ _ (.refl s) (.bl _)⟩⟩
def signsD (x : Str) : List D := x.cps.toList.map fun c => D.str ⟨#[c]⟩
theorem itd_str {C : Kc} {G : Hp} {x : Str} : ItD C (Its x) G (signsD x) where
  go := fun i _ _ hi _ _ => by
    unfold signsD at hi
    rw [List.length_map] at hi
    exact hi
  yld := fun i d G H v H' hd s s2 hy => by
    obtain ⟨rfl, c, hc, rfl⟩ := hy
    unfold signsD at hd
    rw [List.getElem?_map, Array.getElem?_toList, hc] at hd
    cases hd
    exact ⟨G, .refl s2, .str _⟩
  stop := fun i _ _ hi _ _ => by
    unfold signsD at hi
    rw [List.length_map] at hi
    exact hi
theorem di_str {t : Str} (h : DE F iter S S1 (.str t)) : DI F tg iter S S1 (signsD t) := di_of (wi := iStr (anyE F iter)) (fun i => pi_str (tg := tg) (anyE_ok (e := iter) i)) fun σ G H c R q => h σ G H c _ fun v G1 H1 m dv => by
  cases dv
  exact ⟨t, rfl, q _ _ _ m itd_str⟩
theorem flat_ints {is : List Int} : (is.map V.int).all flatV = true := by simp [flatV]
theorem in_ints {i : Int} {is : List Int} : inV (.int i) (is.map V.int) = decide (i ∈ is) := by
  unfold inV
  rw [List.any_map]
  have : ∀ x : Int, eqV (.int x) (.int i) = decide (x = i) := fun x => by
    show decide _ = _
    first | rfl | simp
  induction is with
  | nil => simp
  | cons x r ih =>
    rw [List.any_cons, ih]
    show (eqV (.int x) (.int i) || _) = _
    rw [this]
    simp [List.mem_cons, eq_comm]
theorem ca_lenO [Calm F] {i : Int} (mt : Met F.P F.w F.C F.mg F.base k cn "__len__" (spP F.C R)) (hk : k + 1 ≤ F.k) (hR : R [.obj cn fs] (.int i)) (h0 : 0 ≤ i) (h1 : i < 2 ^ 63) : CaD F (.builtin "len") [.obj cn fs] (.int i) := by
  obtain ⟨f, fd, ps, G, hc, hme, hb⟩ := mt
  refine ⟨fun xs H Q => ∃ a dx vs, xs = [.ref a] ∧ H a = some (.ins (F.C.cl cn) dx vs) ∧ spP F.C R [.ref a] H (fun v H' => v = .int i ∧ Q (.int i) H') E0, fun l => ?_, fun G H us s hu Q q => ?_⟩
  · intro pins s σ H xs us Q I rx h
    obtain ⟨a, dx, vs, rfl, ha, hsp⟩ := h
    cases rx with
    | cons r0 r1 =>
      cases r1
      cases r0
      obtain ⟨od, J⟩ := inst_of I ha
      obtain ⟨mm, hFr⟩ := I.fr
      refine PySem.W.len_K hFr I.ok.mod.kin J (by rw [F.hK l]; exact hme.at_) (by rw [F.hK l]; exact hme.fn) ?_
      refine wpAny_mono (run_in1 (vs := [.ref a]) (fn_at G) ((F.room l).mono hk) (by rw [F.hK l]; exact hb) I (.cons rfl .nil) hsp) (fun w s' hw => ?_) fun _ _ e => e
      obtain ⟨w', H', I', rw', rfl, q⟩ := hw
      obtain ⟨tk, rfl⟩ := rw'
      exact ⟨⟨h0, h1⟩, .int i, H', I'.tok _, ⟨_, rfl⟩, q⟩
  · cases hu with
    | cons h0 l0 =>
      have h0' := h0
      cases l0
      cases h0 with
      | obj _ h1 h2 => exact ⟨_, _, _, rfl, s _ _ h1, G, _, _, hR, s, .cons h0' .nil, fun v G2 H2 p dv => by cases dv; exact ⟨rfl, q _ _ _ p (.int _)⟩⟩
end
end DL
namespace DLE
open PySem PySem.Spec PyProof.Rows L2
theorem meets_enum {v : Value} {o : Obj} {H : Heap → Prop} (B : Begins v o H) :
    Meets (Builtin.«enumerate.__new__» ⟨[.type "enumerate", v], []⟩) (fun _ R s => H s.heap ∧
      R (.ok (.ret (.ref (s.heap.push o).objs.size))) { s with heap := (s.heap.push o).push { cls := .type "enumerate", data := .fields #[.none, .bool false, .ref s.heap.objs.size, rawInt 0, .none, .none] } }) :=
  .of_wp fun prog w A R s h => by
    obtain ⟨hp, g, d, tk, os⟩ := s
    obtain ⟨h1, h⟩ := h
    have hsub := sub_enumerate
    have it1 : ∀ {A' : Around} {E : Value → Shared → Prop} {Q : Value → Shared → Prop}, Q (.ref hp.objs.size) ⟨hp.push o, g, d, tk, os⟩ → wpAny (model prog w) A' (pyIter v) Q E ⟨hp, g, d, tk, os⟩ := fun q => B.iter prog w _ _ ⟨hp, g, d, tk, os⟩ _ h1 q
    wp_walk using it1
    refine wpAny_stack_any fun st => wpAny_pure ?_
    split
    · rename_i c _ _ _ _ _
      cases (c == Value.type "enumerate") <;> (wp_walk using it1; exact ⟨_, rfl, h⟩)
    · wp_walk using it1
      exact ⟨_, rfl, h⟩
theorem call_enum {prog : Program} {w : World} {A : Around} {E : Value → Shared → Prop} {s : Shared} {v : Value} {o : Obj} {H : Heap → Prop} {Q : Value → Shared → Prop} (B : Begins v o H) (h1 : H s.heap)
    (h : ∀ h', IsEnum h' (s.heap.objs.size + 1) s.heap.objs.size 0 .none → h'.get? s.heap.objs.size = some o → (∀ b u, s.heap.get? b = some u → h'.get? b = some u) → Q (.ref (s.heap.objs.size + 1)) { s with heap := h' }) :
    wpAny (model prog w) A (call (.type "enumerate") [v]) Q E s := by
  refine callType_new F.called_enumerate (by decide) (F.typeCall_enumerate_1 _) (F.newCall_enumerate_1 _) (fun obj => F.args_object_init_2 obj _) F.entry_enumerate_new (meets_enum B) ⟨h1, ?_⟩
  have hz : (s.heap.push o).objs.size = s.heap.objs.size + 1 := Heap.size_push ..
  have he : IsEnum ((s.heap.push o).push { cls := .type "enumerate", data := .fields #[.none, .bool false, .ref s.heap.objs.size, rawInt 0, .none, .none] }) (s.heap.objs.size + 1) s.heap.objs.size 0 .none := by
    have z := Heap.get?_push_size (s.heap.push o) (o := { cls := .type "enumerate", data := .fields #[.none, .bool false, .ref s.heap.objs.size, rawInt 0, .none, .none] }) rfl
    rw [hz] at z
    exact z
  show _ ∧ _
  rw [hz]
  exact ⟨⟨_, he, rfl⟩, h _ he (Heap.get?_push_of_some _ (Heap.get?_push_size _ B.free)) fun b u z => Heap.get?_push_of_some _ (Heap.get?_push_of_some _ z)⟩
theorem enum_end {prog : Program} {w : World} {A : Around} {E : Value → Shared → Prop} {s : Shared} {e it t : Addr} {i : Nat} {items : Array Value} {old : Value} {Q : Option Value → Shared → Prop} (hh : A.handled = none) (he : IsEnum s.heap e it i old) (hit : s.heap.IsTupleIter it t i) (ht : s.heap.IsTuple t items) (hx : items[i]? = none)
    (hQ : ∀ h', Heap.ExtBut it s.heap h' → Q none { s with heap := h' }) : wpAny (model prog w) A (pyNext (.ref e)) Q E s := by
  have ty : s.TypeIs (.ref e) "enumerate" := ⟨_, he, rfl⟩
  have nx : ∀ Q', (∀ h' x, Heap.ExtBut it s.heap h' → (∃ o, h'.get? x = some o ∧ o.cls = .type "StopIteration") → Q' (.ref x) { s with heap := h' }) → wpAny (model prog w) A.in1 (Builtin.«enumerate.__next__» ⟨[.ref e], []⟩) (fun _ _ => False) Q' s := fun Q' h => by
    show wpAny _ _ (field (.ref e) 2 >>= _) _ _ _
    exact wpAny_bind (wpAny_field he rfl (x := .ref it) rfl (wpAny_bind (wpAny_nextOf_tuple_end hh hit ht hx h)))
  unfold pyNext
  refine wpAny_bind (wpAny_attempt (wpAny_callSpecial?_slot (name := Str.ofString "__next__") ty F.slot_enumerate_next (wpAny_call_entry F.slot_enumerate_next ty F.entry_enumerate_next (wpAny_mono (nx _ fun h' x e1 ⟨o, ho, hc⟩ => ?_) (fun _ _ z => z.elim) fun _ _ z => z) (F.args_enumerate_next_1 _))))
  exact wpAny_bind (wpAny_isInstance (T := "StopIteration") (b := true) ⟨o, ho, hc⟩ isSubtype_stop (wpAny_pure (hQ _ e1)))
def IteT (K : PySem.W.Frag) (a : Addr) : It :=
  ⟨fun i H => ∃ (xs : List V) (x : V), SqT K H a xs ∧ xs[i]? = some x, fun i H v H' => ∃ T x, v = .ref T ∧ H T = none ∧ H' = upd H T (.tup [.int (i : Nat), x]) ∧ ∀ ys, SqT K H a ys → ys[i]? = some x, fun i H => ∃ xs : List V, SqT K H a xs ∧ xs.length ≤ i⟩
theorem turnT {P : Program} {w : World} {K : PySem.W.Frag} {elts : List Expr} {kk : Nat} {tpos : Pos} (a e it : Addr) (n1 : e ≠ it) (n2 : a ≠ it) (n3 : a ≠ e) :
    Turn P w K (.Tuple elts kk tpos) (IteT K a) [e, it] e (fun i h => (∃ old, IsEnum h e it ((i : Nat) : Int) old) ∧ h.IsTupleIter it a i) where
  mem := by simp
  obj := fun i h st b hb => by
    obtain ⟨⟨old, he⟩, o, ho, hc, hd⟩ := st
    rcases (show b = e ∨ b = it by simpa using hb) with rfl | rfl
    · exact ⟨_, he, fun v q => nomatch q⟩
    · exact ⟨o, ho, fun v q => by rw [hd] at q; cases q⟩
  keep := fun i h h' st k => ⟨st.1.imp fun old he => k e (by simp) _ he, st.2.at fun o q => k it (by simp) o q⟩
  item := by
    intro X hP hw hK hc i pins s σ H E I hf st hg
    subst hP hw hK
    obtain ⟨⟨old, he⟩, hit⟩ := st
    obtain ⟨xs, x, hq, hx⟩ := hg
    obtain ⟨its, rv, p, hz⟩ := I.tuple hq
    obtain ⟨u, hu, ru⟩ := rv.get hx
    have le : e < s.heap.objs.size := Heap.lt_size he
    have li : it < s.heap.objs.size := by obtain ⟨_, q, _⟩ := hit; exact Heap.lt_size q
    have Dr := Draws.tuple (prog := X.prog) (w := X.w) (A := X.A.in1) (I.ok.hd hc) it a n2 its.toArray
    refine wpAny_pyNext_enum_itemD Dr he ⟨hit, p⟩ (by have := (List.getElem?_eq_some_iff.mp hu).1; simpa using this) n1 (by simp [n1, n3.symm]) fun y h' tk hy ho hst hT hsz hk => ?_
    obtain rfl : y = u := by
      have hy' : its[i]? = some y := by simpa using hy
      rw [hu] at hy'
      exact (Option.some.inj hy').symm
    refine ⟨_, rfl, wpAny_letOwnedTupleGo_enum (s := { s with heap := h', toks := tk + 1 }) ho fun h2 he2 sb => ?_⟩
    have hT2 : h2.get? s.heap.objs.size = some { cls := .type "tuple", data := .seq #[.int i tk, y] } := (sb.2 _ (Nat.ne_of_gt le)).trans hT
    have new : ObjOk X.prog X.w (upd H s.heap.objs.size (.tup [.int (i : Nat), x])) h2 s.heap.objs.size (.tup [.int (i : Nat), x]) := ⟨by show 2 ≤ sizeLine; decide, [.int i tk, y], .cons ⟨_, rfl⟩ (.cons ru .nil), ⟨_, hT2, rfl, _, rfl⟩⟩
    have J := I.turnedNew (ch := [e, it]) (t' := tk + 1) (fun b ob hb q => (sb.2 b (fun z => hb (by simp [z]))).trans (hk b ob (fun z => hb (by simp [z])) (fun z => hb (by simp [z])) q)) hf (Nat.le_refl _) new
    refine ⟨.ref s.heap.objs.size, _, J, rfl, ⟨_, x, rfl, I.hok.fresh (Nat.le_refl _), rfl, fun ys hys => by rw [I.tuple_inj hys hq]; exact hx⟩, ⟨⟨y, ?_⟩, hst.1.at fun o q => (sb.2 it (Ne.symm n1)).trans q⟩, fun b hb => ?_⟩
    · rw [show ((i + 1 : Nat) : Int) = (i : Int) + 1 by omega]
      exact he2
    · have lb : b < s.heap.objs.size := by
        rcases (show b = e ∨ b = it by simpa using hb) with rfl | rfl
        · exact le
        · exact li
      rw [upd_ne (Nat.ne_of_lt lb)]
      exact (hf b hb).1
  done := by
    intro X hP hw hK hc i pins s σ H E I hf st hg
    subst hP hw hK
    obtain ⟨⟨old, he⟩, hit⟩ := st
    obtain ⟨xs, hq, hx⟩ := hg
    obtain ⟨its, rv, p, hz⟩ := I.tuple hq
    obtain ⟨f0, f1, f2, f3, f4, f5⟩ := hf it (by simp)
    have hl := rv.length
    refine enum_end (I.ok.hd hc) he hit p (by simp; omega) fun h' eb => ⟨rfl, I.turned (t' := s.toks) (fun b o hb q => eb b o hb q) f0 f1 f3 f4 f5⟩
  self := fun A i s Q E st h => let ⟨⟨_, he⟩, _⟩ := st; wpAny_pyIter_enum he h
def iEnumT (K : PySem.W.Frag) (ta : TA) : TI := fun σ H R => ta σ H fun vs H1 => ∃ a xs, vs = [.ref a] ∧ SqT K H1 a xs ∧ R (IteT K a) H1
theorem pi_enumT {X : Cx} {e : Expr} {ta : TA} {p pos tpos : Pos} {elts : List Expr} {kk : Nat} (hg : Gl X "enumerate") (hm : X.mg "enumerate" = none) (ha : PA X [e] ta) (hs : starEach [e] X.env = [(false, eval e X.env)]) :
    PI X (.Tuple elts kk tpos) (.Call (.Name "enumerate" p) [e] [] pos) (iEnumT X.K ta) := by
  refine ⟨fun pins s σ H R I h => ?_⟩
  refine Call_ (ld_blt I hg hm boot_enumerate (PyProof.Rows.callWith_type1 (thn (ha.run pos pins s σ H _ I h) fun us s1 ⟨vs, H1, I1, r1, a, xs, ex, hq, q⟩ => ?_) hs rfl))
  subst ex
  cases r1 with
  | cons r rr =>
    cases rr
    cases r
    obtain ⟨its, rv, p', hz⟩ := I1.tuple hq
    have la : a < s1.heap.objs.size := by obtain ⟨_, z, _⟩ := p'; exact Heap.lt_size z
    refine call_enum (begins_tuple a its.toArray) p' fun h' he hi hk => wpAny_pyIter_enum he ?_
    refine ⟨s1.heap.objs.size + 1, [s1.heap.objs.size + 1, s1.heap.objs.size], _, _, H1, rfl, I1.kept (t' := s1.toks) hk, turnT a (s1.heap.objs.size + 1) s1.heap.objs.size (Nat.succ_ne_self _) (Nat.ne_of_lt la) (Nat.ne_of_lt (Nat.lt_succ_of_lt la)), ⟨⟨.none, he⟩, ⟨_, hi, rfl, rfl⟩⟩, fun b hb => ?_, q⟩
    have hle : s1.heap.objs.size ≤ b := by
      rcases (show b = s1.heap.objs.size + 1 ∨ b = s1.heap.objs.size by simpa using hb) with z | z <;> rw [z]
      · exact Nat.le_succ _
      · exact Nat.le_refl _
    exact I1.fpOk hle (I1.hok.fresh hle)
end DLE
namespace DL
open PySem L2
variable [TabL]
def enumD (ds : List D) : List D := ds.zipIdx.map fun t => D.tup [.int (t.2 : Nat), t.1]
theorem enumD_get {ds : List D} {i : Nat} {d : D} (h : (enumD ds)[i]? = some d) : ∃ x, ds[i]? = some x ∧ d = .tup [.int (i : Nat), x] := by
  unfold enumD at h
  rw [List.getElem?_map, List.getElem?_zipIdx] at h
  cases q : ds[i]? with
  | none => rw [q] at h; cases h
  | some x =>
    rw [q] at h
    refine ⟨x, rfl, ?_⟩
    have := (Option.some.inj h).symm
    simpa using this
theorem enumD_length {ds : List D} : (enumD ds).length = ds.length := by simp [enumD]
section
variable {F : Fam} {S S1 S2 S3 : ST} {e : Expr} {p : Pos} {ds : List D}
theorem itd_enumT {C : Kc} {G0 : Hp} {a : Addr} {vs : List V} (h : SqT C.K G0 a vs) (dl : DenL C G0 vs ds) : ItD C (DLE.IteT C.K a) G0 (enumD ds) where
  go := fun i G H hi s s2 => by
    rw [enumD_length] at hi
    obtain ⟨v, h1, _⟩ := dl.get (List.getElem?_eq_getElem hi)
    exact ⟨vs, v, same_t s2 (same_t s h), h1⟩
  yld := fun i d G H x H' hd s s2 hy => by
    obtain ⟨y, hy1, rfl⟩ := enumD_get hd
    obtain ⟨T, v, rfl, hT, rfl, hv⟩ := hy
    obtain ⟨v', h1, h2⟩ := dl.get hy1
    have e1 := hv vs (same_t s2 (same_t s h))
    rw [h1] at e1
    cases e1
    refine ⟨_, Pu.new s2 hT, .tup (SqT.of upd_same) ?_⟩
    exact .cons (.int _) (.cons ((h2.mono s).mono (Pu.new s2 hT).gg) .nil)
  stop := fun i G H hi s s2 => ⟨vs, same_t s2 (same_t s h), by rw [dl.length, ← enumD_length]; exact hi⟩
theorem di_enumT {elts : List Expr} {kk : Nat} {tpos q1 : Pos} (hm : F.mg "enumerate" = none) (h : DE F e S S1 (.tup ds)) (hg : ∀ l, Gl (F.X l) "enumerate" := by intro _; rfl) (hs : ∀ l, starEach [e] (F.X l).env = [(false, eval e (F.X l).env)] := by intro _; rfl) :
    DI F (.Tuple elts kk tpos) (.Call (.Name "enumerate" p) [e] [] q1) S S1 (enumD ds) :=
  di_of (wi := DLE.iEnumT F.C.K (tCons (anyE F e) tNil)) (fun l => by have := DLE.pi_enumT (X := F.X l) (elts := elts) (kk := kk) (tpos := tpos) (p := p) (pos := q1) (hg l) (by rw [F.hmg l]; exact hm) (pa_cons (anyE_ok (e := e) l) pa_nil (hs l)) (hs l); rw [F.hK l] at this; exact this) fun σ G H c R q => h σ G H c _ fun v G1 H1 m dv => by
    cases dv with
    | @tup a vs _ h1 h2 => exact ⟨a, vs, rfl, same_t m.cx.sub h1, q _ _ _ m (itd_enumT h1 h2)⟩
end
end DL
namespace DL
open PySem L2
variable [TabL]
section
variable {F : Fam} {x y : D} {ds : List D}
end
theorem lt_one {a b : Nat} : decide (([a] : List Nat) < [b]) = decide (a < b) := by
  refine decide_eq_decide.mpr ?_
  rw [List.cons_lt_cons_iff]
  simp
theorem take_one {α : Type} {l : List α} {i : Nat} {x : α} (h : l[i]? = some x) : l.take (i + 1) = l.take i ++ [x] := by
  rw [List.take_succ, h]; rfl
theorem bb_isinstance : bootBuiltins "isinstance" = some (.builtin "isinstance") := by decide +kernel
theorem bb_abs : bootBuiltins "abs" = some (.builtin "abs") := by decide +kernel
theorem bb_len : bootBuiltins "len" = some (.builtin "len") := by decide +kernel
theorem bb_max : bootBuiltins "max" = some (.builtin "max") := by decide +kernel
theorem bb_min : bootBuiltins "min" = some (.builtin "min") := by decide +kernel
theorem bb_all : bootBuiltins "all" = some (.builtin "all") := by decide +kernel
theorem bb_sum : bootBuiltins "sum" = some (.builtin "sum") := by decide +kernel
theorem bb_int : bootBuiltins "int" = some (.type "int") := by decide +kernel
theorem bb_bool : bootBuiltins "bool" = some (.type "bool") := by decide +kernel
theorem bb_str : bootBuiltins "str" = some (.type "str") := by decide +kernel
theorem bb_tuple : bootBuiltins "tuple" = some (.type "tuple") := by decide +kernel
end DL
namespace DL
open PySem L2
variable [TabL]
def rgD (a b : Int) : List D := (List.range (b - a).toNat).map fun i => D.int (a + (i : Nat))
theorem den_rg {C : Kc} {G : Hp} (a b : Int) : DenL C G (rgV a b) (rgD a b) := by
  unfold rgV rgD
  generalize (b - a).toNat = n
  generalize List.range n = l
  induction l with
  | nil => exact .nil
  | cons x r ih => exact .cons (.int _) ih
section
variable {F : Fam} {S S1 S2 S3 : ST} {a b : Expr} {p p2 pos q1 : Pos} {i j : Int}
theorem do_listRg [Calm F] (hl : F.mg "list" = none) (hm : F.mg "range" = none) (ha : DE F a S S1 (.int i)) (hb : DE F b S1 S2 (.int j)) (ok : RgOk i j)
    (hg : ∀ l, Gl (F.X l) "list" := by intro _; rfl) (hg2 : ∀ l, Gl (F.X l) "range" := by intro _; rfl)
    (n1 : ∀ l, starEach [.Call (.Name "range" p2) [a, b] [] q1] (F.X l).env = (false, eval (.Call (.Name "range" p2) [a, b] [] q1) (F.X l).env) :: starEach [] (F.X l).env := by intro _; rfl)
    (n2 : ∀ l, starEach [a, b] (F.X l).env = (false, eval a (F.X l).env) :: starEach [b] (F.X l).env := by intro _; rfl) (n3 : ∀ l, starEach [b] (F.X l).env = (false, eval b (F.X l).env) :: starEach [] (F.X l).env := by intro _; rfl)
    (n4 : ∀ l, (backTo q1 (starEach [b] (F.X l).env)).any (·.1) = false := by intro _; rfl) :
    DO F (.Call (.Name "list" p) [.Call (.Name "range" p2) [a, b] [] q1] [] pos) S S2 (rgD i j) :=
  do_of (te := tLstRg (tRg2 (anyE F a) (anyE F b))) (fun l => pe_listRg (F.calm l) (hg l) (by rw [F.hmg]; exact hl) (prg_2 (hg2 l) (by rw [F.hmg]; exact hm) (anyE_ok l) (anyE_ok l) (n2 l) (n3 l) (n4 l)) (n1 l)) fun σ G H c Q q =>
    ha σ G H c _ fun v G1 H1 m1 d1 => hb σ G1 H1 m1.cx _ fun u G2 H2 m2 d2 => by
      cases d1
      cases d2
      have m := m1.trans m2
      refine ⟨i, j, rfl, rfl, ok, fun p hp => ?_⟩
      have sm : Same H2 (upd H2 p (.lst (rgV i j))) := fun a u hh => by rw [upd_ne (ne_of_none hh hp)]; exact hh
      exact q p _ G2 _ (m.trans (m2.cx.mv (Same.kt sm) (fun _ _ h => h) (m2.cx.sub.trans sm) fun _ _ h => h)) (back_none m.go hp) (m2.cx.sub.free hp) upd_same (den_rg i j)
end
end DL
namespace ND
open PySem PySem.Spec PyProof.Rows L2
section
variable {X : Cx} {pins : List (Addr × Obj)} {σ : L2.St} {H : Hp} {s : Shared}
theorem ndo_raw (I : Inv X pins σ H s) {a : Addr} {o : Obj} {xs : List NEnt} (h : H a = some (NDO X.prog X.w a o xs)) : (a == sysModules) = false ∧ xs.length ≤ 1000000 ∧ ∃ es ep, s.heap.get? a = some o ∧ o.ExactDict ∧ o.data = .dict es ep ∧ es.toList = xs.map (entryOfKey (nestedKind X.prog X.w)) := by
  obtain ⟨⟨h1, h2, _, es, ep, h4, h5, h6, h7⟩, _, _⟩ := I.hok a _ h
  exact ⟨h2, h1, es, ep, h4, h5, h6, h7⟩
def tyN (P : Program) (w : World) : V → Hp → Prop := fun x H => ∃ (a : Addr) (o : Obj) (xs : List NEnt), x = .ref a ∧ H a = some (NDO P w a o xs)
theorem ty_nd : TyOk X "dict" (tyN X.prog X.w) := by
  intro pins σ H s x v I r ty
  obtain ⟨a, o, xs, rfl, h⟩ := ty
  cases r
  obtain ⟨_, _, es, ep, h4, h5, h6, _⟩ := ndo_raw I h
  exact ⟨⟨o, h4, h5.1⟩, fun b e => by cases e; exact ⟨o, h4, h5.2.1⟩⟩
def rNGet (K : PySem.W.Frag) (P : Program) (w : World) : V → List V → Hp → VK → Prop := fun x ys H Q => ∃ (b a : Addr) (o : Obj) (xs : List NEnt) (k : NestedKey) (z : V), x = .ref a ∧ ys = [.ref b, z] ∧ H a = some (NDO P w a o xs) ∧ KH K H xs ∧ NkH K H (.ref b) k ∧ k.depth ≤ 8 ∧ ((atKey xs k = none ∧ Q z H) ∨ ∃ p v, atKey xs k = some p ∧ RelV v p.2 ∧ Q v H)
theorem mt_nget (hu : X.A.units + 64 < cLine) : MtR X "dict.get" (rNGet X.K X.prog X.w) := by
  intro pins s σ H x ys v us Q I rx rs h
  obtain ⟨b, a, o, xs, k, z, rfl, rfl, ha, hk, hb, h8, q⟩ := h
  cases rx
  obtain ⟨u, r, rfl, r1, r2⟩ := vals2 rs
  cases r1
  obtain ⟨_, h2, h3⟩ := ndo_at I ha hk
  refine getOr_keyed (room8 hu) ⟨nk_is I hb rfl, h8⟩ h2 ⟨xs, h3, rfl⟩ ?_
  rw [valueAt_pairsH]
  rcases q with ⟨e, q⟩ | ⟨p, v, e, r, q⟩
  · rw [e]; exact ⟨z, H, I.tok _, r2, q⟩
  · rw [e]; exact ⟨v, H, I.tok _, r, q⟩
def ItN (P : Program) (w : World) (a : Addr) (o : Obj) (xs : List NEnt) (ys : List V) : It :=
  ⟨fun i H => H a = some (NDO P w a o xs) ∧ i < xs.length, fun i H v H' => ∃ (T : Addr) (x : NEnt) (y : V), xs[i]? = some x ∧ ys[i]? = some y ∧ v = .ref T ∧ H T = none ∧ H' = upd H T (.tup [.ref x.2.1, y]), fun i H => H a = some (NDO P w a o xs) ∧ xs.length ≤ i⟩
theorem turnN {P : Program} {w : World} {K : PySem.W.Frag} {elts : List Expr} {kk : Nat} {tpos : Pos} {a : Addr} {o : Obj} {es : Array DictEntry} {ep : Nat} {xs : List NEnt} {ys : List V} (it : Addr) (hod : o.data = .dict es ep) (hes : es.toList = xs.map (entryOfKey (nestedKind P w)))
    (hy : ∀ (i : Nat) (x : NEnt), xs[i]? = some x → ∃ y, ys[i]? = some y ∧ RelV y x.2.2) :
    Turn P w K (.Tuple elts kk tpos) (ItN P w a o xs ys) [it] it (fun i h => ∃ ok ov, IsItemIter h it a i es.size ep ok ov) where
  mem := by simp
  obj := fun i h st b hb => by
    obtain rfl : b = it := by simpa using hb
    obtain ⟨ok, ov, q⟩ := st
    exact ⟨_, q, fun v z => nomatch z⟩
  keep := fun i h h' st k => by obtain ⟨ok, ov, q⟩ := st; exact ⟨ok, ov, k it (by simp) _ q⟩
  item := by
    intro X hP hw hK hc i pins s σ H E I hf st hg
    subst hP hw hK
    obtain ⟨ha, hi⟩ := hg
    obtain ⟨_, _, es', ep', k1, k2, k3, k4⟩ := ndo_raw I ha
    rw [hod] at k3; cases k3
    obtain ⟨ok, ov, he⟩ := st
    have hsz : es.size = xs.length := size_of_entries hes
    have hlt : it < s.heap.objs.size := Heap.lt_size he
    have ei : es[i]'(by rw [hsz]; exact hi) = entryOfKey (nestedKind X.prog X.w) xs[i] := by
      have z := entry_at hes i
      rw [Array.getElem?_eq_getElem (by rw [hsz]; exact hi), List.getElem?_eq_getElem hi] at z
      exact Option.some.inj z
    obtain ⟨y, hyi, ry⟩ := hy i _ (List.getElem?_eq_getElem hi)
    refine DT.nextI he ⟨o, k1, k2, hod⟩ (by rw [hsz]; exact hi) fun h1 ho hT hz hk => ?_
    refine ⟨_, rfl, wpAny_letOwnedTupleGo_items (s := { s with heap := h1 }) ho fun h2 he2 sb => ?_⟩
    rw [ei] at hT
    have hT2 : h2.get? s.heap.objs.size = some { cls := .type "tuple", data := .seq #[.ref xs[i].2.1, xs[i].2.2] } := (sb.2 _ (Nat.ne_of_gt hlt)).trans hT
    have nw : ObjOk X.prog X.w (upd H s.heap.objs.size (.tup [.ref xs[i].2.1, y])) h2 s.heap.objs.size (.tup [.ref xs[i].2.1, y]) := ⟨by show 2 ≤ sizeLine; decide, [.ref xs[i].2.1, xs[i].2.2], .cons rfl (.cons ry .nil), ⟨_, hT2, rfl, _, rfl⟩⟩
    have J := I.turnedNew (ch := [it]) (t' := s.toks) (fun b ob hb q => (sb.2 b (by simpa using hb)).trans (hk b ob (by simpa using hb) q)) hf (Nat.le_refl _) nw
    refine ⟨.ref s.heap.objs.size, _, J, rfl, ⟨_, _, y, List.getElem?_eq_getElem hi, hyi, rfl, I.hok.fresh (Nat.le_refl _), rfl⟩, ⟨_, _, he2⟩, fun b hb => ?_⟩
    obtain rfl : b = it := by simpa using hb
    rw [upd_ne (Nat.ne_of_lt hlt)]
    exact (hf b (by simp)).1
  done := by
    intro X hP hw hK hc i pins s σ H E I hf st hg
    subst hP hw hK
    obtain ⟨ha, hi⟩ := hg
    obtain ⟨f0, f1, f2, f3, f4, f5⟩ := hf it (by simp)
    obtain ⟨_, _, es', ep', k1, k2, k3, k4⟩ := ndo_raw I ha
    rw [hod] at k3; cases k3
    obtain ⟨ok, ov, he⟩ := st
    exact DT.endI (I.ok.hd hc) he ⟨o, k1, k2, hod⟩ (by rw [size_of_entries hes]; exact hi) fun h1 eb => ⟨rfl, I.turned (t' := s.toks) (fun b ob hb q => eb b ob hb q) f0 f1 f3 f4 f5⟩
  self := fun A i s Q E st h => let ⟨_, _, q⟩ := st; PySem.W.kcp_self q h
def iItN (P : Program) (w : World) (td : TE) : TI := fun σ H R => td σ H fun x H1 => ∃ (a : Addr) (o : Obj) (xs : List NEnt) (ys : List V), x = .ref a ∧ H1 a = some (NDO P w a o xs) ∧ (∀ (i : Nat) (x : NEnt), xs[i]? = some x → ∃ y, ys[i]? = some y ∧ RelV y x.2.2) ∧ R (ItN P w a o xs ys) H1
theorem pi_itN {e : Expr} {td : TE} {apos cpos tpos : Pos} {elts : List Expr} {kk : Nat} (he : PE X e td) (hbase : attributeBase e "items" X.env (eval e X.env) = eval e X.env) (hline : (apos.endLine == cpos.line) = true) :
    PI X (.Tuple elts kk tpos) (.Call (.Attribute e "items" apos) [] [] cpos) (iItN X.prog X.w td) := by
  refine ⟨fun pins s σ H R I h => ?_⟩
  refine wpAny_Call_method (T := "dict") (id := "dict.items") hbase rfl hline F.plainAttrs_dict F.slot_dict_items F.type_dict_items (thn (he.run pins s σ H _ I h) fun u s1 ⟨x, H1, I1, rx, a, o, xs, ys, ex, ha, hy, q⟩ => ?_)
  subst ex
  cases rx
  obtain ⟨h2, _, es, ep, k1, k2, k3, k4⟩ := ndo_raw I1 ha
  refine ⟨⟨o, k1, k2.1⟩, fun b z => by cases z; exact ⟨o, k1, k2.2.1⟩, ?_⟩
  have I2 : Inv X pins σ H1 { s1 with heap := s1.heap.push { cls := .type "dict_items", data := .fields #[.ref a] } } := I1.kept (t' := s1.toks) fun b ob q => Heap.get?_push_of_some _ q
  have rw1 : DT.Raw s1.heap a es ep := ⟨o, k1, k2, k3⟩
  have fin : wpAny (model X.prog X.w) X.A (pyIter (.ref s1.heap.objs.size)) (PIE X pins σ (.Tuple elts kk tpos) R) X.xe { s1 with heap := s1.heap.push { cls := .type "dict_items", data := .fields #[.ref a] } } :=
    DT.iterI (d := a) (es := es) (ep := ep) ⟨_, Heap.get?_push_size _ rfl, rfl, rfl⟩ (rw1.push _) (pi_one (tk := s1.toks) I2 _ (turnN _ k3 k4 hy) ⟨.none, .none, Heap.get?_push_size _ rfl⟩ q)
  show wpAny _ _ (callWith cpos (.builtin "dict.items") [.ref a] [] []) _ X.xe s1
  exact method_meetsIn F.slot_dict_items F.entry_dict_items rfl (PySem.evalArgs_none ⟨rfl, ⟨o, k1, k2.1⟩, F.args_dict_items_1 _, _, DT.meetsItems (es := es) (ep := ep) h2, rw1, fin⟩)
def valsO (p d : Addr) : HO := .ext fun h => h.IsValuesView p d
theorem valsO_ok {P : Program} {w : World} {H : Hp} {h : Heap} {p d : Addr} (e : h.get? p = some { cls := .type "dict_values", data := .fields #[.ref d] }) : ObjOk P w H h p (valsO p d) := ⟨⟨_, e, rfl, rfl⟩, ⟨_, e⟩, fun h1 h2 x k => by obtain ⟨o, ho, r⟩ := x; exact ⟨o, k o ho, r⟩⟩
def rNVals (P : Program) (w : World) : V → List V → Hp → VK → Prop := fun x ys H Q => ∃ (a : Addr) (o : Obj) (xs : List NEnt), x = .ref a ∧ ys = [] ∧ H a = some (NDO P w a o xs) ∧ ∀ p, H p = none → Q (.ref p) (upd H p (valsO p a))
theorem mt_nvals : MtR X "dict.values" (rNVals X.prog X.w) := by
  intro pins s σ H x ys v us Q I rx rs h
  obtain ⟨a, o, xs, rfl, rfl, ha, q⟩ := h
  cases rx
  cases rs
  obtain ⟨h2, _, es, ep, k1, k2, k3, k4⟩ := ndo_raw I ha
  refine call_meetsIn F.slot_dict_values ⟨o, k1, k2.1⟩ F.entry_dict_values (F.args_dict_values_1 _) (meets_dict_values_raw a h2) ⟨⟨es, ep, o, k1, k2, k3⟩, ?_⟩
  exact ⟨.ref s.heap.objs.size, upd H s.heap.objs.size (valsO s.heap.objs.size a), I.laid (t' := s.toks) (fun b u e => Heap.get?_push_of_some _ e) (Nat.le_refl _) (valsO_ok (Heap.get?_push_size _ rfl)), rfl, q _ (I.hok.fresh (Nat.le_refl _))⟩
theorem pre_sum : ∀ ns : List Int, preSum (fun i => (ns[i]?).getD 0) ns.length = ns.sum
  | [] => rfl
  | n :: ns => by
    show preSum _ (ns.length + 1) = _
    rw [PySem.W.kdu_shift, List.sum_cons, ← pre_sum ns]
    rfl
def rNSum (P : Program) (w : World) : List V → Hp → VK → Prop := fun vs H Q => ∃ (p a : Addr) (o : Obj) (xs : List NEnt) (ns : List Int), vs = [.ref p] ∧ H p = some (valsO p a) ∧ H a = some (NDO P w a o xs) ∧ xs.length = ns.length ∧ (∀ (i : Nat) (x : NEnt), xs[i]? = some x → ∃ n, ns[i]? = some n ∧ RelV (.int n) x.2.2) ∧ Q (.int ns.sum) H
theorem cr_nsum (hc : X.calm = true) : CallR X (.builtin "sum") (rNSum X.prog X.w) := by
  intro pins s σ H vs us Q I r h
  obtain ⟨p, a, o, xs, ns, rfl, hp, ha, hl, hn, q⟩ := h
  obtain ⟨u, rfl, rx⟩ := vals1 r
  cases rx
  obtain ⟨h2, _, es, ep, k1, k2, k3, k4⟩ := ndo_raw I ha
  have hv : s.heap.IsValuesView p a := (I.hok p _ hp).1
  have hsz : es.size = xs.length := size_of_entries k4
  have KS := PySem.KdlSrc.rawValues (prog := X.prog) (w := X.w) (r := p) (d := a) (es := es) (ep := ep)
  refine call_sum_walkAnyS ?_
  obtain ⟨oI, St, hit, W, st⟩ := KS.iter X.A.in1 s (I.ok.hd hc) ⟨hv, o, k1, k2, k3⟩
  have lp := KS.there s.heap ⟨hv, o, k1, k2, k3⟩
  refine hit _ _ ⟨s.heap.objs.size, _, _, _, es.size, _, _, fun i => (ns[i]?).getD 0, rfl, W.toS, st, fun b hb => ?_, fun i v hv => ?_, fun s' t' hm => ?_⟩
  · show b < (s.heap.push oI).objs.size
    rw [Heap.size_push]
    rcases List.mem_cons.mp hb with e | hb
    · rw [e]; exact Nat.lt_succ_self _
    · rw [List.mem_singleton.mp hb]; exact Nat.lt_succ_of_lt lp.2
  · obtain ⟨hi, rfl⟩ := hv
    have hi' : i < xs.length := by rw [← hsz]; exact hi
    have z := entry_at k4 i
    rw [Array.getElem?_eq_getElem hi, List.getElem?_eq_getElem hi'] at z
    obtain ⟨n, e1, t, e2⟩ := hn i _ (List.getElem?_eq_getElem hi')
    refine ⟨t, ?_⟩
    show _ = Value.int ((ns[i]?).getD 0) t
    rw [Option.some.inj z, e1]
    exact e2
  · have hk : ∀ b o, s.heap.get? b = some o → s'.heap.get? b = some o := fun b o e =>
      hm.heap b o (fun hI => absurd (Heap.lt_size e) (by rw [List.mem_singleton.mp hI]; exact Nat.lt_irrefl _)) (Heap.get?_push_of_some _ e)
    rw [Moved.eq_with hm, hsz, hl, pre_sum]
    exact ⟨.int ns.sum, H, I.kept hk, ⟨_, rfl⟩, q⟩
end
end ND
namespace DL
open PySem L2
variable [TabL]
def itemsD (kds : List (D × D)) : List D := kds.map fun p => .tup [p.1, p.2]
theorem DenN.vals {C : Kc} {G : Hp} : ∀ {kds : List (D × D)} {xs : List ND.NEnt}, DenN C G xs kds → ∃ ys : List V, ∀ (i : Nat) (x : ND.NEnt), xs[i]? = some x → ∃ y p, ys[i]? = some y ∧ RelV y x.2.2 ∧ kds[i]? = some p ∧ Den C G (.ref x.2.1) p.1 ∧ Den C G y p.2
  | _, _, .nil => ⟨[], fun i x h => by simp at h⟩
  | _, _, @DenN.cons _ _ k b u v kd d xs ds h1 h2 h3 h4 h5 l => by
    obtain ⟨ys, ih⟩ := DenN.vals l
    refine ⟨v :: ys, fun i x h => ?_⟩
    cases i with
    | zero => cases h; exact ⟨v, (kd, d), rfl, h4, rfl, h3, h5⟩
    | succ i => exact ih i x (by simpa using h)
theorem DenN.ints {C : Kc} {G : Hp} : ∀ {kds : List (D × D)} {xs : List ND.NEnt} {ns : List Int}, DenN C G xs kds → kds.map (·.2) = ns.map D.int → xs.length = ns.length ∧ ∀ (i : Nat) (x : ND.NEnt), xs[i]? = some x → ∃ n, ns[i]? = some n ∧ RelV (.int n) x.2.2
  | _, _, ns, .nil, e => by
    cases ns with
    | nil => exact ⟨rfl, fun i x h => by simp at h⟩
    | cons n ns => cases e
  | _, _, ns, @DenN.cons _ _ k b u v kd d xs ds h1 h2 h3 h4 h5 l, e => by
    cases ns with
    | nil => cases e
    | cons n ns =>
      rw [List.map_cons, List.map_cons] at e
      injection e with e1 e2
      obtain ⟨l1, l2⟩ := DenN.ints l e2
      refine ⟨congrArg (· + 1) l1, fun i x h => ?_⟩
      cases i with
      | zero =>
        cases h
        have e1' : d = .int n := e1
        subst e1'
        cases h5
        exact ⟨n, rfl, h4⟩
      | succ i => exact l2 i x (by simpa using h)
section
variable {F : Fam} {S S1 S2 S3 : ST} {e : Expr} {p : Pos} {ds : List D}
theorem itd_itN {C : Kc} {G0 : Hp} {a : Addr} {o : Obj} {xs : List ND.NEnt} {ys : List V} {kds : List (D × D)} (h : G0 a = some (ND.NDO C.P C.w a o xs)) (dl : DenN C G0 xs kds)
    (hy : ∀ (i : Nat) (x : ND.NEnt), xs[i]? = some x → ∃ y p, ys[i]? = some y ∧ RelV y x.2.2 ∧ kds[i]? = some p ∧ Den C G0 (.ref x.2.1) p.1 ∧ Den C G0 y p.2) : ItD C (ND.ItN C.P C.w a o xs ys) G0 (itemsD kds) where
  go := fun i G H hi s s2 => ⟨s2 _ _ (s _ _ h), by rw [dl.length]; simpa [itemsD] using hi⟩
  yld := fun i d G H x H' hd s s2 hyl => by
    obtain ⟨T, x', y, hx, hyi, rfl, hT, rfl⟩ := hyl
    obtain ⟨y', p, e1, _, e2, d1, d2⟩ := hy i x' hx
    rw [hyi] at e1
    cases e1
    have e3 : d = .tup [p.1, p.2] := by
      have z := hd
      unfold itemsD at z
      rw [List.getElem?_map, e2] at z
      exact (Option.some.inj z).symm
    subst e3
    refine ⟨_, Pu.new s2 hT, .tup (SqT.of upd_same) ?_⟩
    exact .cons ((d1.mono s).mono (Pu.new s2 hT).gg) (.cons ((d2.mono s).mono (Pu.new s2 hT).gg) .nil)
  stop := fun i G H hi s s2 => ⟨s2 _ _ (s _ _ h), by rw [dl.length]; simpa [itemsD] using hi⟩
theorem di_itN {elts : List Expr} {kk : Nat} {tpos q1 : Pos} {kds : List (D × D)} (h : DE F e S S1 (.dic kds)) (hbase : ∀ l, attributeBase e "items" (F.X l).env (eval e (F.X l).env) = eval e (F.X l).env) (hline : (p.endLine == q1.line) = true) :
    DI F (.Tuple elts kk tpos) (.Call (.Attribute e "items" p) [] [] q1) S S1 (itemsD kds) :=
  di_of (wi := ND.iItN F.C.P F.C.w (anyE F e)) (fun l => by have := ND.pi_itN (X := F.X l) (elts := elts) (kk := kk) (tpos := tpos) (anyE_ok (e := e) l) (hbase l) hline; rw [F.hP l, F.hw l] at this; rw [F.cP, F.cw]; exact this) fun σ G H c R q => h σ G H c _ fun v G1 H1 m dv => by
    cases dv with
    | @dN a o xs _ h1 h2 =>
      obtain ⟨ys, hy⟩ := h2.vals
      exact ⟨a, o, xs, ys, rfl, m.cx.sub _ _ h1, fun i x hx => by obtain ⟨y, p, e1, e2, _⟩ := hy i x hx; exact ⟨y, e1, e2⟩, q _ _ _ m (itd_itN h1 h2 hy)⟩
theorem de_ndGet {e1 e2 : Expr} {apos pos : Pos} {kds : List (D × D)} {kd z : D} {k : NestedKey} (h : DE F e S S1 (.dic kds)) (ha : DA F [e1, e2] S1 S2 [kd, z]) (hk : dkey kd = some k) (hbase : ∀ l, attributeBase e "get" (F.X l).env (eval e (F.X l).env) = eval e (F.X l).env) (hline : (apos.endLine == pos.line) = true)
    (hfew : ∀ l, ((backTo pos (starEach [e1, e2] (F.X l).env)).all (fun x => !x.1) && (backToKw pos (keywordEach [] (F.X l).env)).all (fun x => x.1.isSome) && decide (([e1, e2] : List Expr).length + ([] : List Keyword).length + (if ([] : List Keyword).isEmpty then 0 else 1) < 30)) = true)
    (hs : ∀ l, starEach [e1, e2] (F.X l).env = (false, eval e1 (F.X l).env) :: starEach [e2] (F.X l).env) (hpl : ∀ l, (backTo pos (starEach [e2] (F.X l).env)).any (·.1) = false) :
    DE F (.Call (.Attribute e "get" apos) [e1, e2] [] pos) S S2 ((dlook k kds).getD z) :=
  de_of (te := tMG (ND.tyN F.C.P F.C.w) (ND.rNGet F.C.K F.C.P F.C.w) (anyE F e) (anyA F [e1, e2])) (fun l => by
    have := pe_mG (X := F.X l) ND.ty_nd PySem.F.plainAttrs_dict PySem.F.slot_dict_get PySem.F.type_dict_get (ND.mt_nget (F.units l)) (anyE_ok (e := e) l) (anyA_ok l) (hbase l) (hfew l) hline (hs l) (hpl l)
    rw [F.hK l, F.hP l, F.hw l] at this
    rw [F.cP, F.cw]
    exact this) fun σ G H c Q q => h σ G H c _ fun v G1 H1 m dv => by
    cases dv with
    | @dN a o xs _ g1 g2 =>
      refine ⟨⟨a, o, xs, rfl, m.cx.sub _ _ g1⟩, ha σ G1 H1 m.cx _ fun vs G2 H2 m2 dl => ?_⟩
      cases dl with
      | @cons v1 _ vs _ d1 dl =>
        cases dl with
        | @cons v2 _ vs _ d2 dl =>
          cases dl
          obtain ⟨k1, k8, kds', rfl⟩ := dkey_eq hk
          have kn := nk_den m2.cx.sub.s d1 k1
          cases d1 with
          | @tup b us _ t1 t2 =>
            have g3 := g2.mono m2.go.gg
            refine ⟨b, a, o, xs, k, v2, rfl, rfl, m2.cx.sub _ _ (m2.go.gg _ _ g1), kh_den m2.cx.sub g3, kn, k8, ?_⟩
            have z := at_den (k := k) g3
            cases e5 : dlook k kds with
            | none =>
              rw [e5] at z q
              exact .inl ⟨z, q _ _ _ (m.trans m2) d2⟩
            | some d' =>
              rw [e5] at z q
              obtain ⟨p', v', r1, r2, r3⟩ := z
              exact .inr ⟨p', v', r1, r2, q _ _ _ (m.trans m2) r3⟩
theorem de_ndSum [Calm F] {apos vpos pos : Pos} {kds : List (D × D)} {ns : List Int} (hm : F.mg "sum" = none) (h : DE F e S S1 (.dic kds)) (hn : kds.map (·.2) = ns.map D.int) (hbase : ∀ l, attributeBase e "values" (F.X l).env (eval e (F.X l).env) = eval e (F.X l).env) (hline : (apos.endLine == vpos.line) = true)
    (hg : ∀ l, Gl (F.X l) "sum") (he : ∀ l, starEach [.Call (.Attribute e "values" apos) [] [] vpos] (F.X l).env = [(false, eval (.Call (.Attribute e "values" apos) [] [] vpos) (F.X l).env)]) :
    DE F (.Call (.Name "sum" p) [.Call (.Attribute e "values" apos) [] [] vpos] [] pos) S S1 (.int ns.sum) :=
  de_of (te := tCB (ND.rNSum F.C.P F.C.w) (tCons (tMG0 (ND.tyN F.C.P F.C.w) (ND.rNVals F.C.P F.C.w) (anyE F e)) tNil)) (fun l => by
    have := pe_callB (X := F.X l) (pos := pos) (p := p) (ND.cr_nsum (F.calm l)) (hg l) (by rw [F.hmg l]; exact hm) rfl (pa_cons (pe_mG0 (X := F.X l) ND.ty_nd PySem.F.plainAttrs_dict PySem.F.slot_dict_values PySem.F.type_dict_values ND.mt_nvals (anyE_ok (e := e) l) (hbase l) hline) pa_nil (he l)) (by decide) (by decide) (he l) rfl
    rw [F.hP l, F.hw l] at this
    rw [F.cP, F.cw]
    exact this) fun σ G H c Q q => h σ G H c _ fun v G1 H1 m dv => by
    cases dv with
    | @dN a o xs _ g1 g2 =>
      refine ⟨⟨a, o, xs, rfl, m.cx.sub _ _ g1⟩, a, o, xs, rfl, rfl, m.cx.sub _ _ g1, fun w hw => ?_⟩
      obtain ⟨l1, l2⟩ := g2.ints hn
      have pu := Pu.new (o := ND.valsO w a) m.cx.sub hw
      refine ⟨w, a, o, xs, ns, rfl, upd_same, ?_, l1, l2, q _ _ _ (m.pu pu) (.int _)⟩
      rw [upd_ne (ne_of_none (m.cx.sub _ _ g1) hw)]
      exact m.cx.sub _ _ g1
end
end DL
namespace ND
open PySem PySem.Spec PyProof.Rows L2
section
variable {X : Cx}
end
end ND
namespace DL
open PySem L2
variable [TabL]
section
variable {F : Fam} {S S1 S2 S3 : ST} {kx vx tg iter : Expr} {pos p : Pos} {ds : List D} {P : Po} {rest : List Stmt} {ifs : List Expr} {scope : Scope} {own : List (Str × Nat)}
end
end DL
namespace ND
open PySem PySem.Spec PyProof.Rows L2
section
variable {X : Cx} {pins : List (Addr × Obj)} {σ : L2.St} {H : Hp} {s : Shared}
def ItKN (P : Program) (w : World) (a : Addr) (o : Obj) (xs : List NEnt) : It :=
  ⟨fun i H => H a = some (NDO P w a o xs) ∧ i < xs.length, fun i H v H' => H' = H ∧ ∃ x : NEnt, xs[i]? = some x ∧ v = .ref x.2.1, fun i H => H a = some (NDO P w a o xs) ∧ xs.length ≤ i⟩
theorem turnKN {P : Program} {w : World} {K : PySem.W.Frag} {tg : Expr} {a : Addr} {o : Obj} {es : Array DictEntry} {ep : Nat} {xs : List NEnt} (it : Addr) (hod : o.data = .dict es ep) (hes : es.toList = xs.map (entryOfKey (nestedKind P w))) :
    Turn P w K tg (ItKN P w a o xs) [it] it (fun i h => h.IsKeyIter it a i es.size ep) where
  mem := by simp
  obj := fun i h st b hb => by
    have e : b = it := by simpa using hb
    subst e
    obtain ⟨oi, e, c, dd⟩ := st
    exact ⟨oi, e, fun v z => by rw [dd] at z; cases z⟩
  keep := fun i h h' st k => st.at fun oi e => k it (by simp) oi e
  item := by
    intro X hP hw hK hc i pins s σ H E I hf st hg
    subst hP hw hK
    obtain ⟨ha, hi⟩ := hg
    obtain ⟨f0, f1, f2, f3, f4, f5⟩ := hf it (by simp)
    obtain ⟨_, _, es', ep', k1, k2, k3, k4⟩ := ndo_raw I ha
    rw [hod] at k3; cases k3
    have hsz : es.size = xs.length := size_of_entries hes
    have ei : es[i]? = some (entryOfKey (nestedKind X.prog X.w) xs[i]) := by
      have z := entry_at hes i
      rw [List.getElem?_eq_getElem hi] at z
      exact z
    refine next_key_item st k1 hod rfl ei fun h' st' sb => ?_
    have I1 : Inv X pins σ H { s with heap := h' } := I.turned (t' := s.toks) (fun b ob hb e => (sb.2 b hb).trans e) f0 f1 f3 f4 f5
    obtain ⟨oi, e, c, dd⟩ := id st'
    exact ⟨_, rfl, go_of (s := { s with heap := h' }) e c dd (by decide) ⟨.ref xs[i].2.1, H, I1, rfl, ⟨rfl, _, List.getElem?_eq_getElem hi, rfl⟩, st', fun b hb => (hf b hb).1⟩⟩
  done := by
    intro X hP hw hK hc i pins s σ H E I hf st hg
    subst hP hw hK
    obtain ⟨ha, hi⟩ := hg
    obtain ⟨f0, f1, f2, f3, f4, f5⟩ := hf it (by simp)
    obtain ⟨_, _, es', ep', k1, k2, k3, k4⟩ := ndo_raw I ha
    rw [hod] at k3; cases k3
    exact next_key_end (I.ok.hd hc) st k1 hod rfl (by rw [size_of_entries hes]; exact hi) fun h' eb => ⟨rfl, I.turned (t' := s.toks) (fun b ob hb e => eb b ob hb e) f0 f1 f3 f4 f5⟩
  self := fun A i s Q E st h => by
    refine wpAny_pyIter_slot st.typeIs F.slot_dict_keyiterator_iter (wpAny_call_entry F.slot_dict_keyiterator_iter st.typeIs F.entry_dict_keyiterator_iter ?_ (F.args_dict_keyiterator_iter_1 _))
    show wpAny _ _ (ret (.ref it)) _ _ s
    exact wpAny_pure ⟨_, rfl, "dict_keyiterator", _, st.typeIs, F.slot_dict_keyiterator_next.lookup, h⟩
def iItKN (P : Program) (w : World) (td : TE) : TI := fun σ H R => td σ H fun x H1 => ∃ (a : Addr) (o : Obj) (xs : List NEnt), x = .ref a ∧ H1 a = some (NDO P w a o xs) ∧ R (ItKN P w a o xs) H1
theorem pi_itKN {e tg : Expr} {td : TE} (he : PE X e td) : PI X tg e (iItKN X.prog X.w td) := by
  refine ⟨fun pins s σ H R I h => ?_⟩
  refine thn (he.run pins s σ H _ I h) fun u s1 ⟨x, H1, I1, rx, a, o, xs, ex, ha, q⟩ => ?_
  subst ex
  obtain rfl : u = Value.ref a := rx
  obtain ⟨h2, _, es, ep, k1, k2, k3, k4⟩ := ndo_raw I1 ha
  exact wpAny_pyIter_dict_raw (d := a) (es := es) (ep := ep) h2 ⟨o, k1, k2, k3⟩ (pi_one (tk := s1.toks) I1 _ (turnKN _ k3 k4) ⟨_, Heap.get?_push_size _ rfl, rfl, rfl⟩ q)
theorem dictP_of (I : Inv X pins σ H s) : ∀ {ps : List Addr} {es : List (NestedKey × Addr × V)}, Paired (fun p (e : NestedKey × Addr × V) => SqT X.K H p [.ref e.2.1, e.2.2]) ps es →
    ∃ ns : List NEnt, Paired (fun (e : NestedKey × Addr × V) (n : NEnt) => n.1 = e.1 ∧ n.2.1 = e.2.1 ∧ RelV e.2.2 n.2.2) es ns ∧ ns.length = ps.length ∧ ∀ (j : Nat) (n : NEnt), ns[j]? = some n → ∃ p, ps[j]? = some p ∧ s.heap.IsTuple p #[.ref n.2.1, n.2.2]
  | _, _, .nil => ⟨[], .nil, rfl, fun j n e => by simp at e⟩
  | _, _, .cons (a := p) (b := e) h t => by
    obtain ⟨ns, r, hl, hp⟩ := dictP_of I t
    obtain ⟨its, rv, ht, _⟩ := I.tuple h
    obtain ⟨u, y, ei, ru, ry⟩ := vals2 rv
    subst ei
    cases ru
    refine ⟨(e.1, e.2.1, y) :: ns, .cons ⟨rfl, rfl, ry⟩ r, by rw [List.length_cons, List.length_cons, hl], fun j n q => ?_⟩
    cases j with
    | zero => cases q; exact ⟨p, rfl, ht⟩
    | succ j =>
      obtain ⟨b, e1, e2⟩ := hp j n (by simpa using q)
      exact ⟨b, by simpa using e1, e2⟩
theorem paired_mem {es : List (NestedKey × Addr × V)} {ns : List NEnt} (r : Paired (fun (e : NestedKey × Addr × V) (n : NEnt) => n.1 = e.1 ∧ n.2.1 = e.2.1 ∧ RelV e.2.2 n.2.2) es ns) : ∀ n ∈ ns, ∃ e ∈ es, n.1 = e.1 ∧ n.2.1 = e.2.1 := by
  induction r with
  | nil => intro n h; cases h
  | cons h _ ih =>
    intro n hn
    rcases List.mem_cons.mp hn with e | hn
    · subst e; exact ⟨_, List.mem_cons_self, h.1, h.2.1⟩
    · obtain ⟨e, he, q⟩ := ih n hn
      exact ⟨e, List.mem_cons_of_mem _ he, q⟩
def rDictN (K : PySem.W.Frag) (P : Program) (w : World) : List V → Hp → VK → Prop := fun vs H Q => ∃ (a : Addr) (ps : List Addr) (es : List (NestedKey × Addr × V)), vs = [.ref a] ∧ SqL K H a (ps.map V.ref) ∧ Paired (fun p (e : NestedKey × Addr × V) => SqT K H p [.ref e.2.1, e.2.2]) ps es ∧ (∀ e ∈ es, NkH K H (.ref e.2.1) e.1 ∧ e.1.depth ≤ 8) ∧ es.length ≤ 1000000 ∧
  ∀ p o (ns : List NEnt), Paired (fun (e : NestedKey × Addr × V) (n : NEnt) => n.1 = e.1 ∧ n.2.1 = e.2.1 ∧ RelV e.2.2 n.2.2) es ns → H p = none → Q (.ref p) (upd H p (NDO P w p o (storedAllH [] ns)))
theorem cr_dictN (hu : X.A.units + 64 < cLine) (hcalm : X.calm = true) : CallR X (.type "dict") (rDictN X.K X.prog X.w) := by
  intro pins s σ H vs us Q I r q
  obtain ⟨a, ps, es, rfl, hq, hp, hk, hz, q⟩ := q
  obtain ⟨u, rfl, rx⟩ := vals1 r
  cases rx
  obtain ⟨its, rv, pl, hsz⟩ := I.list hq
  have ei := refs_at rv
  subst ei
  obtain ⟨ns, rel, hl, hns⟩ := dictP_of I hp
  obtain ⟨o, n, ho, hc, hd, hdat⟩ := pl
  have hel : es.length = ns.length := rel.length
  have room : (nestedKind X.prog X.w).room X.A.in1.in1 := by
    show X.A.in1.in1.units + 8 < cLine
    have e1 : X.A.in1.in1.units = X.A.in1.units + 1 := rfl
    have e2 : X.A.in1.units = X.A.units + 1 := rfl
    omega
  have hps : ∀ (j : Nat) (k v : Value), (ns.map fun n => ((Value.ref n.2.1, n.2.2) : Value × Value))[j]? = some (k, v) → ∃ n, ns[j]? = some n ∧ k = .ref n.2.1 ∧ v = n.2.2 := fun j k v e => by
    rw [List.getElem?_map] at e
    cases q1 : ns[j]? with
    | none => rw [q1] at e; cases e
    | some n => rw [q1] at e; cases e; exact ⟨n, rfl, rfl, rfl⟩
  refine call_dict_pairsH (knd := nestedKind X.prog X.w) (ps := ns) (PairArg.list a (ps.map Value.ref).toArray (fun j => ps.getD j 0) (ns.map fun n => (.ref n.2.1, n.2.2))) (I.ok.hd hcalm) room ⟨⟨o, n, ho, hc, hd, hdat⟩, ?_, ?_⟩ ⟨by rw [List.length_map], ?_⟩ ?_ (by rw [List.length_map, ← hel, sizeLine_eq]; omega) fun h' tk hd' k => ?_
  · rw [List.size_toArray, List.length_map, List.length_map, hl]
  · intro j k v e
    obtain ⟨m, e1, rfl, rfl⟩ := hps j k v e
    obtain ⟨p, e2, e3⟩ := hns j m e1
    have e4 : ps.getD j 0 = p := by rw [List.getD_eq_getElem?_getD, e2]; rfl
    refine ⟨?_, ?_⟩
    · show (ps.map Value.ref).toArray[j]? = some (Value.ref (ps.getD j 0))
      rw [e4]; simp [e2]
    · show PairAt s.heap (ps.getD j 0) _ _
      rw [e4]; exact .inl e3
  · intro j k v e
    obtain ⟨m, e1, rfl, rfl⟩ := hps j k v e
    exact ⟨m.1, m.2.1, by rw [e1], rfl⟩
  · intro h' hk' x hx
    obtain ⟨e, he, e1, e2⟩ := paired_mem rel x hx
    obtain ⟨k1, k2⟩ := hk e he
    rw [e1, e2]
    obtain ⟨w1, w2⟩ := (⟨nk_is I k1 rfl, k2⟩ : (nestedKind X.prog X.w).is s.heap e.1 e.2.1)
    exact nestedKind_stays.stays (fun b ob _ _ q' _ => hk' b ob (Nat.ne_of_lt (Heap.lt_size q')) (by simp) q') ⟨w1, w2⟩
  · obtain ⟨od, es', ep', k1, k2, k3, k4, _, k5⟩ := hd'
    have hlen : (storedAllH [] ns).length ≤ 1000000 := Nat.le_trans (storedAllH_length ns []) (by rw [List.length_nil, Nat.zero_add, ← hel]; exact hz)
    exact ⟨.ref s.heap.objs.size, upd H s.heap.objs.size (NDO X.prog X.w s.heap.objs.size od (storedAllH [] ns)), I.laid (t' := tk) (fun b ob q' => k b ob (by simp) q') (Nat.le_refl _) (ndo_mk hlen (beq_eq_false_iff_ne.mpr (Nat.ne_of_gt I.big)) k5 ⟨es', ep', k1, k2, k3, k4⟩), rfl, q _ _ _ rel (I.hok.fresh (Nat.le_refl _))⟩
end
end ND
namespace DL
open PySem L2
variable [TabL]
section
variable {F : Fam} {S S1 S2 S3 : ST} {e b tg : Expr} {p pos : Pos} {ds : List D} {d : D}
theorem DenN.getK {C : Kc} {G : Hp} : ∀ {xs : List ND.NEnt} {kds : List (D × D)} {i : Nat} {x : ND.NEnt} {d : D × D}, DenN C G xs kds → xs[i]? = some x → kds[i]? = some d → Den C G (.ref x.2.1) d.1
  | _, _, i, x, d, .nil, h, _ => by simp at h
  | _, _, 0, x, d, .cons _ _ h3 _ _ _, h, h' => by cases h; cases h'; exact h3
  | _, _, i + 1, x, d, .cons _ _ _ _ _ l, h, h' => DenN.getK (i := i) l (by simpa using h) (by simpa using h')
theorem itd_itKN {C : Kc} {G0 : Hp} {a : Addr} {o : Obj} {xs : List ND.NEnt} {kds : List (D × D)} (h : G0 a = some (ND.NDO C.P C.w a o xs)) (dl : DenN C G0 xs kds) : ItD C (ND.ItKN C.P C.w a o xs) G0 (kds.map (·.1)) where
  go := fun i G H hi s s2 => ⟨s2 _ _ (s _ _ h), by rw [dl.length]; simpa using hi⟩
  yld := fun i d G H x H' hd s s2 hyl => by
    obtain ⟨rfl, x', hx, rfl⟩ := hyl
    rw [List.getElem?_map] at hd
    cases q : kds[i]? with
    | none => rw [q] at hd; cases hd
    | some p =>
      rw [q] at hd
      cases hd
      exact ⟨_, Pu.refl s2, (dl.getK hx q).mono s⟩
  stop := fun i G H hi s s2 => ⟨s2 _ _ (s _ _ h), by rw [dl.length]; simpa using hi⟩
theorem di_itKN {kds : List (D × D)} (h : DE F e S S1 (.dic kds)) : DI F tg e S S1 (kds.map (·.1)) :=
  di_of (wi := ND.iItKN F.C.P F.C.w (anyE F e)) (fun l => by have := ND.pi_itKN (X := F.X l) (tg := tg) (anyE_ok (e := e) l); rw [F.hP l, F.hw l] at this; rw [F.cP, F.cw]; exact this) fun σ G H c R q => h σ G H c _ fun v G1 H1 m dv => by
    cases dv with
    | @dN a o xs _ h1 h2 => exact ⟨a, o, xs, rfl, m.cx.sub _ _ h1, q _ _ _ m (itd_itKN h1 h2)⟩
theorem de_ndIxE {k : NestedKey} {kd : D} {kds : List (D × D)} (h : DE F e S S1 (.dic kds)) (hb : DE F b S1 S2 kd) (hk : dkey kd = some k) (hi : dlook k kds = some d) (hs : NoSl b := by intro _ _; rfl) : DE F (.Subscript e b pos) S S2 d :=
  de_of (te := tOp (ND.rNIx F.C.K F.C.P F.C.w) (anyE F e) (anyE F b)) (fun l => by have := ND.pe_nget (pos := pos) (F.units l) (anyE_ok (e := e) l) (anyE_ok (e := b) l) hs; rw [F.hK l, F.hP l, F.hw l] at this; rw [F.cP, F.cw]; exact this) fun σ G H c Q q => h σ G H c _ fun v G1 H1 m dv => by
    cases dv with
    | @dN a o xs _ g1 g2 =>
      refine hb σ G1 H1 m.cx _ fun w G2 H2 m2 dw => ?_
      obtain ⟨h1, h2, ds, rfl⟩ := dkey_eq hk
      have h3 := nk_den m2.cx.sub.s dw h1
      have g3 := g2.mono m2.go.gg
      cases dw with
      | @tup b' vs _ t1 t2 =>
        obtain ⟨p', v, r1, r2, r3⟩ := at_some g3 hi
        exact ⟨b', a, o, xs, k, p', v, rfl, rfl, m2.cx.sub _ _ (m2.go.gg _ _ g1), kh_den m2.cx.sub g3, h3, h2, r1, r2, q _ _ _ (m.trans m2) r3⟩
inductive PairsD : List D → List (D × D) → List (D × D) → Prop where
  | nil (acc : List (D × D)) : PairsD [] acc acc
  | cons {kd vd : D} {k : NestedKey} {ds : List D} {acc r : List (D × D)} : dkey kd = some k → PairsD ds (dstore k kd vd acc) r → PairsD (.tup [kd, vd] :: ds) acc r
theorem pairs_den {C : Kc} {G H : Hp} (s : Same G H) : ∀ {ds : List D} {acc r : List (D × D)}, PairsD ds acc r → ∀ {us : List V}, DenL C G us ds → ∃ (ps : List Addr) (es : List (NestedKey × Addr × V)), us = ps.map V.ref ∧ Paired (fun p (e : NestedKey × Addr × V) => SqT C.K H p [.ref e.2.1, e.2.2]) ps es ∧ (∀ e ∈ es, ND.NkH C.K H (.ref e.2.1) e.1 ∧ e.1.depth ≤ 8) ∧ es.length = ds.length ∧
    ∀ (ns xs : List ND.NEnt), Paired (fun (e : NestedKey × Addr × V) (n : ND.NEnt) => n.1 = e.1 ∧ n.2.1 = e.2.1 ∧ RelV e.2.2 n.2.2) es ns → DenN C G xs acc → DenN C G (storedAllH xs ns) r
  | _, acc, _, .nil _, us, dl => by
    cases dl
    exact ⟨[], [], rfl, .nil, (fun e h => by cases h), rfl, fun ns xs pr dn => by cases pr; exact dn⟩
  | _, acc, r, @PairsD.cons kd vd k ds _ _ hk hr, us, dl => by
    cases dl with
    | @cons v _ vs _ d1 dl =>
      obtain ⟨ps, es, rfl, h1, h2, h3, h4⟩ := pairs_den s hr dl
      cases d1 with
      | @tup a xs _ t1 t2 =>
        cases t2 with
        | @cons v1 _ vs1 _ e1 e2 =>
          cases e2 with
          | @cons v2 _ vs2 _ e3 e4 =>
            cases e4
            obtain ⟨k1, k8, kds', rfl⟩ := dkey_eq hk
            have kn := nk_den s e1 k1
            have e1' := e1
            cases e1 with
            | @tup b us' _ t3 t4 =>
              refine ⟨a :: ps, (k, b, v2) :: es, rfl, .cons (same_t s t1) h1, fun e he => ?_, by rw [List.length_cons, List.length_cons, h3], fun ns xs pr dn => ?_⟩
              · rcases List.mem_cons.mp he with z | z
                · subst z; exact ⟨kn, k8⟩
                · exact h2 e z
              · cases pr with
                | @cons _ n _ ns q1 q2 =>
                  obtain ⟨n1, n2, n3⟩ := n
                  obtain ⟨q3, q4, q5⟩ := q1
                  have q3 : n1 = k := q3
                  have q4 : n2 = b := q4
                  subst q3; subst q4
                  exact h4 ns _ q2 (store_den k1 k8 e1' q5 e3 dn)
theorem cad_dictN [Calm F] {r : List (D × D)} (h : PairsD ds [] r) (hl : ds.length ≤ 1000000) : CaD F (.type "dict") [.lst ds] (.dic r) :=
  ⟨ND.rDictN F.C.K F.C.P F.C.w, fun i => by have := ND.cr_dictN (X := F.X i) (F.units i) (F.calm i); rw [F.hK i, F.hP i, F.hw i] at this; rw [F.cP, F.cw]; exact this, fun G H us s hu Q q => by
    cases hu with
    | @cons v _ vs _ d1 dl =>
      cases dl
      cases d1 with
      | @lst a xs _ t1 t2 =>
        obtain ⟨ps, es, rfl, h1, h2, h3, h4⟩ := pairs_den s.s h t2
        exact ⟨a, ps, es, rfl, s.seq t1, h1, h2, by rw [h3]; exact hl, fun p o ns pr hp => q _ _ _ (Pu.new s hp) (.dN upd_same ((h4 ns [] pr .nil).mono (Pu.new s hp).gg))⟩⟩
end
end DL
namespace KD
open PySem PySem.Spec PyProof.Rows L2
section
variable {X : Cx} {pins : List (Addr × Obj)} {σ : L2.St} {H : Hp} {s : Shared}
end
end KD
namespace DL
open PySem L2 PyProof.Rows
variable [TabL]
def kD : Key → D
  | .inl i => .int i
  | .inr x => .str x
def kOf : D → Option Key
  | .int i => some (.inl i)
  | .str x => some (.inr x)
  | _ => none
def klook (kds : List (Key × D)) (k : Key) : Option D := (kds.find? fun kv => decide (kv.1 = k)).map (·.2)
def kput (kds : List (Key × D)) (k : Key) (d : D) : List (Key × D) := if (kds.any fun kv => decide (kv.1 = k)) = true then kds.map (fun kv => if kv.1 = k then (kv.1, d) else kv) else kds ++ [(k, d)]
section
variable {C : Kc} {G : Hp}
theorem DenK.length : ∀ {xs : List (Key × V)} {kds : List (Key × D)}, DenK C G xs kds → xs.length = kds.length
  | _, _, .nil => rfl
  | _, _, .cons _ l => by rw [List.length_cons, List.length_cons, DenK.length l]
theorem DenK.getK : ∀ {xs : List (Key × V)} {kds : List (Key × D)} {i : Nat} {k : Key} {v : V} {p : Key × D}, DenK C G xs kds → xs[i]? = some (k, v) → kds[i]? = some p → p.1 = k ∧ Den C G v p.2
  | _, _, i, k, v, p, .nil, h, _ => by simp at h
  | _, _, 0, k, v, p, .cons h1 _, h, h' => by cases h; cases h'; exact ⟨rfl, h1⟩
  | _, _, i + 1, k, v, p, .cons _ l, h, h' => DenK.getK (i := i) l (by simpa using h) (by simpa using h')
theorem DenK.is (k : Key) : ∀ {xs : List (Key × V)} {kds : List (Key × D)}, DenK C G xs kds → (valV xs k).isSome = (klook kds k).isSome
  | _, _, .nil => rfl
  | _, _, .cons (k := j) (v := v) (d := d) (vs := vs) (ds := ds) _ l => by
    have ih := DenK.is k l
    unfold valV klook at ih ⊢
    rw [List.find?_cons, List.find?_cons]
    by_cases z : j = k
    · simp [z]
    · simp only [z, decide_false]; exact ih
theorem DenK.any (k : Key) : ∀ {xs : List (Key × V)} {kds : List (Key × D)}, DenK C G xs kds → (xs.any fun kv => decide (kv.1 = k)) = kds.any fun kv => decide (kv.1 = k)
  | _, _, .nil => rfl
  | _, _, .cons _ l => by rw [List.any_cons, List.any_cons, DenK.any k l]
theorem DenK.snoc {k : Key} {v : V} {d : D} (h : Den C G v d) : ∀ {xs : List (Key × V)} {kds : List (Key × D)}, DenK C G xs kds → DenK C G (xs ++ [(k, v)]) (kds ++ [(k, d)])
  | _, _, .nil => .cons h .nil
  | _, _, .cons h1 l => .cons h1 (DenK.snoc h l)
theorem DenK.repl {k : Key} {v : V} {d : D} (h : Den C G v d) : ∀ {xs : List (Key × V)} {kds : List (Key × D)}, DenK C G xs kds → DenK C G (xs.map fun kv => if kv.1 = k then (kv.1, v) else kv) (kds.map fun kv => if kv.1 = k then (kv.1, d) else kv)
  | _, _, .nil => .nil
  | _, _, .cons (k := j) h1 l => by
    rw [List.map_cons, List.map_cons]
    by_cases z : j = k
    · rw [if_pos z, if_pos z]; exact .cons h (DenK.repl h l)
    · rw [if_neg z, if_neg z]; exact .cons h1 (DenK.repl h l)
theorem DenK.put {k : Key} {v : V} {d : D} (h : Den C G v d) {xs : List (Key × V)} {kds : List (Key × D)} (l : DenK C G xs kds) : DenK C G (putK xs k v) (kput kds k d) := by
  unfold putK kput
  rw [l.any k]
  split
  · exact l.repl h
  · exact l.snoc h
end
section
variable {F : Fam} {S S1 S2 S3 : ST} {e b tg : Expr} {p pos : Pos} {ds : List D} {d x : D}
inductive PairsK : List D → List (Key × D) → List (Key × D) → Prop where
  | nil (acc : List (Key × D)) : PairsK [] acc acc
  | cons {kd vd : D} {k : Key} {ds : List D} {acc r : List (Key × D)} : kOf kd = some k → PairsK ds (kput acc k vd) r → PairsK (.tup [kd, vd] :: ds) acc r
end
end DL
namespace SL
open PySem L2 DL
variable [TabL]
inductive O (α : Type) where
  | ok (a : α) | exc (c : Nat) (fs : List D) | bad
def O.bind {α β : Type} (o : O α) (f : α → O β) : O β := match o with
  | .ok a => f a
  | .exc c fs => .exc c fs
  | .bad => .bad
@[simp] theorem O.bind_ok {α β : Type} (a : α) (f : α → O β) : (O.ok a).bind f = f a := rfl
@[simp] theorem O.bind_exc {α β : Type} (c : Nat) (fs : List D) (f : α → O β) : (O.exc c fs : O α).bind f = .exc c fs := rfl
@[simp] theorem O.bind_bad {α β : Type} (f : α → O β) : (O.bad : O α).bind f = .bad := rfl
theorem O.bind_eq {α β : Type} {o : O α} {f : α → O β} {b : β} (h : o.bind f = .ok b) : ∃ a, o = .ok a ∧ f a = .ok b := by
  cases o with
  | ok a => exact ⟨a, rfl, h⟩
  | exc c fs => cases h
  | bad => cases h
theorem O.bind_assoc {α β γ : Type} (o : O α) (f : α → O β) (g : β → O γ) : (o.bind f).bind g = o.bind fun a => (f a).bind g := by
  cases o <;> rfl
def O.cons (o : O D) (os : O (List D)) : O (List D) := o.bind fun d => os.bind fun ds => .ok (d :: ds)
@[simp] theorem O.cons_ok (a : D) (as : List D) : O.cons (.ok a) (.ok as) = .ok (a :: as) := rfl
def asB : D → O Bool
  | .bl b => .ok b
  | _ => .bad
@[simp] theorem asB_bl (b : Bool) : asB (.bl b) = .ok b := rfl
theorem asB_eq {d : D} {b : Bool} (h : asB d = .ok b) : d = .bl b := by
  cases d <;> first | (cases h; rfl) | cases h
def tr (o : O Bool) : O D := o.bind fun b => .ok (.bl b)
@[simp] theorem tr_ok (b : Bool) : tr (.ok b) = .ok (.bl b) := rfl
theorem tr_eq {o : O Bool} {d : D} (h : tr o = .ok d) : ∃ b, o = .ok b ∧ d = .bl b := by
  obtain ⟨b, h1, h2⟩ := O.bind_eq h
  cases h2
  exact ⟨b, h1, rfl⟩
def O.ite {α : Type} (o : O Bool) (x y : O α) : O α := o.bind fun b => bif b then x else y
@[simp] theorem O.ite_true {α : Type} (x y : O α) : O.ite (.ok true) x y = x := rfl
@[simp] theorem O.ite_false {α : Type} (x y : O α) : O.ite (.ok false) x y = y := rfl
theorem O.ite_eq {α : Type} {o : O Bool} {x y : O α} {a : α} (h : O.ite o x y = .ok a) : (o = .ok true ∧ x = .ok a) ∨ (o = .ok false ∧ y = .ok a) := by
  obtain ⟨b, h1, h2⟩ := O.bind_eq h
  cases b with
  | true => exact .inl ⟨h1, h2⟩
  | false => exact .inr ⟨h1, h2⟩
def l1 {α : Type} (f : D → O α) : List D → O α
  | [a] => f a
  | _ => .bad
def l2 {α : Type} (f : D → D → O α) : List D → O α
  | [a, b] => f a b
  | _ => .bad
def l3 {α : Type} (f : D → D → D → O α) : List D → O α
  | [a, b, c] => f a b c
  | _ => .bad
def l4 {α : Type} (f : D → D → D → D → O α) : List D → O α
  | [a, b, c, d] => f a b c d
  | _ => .bad
def l5 {α : Type} (f : D → D → D → D → D → O α) : List D → O α
  | [a, b, c, d, e] => f a b c d e
  | _ => .bad
def l6 {α : Type} (f : D → D → D → D → D → D → O α) : List D → O α
  | [a, b, c, d, e, g] => f a b c d e g
  | _ => .bad
@[simp] theorem l1_ap {α : Type} (f : D → O α) (a : D) : l1 f [a] = f a := rfl
@[simp] theorem l2_ap {α : Type} (f : D → D → O α) (a b : D) : l2 f [a, b] = f a b := rfl
@[simp] theorem l3_ap {α : Type} (f : D → D → D → O α) (a b c : D) : l3 f [a, b, c] = f a b c := rfl
@[simp] theorem l4_ap {α : Type} (f : D → D → D → D → O α) (a b c d : D) : l4 f [a, b, c, d] = f a b c d := rfl
@[simp] theorem l5_ap {α : Type} (f : D → D → D → D → D → O α) (a b c d e : D) : l5 f [a, b, c, d, e] = f a b c d e := rfl
@[simp] theorem l6_ap {α : Type} (f : D → D → D → D → D → D → O α) (a b c d e g : D) : l6 f [a, b, c, d, e, g] = f a b c d e g := rfl
def un2 {α : Type} (d : D) (f : D → D → O α) : O α := match d with
  | .tup [a, b] => f a b
  | .lst [a, b] => f a b
  | _ => .bad
def un3 {α : Type} (d : D) (f : D → D → D → O α) : O α := match d with
  | .tup [a, b, c] => f a b c
  | .lst [a, b, c] => f a b c
  | _ => .bad
@[simp] theorem un2_tup {α : Type} (a b : D) (f : D → D → O α) : un2 (.tup [a, b]) f = f a b := rfl
@[simp] theorem un2_lst {α : Type} (a b : D) (f : D → D → O α) : un2 (.lst [a, b]) f = f a b := rfl
@[simp] theorem un3_tup {α : Type} (a b c : D) (f : D → D → D → O α) : un3 (.tup [a, b, c]) f = f a b c := rfl
@[simp] theorem un3_lst {α : Type} (a b c : D) (f : D → D → D → O α) : un3 (.lst [a, b, c]) f = f a b c := rfl
def DEp (F : Fam) (e : Expr) (S : ST) (o : O D) : Prop := ∀ d, o = .ok d → DE F e S S d
def DTp (F : Fam) (e : Expr) (S : ST) (o : O Bool) : Prop := ∀ b, o = .ok b → DT F e S S b
def DWp (F : Fam) (e : Expr) (S : ST) (o : O Bool) : Prop := ∀ b, o = .ok b → DW F e S S b
def DAp (F : Fam) (es : List Expr) (S : ST) (o : O (List D)) : Prop := ∀ ds, o = .ok ds → DA F es S S ds ∧ ds.length = es.length
def DKp (F : Fam) (ks : List Keyword) (S : ST) (o : O (List D)) : Prop := ∀ ds, o = .ok ds → DK F ks S S ds ∧ ds.length = ks.length
def DOp (F : Fam) (e : Expr) (S : ST) (o : O (List D)) : Prop := ∀ ds, o = .ok ds → DO F e S S ds
def DIp (F : Fam) (tg it : Expr) (S : ST) (o : O (List D)) : Prop := ∀ ds, o = .ok ds → DI F tg it S S ds
def OpS (F : Fam) (op : Operator) (p : D → D → O D) : Prop := ∀ x y z, p x y = .ok z → OpD F (binaryOp op) x y z
def CmS (F : Fam) (op : CmpOp) (p : D → D → O Bool) : Prop := ∀ x y z, p x y = .ok z → OpD F (compareOp op) x y (.bl z)
def UnS (F : Fam) (op : UnaryOp) (p : D → O D) : Prop := ∀ x z, p x = .ok z → UnD F (unaryOp op) x z
def CaS (F : Fam) (f : Value) (φ : List D → O D) : Prop := ∀ ds z, φ ds = .ok z → CaD F f ds z
section
variable {F : Fam} {S : ST} {e a b c : Expr} {d : D} {pos p : Pos} {oa ob oc oe : O D} {o ot ou : O Bool} {es : List Expr} {os : O (List D)}
theorem p_ok (h : DE F e S S d) : DEp F e S (.ok d) := fun _ q => by cases q; exact h
theorem p_var {j : Nat} {x : Str} (h : S.s[j]? = some (some (.imm d))) (hN : ∀ i, (F.X i).N[j]? = some x := by intro _; rfl)
    (hv : ∀ i, Vis (F.X i).env.scope x := by intro _; first | exact Or.inl rfl | exact Or.inr (Or.inl rfl) | exact Or.inr (Or.inr rfl))
    (hd : (x == ("__debug__" : Str)) = false := by decide) (hcd : (x == ("__classdict__" : Str)) = false := by decide) : DEp F (.Name x pos) S (.ok d) := p_ok (de_var h hN hv hd hcd)
theorem p_int {i : Int} {k : Nat} : DEp F (.Constant (.int i) k pos) S (.ok (.int i)) := p_ok de_int
theorem p_bl {i : Bool} {k : Nat} : DEp F (.Constant (.bool i) k pos) S (.ok (.bl i)) := p_ok de_bl
theorem p_str {i : Str} {k : Nat} : DEp F (.Constant (.str i) k pos) S (.ok (.str i)) := p_ok de_str
theorem p_glob {x : Str} {v : V} {u : Value} (hm : F.mg x = some u) (r : RelV v u) (hd : ∀ G, Den F.C G v d) (hg : ∀ i, Gl (F.X i) x := by intro _; rfl) (hb : (x == ("__debug__" : Str)) = false := by decide) : DEp F (.Name x pos) S (.ok d) := p_ok (de_glob hm r hd hg hb)
theorem p_op {op : Operator} {q : D → D → O D} (hr : OpS F op q) (ha : DEp F a S oa) (hb : DEp F b S ob) : DEp F (.BinOp a op b pos) S (oa.bind fun x => ob.bind fun y => q x y) := fun z h => by
  obtain ⟨x, h1, h⟩ := O.bind_eq h
  obtain ⟨y, h2, h⟩ := O.bind_eq h
  exact de_op (ha x h1) (hb y h2) (hr x y z h)
theorem p_un {op : UnaryOp} {q : D → O D} (hr : UnS F op q) (ha : DEp F a S oa) : DEp F (.UnaryOp op a pos) S (oa.bind q) := fun z h => by
  obtain ⟨x, h1, h⟩ := O.bind_eq h
  exact de_un (ha x h1) (hr x z h)
theorem t_cmp {op : CmpOp} {q : D → D → O Bool} (hr : CmS F op q) (ha : DEp F a S oa) (hb : DEp F b S ob) (hm : behindInMarks op b = false := by first | exact nomark _ | rfl) : DTp F (.Compare a [op] [b] pos) S (oa.bind fun x => ob.bind fun y => q x y) := fun z h => by
  obtain ⟨x, h1, h⟩ := O.bind_eq h
  obtain ⟨y, h2, h⟩ := O.bind_eq h
  exact dt_cmp (ha x h1) (hb y h2) (hr x y z h) hm
theorem p_cmp {op : CmpOp} {q : D → D → O Bool} (hr : CmS F op q) (ha : DEp F a S oa) (hb : DEp F b S ob) (hm : behindInMarks op b = false := by first | exact nomark _ | rfl) : DEp F (.Compare a [op] [b] pos) S (tr (oa.bind fun x => ob.bind fun y => q x y)) := fun z h => by
  obtain ⟨k, h0, e0⟩ := tr_eq h
  subst e0
  clear h
  have h := h0
  obtain ⟨x, h1, h⟩ := O.bind_eq h
  obtain ⟨y, h2, h⟩ := O.bind_eq h
  exact de_cmp (ha x h1) (hb y h2) (hr x y k h) hm
def chainO (oa ob oc : O D) (q r : D → D → O Bool) : O Bool := oa.bind fun x => ob.bind fun y => O.ite (q x y) (oc.bind fun z => r y z) (.ok false)
@[simp] theorem chainO_ok (x y z : D) (q r : D → D → O Bool) : chainO (.ok x) (.ok y) (.ok z) q r = O.ite (q x y) (r y z) (.ok false) := rfl
theorem p_chain {op op' : CmpOp} {q r : D → D → O Bool} (hq : CmS F op q) (hr : CmS F op' r) (ha : DEp F a S oa) (hb : DEp F b S ob) (hc : DEp F c S oc) (hm : lastMarks [op, op'] [b, c] = false := by with_unfolding_all rfl) : DEp F (.Compare a [op, op'] [b, c] pos) S (tr (chainO oa ob oc q r)) := fun d h => by
  obtain ⟨k, h0, e0⟩ := tr_eq h
  subst e0
  clear h
  have h := h0
  obtain ⟨x, h1, h⟩ := O.bind_eq h
  obtain ⟨y, h2, h⟩ := O.bind_eq h
  rcases O.ite_eq h with ⟨h3, h⟩ | ⟨h3, h⟩
  · obtain ⟨z, h4, h⟩ := O.bind_eq h
    exact de_chain (k := true) (l := k) (ha x h1) (hb y h2) (fun _ => hc z h4) (hq x y _ h3) (fun _ => hr y z _ h) (hm := hm)
  · cases h
    exact de_chain (k := false) (l := false) (w := .non) (c := c) (ha x h1) (hb y h2) (fun z => nomatch z) (hq x y _ h3) (fun z => nomatch z) (hm := hm)
theorem t_chain {op op' : CmpOp} {q r : D → D → O Bool} (hq : CmS F op q) (hr : CmS F op' r) (ha : DEp F a S oa) (hb : DEp F b S ob) (hc : DEp F c S oc) (hm : lastMarks [op, op'] [b, c] = false := by with_unfolding_all rfl) : DTp F (.Compare a [op, op'] [b, c] pos) S (chainO oa ob oc q r) := fun k h => by
  obtain ⟨x, h1, h⟩ := O.bind_eq h
  obtain ⟨y, h2, h⟩ := O.bind_eq h
  rcases O.ite_eq h with ⟨h3, h⟩ | ⟨h3, h⟩
  · obtain ⟨z, h4, h⟩ := O.bind_eq h
    exact dt_chain (k := true) (l := k) (ha x h1) (hb y h2) (fun _ => hc z h4) (hq x y _ h3) (fun _ => hr y z _ h) (hm := hm)
  · cases h
    exact dt_chain (k := false) (l := false) (w := .non) (c := c) (ha x h1) (hb y h2) (fun z => nomatch z) (hq x y _ h3) (fun z => nomatch z) (hm := hm)
theorem t_val (h : DEp F e S oe) (he : ∀ i whole, isTrue e (F.X i).env whole = (do let v ← whole; standAt e.pos; holding [v] (truthy v)) := by intro _ _; rfl) : DTp F e S (oe.bind asB) := fun k q => by
  obtain ⟨x, h1, q⟩ := O.bind_eq q
  cases asB_eq q
  exact dt_val (h _ h1) he
theorem t_w (h : DWp F e S o) : DTp F e S o := fun k q => dt_w (h k q)
theorem w_and1 (h : DTp F a S o) : DWp F (.BoolOp .And [a] pos) S o := fun k q => dw_and1 (h k q)
theorem w_or1 (h : DTp F a S o) : DWp F (.BoolOp .Or [a] pos) S o := fun k q => dw_or1 (h k q)
theorem w_and {rest : List Expr} (h : DTp F a S ot) (h2 : DWp F (.BoolOp .And (b :: rest) pos) S ou) : DWp F (.BoolOp .And (a :: b :: rest) pos) S (O.ite ot ou (.ok false)) := fun k q => by
  rcases O.ite_eq q with ⟨h3, q⟩ | ⟨h3, q⟩
  · exact dw_and (k := true) (l := k) (h _ h3) (fun _ => h2 _ q)
  · cases q; exact dw_and (k := false) (l := false) (h _ h3) (fun z => nomatch z)
theorem w_or {rest : List Expr} (h : DTp F a S ot) (h2 : DWp F (.BoolOp .Or (b :: rest) pos) S ou) : DWp F (.BoolOp .Or (a :: b :: rest) pos) S (O.ite ot (.ok true) ou) := fun k q => by
  rcases O.ite_eq q with ⟨h3, q⟩ | ⟨h3, q⟩
  · cases q; exact dw_or (k := true) (l := false) (h _ h3) (fun z => nomatch z)
  · exact dw_or (k := false) (l := k) (h _ h3) (fun _ => h2 _ q)
theorem t_not (h : DTp F a S o) : DTp F (.UnaryOp .Not a pos) S (o.bind fun k => .ok (!k)) := fun k q => by
  obtain ⟨x, h1, q⟩ := O.bind_eq q
  cases q
  exact dt_not (h _ h1)
theorem p_one {op : BoolOp} (h : DEp F a S oa) : DEp F (.BoolOp op [a] pos) S oa := fun d q => de_one (h d q)
theorem p_and {rest : List Expr} (h : DEp F a S oa) (h2 : DEp F (.BoolOp .And (b :: rest) pos) S ob) : DEp F (.BoolOp .And (a :: b :: rest) pos) S (tr (O.ite (oa.bind asB) (ob.bind asB) (.ok false))) := fun d q => by
  obtain ⟨k, q0, e0⟩ := tr_eq q
  subst e0
  clear q
  have q := q0
  rcases O.ite_eq q with ⟨h3, q⟩ | ⟨h3, q⟩
  · obtain ⟨x, h1, h3⟩ := O.bind_eq h3
    obtain ⟨y, h4, q⟩ := O.bind_eq q
    cases asB_eq h3
    cases asB_eq q
    exact de_and (k := true) (l := k) (h _ h1) (fun _ => h2 _ h4)
  · obtain ⟨x, h1, h3⟩ := O.bind_eq h3
    cases asB_eq h3
    cases q
    exact de_and (k := false) (l := false) (h _ h1) (fun z => nomatch z)
theorem p_or {rest : List Expr} (h : DEp F a S oa) (h2 : DEp F (.BoolOp .Or (b :: rest) pos) S ob) : DEp F (.BoolOp .Or (a :: b :: rest) pos) S (tr (O.ite (oa.bind asB) (.ok true) (ob.bind asB))) := fun d q => by
  obtain ⟨k, q0, e0⟩ := tr_eq q
  subst e0
  clear q
  have q := q0
  rcases O.ite_eq q with ⟨h3, q⟩ | ⟨h3, q⟩
  · obtain ⟨x, h1, h3⟩ := O.bind_eq h3
    cases asB_eq h3
    cases q
    exact de_or (k := true) (l := false) (h _ h1) (fun z => nomatch z)
  · obtain ⟨x, h1, h3⟩ := O.bind_eq h3
    obtain ⟨y, h4, q⟩ := O.bind_eq q
    cases asB_eq h3
    cases asB_eq q
    exact de_or (k := false) (l := k) (h _ h1) (fun _ => h2 _ h4)
theorem p_not (h : DEp F a S oa) : DEp F (.UnaryOp .Not a pos) S (tr ((oa.bind asB).bind fun k => .ok (!k))) := fun d q => by
  obtain ⟨k, q0, e0⟩ := tr_eq q
  subst e0
  clear q
  have q := q0
  obtain ⟨l, h3, q⟩ := O.bind_eq q
  obtain ⟨x, h1, h3⟩ := O.bind_eq h3
  cases asB_eq h3
  cases q
  exact de_not (h _ h1)
theorem p_ifx (hc : DTp F c S ot) (h1 : DEp F a S oa) (h2 : DEp F b S ob) : DEp F (.IfExp c a b pos) S (O.ite ot oa ob) := fun d q => by
  rcases O.ite_eq q with ⟨h3, q⟩ | ⟨h3, q⟩
  · exact de_if (k := true) (hc _ h3) (fun _ => h1 _ q) (fun z => nomatch z)
  · exact de_if (k := false) (hc _ h3) (fun z => nomatch z) (fun _ => h2 _ q)
theorem a_nil : DAp F [] S (.ok []) := fun ds q => by cases q; exact ⟨da_nil, rfl⟩
theorem a_cons (h : DEp F e S oe) (hr : DAp F es S os) (hs : ∀ i, starEach (e :: es) (F.X i).env = (false, eval e (F.X i).env) :: starEach es (F.X i).env := by intro _; rfl) : DAp F (e :: es) S (O.cons oe os) := fun ds q => by
  obtain ⟨x, h1, q⟩ := O.bind_eq q
  obtain ⟨xs, h2, q⟩ := O.bind_eq q
  cases q
  obtain ⟨h3, h4⟩ := hr xs h2
  exact ⟨da_cons (h x h1) h3 hs, by rw [List.length_cons, List.length_cons, h4]⟩
theorem kw_nil : DKp F [] S (.ok []) := fun ds q => by cases q; exact ⟨dk_nil, rfl⟩
theorem kw_cons {nm : Option Str} {kpos : Pos} {ks : List Keyword} (h : DEp F e S oe) (hr : DKp F ks S os) : DKp F (⟨nm, e, kpos⟩ :: ks) S (O.cons oe os) := fun ds q => by
  obtain ⟨x, h1, q⟩ := O.bind_eq q
  obtain ⟨xs, h2, q⟩ := O.bind_eq q
  cases q
  obtain ⟨h3, h4⟩ := hr xs h2
  exact ⟨dk_cons (h x h1) h3, by rw [List.length_cons, List.length_cons, h4]⟩
theorem p_tup {x1 : Nat} (h : DAp F es S os) (hl : es.length ≤ 1000 := by decide) : DEp F (.Tuple es x1 pos) S (os.bind fun ds => .ok (.tup ds)) := fun d q => by
  obtain ⟨ds, h1, q⟩ := O.bind_eq q
  cases q
  obtain ⟨h3, h4⟩ := h ds h1
  exact de_tup h3 (Nat.le_trans (by rw [h4]; exact hl) (by decide))
theorem p_lst (h : DAp F es S os) (hl : es.length ≤ 1000 := by decide) : DEp F (.List es pos) S (os.bind fun ds => .ok (.lst ds)) := fun d q => by
  obtain ⟨ds, h1, q⟩ := O.bind_eq q
  cases q
  obtain ⟨h3, h4⟩ := h ds h1
  exact de_lst h3 (Nat.le_trans (by rw [h4]; exact hl) (by decide))
theorem o_lst (h : DAp F es S os) (hl : es.length ≤ 1000 := by decide) : DOp F (.List es pos) S os := fun ds q => by
  obtain ⟨h3, h4⟩ := h ds q
  exact do_lst h3 (Nat.le_trans (by rw [h4]; exact hl) (by decide))
theorem p_do (h : DOp F e S os) : DEp F e S (os.bind fun ds => .ok (.lst ds)) := fun d q => by
  obtain ⟨ds, h1, q⟩ := O.bind_eq q
  cases q
  exact de_do (h ds h1)
def spF (C : Kc) (φ : List D → O D) : Sp := spP C fun ds d => φ ds = .ok d
section
variable {k : Nat} {nm : Str} {kws : List Keyword} {φ : List D → O D}
theorem p_call [Calm F] (cl : Cal F.P F.w F.C F.mg F.base k nm (spF F.C φ)) (ha : DAp F (e :: es) S os) (hk : k ≤ F.k := by exact Nat.le_of_ble_eq_true rfl)
    (hg : ∀ i, Gl (F.X i) nm := by intro _; rfl) (hdb : (nm == ("__debug__" : Str)) = false := by decide)
    (he : ∀ i, starEach (e :: es) (F.X i).env = (false, eval e (F.X i).env) :: starEach es (F.X i).env := by intro _; rfl) (hpl : ∀ i, (backTo pos (starEach es (F.X i).env)).any (·.1) = false := by intro _; rfl) : DEp F (.Call (.Name nm p) (e :: es) [] pos) S (os.bind φ) := fun d q => by
  obtain ⟨ds, h1, q⟩ := O.bind_eq q
  exact de_call cl (ha ds h1).1 q hk hg hdb he hpl
theorem p_callK [Calm F] {ks : List Str} {ix : List Nat} (cl : CalK F.P F.w F.C F.mg F.base k nm (spF F.C φ) ks ix) (ha : DKp F kws S os) (hl : kws.length = ks.length := by rfl) (hk : k ≤ F.k := by exact Nat.le_of_ble_eq_true rfl)
    (hg : ∀ i, Gl (F.X i) nm := by intro _; rfl) (hdb : (nm == ("__debug__" : Str)) = false := by decide) (hall : ∀ i, (backToKw pos (keywordEach kws (F.X i).env)).all (·.1.isSome) = true := by intro _; rfl)
    (hks : ∀ i, (backToKw pos (keywordEach kws (F.X i).env)).filterMap (·.1) = ks := by intro _; rfl) (hpl : ∀ i, ((backTo pos (starEach [] (F.X i).env)).any (·.1) || (backToKw pos (keywordEach kws (F.X i).env)).any (·.1.isNone)) = false := by intro _; rfl) : DEp F (.Call (.Name nm p) [] kws pos) S (os.bind fun ds => φ (perm ix ds)) := fun d q => by
  obtain ⟨ds, h1, q⟩ := O.bind_eq q
  obtain ⟨h3, h4⟩ := ha ds h1
  exact de_callK cl h3 q (h4.trans hl) hk hg hdb hall hks hpl
theorem p_make [Calm F] {cn : Nat} {ψ : List D → O (List (Str × D))} {dd : List D} (mk : Mak F.P F.w F.C F.mg F.base k nm cn (fun ds fs => ψ ds = .ok fs) dd) (ha : DAp F (e :: es) S os) (hk : k + 1 ≤ F.k := by exact Nat.le_of_ble_eq_true rfl)
    (hg : ∀ i, Gl (F.X i) nm := by intro _; rfl) (hdb : (nm == ("__debug__" : Str)) = false := by decide)
    (he : ∀ i, starEach (e :: es) (F.X i).env = (false, eval e (F.X i).env) :: starEach es (F.X i).env := by intro _; rfl) (hpl : ∀ i, (backTo pos (starEach es (F.X i).env)).any (·.1) = false := by intro _; rfl) : DEp F (.Call (.Name nm p) (e :: es) [] pos) S (os.bind fun ds => (ψ (ds ++ dd)).bind fun fs => .ok (.obj cn fs)) := fun d q => by
  obtain ⟨ds, h1, q⟩ := O.bind_eq q
  obtain ⟨fs, h2, q⟩ := O.bind_eq q
  cases q
  exact de_make mk (ha ds h1).1 h2 hk hg hdb he hpl
theorem p_callB {id : String} (hm : F.mg nm = none) (hv : bootBuiltins nm = some (.builtin id)) (hr : CaS F (.builtin id) φ) (ha : DAp F (e :: es) S os)
    (hg : ∀ i, Gl (F.X i) nm := by intro _; rfl) (hn : nm ≠ "__name__" := by decide) (hdb : (nm == ("__debug__" : Str)) = false := by decide)
    (he : ∀ i, starEach (e :: es) (F.X i).env = (false, eval e (F.X i).env) :: starEach es (F.X i).env := by intro _; rfl) (hpl : ∀ i, (backTo pos (starEach es (F.X i).env)).any (·.1) = false := by intro _; rfl) : DEp F (.Call (.Name nm p) (e :: es) [] pos) S (os.bind φ) := fun d q => by
  obtain ⟨ds, h1, q⟩ := O.bind_eq q
  exact de_callB hm hv (ha ds h1).1 (hr ds d q) hg hn hdb he hpl
theorem p_callTy {T : String} (hm : F.mg nm = none) (hv : bootBuiltins nm = some (.type T)) (hr : CaS F (.type T) φ) (ha : DAp F (e :: es) S os)
    (hg : ∀ i, Gl (F.X i) nm := by intro _; rfl) (hn : nm ≠ "__name__" := by decide) (hdb : (nm == ("__debug__" : Str)) = false := by decide)
    (he : ∀ i, starEach (e :: es) (F.X i).env = (false, eval e (F.X i).env) :: starEach es (F.X i).env := by intro _; rfl) (hpl : ∀ i, (backTo pos (starEach es (F.X i).env)).any (·.1) = false := by intro _; rfl) : DEp F (.Call (.Name nm p) (e :: es) [] pos) S (os.bind φ) := fun d q => by
  obtain ⟨ds, h1, q⟩ := O.bind_eq q
  exact de_callTy hm hv (ha ds h1).1 (hr ds d q) hg hn hdb he hpl
theorem p_isi {T : Expr} {cv : V} {q : D → O Bool} (hm : F.mg "isinstance" = none) (hT : DE F T S S (.cst cv)) (hr : ∀ x k, q x = .ok k → CaD F (.builtin "isinstance") [x, .cst cv] (.bl k)) (ha : DEp F a S oa)
    (hg : ∀ i, Gl (F.X i) "isinstance" := by intro _; rfl)
    (he : ∀ i, starEach [a, T] (F.X i).env = (false, eval a (F.X i).env) :: starEach [T] (F.X i).env := by intro _; rfl) (he2 : ∀ i, starEach [T] (F.X i).env = (false, eval T (F.X i).env) :: starEach [] (F.X i).env := by intro _; rfl) (hpl : ∀ i, (backTo pos (starEach [T] (F.X i).env)).any (·.1) = false := by intro _; rfl) : DEp F (.Call (.Name "isinstance" p) [a, T] [] pos) S (tr (oa.bind q)) := fun d h => by
  obtain ⟨k, h0, e0⟩ := tr_eq h
  subst e0
  clear h
  have h := h0
  obtain ⟨x, h1, h⟩ := O.bind_eq h
  exact de_callB hm bb_isinstance (da_cons (ha x h1) (da_cons hT da_nil he2) he) (hr x k h) hg (by decide) (by decide) he hpl
end
end
end SL
namespace SL
open PySem L2 DL
variable [TabL]
instance (i j : Int) : Decidable (CMul i j) := by unfold CMul; infer_instance
instance (i j : Int) : Decidable (CMulW i j) := by unfold CMulW; infer_instance
instance (i j : Int) : Decidable (CDivW i j) := by unfold CDivW; infer_instance
instance (i j : Int) : Decidable (CPow i j) := by unfold CPow; infer_instance
def CDivM (_ j : Int) : Prop := j < 0 ∧ j.natAbs.log2 < 9000
instance (i j : Int) : Decidable (CDivM i j) := by unfold CDivM; infer_instance
theorem op_fdivM {X : Cx} : OpR X (binaryOp .FloorDiv) (rI CDivM fun i j => .int (i.fdiv j)) := opI fun i j _ _ _ _ _ hc q => PyProof.Rows.floordiv_int (by have := hc.1; omega) q (.inl (PyProof.noPylong_of_log2 hc.2))
def mulOk (i j : Int) : Bool := decide (CMul i j ∨ CMulW i j)
def b_add : D → D → O D
  | .int i, .int j => .ok (.int (i + j))
  | .str i, .str j => if i.length + j.length ≤ 1000000 then .ok (.str (i ++ j)) else .bad
  | .tup xs, .tup ys => if xs.length + ys.length ≤ 1000000 then .ok (.tup (xs ++ ys)) else .bad
  | .lst xs, .lst ys => if xs.length + ys.length ≤ 1000000 then .ok (.lst (xs ++ ys)) else .bad
  | _, _ => .bad
def b_sub : D → D → O D
  | .int i, .int j => .ok (.int (i - j))
  | _, _ => .bad
def b_mul : D → D → O D
  | .int i, .int j => if mulOk i j then .ok (.int (i * j)) else .bad
  | .tup xs, .int k => if 1 ≤ xs.length ∧ 2 ≤ k ∧ k ≤ 1000 ∧ xs.length ≤ 1000 then .ok (.tup (List.replicate k.toNat xs).flatten) else .bad
  | .str t, .int k => if k = 0 then .ok (.str Str.empty) else if k = 1 then .ok (.str t) else .bad
  | _, _ => .bad
def b_fdiv : D → D → O D
  | .int i, .int j => if CDivW i j then .ok (.int (i / j)) else if CDivM i j then .ok (.int (i.fdiv j)) else .bad
  | _, _ => .bad
def b_mod : D → D → O D
  | .int i, .int j => if 0 < j then .ok (.int (i % j)) else .bad
  | _, _ => .bad
def b_pow : D → D → O D
  | .int i, .int j => if CPow i j then .ok (.int (i ^ j.toNat)) else .bad
  | _, _ => .bad
def b_neg : D → O D
  | .int i => .ok (.int (-i))
  | _ => .bad
def c_lt : D → D → O Bool
  | .int i, .int j => .ok (decide (i < j))
  | .str i, .str j => .ok (decide (i.cps.toList < j.cps.toList))
  | _, _ => .bad
def c_le : D → D → O Bool
  | .int i, .int j => .ok (decide (i ≤ j))
  | .str i, .str j => .ok (!decide (j.cps.toList < i.cps.toList))
  | _, _ => .bad
def c_gt : D → D → O Bool
  | .int i, .int j => .ok (decide (j < i))
  | .str i, .str j => .ok (decide (j.cps.toList < i.cps.toList))
  | _, _ => .bad
def c_ge : D → D → O Bool
  | .int i, .int j => .ok (decide (j ≤ i))
  | .str i, .str j => .ok (!decide (i.cps.toList < j.cps.toList))
  | _, _ => .bad
def eqOk (d : D) : Bool := okP d && SeqAt.shaped (toP d)
def c_eq : D → D → O Bool
  | .int i, .int j => .ok (decide (i = j))
  | .str i, .str j => .ok (decide (i = j))
  | .bl i, .bl j => .ok (decide (i = j))
  | x, y => if eqOk x && eqOk y then .ok (PyData.eqv (toP x) (toP y)) else .bad
def c_ne (x y : D) : O Bool := (c_eq x y).bind fun k => .ok (!k)
def isCst : D → Bool
  | .cst _ => true
  | .dic _ => true
  | .dik _ => true
  | .dim _ => true
  | _ => false
def ints? : List D → Option (List Int)
  | [] => some []
  | .int i :: r => (ints? r).map (i :: ·)
  | _ :: _ => none
def strs? : List D → Option (List Str)
  | [] => some []
  | .str i :: r => (strs? r).map (i :: ·)
  | _ :: _ => none
def bls? : List D → Option (List Bool)
  | [] => some []
  | .bl i :: r => (bls? r).map (i :: ·)
  | _ :: _ => none
@[simp] theorem ints?_map (is : List Int) : ints? (is.map D.int) = some is := by
  induction is with
  | nil => rfl
  | cons i r ih => show (ints? (r.map D.int)).map (i :: ·) = _; rw [ih]; rfl
@[simp] theorem strs?_map (is : List Str) : strs? (is.map D.str) = some is := by
  induction is with
  | nil => rfl
  | cons i r ih => show (strs? (r.map D.str)).map (i :: ·) = _; rw [ih]; rfl
@[simp] theorem bls?_map (is : List Bool) : bls? (is.map D.bl) = some is := by
  induction is with
  | nil => rfl
  | cons i r ih => show (bls? (r.map D.bl)).map (i :: ·) = _; rw [ih]; rfl
theorem ints?_eq : ∀ {ds : List D} {is : List Int}, ints? ds = some is → ds = is.map D.int
  | [], _, h => by cases h; rfl
  | d :: r, is, h => by
    cases d with
    | int i =>
      have h' : (ints? r).map (i :: ·) = some is := h
      cases q : ints? r with
      | none => rw [q] at h'; cases h'
      | some js => rw [q] at h'; cases h'; rw [List.map_cons, ints?_eq q]
    | _ => cases h
theorem strs?_eq : ∀ {ds : List D} {is : List Str}, strs? ds = some is → ds = is.map D.str
  | [], _, h => by cases h; rfl
  | d :: r, is, h => by
    cases d with
    | str i =>
      have h' : (strs? r).map (i :: ·) = some is := h
      cases q : strs? r with
      | none => rw [q] at h'; cases h'
      | some js => rw [q] at h'; cases h'; rw [List.map_cons, strs?_eq q]
    | _ => cases h
theorem bls?_eq : ∀ {ds : List D} {is : List Bool}, bls? ds = some is → ds = is.map D.bl
  | [], _, h => by cases h; rfl
  | d :: r, is, h => by
    cases d with
    | bl i =>
      have h' : (bls? r).map (i :: ·) = some is := h
      cases q : bls? r with
      | none => rw [q] at h'; cases h'
      | some js => rw [q] at h'; cases h'; rw [List.map_cons, bls?_eq q]
    | _ => cases h
def op2 {α β : Type} (o : Option α) (f : α → O β) : O β := match o with
  | some a => f a
  | none => .bad
@[simp] theorem op2_some {α β : Type} (a : α) (f : α → O β) : op2 (some a) f = f a := rfl
theorem op2_eq {α β : Type} {o : Option α} {f : α → O β} {b : β} (h : op2 o f = .ok b) : ∃ a, o = some a ∧ f a = .ok b := by
  cases o with
  | none => cases h
  | some a => exact ⟨a, rfl, h⟩
def c_in : D → D → O Bool
  | .int i, .tup ds => op2 (ints? ds) fun is => .ok (decide (i ∈ is))
  | .int i, .lst ds => op2 (ints? ds) fun is => .ok (decide (i ∈ is))
  | .str i, .tup ds => op2 (strs? ds) fun is => .ok (decide (i ∈ is))
  | .str i, .lst ds => op2 (strs? ds) fun is => .ok (decide (i ∈ is))
  | .str i, .str j => match i.cps.toList with
    | [c] => .ok (decide (c ∈ j.cps.toList))
    | _ => .bad
  | x, .lst ds => if eqOk x && eqOk (.lst ds) then .ok (ds.any fun z => PyData.eqv (toP z) (toP x)) else .bad
  | .tup ds, .dic kds => op2 (dkey (.tup ds)) fun k => .ok (dlook k kds).isSome
  | _, _ => .bad
section
variable {F : Fam}
theorem sl6 {n : Nat} (h : n ≤ 1000000) : n ≤ sizeLine := Nat.le_trans h (by decide)
theorem s_add : OpS F .Add b_add := fun x y z h => by
  unfold b_add at h
  split at h
  · cases h; exact od_add
  · split at h
    · cases h; exact od_addS (sl6 (by assumption))
    · cases h
  · split at h
    · cases h; exact od_catT (sl6 (by assumption))
    · cases h
  · split at h
    · cases h; exact od_catL (sl6 (by assumption))
    · cases h
  · cases h
theorem s_sub : OpS F .Sub b_sub := fun x y z h => by
  unfold b_sub at h
  split at h
  · cases h; exact od_sub
  · cases h
theorem od_repT {xs : List D} {k : Int} (h1 : xs ≠ []) (h2 : 2 ≤ k) (h3 : k ≤ 1000) (h4 : xs.length ≤ 1000) : OpD F (binaryOp .Mult) (.tup xs) (.int k) (.tup (List.replicate k.toNat xs).flatten) :=
  ⟨rRepT F.C.K, fun i => by have := op_repT (X := F.X i); rw [F.hK i] at this; exact this, fun G H u v s hu hv Q q => by
    cases hu with
    | @tup a vs _ g1 g2 =>
      cases hv
      refine ⟨a, k, vs, rfl, rfl, same_t s g1, fun e => h1 ?_, h2, h3, by rw [g2.length]; exact h4, fun p hp => ?_⟩
      · have := g2.length
        rw [e] at this
        exact List.length_eq_zero_iff.mp this.symm
      · have pu := Pu.new (o := .tup (List.replicate k.toNat vs).flatten) s hp
        refine q _ _ _ pu (.tup (SqT.of upd_same) (DenL.mono pu.gg ?_))
        generalize k.toNat = n
        induction n with
        | zero => exact .nil
        | succ n ih => rw [List.replicate_succ, List.replicate_succ, List.flatten_cons, List.flatten_cons]; exact g2.append ih⟩
theorem od_mulW {i j : Int} (h : CMulW i j) : OpD F (binaryOp .Mult) (.int i) (.int j) (.int (i * j)) := ⟨_, fun _ => op_mulW, rd_I h fun _ => .int _⟩
theorem od_fdivW {i j : Int} (h : CDivW i j) : OpD F (binaryOp .FloorDiv) (.int i) (.int j) (.int (i / j)) := ⟨_, fun _ => op_fdivW, rd_I h fun _ => .int _⟩
def rStrMul : R2 := fun x y H Q => ∃ t k, x = .str t ∧ y = .int k ∧ ((k = 0 ∧ Q (.str Str.empty) H) ∨ (k = 1 ∧ Q (.str t) H))
theorem op_strMul {X : Cx} : OpR X (binaryOp .Mult) rStrMul := by
  intro pins s σ H x y v u Q I rx ry h
  obtain ⟨t, k, rfl, rfl, h⟩ := h
  obtain ⟨tk, rfl⟩ := rx
  obtain ⟨tu, rfl⟩ := ry
  rcases h with ⟨rfl, q⟩ | ⟨rfl, q⟩
  · exact PySem.P.mul_str_none (by decide) (by decide) ⟨.str Str.empty, H, I.tok _, ⟨_, rfl⟩, q⟩
  · exact PySem.P.mul_str (by decide) (fun h1 h2 => absurd h2 (by simp)) (fun h1 h2 => absurd h2 (by simp)) (by
      rw [if_neg (by decide), if_pos (by simp)]
      exact ⟨.str t, H, I, ⟨_, rfl⟩, q⟩)
theorem od_strMul {t t' : Str} {k : Int} (h : (k = 0 ∧ t' = Str.empty) ∨ (k = 1 ∧ t' = t)) : OpD F (binaryOp .Mult) (.str t) (.int k) (.str t') := ⟨rStrMul, fun _ => op_strMul, fun G H u v s hu hv Q q => by
  cases hu; cases hv
  rcases h with ⟨h, rfl⟩ | ⟨h, rfl⟩
  · exact ⟨_, _, rfl, rfl, .inl ⟨h, q _ _ _ (.refl s) (.str _)⟩⟩
  · exact ⟨_, _, rfl, rfl, .inr ⟨h, q _ _ _ (.refl s) (.str _)⟩⟩⟩
theorem s_mul : OpS F .Mult b_mul := fun x y z h => by
  unfold b_mul at h
  split at h
  · split at h
    · rename_i hm
      cases h
      rcases of_decide_eq_true hm with q | q
      · exact od_mul q
      · exact od_mulW q
    · cases h
  · split at h
    · rename_i hm
      cases h
      exact od_repT (fun e => by rw [e] at hm; exact absurd hm.1 (by decide)) hm.2.1 hm.2.2.1 hm.2.2.2
    · cases h
  · split at h
    · cases h; exact od_strMul (.inl ⟨by assumption, rfl⟩)
    · split at h
      · cases h; exact od_strMul (.inr ⟨by assumption, rfl⟩)
      · cases h
  · cases h
theorem s_fdiv : OpS F .FloorDiv b_fdiv := fun x y z h => by
  unfold b_fdiv at h
  split at h
  · split at h
    · cases h; exact od_fdivW (by assumption)
    · split at h
      · cases h; exact ⟨_, fun _ => op_fdivM, rd_I (by assumption) fun _ => .int _⟩
      · cases h
  · cases h
theorem s_mod : OpS F .Mod b_mod := fun x y z h => by
  unfold b_mod at h
  split at h
  · split at h
    · cases h; exact od_mod (by assumption)
    · cases h
  · cases h
theorem s_pow : OpS F .Pow b_pow := fun x y z h => by
  unfold b_pow at h
  split at h
  · split at h
    · cases h; exact od_pow (by assumption)
    · cases h
  · cases h
theorem s_neg : UnS F .USub b_neg := fun x z h => by
  unfold b_neg at h
  split at h
  · cases h; exact ud_neg
  · cases h
theorem od_gtS {i j : Str} : OpD F (compareOp .Gt) (.str i) (.str j) (.bl (decide (j.cps.toList < i.cps.toList))) := ⟨_, fun _ => op_gt_str, fun G H u v s hu hv Q q => by
  cases hu; cases hv
  exact ⟨i, j, rfl, rfl, q _ _ _ (.refl s) (.bl _)⟩⟩
theorem od_geS {i j : Str} : OpD F (compareOp .GtE) (.str i) (.str j) (.bl (!decide (i.cps.toList < j.cps.toList))) := ⟨_, fun _ => op_ge_str, fun G H u v s hu hv Q q => by
  cases hu; cases hv
  exact ⟨i, j, rfl, rfl, q _ _ _ (.refl s) (.bl _)⟩⟩
theorem s_lt : CmS F .Lt c_lt := fun x y z h => by
  unfold c_lt at h
  split at h
  · cases h; exact od_lt
  · cases h; exact od_ltS
  · cases h
theorem s_le : CmS F .LtE c_le := fun x y z h => by
  unfold c_le at h
  split at h
  · cases h; exact od_le
  · cases h; exact od_leS
  · cases h
theorem s_gt : CmS F .Gt c_gt := fun x y z h => by
  unfold c_gt at h
  split at h
  · cases h; exact od_gt
  · cases h; exact od_gtS
  · cases h
theorem s_ge : CmS F .GtE c_ge := fun x y z h => by
  unfold c_ge at h
  split at h
  · cases h; exact od_ge
  · cases h; exact od_geS
  · cases h
theorem eqOk_of {d : D} (h : eqOk d = true) : okP d = true ∧ SeqAt.shaped (toP d) = true := by
  unfold eqOk at h
  exact Bool.and_eq_true_iff.mp h
theorem s_eq : CmS F .Eq c_eq := fun x y z h => by
  unfold c_eq at h
  split at h
  · cases h; exact od_eqI
  · cases h; exact od_eqS
  · cases h; exact od_eqB
  · split at h
    · rename_i hm
      cases h
      obtain ⟨h1, h2⟩ := Bool.and_eq_true_iff.mp hm
      exact od_eqP (eqOk_of h1).1 (eqOk_of h2).1 (eqOk_of h1).2 (eqOk_of h2).2
    · cases h
theorem s_ne : CmS F .NotEq c_ne := fun x y z h => by
  obtain ⟨k, h1, e⟩ := O.bind_eq h
  clear h
  have h := h1
  clear h1
  cases e
  unfold c_eq at h
  split at h
  · cases h; exact od_neI
  · cases h; exact od_neS
  · cases h; exact od_neB
  · split at h
    · rename_i hm
      cases h
      obtain ⟨h1, h2⟩ := Bool.and_eq_true_iff.mp hm
      exact od_neP (eqOk_of h1).1 (eqOk_of h2).1 (eqOk_of h1).2 (eqOk_of h2).2
    · cases h
theorem flat_strs {is : List Str} : (is.map V.str).all flatV = true := by simp [flatV]
theorem in_strs {i : Str} {is : List Str} : inV (.str i) (is.map V.str) = decide (i ∈ is) := by
  unfold inV
  rw [List.any_map]
  have : ∀ x : Str, eqV (.str x) (.str i) = decide (x = i) := fun x => by
    show decide _ = _
    first | rfl | simp
  induction is with
  | nil => simp
  | cons x r ih =>
    rw [List.any_cons, ih]
    show (eqV (.str x) (.str i) || _) = _
    rw [this]
    simp [List.mem_cons, eq_comm]
theorem od_inG {n : Bool} {op : CmpOp} {x : D} {v : V} {ds : List D} {b : Bool} (hop : ∀ i, OpR (F.X i) (compareOp op) (rIn (F.X i).K n)) (hx : ∀ G u, Den F.C G u x → u = v) (hf : flatV v = true) (hd : ∀ G us, DenL F.C G us ds → us.all flatV = true ∧ inV v us = b) (d : D) (hdd : d = .tup ds ∨ d = .lst ds) : OpD F (compareOp op) x d (.bl (if n then !b else b)) :=
  ⟨rIn F.C.K n, fun i => by have := hop i; rw [F.hK i] at this; exact this, fun G H u w s hu hv Q q => by
    cases hx G u hu
    rcases hdd with rfl | rfl
    · cases hv with
      | @tup a vs _ h1 h2 =>
        obtain ⟨z1, z2⟩ := hd G vs h2
        refine ⟨a, vs, rfl, .inr (same_t s h1), hf, z1, ?_⟩
        rw [z2]
        exact q _ _ _ (.refl s) (.bl _)
    · cases hv with
      | @lst a vs _ h1 h2 =>
        obtain ⟨z1, z2⟩ := hd G vs h2
        refine ⟨a, vs, rfl, .inl (s.seq h1), hf, z1, ?_⟩
        rw [z2]
        exact q _ _ _ (.refl s) (.bl _)⟩
theorem od_inIs {i : Int} {is : List Int} {n : Bool} {op : CmpOp} (hop : ∀ i, OpR (F.X i) (compareOp op) (rIn (F.X i).K n)) (d : D) (hd : d = .tup (is.map D.int) ∨ d = .lst (is.map D.int)) : OpD F (compareOp op) (.int i) d (.bl (if n then !decide (i ∈ is) else decide (i ∈ is))) :=
  od_inG hop (fun G u h => by cases h; rfl) rfl (fun G us h => by have e := denL_int h; subst e; exact ⟨flat_ints, in_ints⟩) d hd
theorem od_inSs {i : Str} {is : List Str} {n : Bool} {op : CmpOp} (hop : ∀ i, OpR (F.X i) (compareOp op) (rIn (F.X i).K n)) (d : D) (hd : d = .tup (is.map D.str) ∨ d = .lst (is.map D.str)) : OpD F (compareOp op) (.str i) d (.bl (if n then !decide (i ∈ is) else decide (i ∈ is))) :=
  od_inG hop (fun G u h => by cases h; rfl) rfl (fun G us h => by have e := denL_str h; subst e; exact ⟨flat_strs, in_strs⟩) d hd
theorem od_sign {i : Str} {c : Nat} {j : Str} (h : i.cps.toList = [c]) : OpD F (compareOp .In) (.str i) (.str j) (.bl (decide (c ∈ j.cps.toList))) := ⟨_, fun _ => op_in_sign, fun G H u v s hu hv Q q => by
  cases hu; cases hv
  refine ⟨c, j, ?_, rfl, q _ _ _ (.refl s) (.bl _)⟩
  obtain ⟨a⟩ := i
  have e : a = #[c] := Array.toList_inj.mp h
  rw [e]⟩
end
end SL
namespace SL
open PySem L2 DL
variable [TabL]
section
variable {F : Fam}
theorem od_inL {x : D} {ds : List D} (h1 : eqOk x = true) (h2 : eqOk (.lst ds) = true) : OpD F (compareOp .In) x (.lst ds) (.bl (ds.any fun z => PyData.eqv (toP z) (toP x))) :=
  ⟨rInD F.C.K, fun i => by
      have := op_inD (X := F.X i) (by have := (F.roomH i).un; omega)
      rw [F.hK i] at this; exact this, fun G H u v s hu hv Q q => by
    refine ⟨toP x, toPs ds, hu.dp s (eqOk_of h1).1, hv.dp s (eqOk_of h2).1, (eqOk_of h1).2, (eqOk_of h2).2, ?_⟩
    have e : ((toPs ds).any fun z => PyData.eqv z (toP x)) = ds.any fun z => PyData.eqv (toP z) (toP x) := by
      clear h2 hv q
      induction ds with
      | nil => rfl
      | cons a r ih => show (PyData.eqv (toP a) (toP x) || (toPs r).any fun z => PyData.eqv z (toP x)) = _; rw [ih]; rfl
    rw [e]
    exact q _ _ _ (.refl s) (.bl _)⟩
theorem s_in : CmS F .In c_in := fun x y z h => by
  unfold c_in at h
  split at h
  · obtain ⟨is, h1, h⟩ := op2_eq h
    cases h
    exact od_inIs (n := false) (fun _ => op_in_seq) _ (.inl (by rw [ints?_eq h1]))
  · obtain ⟨is, h1, h⟩ := op2_eq h
    cases h
    exact od_inIs (n := false) (fun _ => op_in_seq) _ (.inr (by rw [ints?_eq h1]))
  · obtain ⟨is, h1, h⟩ := op2_eq h
    cases h
    exact od_inSs (n := false) (fun _ => op_in_seq) _ (.inl (by rw [strs?_eq h1]))
  · obtain ⟨is, h1, h⟩ := op2_eq h
    cases h
    exact od_inSs (n := false) (fun _ => op_in_seq) _ (.inr (by rw [strs?_eq h1]))
  · split at h
    · cases h; exact od_sign (by assumption)
    · cases h
  · split at h
    · rename_i hm
      cases h
      obtain ⟨h1, h2⟩ := Bool.and_eq_true_iff.mp hm
      exact od_inL h1 h2
    · cases h
  · obtain ⟨k, h1, h⟩ := op2_eq h
    cases h
    exact od_ndIn h1
  · cases h
end
def bi_abs : List D → O D
  | [.int i] => .ok (.int (if i < 0 then -i else i))
  | _ => .bad
def maxL : List Int → Option Int
  | [] => none
  | a :: r => some (r.foldl (fun m x => if x > m then x else m) a)
def minL : List Int → Option Int
  | [] => none
  | a :: r => some (r.foldl (fun m x => if x < m then x else m) a)
def bi_max : List D → O D
  | [.int i, .int j] => .ok (.int (if j > i then j else i))
  | [.lst ds] => op2 (ints? ds) fun is => op2 (maxL is) fun m => .ok (.int m)
  | _ => .bad
def bi_min : List D → O D
  | [.int i, .int j] => .ok (.int (if j < i then j else i))
  | [.lst ds] => op2 (ints? ds) fun is => op2 (minL is) fun m => .ok (.int m)
  | _ => .bad
def bi_len : List D → O D
  | [.tup ds] => .ok (.int ds.length)
  | [.lst ds] => .ok (.int ds.length)
  | [.str t] => if t.length ≤ 1000000 then .ok (.int t.length) else .bad
  | [.dic kvs] => .ok (.int kvs.length)
  | _ => .bad
def bi_all : List D → O D
  | [.lst ds] => op2 (bls? ds) fun bs => .ok (.bl (bs.all id))
  | _ => .bad
def bi_sum : List D → O D
  | [.lst ds] => op2 (ints? ds) fun is => .ok (.int is.sum)
  | _ => .bad
def bi_int : List D → O D
  | [.int i] => .ok (.int i)
  | [.bl b] => .ok (.int (if b then 1 else 0))
  | [.str t] => if t.length ≤ 640 then op2 (intText? t) fun n => .ok (.int n) else .bad
  | _ => .bad
def bi_tuple : List D → O D
  | [.lst ds] => .ok (.tup ds)
  | [.tup ds] => .ok (.tup ds)
  | _ => .bad
theorem maxL_is {is : List Int} {m : Int} (h : maxL is = some m) : m ∈ is ∧ ∀ y ∈ is, y ≤ m := by
  cases is with
  | nil => cases h
  | cons a r =>
    cases h
    have key : ∀ (l : List Int) (m0 : Int), (l.foldl (fun m x => if x > m then x else m) m0 = m0 ∨ l.foldl (fun m x => if x > m then x else m) m0 ∈ l) ∧ m0 ≤ l.foldl (fun m x => if x > m then x else m) m0 ∧ ∀ y ∈ l, y ≤ l.foldl (fun m x => if x > m then x else m) m0 := by
      intro l
      induction l with
      | nil => intro m0; simp
      | cons x l ih =>
        intro m0
        obtain ⟨h1, h2, h3⟩ := ih (if x > m0 then x else m0)
        rw [List.foldl_cons]
        refine ⟨?_, ?_, ?_⟩
        · rcases h1 with h1 | h1
          · by_cases hx : x > m0
            · rw [if_pos hx] at h1 ⊢; right; rw [h1]; exact List.mem_cons_self
            · rw [if_neg hx] at h1 ⊢; left; exact h1
          · right; exact List.mem_cons_of_mem _ h1
        · refine Int.le_trans ?_ h2
          split <;> omega
        · intro y hy
          rcases List.mem_cons.mp hy with rfl | hy
          · refine Int.le_trans ?_ h2
            split <;> omega
          · exact h3 y hy
    obtain ⟨h1, h2, h3⟩ := key r a
    refine ⟨?_, ?_⟩
    · rcases h1 with h1 | h1
      · rw [h1]; exact List.mem_cons_self
      · exact List.mem_cons_of_mem _ h1
    · intro y hy
      rcases List.mem_cons.mp hy with rfl | hy
      · exact h2
      · exact h3 y hy
theorem minL_is {is : List Int} {m : Int} (h : minL is = some m) : m ∈ is ∧ ∀ y ∈ is, m ≤ y := by
  cases is with
  | nil => cases h
  | cons a r =>
    cases h
    have key : ∀ (l : List Int) (m0 : Int), (l.foldl (fun m x => if x < m then x else m) m0 = m0 ∨ l.foldl (fun m x => if x < m then x else m) m0 ∈ l) ∧ l.foldl (fun m x => if x < m then x else m) m0 ≤ m0 ∧ ∀ y ∈ l, l.foldl (fun m x => if x < m then x else m) m0 ≤ y := by
      intro l
      induction l with
      | nil => intro m0; simp
      | cons x l ih =>
        intro m0
        obtain ⟨h1, h2, h3⟩ := ih (if x < m0 then x else m0)
        rw [List.foldl_cons]
        refine ⟨?_, ?_, ?_⟩
        · rcases h1 with h1 | h1
          · by_cases hx : x < m0
            · rw [if_pos hx] at h1 ⊢; right; rw [h1]; exact List.mem_cons_self
            · rw [if_neg hx] at h1 ⊢; left; exact h1
          · right; exact List.mem_cons_of_mem _ h1
        · refine Int.le_trans h2 ?_
          split <;> omega
        · intro y hy
          rcases List.mem_cons.mp hy with rfl | hy
          · refine Int.le_trans h2 ?_
            split <;> omega
          · exact h3 y hy
    obtain ⟨h1, h2, h3⟩ := key r a
    refine ⟨?_, ?_⟩
    · rcases h1 with h1 | h1
      · rw [h1]; exact List.mem_cons_self
      · exact List.mem_cons_of_mem _ h1
    · intro y hy
      rcases List.mem_cons.mp hy with rfl | hy
      · exact h2
      · exact h3 y hy
section
variable {F : Fam}
theorem s_abs : CaS F (.builtin "abs") bi_abs := fun ds z h => by
  unfold bi_abs at h
  split at h
  · cases h; exact ca_abs
  · cases h
theorem ca_maxL [Calm F] {is : List Int} {m : Int} (h : maxL is = some m) : CaD F (.builtin "max") [.lst (is.map D.int)] (.int m) := ⟨rMax F.C.K, fun i => by have := cr_max (X := F.X i) (F.calm i); rw [F.hK i] at this; exact this, fun G H us s hu Q q => by
  cases hu with
  | cons h0 l => cases h0 with
    | @lst a vs _ h1 h2 =>
      cases l
      have e := denL_int h2
      subst e
      obtain ⟨z1, z2⟩ := maxL_is h
      refine ⟨a, is, rfl, s.seq h1, List.length_pos_of_mem z1, fun m' y1 y2 => ?_⟩
      have : m' = m := Int.le_antisymm (z2 m' y1) (y2 m z1)
      rw [this]
      exact q _ _ _ (.refl s) (.int _)⟩
theorem ca_minL [Calm F] {is : List Int} {m : Int} (h : minL is = some m) : CaD F (.builtin "min") [.lst (is.map D.int)] (.int m) := ⟨rMin F.C.K, fun i => by have := cr_min (X := F.X i) (F.calm i); rw [F.hK i] at this; exact this, fun G H us s hu Q q => by
  cases hu with
  | cons h0 l => cases h0 with
    | @lst a vs _ h1 h2 =>
      cases l
      have e := denL_int h2
      subst e
      obtain ⟨z1, z2⟩ := minL_is h
      refine ⟨a, is, rfl, s.seq h1, List.length_pos_of_mem z1, fun m' y1 y2 => ?_⟩
      have : m' = m := Int.le_antisymm (y2 m z1) (z2 m' y1)
      rw [this]
      exact q _ _ _ (.refl s) (.int _)⟩
theorem s_max [Calm F] : CaS F (.builtin "max") bi_max := fun ds z h => by
  unfold bi_max at h
  split at h
  · cases h; exact ca_max
  · obtain ⟨is, h1, h⟩ := op2_eq h
    obtain ⟨m, h2, h⟩ := op2_eq h
    cases h
    rw [ints?_eq h1]
    exact ca_maxL h2
  · cases h
theorem s_min [Calm F] : CaS F (.builtin "min") bi_min := fun ds z h => by
  unfold bi_min at h
  split at h
  · cases h; exact ca_min
  · obtain ⟨is, h1, h⟩ := op2_eq h
    obtain ⟨m, h2, h⟩ := op2_eq h
    cases h
    rw [ints?_eq h1]
    exact ca_minL h2
  · cases h
theorem s_len : CaS F (.builtin "len") bi_len := fun ds z h => by
  unfold bi_len at h
  split at h
  · cases h; exact ca_lenT
  · cases h; exact ca_lenL
  · split at h
    · cases h; exact ca_lenS (sl6 (by assumption))
    · cases h
  · cases h; exact ca_lenN
  · cases h
theorem s_all [Calm F] : CaS F (.builtin "all") bi_all := fun ds z h => by
  unfold bi_all at h
  split at h
  · obtain ⟨bs, h1, h⟩ := op2_eq h
    cases h
    rw [bls?_eq h1]
    exact ca_all
  · cases h
theorem s_sum [Calm F] : CaS F (.builtin "sum") bi_sum := fun ds z h => by
  unfold bi_sum at h
  split at h
  · obtain ⟨bs, h1, h⟩ := op2_eq h
    cases h
    rw [ints?_eq h1]
    exact ca_sum
  · cases h
theorem ca_intS {t : Str} {n : Int} (h1 : t.length ≤ 640) (h2 : intText? t = some n) : CaD F (.type "int") [.str t] (.int n) := ⟨_, fun _ => call_int_str, fun G H us s h Q q => by
  cases h with
  | cons h l => cases h; cases l; exact ⟨t, n, rfl, h2, h1, q _ _ _ (.refl s) (.int _)⟩⟩
theorem s_int : CaS F (.type "int") bi_int := fun ds z h => by
  unfold bi_int at h
  split at h
  · cases h; exact ca_int
  · cases h; exact ca_intB
  · split at h
    · obtain ⟨n, h1, h⟩ := op2_eq h
      cases h
      exact ca_intS (by assumption) h1
    · cases h
  · cases h
theorem s_tuple : CaS F (.type "tuple") bi_tuple := fun ds z h => by
  unfold bi_tuple at h
  split at h
  · cases h; exact ca_tupL
  · cases h; exact ca_tupT
  · cases h
end
def tyN : D → Option String
  | .non => some "NoneType"
  | .bl _ => some "bool"
  | .int _ => some "int"
  | .str _ => some "str"
  | .tup _ => some "tuple"
  | .lst _ => some "list"
  | .dic _ => some "dict"
  | _ => none
def isiB (T : String) (d : D) : O Bool := match d with
  | .obj _ _ => .ok false
  | .cst _ => .bad
  | .dic _ => op2 (kitB "dict" T) fun b => .ok b
  | d => op2 (tyN d) fun t => op2 (kitB t T) fun b => .ok b
def isiC (c : Nat) (d : D) : O Bool := match d with
  | .obj c' _ => .ok (decide (c' = c))
  | .cst _ => .bad
  | .dik _ => .bad
  | .dim _ => .bad
  | .dic _ => .ok false
  | _ => .ok false
def ix : D → D → O D
  | .tup ds, .int i => op2 (atI ds i) .ok
  | .lst ds, .int i => op2 (atI ds i) .ok
  | .str t, .int i => if t.length ≤ 1000000 then op2 (atI t.cps.toList i) fun c => .ok (.str ⟨#[c]⟩) else .bad
  | _, _ => .bad
def cut (d : D) (lo hi : Option Int) : O D := match d with
  | .tup ds => .ok (.tup (cutD ds lo hi))
  | .lst ds => .ok (.lst (cutD ds lo hi))
  | .str t => if t.length ≤ 1000000 then .ok (.str (cutS t lo hi)) else .bad
  | _ => .bad
def fld (f : Str) (cs : List Nat) (d : D) : O D := match d with
  | .obj c fs => if c ∈ cs then op2 (fs.lookup f) .ok else .bad
  | _ => .bad
def asI : D → O Int
  | .int i => .ok i
  | _ => .bad
@[simp] theorem asI_int (i : Int) : asI (.int i) = .ok i := rfl
theorem asI_eq {d : D} {i : Int} (h : asI d = .ok i) : d = .int i := by
  cases d <;> first | (cases h; rfl) | cases h
section
variable {F : Fam} {S : ST} {e a b c : Expr} {pos p p2 : Pos} {oa ob : O D} {lo hi : Option Expr} {ol oh : O (Option Int)}
theorem p_ix (ha : DEp F a S oa) (hb : DEp F b S ob) (hs : PlainIx b := by intro _ _; rfl) : DEp F (.Subscript a b pos) S (oa.bind fun x => ob.bind fun y => ix x y) := fun d h => by
  obtain ⟨x, h1, h⟩ := O.bind_eq h
  obtain ⟨y, h2, h⟩ := O.bind_eq h
  unfold ix at h
  split at h
  · obtain ⟨z, h3, h⟩ := op2_eq h
    cases h
    exact de_ixT (ha _ h1) (hb _ h2) h3 hs
  · obtain ⟨z, h3, h⟩ := op2_eq h
    cases h
    exact de_ixL (ha _ h1) (hb _ h2) h3 hs
  · split at h
    · obtain ⟨z, h3, h⟩ := op2_eq h
      cases h
      exact de_ixS (ha _ h1) (hb _ h2) (sl6 (by assumption)) h3 hs
    · cases h
  · cases h
def DXp (F : Fam) (o : Option Expr) (S : ST) (r : O (Option Int)) : Prop := ∀ i, r = .ok i → DL.DOp F o S S i
theorem x_none : DXp F none S (.ok none) := fun i h => by cases h; exact do_none
theorem x_some (h : DEp F e S oa) : DXp F (some e) S (oa.bind fun x => (asI x).bind fun i => .ok (some i)) := fun i q => by
  obtain ⟨x, h1, q⟩ := O.bind_eq q
  obtain ⟨j, h2, q⟩ := O.bind_eq q
  cases asI_eq h2
  cases q
  exact do_some (h _ h1)
theorem p_slice (ha : DEp F a S oa) (hl : DXp F lo S ol) (hh : DXp F hi S oh) : DEp F (.Subscript a (.Slice lo hi none p2) pos) S (oa.bind fun x => ol.bind fun l => oh.bind fun h => cut x l h) := fun d q => by
  obtain ⟨x, h1, q⟩ := O.bind_eq q
  obtain ⟨l, h2, q⟩ := O.bind_eq q
  obtain ⟨h, h3, q⟩ := O.bind_eq q
  unfold cut at q
  split at q
  · cases q; exact de_sliceT (ha _ h1) (hl _ h2) (hh _ h3)
  · cases q; exact de_sliceL (ha _ h1) (hl _ h2) (hh _ h3)
  · split at q
    · cases q; exact de_sliceS (ha _ h1) (hl _ h2) (hh _ h3) (sl6 (by assumption))
    · cases q
  · cases q
theorem de_fldH {cs : List Nat} {f : Str} {cn : Nat} {fs : List (Str × D)} {d : D} (hT : ∀ c ∈ cs, F.C.has c = true → Cls F.C.K (F.C.cl c) ∧ NoAttr F.C.K (F.C.cl c) f) (h : DE F e S S (.obj cn fs)) (hc : cn ∈ cs) (hl : fs.lookup f = some d)
    (hb : ∀ i, attributeBase e f (F.X i).env (eval e (F.X i).env) = eval e (F.X i).env) : DE F (.Attribute e f pos) S S d :=
  de_of (te := tFld F.C.K (anyE F e) f) (fun i => by have := pe_fld (pos := pos) (anyE_ok (e := e) i) (hb i); rw [F.hK i] at this; exact this) fun σ G H cx Q q => h σ G H cx _ fun v G1 H1 m dv => by
    cases dv with
    | @obj a dx _ vs _ hq ha hf =>
      obtain ⟨w, h1, h2⟩ := hf.look hl
      obtain ⟨t1, t2⟩ := hT cn hc hq
      exact ⟨a, _, dx, vs, w, rfl, m.cx.sub _ _ ha, t1, t2, h1, q _ _ _ m h2⟩
theorem p_fld {cs : List Nat} {f : Str} (hT : ∀ c ∈ cs, F.C.has c = true → Cls F.C.K (F.C.cl c) ∧ NoAttr F.C.K (F.C.cl c) f) (ha : DEp F e S oa)
    (hb : ∀ i, attributeBase e f (F.X i).env (eval e (F.X i).env) = eval e (F.X i).env := by intro _; rfl) : DEp F (.Attribute e f pos) S (oa.bind (fld f cs)) := fun d h => by
  obtain ⟨x, h1, h⟩ := O.bind_eq h
  unfold fld at h
  split at h
  · split at h
    · obtain ⟨y, h2, h⟩ := op2_eq h
      cases h
      exact de_fldH hT (ha _ h1) (by assumption) h2 hb
    · cases h
  · cases h
theorem isi_ok {T : String} {x : D} {k : Bool} (hI : ∀ c, F.C.has c = true → InsF F.C.K (F.C.cl c)) (hO : ∀ c, F.C.has c = true → PySem.W.kitOne F.C.K (.ref (F.C.cl c)) (.type T) = some false) (h : isiB T x = .ok k) : CaD F (.builtin "isinstance") [x, .cst (.ty T)] (.bl k) := by
  unfold isiB at h
  split at h
  · rename_i c fs
    cases h
    by_cases hc : F.C.has c = true
    · exact ca_isi (.ty T) (fun _ _ e q => hI _ q) rfl (hO c hc)
    · refine ⟨fun _ _ _ => False, fun _ => fun _ _ _ _ _ _ _ _ _ z => z.elim, fun G H us s hu Q q => ?_⟩
      cases hu with
      | cons h0 _ => cases h0 with
        | obj hq => exact hc hq
  · cases h
  · obtain ⟨b, h4, h⟩ := op2_eq h
    cases h
    exact ca_isiD (.ty T) (kit_ty h4)
  · rename_i h1 h2 h2'
    have hp : plD x = true := by cases x <;> first | rfl | exact absurd rfl (h2 _) | exact absurd rfl (h2' _) | (exfalso; simp [tyN, op2] at h)
    obtain ⟨t, h3, h⟩ := op2_eq h
    obtain ⟨b, h4, h⟩ := op2_eq h
    cases h
    refine ca_isi (.ty T) (fun c fs e _ => absurd e (h1 c fs)) hp ?_
    have : tyD F.C x = .type t := by cases x <;> first | (cases h3; rfl) | cases h3
    rw [this]
    exact kit_ty h4
theorem isi_own {cn : Nat} {x : D} {k : Bool} (hI : ∀ c, F.C.has c = true → InsF F.C.K (F.C.cl c)) (hh : F.C.has cn = true) (hO : ∀ c, F.C.has c = true → c ≠ cn → PySem.W.kitOne F.C.K (.ref (F.C.cl c)) (.ref (F.C.cl cn)) = some false)
    (hB : ∀ T ∈ ["NoneType", "bool", "int", "str", "tuple", "list", "dict"], PySem.W.kitOne F.C.K (.type T) (.ref (F.C.cl cn)) = some false) (h : isiC cn x = .ok k) : CaD F (.builtin "isinstance") [x, .cst (.ref (F.C.cl cn))] (.bl k) := by
  unfold isiC at h
  split at h
  · rename_i c fs
    cases h
    by_cases hc : F.C.has c = true
    · refine ca_isi (.own _) (fun _ _ e q => hI _ q) rfl ?_
      by_cases e : c = cn
      · subst e
        rw [decide_eq_true rfl]
        show (if (Value.ref (F.C.cl c) == Value.ref (F.C.cl c)) = true then some true else _) = _
        rw [if_pos (by simp)]
      · rw [decide_eq_false e]
        exact hO c hc e
    · refine ⟨fun _ _ _ => False, fun _ => fun _ _ _ _ _ _ _ _ _ z => z.elim, fun G H us s hu Q q => ?_⟩
      cases hu with
      | cons h0 _ => cases h0 with
        | obj hq => exact hc hq
  · cases h
  · cases h
  · cases h
  · cases h
    exact ca_isiD (.own _) (hB "dict" (by decide))
  · rename_i h1 h2 h3 h4 h2'
    have hp : plD x = true := by cases x <;> first | rfl | exact absurd rfl (h2 _) | exact absurd rfl (h3 _) | exact absurd rfl (h4 _) | exact absurd rfl (h2' _)
    cases h
    refine ca_isi (.own _) (fun c fs e _ => absurd e (h1 c fs)) hp ?_
    cases x <;> first | exact hB _ (by decide) | exact absurd rfl (h1 _ _) | exact absurd rfl (h2 _) | exact absurd rfl (h3 _) | exact absurd rfl (h4 _) | exact absurd rfl (h2' _)
end
end SL
namespace DL
open PySem L2
variable [TabL]
section
variable {F : Fam} {S S1 S2 S3 : ST} {e a b c tg iter : Expr} {pos : Pos} {P : Po} {rest body : List Stmt} {M : ST → Prop}
theorem ds_whileN (I : Nat → ST → Prop) (M : ST → Prop) {n : Nat} (h0 : I n S)
    (hs : ∀ n S, I n S → ∃ k S1, DT F c S S1 k ∧ (k = true → DS F body S1 { P with nx := fun S2 => ∃ n', n' < n ∧ I n' S2, ct := fun S2 => ∃ n', n' < n ∧ I n' S2, bk := M }) ∧ (k = false → M S1))
    (hr : ∀ S2, M S2 → DS F rest S2 P) (hp : ∀ i, PassesOwn (model (F.X i).prog (F.X i).w) (F.X i).A (F.X i).env (F.X i).xe := by intro _; exact PassesOwn.never) : DS F (.While c body [] pos :: rest) S P := by
  refine ds_cons (M := M) (d1_of (te := tWhile (anyT F c) (anyS F body)) (fun i => ps_while (hp i) (anyT_ok i) (anyS_ok i)) ?_) hr
  intro σ0 G0 H0 c0 E m
  refine ⟨fun m' σ H => ∃ S' G, Mw F.C σ0 S G0 H0 σ S' G H ∧ I m' S', ⟨n, S, G0, .refl c0, h0⟩, ?_⟩
  rintro m' σ H ⟨S', G, mw, hI⟩
  obtain ⟨k, S1, hc, h1, h2⟩ := hs m' S' hI
  refine hc σ G H mw.cx _ fun G1 H1 m1 => ?_
  cases k with
  | false =>
    rw [if_neg Bool.false_ne_true]
    exact m.nx _ _ _ _ (mw.trans m1.mw) (h2 rfl)
  | true =>
    rw [if_pos rfl]
    refine ⟨fun σ' H' => ∃ n' S2 G2, n' < m' ∧ Mw F.C σ0 S G0 H0 σ' S2 G2 H' ∧ I n' S2, fun σ' H' ⟨n', S2, G2, l, a, b⟩ => ⟨n', l, S2, G2, a, b⟩, ?_⟩
    have mm := m.move (mw.trans m1.mw)
    exact h1 rfl σ G1 H1 m1.cx _ ⟨fun σ2 S2 G2 H2 a ⟨n', l, q⟩ => ⟨n', S2, G2, l, (mw.trans m1.mw).trans a, q⟩, mm.rt, mm.nx, fun σ2 S2 G2 H2 a ⟨n', l, q⟩ => ⟨n', S2, G2, l, (mw.trans m1.mw).trans a, q⟩, mm.ro, mm.xc⟩
inductive WkL : List (Option DV) → List (Option DV) → Prop where
  | nil : WkL [] []
  | keep {x : Option DV} {xs ys : List (Option DV)} : WkL xs ys → WkL (x :: xs) (x :: ys)
  | drop {x : Option DV} {xs ys : List (Option DV)} : WkL xs ys → WkL (x :: xs) (none :: ys)
structure Wk (S S' : ST) : Prop where
  s : WkL S.s S'.s
  g : S.g = S'.g
theorem WkL.refl : ∀ xs, WkL xs xs
  | [] => .nil
  | _ :: xs => .keep (WkL.refl xs)
theorem Wk.refl (S : ST) : Wk S S := ⟨.refl _, rfl⟩
theorem WkL.len {xs ys : List (Option DV)} (h : WkL xs ys) : xs.length = ys.length := by
  induction h with
  | nil => rfl
  | keep _ ih => simp [ih]
  | drop _ ih => simp [ih]
theorem WkL.get {xs ys : List (Option DV)} (h : WkL xs ys) : ∀ {i : Nat} {o : DV}, ys[i]? = some (some o) → xs[i]? = some (some o) := by
  induction h with
  | nil => intro i o q; simp at q
  | keep _ ih =>
    intro i o q
    cases i with
    | zero => simpa using q
    | succ i => simpa using ih (by simpa using q)
  | drop _ ih =>
    intro i o q
    cases i with
    | zero => simp at q
    | succ i => simpa using ih (by simpa using q)
theorem Wk.mw {C : Kc} {G H : Hp} {σ : L2.St} (w : Wk S S1) (c : Ctx C G H σ S) : Mw C σ S G H σ S1 G H := by
  obtain ⟨w, g⟩ := w
  refine ⟨.refl, ⟨c.sub, c.len.trans w.len, fun i d h => c.im i d (w.get h), fun i m h => c.ow i m (w.get h), fun i j m n a h h' => c.apart i j m n a (w.get h) (w.get h'), fun i b o hg h => c.bg i b o (g.trans hg) (w.get h), g ▸ c.bag, fun i b o m hg h => c.nob i b o m (g.trans hg) (w.get h)⟩, fun a z => .inl ?_⟩
  rcases z with ⟨i, m, h, q⟩ | ⟨o, h⟩
  · exact .inl ⟨i, m, w.get h, q⟩
  · exact .inr ⟨o, g.trans h⟩
theorem ds_wk {sts : List Stmt} (w : Wk S S1) (h : DS F sts S1 P) : DS F sts S P := fun σ G H c E m =>
  let mw := w.mw c
  h σ G H mw.cx E (m.move mw)
theorem dg_wk {d : D} {js : List Nat} (w : Wk S S1) (h : DG F tg d S1 S2 js) : DG F tg d S S2 js := fun σ G H v c dv Q q =>
  let mw := w.mw c
  h σ G H v mw.cx dv Q fun σ2 G2 H2 m o => q σ2 G2 H2 (mw.trans m) o
theorem Wk.mv {C : Kc} {G H : Hp} {σ : L2.St} (w : Wk S S1) (c : Ctx C G H σ S) : Mv C σ S G H S1 G H := by
  have m := w.mw c
  refine ⟨m.go, m.cx, fun a z => ?_⟩
  obtain ⟨w, g⟩ := w
  rcases z with ⟨i, m, h, q⟩ | ⟨o, h⟩
  · exact .inl ⟨i, m, w.get h, q⟩
  · exact .inr ⟨o, g.trans h⟩
theorem dt_wk {k : Bool} (w : Wk S S1) (h : DT F c S1 S2 k) : DT F c S S2 k := fun σ G H cx Q q =>
  let mv := w.mv cx
  h σ G H mv.cx Q fun G2 H2 m => q G2 H2 (mv.trans m)
theorem ds_fz {sts : List Stmt} {j : Nat} {m : MO} (hj : S.s[j]? = some (some (.own m))) (h : DS F sts (S.set j (dOf m)) P) : DS F sts S P := fun σ G H c E me => by
  obtain ⟨a, o, h1, h2, h3, h4⟩ := c.ow j m hj
  have mv := c.freeze hj h1 h2 h3 h4
  exact h σ _ H mv.cx E (me.move mv.mw)
def Atom : D → Prop
  | .non => True
  | .bl _ => True
  | .int _ => True
  | .str _ => True
  | _ => False
theorem Den.atom {C : Kc} {G G2 : Hp} {v : V} {d : D} (h : Den C G v d) (ha : Atom d) : Den C G2 v d := by
  cases h <;> first | exact .non | exact .bl _ | exact .int _ | exact .str _ | exact ha.elim
def pbV : Option DV → Option DV
  | some (.imm d) => some (.imm d)
  | some (.own m) => some (.imm (dOf m))
  | _ => none
def ST.pb (S : ST) : ST := ⟨S.s.map pbV, none⟩
theorem pb_get {i : Nat} {o : DV} (h : S.pb.s[i]? = some (some o)) : (∃ d, o = .imm d ∧ S.s[i]? = some (some (.imm d))) ∨ ∃ m, o = .imm (dOf m) ∧ S.s[i]? = some (some (.own m)) := by
  have h' : (S.s.map pbV)[i]? = some (some o) := h
  rw [List.getElem?_map] at h'
  cases q : S.s[i]? with
  | none => rw [q] at h'; cases h'
  | some u =>
    rw [q] at h'
    cases u with
    | none => cases h'
    | some u =>
      cases u with
      | imm d => cases h'; exact .inl ⟨d, rfl, rfl⟩
      | own m => cases h'; exact .inr ⟨m, rfl, rfl⟩
      | bag => cases h'
def isOwnA (σ : L2.St) (S : ST) (x : Addr) : Prop := ∃ (i : Nat) (m : MO), S.s[i]? = some (some (.own m)) ∧ σ[i]? = some (some (.ref x))
open Classical in
noncomputable def frzG (σ : L2.St) (S : ST) (G H : Hp) : Hp := fun x => if isOwnA σ S x then H x else G x
open Classical in
noncomputable def thawG (σ : L2.St) (S : ST) (G : Hp) : Hp := fun x => if isOwnA σ S x then none else G x
theorem own_free {C : Kc} {G H : Hp} {σ : L2.St} (c : Ctx C G H σ S) {x : Addr} (h : isOwnA σ S x) : G x = none ∧ H x ≠ none := by
  obtain ⟨i, m, h1, h2⟩ := h
  obtain ⟨a, o, r1, r2, r3, _⟩ := c.ow i m h1
  rw [h2] at r1; cases r1
  exact ⟨r2, by rw [r3]; simp⟩
theorem frz_same {C : Kc} {G H : Hp} {σ : L2.St} (c : Ctx C G H σ S) : Same G (frzG σ S G H) := fun x u h => by
  unfold frzG
  rw [if_neg fun q => by rw [(own_free c q).1] at h; cases h]
  exact h
theorem Ctx.pb {C : Kc} {G H : Hp} {σ : L2.St} (c : Ctx C G H σ S) : Ctx C (frzG σ S G H) H σ S.pb where
  sub := ⟨fun x u h => by
    unfold frzG at h
    split at h
    · exact h
    · exact c.sub x u h, c.sub.t, fun p hp => by
    unfold frzG
    have no : ¬ isOwnA σ S p.1 := fun ⟨i, m, q1, q2⟩ => by
      obtain ⟨a, o, r1, _, r3, r4⟩ := c.ow i m q1
      rw [q2] at r1
      cases r1
      exact tabs_ne c.sub.t r3 r4.nt p hp rfl
    rw [if_neg no]
    exact c.sub.n p hp⟩
  len := by show _ = (S.s.map pbV).length; rw [List.length_map]; exact c.len
  im := fun i d h => by
    rcases pb_get h with ⟨d', e, q⟩ | ⟨m, e, q⟩
    · cases e
      obtain ⟨v, h1, h2⟩ := c.im i d q
      exact ⟨v, h1, h2.mono (frz_same c)⟩
    · cases e
      obtain ⟨a, o, h1, h2, h3, h4⟩ := c.ow i m q
      refine ⟨.ref a, h1, (h4.mono (frz_same c)).den ?_⟩
      unfold frzG
      rw [if_pos ⟨i, m, q, h1⟩]
      exact h3
  ow := fun i m h => by rcases pb_get h with ⟨_, e, _⟩ | ⟨_, e, _⟩ <;> cases e
  apart := fun i j m n a h => by rcases pb_get h with ⟨_, e, _⟩ | ⟨_, e, _⟩ <;> cases e
  bg := fun i b o h => nomatch h
  bag := trivial
  nob := fun i b o m h => nomatch h
theorem oa_pb {C : Kc} {σ : L2.St} {a : Addr} : ¬ OA C σ S.pb a := fun z => by
  rcases z with ⟨i, m, h, _⟩ | ⟨o, h⟩
  · rcases pb_get h with ⟨_, e, _⟩ | ⟨_, e, _⟩ <;> cases e
  · cases h
theorem Mv.thaw {C : Kc} {σ : L2.St} {G H G2 H2 : Hp} (c : Ctx C G H σ S) (mv : Mv C σ S.pb (frzG σ S G H) H S.pb G2 H2) : Pu G H (thawG σ S G2) H2 where
  hh := ⟨fun a o nt h => mv.go.keep a o oa_pb nt h, mv.go.dom, mv.go.tb⟩
  gg := fun x u h => by
    unfold thawG
    rw [if_neg fun q => by rw [(own_free c q).1] at h; cases h]
    exact mv.go.gg x u (frz_same c x u h)
  sub := ⟨fun x u h => by
    unfold thawG at h
    split at h
    · cases h
    · exact mv.cx.sub x u h, mv.cx.sub.t, fun p hp => by
    unfold thawG
    split
    · rfl
    · exact mv.cx.sub.n p hp⟩
  fr := fun x h1 h2 => by
    unfold thawG
    split
    · rfl
    · rename_i n
      refine mv.go.fr x oa_pb h1 ?_
      unfold frzG
      rw [if_neg n]
      exact h2
theorem de_bor {d : D} (h : DE F e S.pb S.pb d) (ha : Atom d) : DE F e S S d := fun σ G H cx Q q =>
  h σ _ H cx.pb Q fun v G2 H2 m dv => q v _ H2 (cx.pu (m.thaw cx)) (dv.atom ha)
end
end DL
namespace SL
open PySem L2 DL
variable [TabL]
def atomB : D → Bool
  | .non => true
  | .bl _ => true
  | .int _ => true
  | .str _ => true
  | _ => false
theorem atom_of {d : D} (h : atomB d = true) : Atom d := by cases d <;> first | trivial | cases h
def atomO (o : O D) : O D := o.bind fun d => bif atomB d then .ok d else .bad
@[simp] theorem atomO_non : atomO (.ok .non) = .ok .non := rfl
@[simp] theorem atomO_bl (b : Bool) : atomO (.ok (.bl b)) = .ok (.bl b) := rfl
@[simp] theorem atomO_int (i : Int) : atomO (.ok (.int i)) = .ok (.int i) := rfl
@[simp] theorem atomO_str (i : Str) : atomO (.ok (.str i)) = .ok (.str i) := rfl
def DSk {R : Type} (F : Fam) (sts : List Stmt) (S : ST) (m : O R) (P : R → Po) : Prop := ∀ r, m = .ok r → DS F sts S (P r)
def PF : D → Po := fun r => { rt := fun d' _ => d' = r, nx := fun _ => r = .non }
def PN : List D → Po := fun r => { ro := fun es' _ => es' = r }
def PI (b : Addr) (c : Nat) : List (Str × D) → Po := fun r => { nx := fun S => S.g = some (b, .ins c r) }
def PJ {T : Type} (mk : T → ST) : T → Po := fun t => { nx := fun S' => Wk S' (mk t) }
def PB {T : Type} (mk : T → ST) : T → Po := fun t => { nx := fun S' => Wk S' (mk t), ct := fun S' => Wk S' (mk t) }
inductive Fl (T R : Type) where
  | nx (t : T) | bk (t : T) | rt (r : R)
def forO {T : Type} (f : T → D → O T) : List D → T → O T
  | [], t => .ok t
  | d :: ds, t => (f t d).bind fun t' => forO f ds t'
def thenO {T R : Type} (o : O (Fl T R)) (k : T → O R) : O R := o.bind fun
  | .nx t => k t
  | .bk t => k t
  | .rt r => .ok r
@[simp] theorem thenO_nx {T R : Type} (t : T) (k : T → O R) : thenO (.ok (.nx t)) k = k t := rfl
@[simp] theorem thenO_bk {T R : Type} (t : T) (k : T → O R) : thenO (.ok (.bk t)) k = k t := rfl
@[simp] theorem thenO_rt {T R : Type} (r : R) (k : T → O R) : thenO (.ok (.rt r)) k = .ok r := rfl
def whileO {T : Type} (c : T → O Bool) (f : T → O T) : Nat → T → O T
  | 0, _ => .bad
  | n + 1, t => O.ite (c t) ((f t).bind fun t' => whileO c f n t') (.ok t)
def sized {α : Type} (n : Nat) (m : O α) : O α := if n ≤ 1000000 then m else .bad
theorem sized_eq {α : Type} {n : Nat} {m : O α} {a : α} (h : sized n m = .ok a) : n ≤ 1000000 ∧ m = .ok a := by
  unfold sized at h
  split at h
  · exact ⟨by assumption, h⟩
  · cases h
theorem sized_ok {α : Type} {n : Nat} {m : O α} (h : n ≤ 1000000) : sized n m = m := if_pos h
theorem forO_take {T : Type} {f : T → D → O T} : ∀ {ds : List D} {t0 te : T}, forO f ds t0 = .ok te → ∀ i, ∃ t, forO f (ds.take i) t0 = .ok t
  | ds, t0, te, h, 0 => ⟨t0, rfl⟩
  | [], t0, te, h, i + 1 => ⟨t0, rfl⟩
  | d :: ds, t0, te, h, i + 1 => by
    obtain ⟨t', h1, h2⟩ := O.bind_eq (show (f t0 d).bind (fun t' => forO f ds t') = _ from h)
    obtain ⟨t, ht⟩ := forO_take h2 i
    exact ⟨t, by show (f t0 d).bind (fun t' => forO f (ds.take i) t') = _; rw [h1]; exact ht⟩
theorem forO_append {T : Type} {f : T → D → O T} : ∀ (xs ys : List D) (t0 : T), forO f (xs ++ ys) t0 = (forO f xs t0).bind fun t => forO f ys t
  | [], ys, t0 => rfl
  | d :: xs, ys, t0 => by
    show (f t0 d).bind (fun t' => forO f (xs ++ ys) t') = ((f t0 d).bind fun t' => forO f xs t').bind fun t => forO f ys t
    rw [O.bind_assoc]
    congr 1
    funext t'
    exact forO_append xs ys t'
section
variable {F : Fam} {S S1 : ST} {e a b c tg iter : Expr} {d : D} {pos p q1 cpos apos : Pos} {oa ob oe : O D} {ot : O Bool} {es : List Expr} {os oi : O (List D)} {rest t u body sts : List Stmt} {R T B : Type} {m m1 m2 : O R} {P : R → Po}
theorem p_bor (h : DEp F e S.pb oe) : DEp F e S (atomO oe) := fun d q => by
  obtain ⟨x, h1, q⟩ := O.bind_eq q
  cases ha : atomB x with
  | false => rw [ha] at q; cases q
  | true => rw [ha] at q; cases q; exact de_bor (h d h1) (atom_of ha)
theorem k_fz {j : Nat} {mo : MO} (hj : S.s[j]? = some (some (.own mo))) (h : DSk F sts (S.set j (dOf mo)) m P) : DSk F sts S m P := fun r q => ds_fz hj (h r q)
theorem k_raise {cn : Nat} : DSk F sts S (os.bind fun ds => (.exc cn ds : O R)) P := fun r q => by
  obtain ⟨_, _, q⟩ := O.bind_eq q
  cases q
theorem k_retA {P : D → Po} (h : DEp F e S oe) (hP : ∀ d, (P d).rt d S := by intro _; rfl) : DSk F (.Return (some e) pos :: rest) S oe P := fun r q => ds_ret (h r q) (hP r)
theorem k_nilF : DSk F [] S (.ok .non) PF := fun r q => by cases q; exact ds_nil rfl
theorem k_retN (h : DOp F e S os) : DSk F (.Return (some e) pos :: rest) S os PN := fun r q => ds_retO (h r q) rfl
theorem k_expr {mr : O R} (h : DEp F e S oe) (hr : DSk F rest S mr P) (hs : ∀ i, swapsWith e none pos.line (F.X i).env = pure false := by intro _; rfl) : DSk F (.Expr e pos :: rest) S (oe.bind fun _ => mr) P := fun r q => by
  obtain ⟨d, h1, q⟩ := O.bind_eq q
  exact ds_expr (h d h1) (hr r q) hs
theorem k_ifr (ht : DTp F c S ot) (h1 : DSk F t S m1 (fun r => { P r with nx := fun _ => False })) (h2 : DSk F rest S m2 P) : DSk F (.If c t [] pos :: rest) S (O.ite ot m1 m2) P := fun r q => by
  rcases O.ite_eq q with ⟨h3, q⟩ | ⟨h3, q⟩
  · exact ds_ifr (k := true) (ht _ h3) (fun _ => h1 r q) (fun z => nomatch z)
  · exact ds_ifr (k := false) (ht _ h3) (fun z => nomatch z) (fun _ => h2 r q)
theorem k_ifj (mk : T → ST) {n1 n2 : O T} {mr : T → O R} (ht : DTp F c S ot) (h1 : DSk F t S n1 (PJ mk)) (h2 : DSk F u S n2 (PJ mk)) (hr : ∀ x, DSk F rest (mk x) (mr x) P) : DSk F (.If c t u pos :: rest) S ((O.ite ot n1 n2).bind mr) P := fun r q => by
  obtain ⟨x, q1, q⟩ := O.bind_eq q
  rcases O.ite_eq q1 with ⟨h3, q1⟩ | ⟨h3, q1⟩
  · exact ds_if (fun S' => Wk S' (mk x)) (k := true) (ht _ h3) (fun _ => ds_mono (h1 x q1) (fun _ z => z) (fun _ _ z => z.elim) (fun _ z => z.elim) (fun _ z => z.elim) (fun _ _ z => z.elim)) (fun z => nomatch z) (fun _ z => ds_wk z (hr x r q))
  · exact ds_if (fun S' => Wk S' (mk x)) (k := false) (ht _ h3) (fun z => nomatch z) (fun _ => ds_mono (h2 x q1) (fun _ z => z) (fun _ _ z => z.elim) (fun _ z => z.elim) (fun _ z => z.elim) (fun _ _ z => z.elim)) (fun _ z => ds_wk z (hr x r q))
theorem k_nilJ {mk : T → ST} {x : T} (w : Wk S (mk x)) : DSk F [] S (.ok x) (PJ mk) := fun r q => by cases q; exact ds_nil w
theorem k_nilB {mk : T → ST} {x : T} (w : Wk S (mk x)) : DSk F [] S (.ok x) (PB mk) := fun r q => by cases q; exact ds_nil w
theorem k_set {j : Nat} {x : Str} {pos' : Pos} {mr : D → O R} (he : DEp F e S oe) (hr : ∀ d, DSk F rest (S.set j d) (mr d) P) (hN : ∀ i, (F.X i).N[j]? = some x := by intro _; rfl) (hx : ∀ i, Loc (F.X i).env.scope x := by intro _; first | exact Or.inl rfl | exact Or.inr rfl)
    (hs : ∀ i, swapsWith e (some (.Name x pos')) pos.line (F.X i).env = pure false := by intro _; rfl) (hf : ∀ i, (F.X i).fn x = true ∨ (F.X i).env.scope.names.lookup x = some .local := by intro _; first | exact .inl rfl | exact .inr rfl) : DSk F (.Assign [.Name x pos'] e pos :: rest) S (oe.bind mr) P := fun r q => by
  obtain ⟨d, h1, q⟩ := O.bind_eq q
  exact ds_set (he d h1) (hr d r q) hN hx hs hf
theorem k_asg3 [Calm F] {i j l k2 : Nat} {n1 n2 n3 : Str} {px py pz pt : Pos} {mr : D → D → D → O R} (he : DEp F e S oe) (hr : ∀ x y z, DSk F rest (((S.set i x).set j y).set l z) (mr x y z) P)
    (h1 : ∀ o, (F.X o).N[i]? = some n1 := by intro _; rfl) (h2 : ∀ o, (F.X o).N[j]? = some n2 := by intro _; rfl) (h3 : ∀ o, (F.X o).N[l]? = some n3 := by intro _; rfl)
    (x1 : ∀ o, Loc (F.X o).env.scope n1 := by intro _; first | exact Or.inl rfl | exact Or.inr rfl) (x2 : ∀ o, Loc (F.X o).env.scope n2 := by intro _; first | exact Or.inl rfl | exact Or.inr rfl) (x3 : ∀ o, Loc (F.X o).env.scope n3 := by intro _; first | exact Or.inl rfl | exact Or.inr rfl)
    (f1 : ∀ o, (F.X o).fn n1 = true ∨ (F.X o).env.scope.names.lookup n1 = some .local := by intro _; first | exact .inl rfl | exact .inr rfl) (f2 : ∀ o, (F.X o).fn n2 = true ∨ (F.X o).env.scope.names.lookup n2 = some .local := by intro _; first | exact .inl rfl | exact .inr rfl) (f3 : ∀ o, (F.X o).fn n3 = true ∨ (F.X o).env.scope.names.lookup n3 = some .local := by intro _; first | exact .inl rfl | exact .inr rfl)
    (ho : ∀ o, PS (F.X o) (.Assign [.Tuple [.Name n1 px, .Name n2 py, .Name n3 pz] k2 pt] e pos) (tAsg (anyE F e) (anyG F (.Tuple [.Name n1 px, .Name n2 py, .Name n3 pz] k2 pt))) := by intro o; exact ps_asg (anyE_ok o) (anyG_ok o)) :
    DSk F (.Assign [.Tuple [.Name n1 px, .Name n2 py, .Name n3 pz] k2 pt] e pos :: rest) S (oe.bind fun d => un3 d mr) P := fun r q => by
  obtain ⟨d, g1, q⟩ := O.bind_eq q
  unfold un3 at q
  split at q
  · exact ds_asg (he _ g1) (dg_tup (dgs_cons (dg_name (j := i) h1 x1 f1) (dgs_cons (dg_name (j := j) h2 x2 f2) (dgs_cons (dg_name (j := l) h3 x3 f3) dgs_nil)))) (hr _ _ _ r q) ho
  · exact ds_asg (he _ g1) (dg_lst (dgs_cons (dg_name (j := i) h1 x1 f1) (dgs_cons (dg_name (j := j) h2 x2 f2) (dgs_cons (dg_name (j := l) h3 x3 f3) dgs_nil)))) (hr _ _ _ r q) ho
  · cases q
theorem k_for (mk : T → ST) {t0 : T} {β : D → O B} {st : T → B → ST} {mb : T → B → O T} {mr : T → O R} (hi : DIp F tg iter S oi) (w : Wk S (mk t0)) (hg : ∀ x d y, β d = .ok y → ∃ js, DG F tg d (mk x) (st x y) js)
    (hb : ∀ x y, DSk F body (st x y) (mb x y) (PB mk)) (hr : ∀ x, DSk F rest (mk x) (mr x) P)
    (hp : ∀ i, PassesOwn (model (F.X i).prog (F.X i).w) (F.X i).A (F.X i).env (F.X i).xe := by intro _; exact PassesOwn.never)
    (hf : ∀ i, PS (F.X i) (.For tg iter body [] pos) (tFor (anyI F tg iter) (anyG F tg) (anyS F body)) := by intro i; exact ps_for PassesOwn.never (Fam.calm _ i) (anyI_ok i) (anyG_ok i) (anyS_ok i)) :
    DSk F (.For tg iter body [] pos :: rest) S (oi.bind fun ds => (forO (fun x d => (β d).bind fun y => mb x y) ds t0).bind mr) P := fun r q => by
  obtain ⟨ds, h1, q⟩ := O.bind_eq q
  obtain ⟨te, h2, q⟩ := O.bind_eq q
  refine ds_for (fun i S' => ∃ x, forO (fun x d => (β d).bind fun y => mb x y) (ds.take i) t0 = .ok x ∧ Wk S' (mk x)) (fun S' => Wk S' (mk te)) (hi ds h1) ⟨t0, rfl, w⟩ (fun i S' d hd hI => ?_) (fun S' hI => ?_) (fun S' z => ds_wk z (hr te r q)) hp hf
  · obtain ⟨x, e1, wx⟩ := hI
    obtain ⟨x', e2⟩ := forO_take h2 (i + 1)
    have e3 := e2
    rw [take_one hd, forO_append, e1] at e3
    obtain ⟨x2, e4, e5⟩ := O.bind_eq (show ((β d).bind fun y => mb x y).bind (fun t' => forO _ [] t') = _ from e3)
    cases e5
    obtain ⟨y, e6, e7⟩ := O.bind_eq e4
    obtain ⟨js, g⟩ := hg x d y e6
    refine ⟨_, js, dg_wk wx g, ds_mono (hb x y _ e7) (fun S2 z => ⟨_, e2, z⟩) (fun _ _ z => z.elim) (fun _ z => z.elim) (fun S2 z => ⟨_, e2, z⟩) (fun _ _ z => z.elim)⟩
  · obtain ⟨x, e1, wx⟩ := hI
    rw [List.take_length, h2] at e1
    cases e1
    exact wx
theorem k_while (mk : T → ST) (n : Nat) {t0 : T} {ct : T → O Bool} {mb : T → O T} {mr : T → O R} (w : Wk S (mk t0)) (hc : ∀ x, DTp F c (mk x) (ct x)) (hb : ∀ x, DSk F body (mk x) (mb x) (PB mk)) (hr : ∀ x, DSk F rest (mk x) (mr x) P)
    (hp : ∀ i, PassesOwn (model (F.X i).prog (F.X i).w) (F.X i).A (F.X i).env (F.X i).xe := by intro _; exact PassesOwn.never) : DSk F (.While c body [] pos :: rest) S ((whileO ct mb n t0).bind mr) P := fun r q => by
  obtain ⟨te, h2, q⟩ := O.bind_eq q
  refine ds_whileN (fun k S' => ∃ x, whileO ct mb k x = .ok te ∧ Wk S' (mk x)) (fun S' => Wk S' (mk te)) ⟨t0, h2, w⟩ (fun k S' hI => ?_) (fun S' z => ds_wk z (hr te r q)) hp
  obtain ⟨x, e1, wx⟩ := hI
  cases k with
  | zero => cases e1
  | succ k =>
    rcases O.ite_eq (show O.ite _ _ _ = _ from e1) with ⟨h3, h4⟩ | ⟨h3, h4⟩
    · refine ⟨true, mk x, dt_wk wx (hc x _ h3), fun _ => ?_, fun z => nomatch z⟩
      obtain ⟨x', h5, h6⟩ := O.bind_eq h4
      exact ds_mono (hb x x' h5) (fun S2 z => ⟨k, Nat.lt_succ_self k, x', h6, z⟩) (fun _ _ z => z.elim) (fun _ z => z.elim) (fun S2 z => ⟨k, Nat.lt_succ_self k, x', h6, z⟩) (fun _ _ z => z.elim)
    · exact ⟨false, mk x, dt_wk wx (hc x _ h3), fun z => (nomatch z), fun _ => by rw [O.ok.inj h4]; exact Wk.refl _⟩
end
end SL
namespace SL
open PySem L2 DL
variable [TabL]
def itD : D → O (List D)
  | .lst ds => .ok ds
  | .tup ds => .ok ds
  | .str t => .ok (signsD t)
  | _ => .bad
@[simp] theorem itD_lst (ds : List D) : itD (.lst ds) = .ok ds := rfl
@[simp] theorem itD_tup (ds : List D) : itD (.tup ds) = .ok ds := rfl
@[simp] theorem itD_str (t : Str) : itD (.str t) = .ok (signsD t) := rfl
def rg1 (d : D) : O (List D) := (asI d).bind fun i => if -(2 ^ 62) ≤ i ∧ i < 2 ^ 62 then .ok (rangeD 0 i.toNat) else .bad
def rg2 (a b : D) : O (List D) := (asI a).bind fun i => (asI b).bind fun j => if -(2 ^ 62) ≤ i ∧ i < 2 ^ 62 ∧ -(2 ^ 62) ≤ j ∧ j < 2 ^ 62 then .ok (rangeD i (j - i).toNat) else .bad
def enT : D → O (List D)
  | .tup ds => .ok (enumD ds)
  | .lst ds => .ok (enumD ds)
  | _ => .bad
section
variable {F : Fam} {S S1 S2 S3 : ST} {e : Expr} {p : Pos} {ds : List D}
theorem itd_enumL {C : Kc} {G0 : Hp} {a : Addr} {vs : List V} (h : SqL C.K G0 a vs) (dl : DenL C G0 vs ds) : ItD C (Ite C.K a) G0 (enumD ds) where
  go := fun i G H hi s s2 => by
    rw [enumD_length] at hi
    obtain ⟨v, h1, _⟩ := dl.get (List.getElem?_eq_getElem hi)
    exact ⟨vs, v, s2.seq (s.seq h), h1⟩
  yld := fun i d G H x H' hd s s2 hy => by
    obtain ⟨y, hy1, rfl⟩ := enumD_get hd
    obtain ⟨T, v, rfl, hT, rfl, hv⟩ := hy
    obtain ⟨v', h1, h2⟩ := dl.get hy1
    have e1 := hv vs (s2.seq (s.seq h))
    rw [h1] at e1
    cases e1
    refine ⟨_, Pu.new s2 hT, .tup (SqT.of upd_same) ?_⟩
    exact .cons (.int _) (.cons ((h2.mono s).mono (Pu.new s2 hT).gg) .nil)
  stop := fun i G H hi s s2 => ⟨vs, s2.seq (s.seq h), by rw [dl.length, ← enumD_length]; exact hi⟩
theorem di_enumL {elts : List Expr} {kk : Nat} {tpos q1 : Pos} (hm : F.mg "enumerate" = none) (h : DE F e S S1 (.lst ds)) (hg : ∀ l, Gl (F.X l) "enumerate" := by intro _; rfl) (hs : ∀ l, starEach [e] (F.X l).env = [(false, eval e (F.X l).env)] := by intro _; rfl) :
    DI F (.Tuple elts kk tpos) (.Call (.Name "enumerate" p) [e] [] q1) S S1 (enumD ds) :=
  di_of (wi := iEnum F.C.K (tCons (anyE F e) tNil)) (fun l => by have := pi_enum (X := F.X l) (elts := elts) (kk := kk) (tpos := tpos) (p := p) (pos := q1) (hg l) (by rw [F.hmg l]; exact hm) (pa_cons (anyE_ok (e := e) l) pa_nil (hs l)) (hs l); rw [F.hK l] at this; exact this) fun σ G H c R q => h σ G H c _ fun v G1 H1 m dv => by
    cases dv with
    | @lst a vs _ h1 h2 => exact ⟨a, vs, rfl, m.cx.sub.seq h1, q _ _ _ m (itd_enumL h1 h2)⟩
end
theorem un2_bind {α β : Type} (d : D) (f : D → D → O α) (g : α → O β) : (un2 d f).bind g = un2 d fun a b => (f a b).bind g := by
  unfold un2
  split <;> rfl
theorem un2_eq {α : Type} {d : D} {f : D → D → O α} {z : α} (h : un2 d f = .ok z) : ∃ a b, (d = .tup [a, b] ∨ d = .lst [a, b]) ∧ f a b = .ok z := by
  unfold un2 at h
  split at h
  · exact ⟨_, _, .inl rfl, h⟩
  · exact ⟨_, _, .inr rfl, h⟩
  · cases h
theorem un3_eq {α : Type} {d : D} {f : D → D → D → O α} {z : α} (h : un3 d f = .ok z) : ∃ a b c, (d = .tup [a, b, c] ∨ d = .lst [a, b, c]) ∧ f a b c = .ok z := by
  unfold un3 at h
  split at h
  · exact ⟨_, _, _, .inl rfl, h⟩
  · exact ⟨_, _, _, .inr rfl, h⟩
  · cases h
def lcO (g : D → O (Option D)) : List D → O (List D)
  | [] => .ok []
  | d :: ds => (g d).bind fun o => (lcO g ds).bind fun r => .ok (o.toList ++ r)
def mapO (f : D → O D) (ds : List D) : O (List D) := sized ds.length (lcO (fun d => (f d).bind fun x => .ok (some x)) ds)
theorem lcO_append {g : D → O (Option D)} : ∀ (xs ys : List D), lcO g (xs ++ ys) = (lcO g xs).bind fun r => (lcO g ys).bind fun s => .ok (r ++ s)
  | [], ys => by
    show lcO g ys = (lcO g ys).bind fun s => .ok s
    cases lcO g ys <;> rfl
  | d :: xs, ys => by
    show (g d).bind _ = ((g d).bind _).bind _
    rw [O.bind_assoc]
    congr 1
    funext o
    rw [show lcO g (xs.append ys) = _ from lcO_append xs ys, O.bind_assoc, O.bind_assoc]
    congr 1
    funext r
    rw [O.bind_assoc]
    show _ = (lcO g ys).bind fun s => .ok ((o.toList ++ r) ++ s)
    congr 1
    funext s
    show O.ok (o.toList ++ (r ++ s)) = _
    rw [List.append_assoc]
theorem lcO_len {g : D → O (Option D)} : ∀ {xs r : List D}, lcO g xs = .ok r → r.length ≤ xs.length
  | [], r, h => by cases h; exact Nat.le_refl _
  | d :: xs, r, h => by
    obtain ⟨o, h1, h⟩ := O.bind_eq (show (g d).bind _ = _ from h)
    obtain ⟨s, h2, h⟩ := O.bind_eq h
    cases h
    have := lcO_len h2
    cases o <;> simp <;> omega
theorem lcO_take {g : D → O (Option D)} {ds r : List D} (h : lcO g ds = .ok r) (i : Nat) : ∃ s, lcO g (ds.take i) = .ok s := by
  have e : ds = ds.take i ++ ds.drop i := (List.take_append_drop i ds).symm
  rw [e, lcO_append] at h
  obtain ⟨s, h1, _⟩ := O.bind_eq h
  exact ⟨s, h1⟩
theorem lcO_map {f : D → O D} {g : D → D} : ∀ {ds : List D}, (∀ d ∈ ds, f d = .ok (g d)) → lcO (fun d => (f d).bind fun x => .ok (some x)) ds = .ok (ds.map g)
  | [], _ => rfl
  | d :: ds, h => by
    show ((f d).bind _).bind _ = _
    rw [h d List.mem_cons_self, lcO_map fun x hx => h x (List.mem_cons_of_mem _ hx)]
    rfl
theorem mapO_ok {f : D → O D} (g : D → D) {ds : List D} (h : ∀ d ∈ ds, f d = .ok (g d)) (hl : ds.length ≤ 1000000) : mapO f ds = .ok (ds.map g) := by
  unfold mapO
  rw [sized_ok hl, lcO_map h]
def noOwns (s : List (Option DV)) : List Nat → Bool
  | [] => true
  | v :: vs => (match s[v]? with
    | some (some (.own _)) => false
    | _ => true) && noOwns s vs
theorem noOwns_of {s : List (Option DV)} {i : Nat} {m : MO} : ∀ {vs : List Nat}, noOwns s vs = true → s[i]? = some (some (.own m)) → i ∉ vs
  | [], _, _ => by simp
  | v :: vs, h, q => by
    unfold noOwns at h
    rw [Bool.and_eq_true] at h
    simp only [List.mem_cons, not_or]
    refine ⟨fun e => ?_, noOwns_of h.2 q⟩
    subst e
    rw [q] at h
    exact absurd h.1 (by simp)
section
variable {F : Fam} {S S1 : ST} {e a b c tg iter elt : Expr} {d : D} {pos p p2 q1 cpos apos : Pos} {oa ob oe : O D} {ot : O Bool} {es : List Expr} {os oi : O (List D)} {rest t u body sts : List Stmt} {R T B : Type} {P : R → Po} {scope : Scope}
theorem i_val (h : DEp F iter S oe) : DIp F tg iter S (oe.bind itD) := fun ds q => by
  obtain ⟨x, h1, q⟩ := O.bind_eq q
  unfold itD at q
  split at q
  · cases q; exact di_list (h _ h1)
  · cases q; exact di_tup (h _ h1)
  · cases q; exact di_str (h _ h1)
  · cases q
theorem i_range1 (hm : F.mg "range" = none) (h : DEp F e S oe) (hg : ∀ l, Gl (F.X l) "range" := by intro _; rfl) (hs : ∀ l, starEach [e] (F.X l).env = [(false, eval e (F.X l).env)] := by intro _; rfl) : DIp F tg (.Call (.Name "range" p) [e] [] q1) S (oe.bind rg1) := fun ds q => by
  obtain ⟨x, h1, q⟩ := O.bind_eq q
  obtain ⟨i, h2, qq⟩ := O.bind_eq (show O.bind _ _ = _ from q)
  split at qq
  · rename_i hb
    have e0 := asI_eq h2
    subst e0
    rw [← O.ok.inj qq]
    exact di_range1 hm (h _ h1) hb.1 hb.2 hg hs
  · cases qq
theorem i_range2 (hm : F.mg "range" = none) (ha : DEp F a S oa) (hb : DEp F b S ob) (hg : ∀ l, Gl (F.X l) "range" := by intro _; rfl) (hs : ∀ l, starEach [a, b] (F.X l).env = [(false, eval a (F.X l).env), (false, eval b (F.X l).env)] := by intro _; rfl)
    (hs2 : ∀ l, starEach [b] (F.X l).env = [(false, eval b (F.X l).env)] := by intro _; rfl) (hs3 : ∀ l, starEach [a, b] (F.X l).env = (false, eval a (F.X l).env) :: starEach [b] (F.X l).env := by intro _; rfl) : DIp F tg (.Call (.Name "range" p) [a, b] [] q1) S (oa.bind fun x => ob.bind fun y => rg2 x y) := fun ds q => by
  obtain ⟨x, h1, q⟩ := O.bind_eq q
  obtain ⟨y, h2, q⟩ := O.bind_eq q
  obtain ⟨i, h3, q⟩ := O.bind_eq (show O.bind _ _ = _ from q)
  obtain ⟨j, h4, qq⟩ := O.bind_eq q
  split at qq
  · rename_i hbd
    have e0 := asI_eq h3
    have e1 := asI_eq h4
    subst e0 e1
    rw [← O.ok.inj qq]
    exact di_range2 hm (ha _ h1) (hb _ h2) hbd hg hs hs2 hs3
  · cases qq
theorem i_enumT {elts : List Expr} {kk : Nat} {tpos : Pos} (hm : F.mg "enumerate" = none) (h : DEp F e S oe) (hg : ∀ l, Gl (F.X l) "enumerate" := by intro _; rfl) (hs : ∀ l, starEach [e] (F.X l).env = (false, eval e (F.X l).env) :: starEach [] (F.X l).env := by intro _; rfl) : DIp F (.Tuple elts kk tpos) (.Call (.Name "enumerate" p) [e] [] q1) S (oe.bind enT) := fun ds q => by
  obtain ⟨x, h1, q⟩ := O.bind_eq q
  unfold enT at q
  split at q
  · cases q; exact di_enumT hm (h _ h1) hg hs
  · cases q; exact di_enumL hm (h _ h1) hg hs
  · cases q
def DTsp (F : Fam) (ifs : List Expr) (S : ST) (o : O Bool) : Prop := ∀ b, o = .ok b → DTs F ifs S S b
theorem ts_nil : DTsp F [] S (.ok true) := fun b q => by cases q; exact dts_nil
theorem ev_lcG {ifs : List Expr} {vs : List Nat} {js : List Nat} {β : D → O B} {st : B → ST} {tt : B → O Bool} {el : B → O D} {ds r : List D} (hi : DI F tg iter S S ds)
    (hg : ∀ d y, β d = .ok y → DG (F.blk scope) tg d ⟨hidS S.s vs, S.g⟩ (st y) js) (hjs : ∀ j ∈ js, j ∈ vs) (hk : ∀ y, KeepOwn S.s vs (st y)) (hG : ∀ y, (st y).g = S.g)
    (ht : ∀ y, DTsp (F.blk scope) ifs (st y) (tt y)) (he : ∀ y, DEp (F.blk scope) elt (st y) (el y)) (hl : ds.length ≤ 1000000)
    (h : lcO (fun d => (β d).bind fun y => O.ite (tt y) ((el y).bind fun x => .ok (some x)) (.ok none)) ds = .ok r) :
    EvO F.C (tLc (anyI F tg iter) (anyG (F.blk scope) tg) (anyTs (F.blk scope) ifs) (anyE (F.blk scope) elt) vs) S S r := by
  have key : ∀ i, ∃ s, lcO (fun d => (β d).bind fun y => O.ite (tt y) ((el y).bind fun x => .ok (some x)) (.ok none)) (ds.take i) = .ok s := lcO_take h
  have out : ∃ out : Nat → List D, ∀ i, lcO (fun d => (β d).bind fun y => O.ite (tt y) ((el y).bind fun x => .ok (some x)) (.ok none)) (ds.take i) = .ok (out i) := ⟨fun i => (key i).choose, fun i => (key i).choose_spec⟩
  obtain ⟨out, ho⟩ := out
  have o0 : out 0 = [] := by have := ho 0; rw [List.take_zero] at this; exact (O.ok.inj this).symm
  have oe : out ds.length = r := by have := ho ds.length; rw [List.take_length, h] at this; exact (O.ok.inj this).symm
  have := ev_lc (elt := elt) (ifs := ifs) (scope := scope) (vs0 := vs) hi (fun _ => S.g) out rfl o0 (fun _ => rfl) (fun i d hd => by
    have e1 := ho (i + 1)
    rw [take_one hd, lcO_append, ho i] at e1
    obtain ⟨s, e2, e3⟩ := O.bind_eq (show (lcO _ [d]).bind _ = _ from e1)
    obtain ⟨o, e4, e5⟩ := O.bind_eq (show O.bind _ _ = _ from e2)
    obtain ⟨s0, e6, e7⟩ := O.bind_eq e5
    cases e6
    have e7' : s = o.toList := by cases e7; simp
    have e3' : out (i + 1) = out i ++ o.toList := by rw [← e7']; exact (O.ok.inj e3).symm
    obtain ⟨y, e8, e9⟩ := O.bind_eq e4
    have hlt : i < ds.length := (List.getElem?_eq_some_iff.mp hd).1
    have hlen : (out i).length < sizeLine := Nat.lt_of_le_of_lt (lcO_len (ho i)) (by rw [List.length_take]; exact Nat.lt_of_le_of_lt (Nat.le_trans (Nat.min_le_left _ _) (Nat.le_trans (Nat.le_of_lt hlt) hl)) (by decide))
    rcases O.ite_eq e9 with ⟨z1, z2⟩ | ⟨z1, z2⟩
    · obtain ⟨x, z3, z4⟩ := O.bind_eq z2
      cases z4
      exact ⟨_, _, true, js, hg d y e8, hjs, ht y _ z1, fun _ => ⟨_, x, he y x z3, hG y, hk y, e3', hlen⟩, fun z => nomatch z⟩
    · cases z2
      exact ⟨_, _, false, js, hg d y e8, hjs, ht y _ z1, fun z => (nomatch z), fun _ => ⟨hG y, hk y, by rw [e3']; simp⟩⟩)
  rw [oe] at this
  exact this
theorem keep_name {vs : List Nat} {j : Nat} {y : D} (hn : noOwns S.s vs = true) (hj : j ∈ vs) : KeepOwn S.s vs ((⟨hidS S.s vs, S.g⟩ : ST).set j y) := fun i m h => by
  have n := noOwns_of hn h
  refine ⟨n, ?_⟩
  show ((hidS S.s vs).set j (some (.imm y)))[i]? = _
  rw [List.getElem?_set_ne (show j ≠ i from fun z => n (by rw [← z]; exact hj)), hidS_keep n]
  exact h
def LcE (F : Fam) (scope : Scope) (S : ST) (elt tg iter : Expr) (ifs : List Expr) (own : List (Str × Nat)) (os : O (List D)) : Prop := ∀ r, os = .ok r → EvO F.C (tLc (anyI F tg iter) (anyG (F.blk scope) tg) (anyTs (F.blk scope) ifs) (anyE (F.blk scope) elt) (own.map (·.2))) S S r
theorem lc_map {x : Str} {xp : Pos} {j : Nat} {own : List (Str × Nat)} {f : D → O D} (hi : DIp F (.Name x xp) iter S oi) (he : ∀ d, DEp (F.blk scope) elt ((⟨hidS S.s (own.map (·.2)), S.g⟩ : ST).set j d) (f d)) (hn : noOwns S.s (own.map (·.2)) = true := by rfl) (hj : j ∈ own.map (·.2) := by decide)
    (hN : ∀ i, ((F.blk scope).X i).N[j]? = some x := by intro _; rfl) (hx : ∀ i, Loc ((F.blk scope).X i).env.scope x := by intro _; first | exact Or.inl rfl | exact Or.inr rfl)
    (hf : ∀ i, ((F.blk scope).X i).fn x = true ∨ ((F.blk scope).X i).env.scope.names.lookup x = some .local := by intro _; first | exact .inl rfl | exact .inr rfl) : LcE F scope S elt (.Name x xp) iter [] own (oi.bind (mapO f)) := fun r q => by
  obtain ⟨ds, h1, q⟩ := O.bind_eq q
  obtain ⟨h2, q⟩ := sized_eq q
  exact ev_lcG (β := .ok) (st := fun d => (⟨hidS S.s (own.map (·.2)), S.g⟩ : ST).set j d) (tt := fun _ => .ok true) (js := [j]) (hi ds h1) (fun d y z => by cases z; exact dg_name hN hx hf) (fun i z => by rw [List.mem_singleton.mp z]; exact hj) (fun y => keep_name hn hj) (fun y => rfl) (fun y => ts_nil) he h2 q
theorem dg_un2 {F : Fam} [Calm F] {S : ST} {i j k2 : Nat} {n1 n2 : Str} {px py pt : Pos} {d : D} {y : D × D} (h : (un2 d fun a b => .ok (a, b)) = .ok y) (g1 : ∀ (d : D) (S : ST), DG F (.Name n1 px) d S (S.set i d) [i]) (g2 : ∀ (d : D) (S : ST), DG F (.Name n2 py) d S (S.set j d) [j]) : DG F (.Tuple [.Name n1 px, .Name n2 py] k2 pt) d S ((S.set i y.1).set j y.2) [i, j] := by
  obtain ⟨a, b, hd, h⟩ := un2_eq h
  cases h
  rcases hd with rfl | rfl
  · exact dg_tup (dgs_cons (g1 a S) (dgs_cons (g2 b _) dgs_nil))
  · exact dg_lst (dgs_cons (g1 a S) (dgs_cons (g2 b _) dgs_nil))
theorem dg_un3 {F : Fam} [Calm F] {S : ST} {i j l k2 : Nat} {n1 n2 n3 : Str} {px py pz pt : Pos} {d : D} {y : D × D × D} (h : (un3 d fun a b c => .ok (a, b, c)) = .ok y) (g1 : ∀ (d : D) (S : ST), DG F (.Name n1 px) d S (S.set i d) [i]) (g2 : ∀ (d : D) (S : ST), DG F (.Name n2 py) d S (S.set j d) [j]) (g3 : ∀ (d : D) (S : ST), DG F (.Name n3 pz) d S (S.set l d) [l]) : DG F (.Tuple [.Name n1 px, .Name n2 py, .Name n3 pz] k2 pt) d S (((S.set i y.1).set j y.2.1).set l y.2.2) [i, j, l] := by
  obtain ⟨a, b, c, hd, h⟩ := un3_eq h
  cases h
  rcases hd with rfl | rfl
  · exact dg_tup (dgs_cons (g1 a S) (dgs_cons (g2 b _) (dgs_cons (g3 c _) dgs_nil)))
  · exact dg_lst (dgs_cons (g1 a S) (dgs_cons (g2 b _) (dgs_cons (g3 c _) dgs_nil)))
theorem o_lc [Calm F] {ifs : List Expr} {own : List (Str × Nat)} (ok : ∀ i, BlkOk (F.X i).N (F.X i).env.scope scope own) (h : LcE F scope S elt tg iter ifs own os) (hs : ∀ i x, foldedSetIterable iter (F.X i).env x = pure x := by intro _ _; rfl) : DOp F (.ListComp elt [⟨tg, iter, ifs, 0⟩] scope pos) S os := fun r q =>
  do_of (fun i => pe_lc (F.calm i) (by rw [F.hN i]; exact F.nd) (anyI_ok i) (ok i) (fun s H C cl fp => anyG_ok (F := F.blk scope) (i, s, H, C, cl, fp)) (fun s H C cl fp => anyTs_ok (F := F.blk scope) (i, s, H, C, cl, fp)) (fun s H C cl fp => anyE_ok (F := F.blk scope) (i, s, H, C, cl, fp)) (hs i)) (h r q)
theorem k_for1 (mk : T → ST) {t0 : T} {x : Str} {xp : Pos} {j : Nat} {mb : T → D → O T} {mr : T → O R} (hi : DIp F (.Name x xp) iter S oi) (w : Wk S (mk t0)) (hb : ∀ t d, DSk F body ((mk t).set j d) (mb t d) (PB mk)) (hr : ∀ t, DSk F rest (mk t) (mr t) P)
    (g1 : ∀ (d : D) (S : ST), DG F (.Name x xp) d S (S.set j d) [j] := by intro _ _; exact dg_name)
    (hp : ∀ i, PassesOwn (model (F.X i).prog (F.X i).w) (F.X i).A (F.X i).env (F.X i).xe := by intro _; first | exact PassesOwn.never | exact passes_of rfl)
    (hf : ∀ i, PS (F.X i) (.For (.Name x xp) iter body [] pos) (tFor (anyI F (.Name x xp) iter) (anyG F (.Name x xp)) (anyS F body)) := by intro i; first | exact ps_for PassesOwn.never (Fam.calm _ i) (anyI_ok i) (anyG_ok i) (anyS_ok i) | exact ps_for (passes_of rfl) (Fam.calm _ i) (anyI_ok i) (anyG_ok i) (anyS_ok i)) :
    DSk F (.For (.Name x xp) iter body [] pos :: rest) S (oi.bind fun ds => (forO mb ds t0).bind mr) P :=
  k_for mk (β := .ok) (st := fun t d => (mk t).set j d) (mb := mb) hi w (fun t d y z => by cases z; exact ⟨_, g1 _ _⟩) hb hr hp hf
theorem k_for2 [Calm F] (mk : T → ST) {t0 : T} {n1 n2 : Str} {px py pt : Pos} {i j k2 : Nat} {mb : T → D → D → O T} {mr : T → O R} (hi : DIp F (.Tuple [.Name n1 px, .Name n2 py] k2 pt) iter S oi) (w : Wk S (mk t0)) (hb : ∀ t x y, DSk F body (((mk t).set i x).set j y) (mb t x y) (PB mk)) (hr : ∀ t, DSk F rest (mk t) (mr t) P)
    (g1 : ∀ (d : D) (S : ST), DG F (.Name n1 px) d S (S.set i d) [i] := by intro _ _; exact dg_name) (g2 : ∀ (d : D) (S : ST), DG F (.Name n2 py) d S (S.set j d) [j] := by intro _ _; exact dg_name)
    (hp : ∀ i, PassesOwn (model (F.X i).prog (F.X i).w) (F.X i).A (F.X i).env (F.X i).xe := by intro _; first | exact PassesOwn.never | exact passes_of rfl)
    (hf : ∀ i, PS (F.X i) (.For (.Tuple [.Name n1 px, .Name n2 py] k2 pt) iter body [] pos) (tFor (anyI F (.Tuple [.Name n1 px, .Name n2 py] k2 pt) iter) (anyG F (.Tuple [.Name n1 px, .Name n2 py] k2 pt)) (anyS F body)) := by intro i; first | exact ps_for PassesOwn.never (Fam.calm _ i) (anyI_ok i) (anyG_ok i) (anyS_ok i) | exact ps_for (passes_of rfl) (Fam.calm _ i) (anyI_ok i) (anyG_ok i) (anyS_ok i)) :
    DSk F (.For (.Tuple [.Name n1 px, .Name n2 py] k2 pt) iter body [] pos :: rest) S (oi.bind fun ds => (forO (fun t d => un2 d (mb t)) ds t0).bind mr) P := by
  have := k_for mk (β := fun d => un2 d fun a b => .ok (a, b)) (st := fun t y => ((mk t).set i y.1).set j y.2) (mb := fun t y => mb t y.1 y.2) hi w (fun t d y z => ⟨_, dg_un2 z g1 g2⟩) (fun t y => hb t y.1 y.2) hr hp hf
  have e : (fun (x : T) (d : D) => (un2 d fun a b => O.ok (a, b)).bind fun y => mb x y.1 y.2) = fun t d => un2 d (mb t) := by
    funext t d
    rw [un2_bind]
    rfl
  rw [e] at this
  exact this
end
end SL
namespace DL
open PySem L2
variable [TabL]
inductive StV (C : Kc) (G H0 H : Hp) : V → DV → Prop where
  | imm {v : V} {d : D} : Den C G v d → StV C G H0 H v (.imm d)
  | own {q : Addr} {o : HO} {m : MO} : H0 q = none → G q = none → H q = some o → MOk C G q o m → StV C G H0 H (.ref q) (.own m)
theorem fresh_oa {C : Kc} {G H : Hp} {σ : L2.St} {S : ST} (c : Ctx C G H σ S) {q : Addr} (h : H q = none) : ¬ OA C σ S q := fun z => by
  rcases z with ⟨j, es, r1, r2⟩ | ⟨o, r⟩
  · obtain ⟨a, _, q1, _, q3, _⟩ := c.ow j es r1
    rw [r2] at q1; cases q1; rw [h] at q3; cases q3
  · have z := c.bag
    rw [r] at z
    cases o with
    | lst => obtain ⟨_, _, h3, _⟩ := z; rw [h] at h3; cases h3
    | ins => obtain ⟨_, _, _, h3, _⟩ := z; rw [h] at h3; cases h3
    | xd => obtain ⟨_, _, h3, _⟩ := z; rw [h] at h3; cases h3
theorem StV.step {C : Kc} {G H0 H G2 H2 : Hp} {σ : L2.St} {S S2 : ST} {v : V} {x : DV} (h : StV C G H0 H v x) (n : ∀ q, H0 q = none → ¬ OA C σ S q) (m : Mv C σ S G H S2 G2 H2) : StV C G2 H0 H2 v x := by
  cases h with
  | imm h => exact .imm (h.mono m.go.gg)
  | own h1 h2 h3 h4 => exact .own h1 (m.go.fr _ (n _ h1) (by rw [h3]; simp) h2) (m.go.keep _ _ (n _ h1) h4.nt h3) (h4.mono m.go.gg)
theorem Ctx.storeV {C : Kc} {G H0 H : Hp} {σ : L2.St} {S : ST} {i : Nat} {v : V} {x : DV} (c : Ctx C G H σ S) (h : StV C G H0 H v x) (hi : i < S.s.length) (n : ∀ q, v = .ref q → H0 q = none → ¬ OA C σ S q) : Ctx C G H (σ.set i (some v)) ⟨S.s.set i (some x), S.g⟩ := by
  cases h with
  | imm h => exact (c.store h).cx
  | own h1 h2 h3 h4 => exact c.storeO h2 h3 h4 hi (fun j es r z => n _ rfl h1 (.inl ⟨j, es, r, z⟩)) fun o r => n _ rfl h1 (.inr ⟨o, r⟩)
theorem oa_storeV {C : Kc} {σ : L2.St} {S : ST} {i : Nat} {v : V} {x : DV} {a : Addr} (z : OA C (σ.set i (some v)) ⟨S.s.set i (some x), S.g⟩ a) : OA C σ S a ∨ (v = .ref a ∧ ∃ m, x = .own m) := by
  rcases z with ⟨j, es, r1, r2⟩ | ⟨o, r⟩
  · by_cases ij : i = j
    · subst ij
      have l1 : i < S.s.length := by
        rcases Nat.lt_or_ge i S.s.length with z | z
        · exact z
        · rw [List.getElem?_eq_none (by simpa using z)] at r1; cases r1
      have l2 : i < σ.length := by
        rcases Nat.lt_or_ge i σ.length with z | z
        · exact z
        · rw [List.getElem?_eq_none (by simpa using z)] at r2; cases r2
      rw [List.getElem?_set_self l1] at r1
      rw [List.getElem?_set_self l2] at r2
      cases r1
      cases r2
      exact .inr ⟨rfl, _, rfl⟩
    · rw [List.getElem?_set_ne ij] at r1 r2
      exact .inl (.inl ⟨j, es, r1, r2⟩)
  · exact .inl (.inr ⟨o, r⟩)
def EvV (C : Kc) (te : TE) (S S1 : ST) (x : DV) : Prop := ∀ σ G H, Ctx C G H σ S → ∀ Q : VK, (∀ v G2 H2, Mv C σ S G H S1 G2 H2 → StV C G2 H H2 v x → Q v H2) → te σ H Q
theorem evv_m {C : Kc} {te : TE} {S S1 : ST} {d : D} (h : EvM C te S S1 d) : EvV C te S S1 (.imm d) := fun σ G H c Q q => h σ G H c Q fun v G2 H2 m dv => q v G2 H2 m (.imm dv)
theorem evv_o {C : Kc} {te : TE} {S S1 : ST} {ds : List D} (h : EvO C te S S1 ds) : EvV C te S S1 (.own (.lst ds)) := fun σ G H c Q q => h σ G H c Q fun p vs G2 H2 m h1 h2 h3 h4 => q _ G2 H2 m (.own h1 h2 h3 (.lst h4))
theorem par2 {C : Kc} {ta tb : TE} {S S1 S2 : ST} {x y : DV} {i j : Nat} {σ : L2.St} {G H : Hp} (c : Ctx C G H σ S) (ha : EvV C ta S S1 x) (hb : EvV C tb S1 S2 y) (hi : i < S2.s.length) (hj : j < S2.s.length) {K : V → V → Hp → Prop}
    (k : ∀ v w G2 H2, Same H2 H2 → Mw C σ S G H ((σ.set i (some v)).set j (some w)) ⟨(S2.s.set i (some x)).set j (some y), S2.g⟩ G2 H2 → K v w H2) : ta σ H fun v H1 => tb σ H1 fun w H2 => K v w H2 :=
  ha σ G H c _ fun v G1 H1 m1 s1 => hb σ G1 H1 m1.cx _ fun w G2 H2 m2 s2 => by
    have n0 : ∀ q, H q = none → ¬ OA C σ S q := fun q h => fresh_oa c h
    have n1 : ∀ q, H q = none → ¬ OA C σ S1 q := fun q h z => n0 q h (m1.oa q z)
    have n2 : ∀ q, H q = none → ¬ OA C σ S2 q := fun q h z => n1 q h (m2.oa q z)
    have n3 : ∀ q, H1 q = none → ¬ OA C σ S2 q := fun q h z => fresh_oa m1.cx h (m2.oa q z)
    have b0 : ∀ q, H1 q = none → H q = none := fun q h => by
      cases r : H q with
      | none => rfl
      | some o => exact absurd h (m1.go.dom q (by rw [r]; simp))
    have t1 := s1.step n1 m2
    have c1 := m2.cx.storeV (i := i) t1 hi (fun q _ h => n2 q h)
    have c2 := c1.storeV (i := j) s2 (by simpa using hj) (fun q e h z => by
      rcases oa_storeV z with z | ⟨e2, m, e3⟩
      · exact n3 q h z
      · subst e2 e3
        cases s1 with
        | own _ _ h3 _ => rw [h] at h3; cases h3)
    refine k v w G2 H2 (fun _ _ h => h) ⟨(m1.trans m2).go, c2, fun a z => ?_⟩
    rcases oa_storeV (S := ⟨S2.s.set i (some x), S2.g⟩) z with z | ⟨e, m, e2⟩
    · rcases oa_storeV z with z | ⟨e, m, e2⟩
      · exact .inl (m1.oa a (m2.oa a z))
      · subst e e2
        cases t1 with
        | own h => exact .inr h
    · subst e e2
      cases s2 with
      | own h => exact .inr (b0 _ h)
theorem par3 {C : Kc} {ta tb tc : TE} {S S1 S2 S3 : ST} {x y z : DV} {i j l : Nat} {σ : L2.St} {G H : Hp} (c : Ctx C G H σ S) (ha : EvV C ta S S1 x) (hb : EvV C tb S1 S2 y) (hc : EvV C tc S2 S3 z) (hi : i < S3.s.length) (hj : j < S3.s.length) (hl : l < S3.s.length) {K : V → V → V → Hp → Prop}
    (k : ∀ u v w G2 H2, Mw C σ S G H (((σ.set i (some u)).set j (some v)).set l (some w)) ⟨((S3.s.set i (some x)).set j (some y)).set l (some z), S3.g⟩ G2 H2 → K u v w H2) : ta σ H fun u H1 => tb σ H1 fun v H2 => tc σ H2 fun w H3 => K u v w H3 :=
  ha σ G H c _ fun u G1 H1 m1 s1 => hb σ G1 H1 m1.cx _ fun v G2 H2 m2 s2 => hc σ G2 H2 m2.cx _ fun w G3 H3 m3 s3 => by
    have n0 : ∀ q, H q = none → ¬ OA C σ S q := fun q h => fresh_oa c h
    have n1 : ∀ q, H q = none → ¬ OA C σ S1 q := fun q h z => n0 q h (m1.oa q z)
    have n2 : ∀ q, H q = none → ¬ OA C σ S2 q := fun q h z => n1 q h (m2.oa q z)
    have p2 : ∀ q, H1 q = none → ¬ OA C σ S2 q := fun q h z => fresh_oa m1.cx h (m2.oa q z)
    have n3 : ∀ q, H q = none → ¬ OA C σ S3 q := fun q h z => n2 q h (m3.oa q z)
    have p3 : ∀ q, H1 q = none → ¬ OA C σ S3 q := fun q h z => p2 q h (m3.oa q z)
    have q3 : ∀ q, H2 q = none → ¬ OA C σ S3 q := fun q h z => fresh_oa m2.cx h (m3.oa q z)
    have b1 : ∀ q, H1 q = none → H q = none := fun q h => by
      cases r : H q with
      | none => rfl
      | some o => exact absurd h (m1.go.dom q (by rw [r]; simp))
    have b2 : ∀ q, H2 q = none → H1 q = none := fun q h => by
      cases r : H1 q with
      | none => rfl
      | some o => exact absurd h (m2.go.dom q (by rw [r]; simp))
    have t1 := s1.step n1 m2
    have r1 := t1.step n2 m3
    have r2 := s2.step p2 m3
    have c1 := m3.cx.storeV (i := i) r1 hi (fun q _ h => n3 q h)
    have c2 := c1.storeV (i := j) r2 (by simpa using hj) (fun q e h zz => by
      rcases oa_storeV zz with zz | ⟨e2, m, e3⟩
      · exact p3 q h zz
      · subst e2 e3
        cases s1 with
        | own _ _ h3 _ => rw [h] at h3; cases h3)
    have c3 := c2.storeV (i := l) s3 (by simpa using hl) (fun q e h zz => by
      rcases oa_storeV zz with zz | ⟨e2, m, e3⟩
      · rcases oa_storeV zz with zz | ⟨e2, m, e3⟩
        · exact q3 q h zz
        · subst e2 e3
          cases t1 with
          | own _ _ h3 _ => rw [h] at h3; cases h3
      · subst e2 e3
        cases s2 with
        | own _ _ h3 _ => rw [h] at h3; cases h3)
    refine k u v w G3 H3 ⟨((m1.trans m2).trans m3).go, c3, fun a zz => ?_⟩
    rcases oa_storeV (S := ⟨(S3.s.set i (some x)).set j (some y), S3.g⟩) zz with zz | ⟨e, m, e2⟩
    · rcases oa_storeV (S := ⟨S3.s.set i (some x), S3.g⟩) zz with zz | ⟨e, m, e2⟩
      · rcases oa_storeV zz with zz | ⟨e, m, e2⟩
        · exact .inl (m1.oa a (m2.oa a (m3.oa a zz)))
        · subst e e2
          cases r1 with
          | own h => exact .inr h
      · subst e e2
        cases r2 with
        | own h => exact .inr (b1 _ h)
    · subst e e2
      cases s3 with
      | own h => exact .inr (b1 _ (b2 _ h))
theorem Mw.side {C : Kc} {σ σ2 : L2.St} {S S2 : ST} {G H G2 H2 : Hp} {p : Addr} {o : HO} (m : Mw C σ S G H σ2 S2 G2 H2) (hp : H2 p = none) : Mw C σ S G H σ2 S2 G2 (upd H2 p o) := by
  have sm : Same H2 (upd H2 p o) := fun a u h => by rw [upd_ne (ne_of_none h hp)]; exact h
  exact m.trans (m.cx.mv (Same.kt sm) (fun _ _ h => h) (m.cx.sub.trans sm) fun _ _ h => h).mw
end DL
namespace SL
open PySem L2 DL
variable [TabL]
def DVp {α : Type} (F : Fam) (e : Expr) (S : ST) (κ : α → DV) (o : O α) : Prop := ∀ x, o = .ok x → EvV F.C (anyE F e) S S (κ x)
def kI : D → DV := .imm
def kL : List D → DV := fun ds => .own (.lst ds)
def kD : List (D × D) → DV := fun kvs => .own (.dic kvs)
section
variable {F : Fam} {S S1 : ST} {e a b c : Expr} {pos p : Pos} {oe : O D} {os : O (List D)} {rest : List Stmt} {R α β γ : Type} {P : R → Po} {κ : α → DV} {κ' : β → DV} {κ'' : γ → DV} {oa : O α} {ob : O β} {oc : O γ}
theorem v_e (h : DEp F e S oe) : DVp F e S kI oe := fun x q => evv_m (h x q)
theorem k_par2 [Calm F] {i j : Nat} {n1 n2 : Str} {px py pt : Pos} {kt k2 : Nat} {pt2 : Pos} {mr : α → β → O R} (ha : DVp F a S κ oa) (hb : DVp F b S κ' ob) (hr : ∀ x y, DSk F rest ⟨(S.s.set i (some (κ x))).set j (some (κ' y)), S.g⟩ (mr x y) P)
    (hi : i < S.s.length := by exact Nat.le_of_ble_eq_true rfl) (hj : j < S.s.length := by exact Nat.le_of_ble_eq_true rfl) (h1 : ∀ l, (F.X l).N[i]? = some n1 := by intro _; rfl) (h2 : ∀ l, (F.X l).N[j]? = some n2 := by intro _; rfl) (hij : i ≠ j := by decide)
    (hx : ∀ l, (F.X l).env.scope.names.lookup n1 = some .local := by intro _; rfl) (hy : ∀ l, (F.X l).env.scope.names.lookup n2 = some .local := by intro _; rfl)
    (hw : ∀ l, swappedStores [.Tuple [.Name n1 px, .Name n2 py] kt pt] (.Tuple [a, b] k2 pt2) (F.X l).env = pure (some [n1, n2]) := by intro _; rfl)
    (hs : ∀ l, swapsWithSole [.Tuple [.Name n1 px, .Name n2 py] kt pt] (.Tuple [a, b] k2 pt2) pos.line (F.X l).env = pure false := by intro _; rfl)
    (hst : ∀ i, starEach [a, b] (F.X i).env = (false, eval a (F.X i).env) :: starEach [b] (F.X i).env := by intro _; rfl) (hst2 : ∀ i, starEach [b] (F.X i).env = (false, eval b (F.X i).env) :: starEach [] (F.X i).env := by intro _; rfl) :
    DSk F (.Assign [.Tuple [.Name n1 px, .Name n2 py] kt pt] (.Tuple [a, b] k2 pt2) pos :: rest) S (oa.bind fun x => ob.bind fun y => mr x y) P := fun r q => by
  obtain ⟨x, q1, q⟩ := O.bind_eq q
  obtain ⟨y, q2, q⟩ := O.bind_eq q
  refine ds_cons (M := fun S3 => S3 = ⟨(S.s.set i (some (κ x))).set j (some (κ' y)), S.g⟩) (d1_of (te := tPar i j (tCons (anyE F a) (tCons (anyE F b) tNil))) (fun l => ps_par (F.calm l) (by rw [F.hN l]; exact F.nd) (h1 l) (h2 l) hij (hx l) (hy l) (pa_cons (anyE_ok l) (pa_cons (anyE_ok l) pa_nil (hst2 l)) (hst l)) (hw l) (hs l)) ?_) fun _ z => z ▸ hr x y r q
  intro σ G H c E m
  exact par2 c (ha x q1) (hb y q2) hi hj fun v w G2 H2 _ mw => ⟨v, w, rfl, m.nx _ _ _ _ mw rfl⟩
theorem k_parT2 {i j : Nat} {n1 n2 : Str} {px py pt : Pos} {kt k2 : Nat} {pt2 : Pos} {mr : α → β → O R} (ha : DVp F a S κ oa) (hb : DVp F b S κ' ob) (hr : ∀ x y, DSk F rest ⟨(S.s.set i (some (κ x))).set j (some (κ' y)), S.g⟩ (mr x y) P)
    (hi : i < S.s.length := by exact Nat.le_of_ble_eq_true rfl) (hj : j < S.s.length := by exact Nat.le_of_ble_eq_true rfl)
    (hp : ∀ o, PS (F.X o) (.Assign [.Tuple [.Name n1 px, .Name n2 py] kt pt] (.Tuple [a, b] k2 pt2) pos) (tAsg (tTup (tCons (anyE F a) (tCons (anyE F b) tNil))) (gTup (F.X o).K 2 (gCons (gName i) (gCons (gName j) gNil)))) := by
      intro o; exact ps_asg (pe_tup (pa_cons (anyE_ok o) (pa_cons (anyE_ok o) pa_nil))) (pg_tup (Fam.calm _ o) (pgs_cons (pg_name (Fam.ndX _ o) rfl (by first | exact Or.inl rfl | exact Or.inr rfl)) (pgs_cons (pg_name (Fam.ndX _ o) rfl (by first | exact Or.inl rfl | exact Or.inr rfl)) pgs_nil)))) :
    DSk F (.Assign [.Tuple [.Name n1 px, .Name n2 py] kt pt] (.Tuple [a, b] k2 pt2) pos :: rest) S (oa.bind fun x => ob.bind fun y => mr x y) P := fun r q => by
  obtain ⟨x, q1, q⟩ := O.bind_eq q
  obtain ⟨y, q2, q⟩ := O.bind_eq q
  refine ds_cons (M := fun S3 => S3 = ⟨(S.s.set i (some (κ x))).set j (some (κ' y)), S.g⟩) (d1_of (te := tAsg (tTup (tCons (anyE F a) (tCons (anyE F b) tNil))) (gTup F.C.K 2 (gCons (gName i) (gCons (gName j) gNil)))) (fun o => by have := hp o; rw [F.hK o] at this; exact this) ?_) fun _ z => z ▸ hr x y r q
  intro σ G H c E m
  exact par2 c (ha x q1) (hb y q2) hi hj fun v w G2 H2 _ mw => ⟨by show 2 ≤ sizeLine; decide, fun p hp => ⟨p, [v, w], rfl, SqT.of upd_same, rfl, v, [w], rfl, w, [], rfl, rfl, m.nx _ _ _ _ (mw.side hp) rfl⟩⟩
end
section
variable {P : Program} {w : World} {C : Kc} {mg : Str → Option Value} {base : Heap} {x qual : Str} {st : Stmt} {f : Addr} {fd : FuncData} {N ps : List Str} {k : Nat}
theorem fx {φ : List D → O D} (F : Fun C.K x qual st f fd) (Sc : FnScope N ps (defScope st)) (len : ∀ ds d, φ ds = .ok d → ds.length = ps.length)
    (body : ∀ ds cdv A outer s H E hr, DSk (famD C mg base N Sc.nd qual (defScope st) f cdv A outer s H E k hr) (defBody st) ⟨DL.start N ds, none⟩ (φ ds) PF) : FnOk C.P C.w C.K mg base CX0 (k + 1) f fd ps (spF C φ) :=
  fnP F Sc len fun ds d h cdv A outer s H E hr => body ds cdv A outer s H E hr d h
def spFN (C : Kc) (φ : List D → O (List D)) : Sp := spO C fun ds es => φ ds = .ok es
theorem fxN {φ : List D → O (List D)} (F : Fun C.K x qual st f fd) (Sc : FnScope N ps (defScope st)) (len : ∀ ds d, φ ds = .ok d → ds.length = ps.length)
    (body : ∀ ds cdv A outer s H E hr, DSk (famD C mg base N Sc.nd qual (defScope st) f cdv A outer s H E k hr) (defBody st) ⟨DL.start N ds, none⟩ (φ ds) PN) : FnOk C.P C.w C.K mg base CX0 (k + 1) f fd ps (spFN C φ) :=
  fnO F Sc len fun ds d h cdv A outer s H E hr => body ds cdv A outer s H E hr d h
theorem fxI {c : Nat} {n : Str} {ψ : List D → O (List (Str × D))} (F : Fun C.K x qual st f fd) (Sc : FnScope (n :: N) ps (defScope st)) (len : ∀ ds fs, ψ ds = .ok fs → ds.length + 1 = ps.length)
    (body : ∀ ds b cdv A outer s H E hr, DSk (famD C mg base (n :: N) Sc.nd qual (defScope st) f cdv A outer s H E k hr) (defBody st) ⟨DL.startB (n :: N) ds, some (b, .ins c [])⟩ (ψ ds) (PI b c)) : FnOk C.P C.w C.K mg base CX0 (k + 1) f fd ps (spI C c fun ds fs => ψ ds = .ok fs) :=
  fnI F Sc len fun ds fs h b cdv A outer s H E hr => body ds b cdv A outer s H E hr fs h
theorem fxID {c : Nat} {n : Str} {ψ : List D → O (List (Str × D))} {dvs : List V} {kws : List (Str × V)} (F : FunD C.K x qual (defArgs st) (defBody st) (defScope st) dvs kws f fd) (Sc : FnScope (n :: N) ps (defScope st)) (len : ∀ ds fs, ψ ds = .ok fs → ds.length + 1 = ps.length)
    (body : ∀ ds b cdv A outer s H E hr, DSk (famD C mg base (n :: N) Sc.nd qual (defScope st) f cdv A outer s H E k hr) (defBody st) ⟨DL.startB (n :: N) ds, some (b, .ins c [])⟩ (ψ ds) (PI b c)) : FnOk C.P C.w C.K mg base CX0 (k + 1) f fd ps (spI C c fun ds fs => ψ ds = .ok fs) :=
  fnID F Sc len fun ds fs h b cdv A outer s H E hr => body ds b cdv A outer s H E hr fs h
end
theorem l1_len {α : Type} {f : D → O α} {ds : List D} {d : α} (h : l1 f ds = .ok d) : ds.length = 1 := by unfold l1 at h; split at h <;> first | rfl | cases h
theorem l2_len {α : Type} {f : D → D → O α} {ds : List D} {d : α} (h : l2 f ds = .ok d) : ds.length = 2 := by unfold l2 at h; split at h <;> first | rfl | cases h
theorem l3_len {α : Type} {f : D → D → D → O α} {ds : List D} {d : α} (h : l3 f ds = .ok d) : ds.length = 3 := by unfold l3 at h; split at h <;> first | rfl | cases h
theorem l4_len {α : Type} {f : D → D → D → D → O α} {ds : List D} {d : α} (h : l4 f ds = .ok d) : ds.length = 4 := by unfold l4 at h; split at h <;> first | rfl | cases h
section
variable {F : Fam} {sts : List Stmt} {R α : Type} {P : R → Po} {S : List D → ST}
theorem ar1 {f : D → O R} (h : ∀ a, DSk F sts (S [a]) (f a) P) : ∀ ds, DSk F sts (S ds) (l1 f ds) P := fun ds r q => by
  unfold l1 at q; split at q
  · exact h _ r q
  · cases q
theorem ar2 {f : D → D → O R} (h : ∀ a b, DSk F sts (S [a, b]) (f a b) P) : ∀ ds, DSk F sts (S ds) (l2 f ds) P := fun ds r q => by
  unfold l2 at q; split at q
  · exact h _ _ r q
  · cases q
theorem ar3 {f : D → D → D → O R} (h : ∀ a b c, DSk F sts (S [a, b, c]) (f a b c) P) : ∀ ds, DSk F sts (S ds) (l3 f ds) P := fun ds r q => by
  unfold l3 at q; split at q
  · exact h _ _ _ r q
  · cases q
theorem ar4 {f : D → D → D → D → O R} (h : ∀ a b c d, DSk F sts (S [a, b, c, d]) (f a b c d) P) : ∀ ds, DSk F sts (S ds) (l4 f ds) P := fun ds r q => by
  unfold l4 at q; split at q
  · exact h _ _ _ _ r q
  · cases q
end
end SL
namespace SL
open PySem L2 DL
variable [TabL]
abbrev M (α : Type) : Type := List D → O (α × List D)
def M.ret {α : Type} (a : α) : M α := fun g => .ok (a, g)
def M.up {α : Type} (o : O α) : M α := fun g => o.bind fun a => .ok (a, g)
def M.bind {α β : Type} (m : M α) (f : α → M β) : M β := fun g => (m g).bind fun r => f r.1 r.2
def M.ite {α : Type} (m : M Bool) (x y : M α) : M α := m.bind fun b => bif b then x else y
def M.cons (m : M D) (ms : M (List D)) : M (List D) := m.bind fun d => ms.bind fun ds => M.ret (d :: ds)
def M.tr (m : M Bool) : M D := m.bind fun b => M.ret (.bl b)
@[simp] theorem M.ret_ap {α : Type} (a : α) (g : List D) : M.ret a g = .ok (a, g) := rfl
@[simp] theorem M.up_ok {α : Type} (a : α) : M.up (.ok a) = M.ret a := rfl
@[simp] theorem M.up_ap {α : Type} (o : O α) (g : List D) : M.up o g = o.bind fun a => .ok (a, g) := rfl
@[simp] theorem M.bind_ap {α β : Type} (m : M α) (f : α → M β) (g : List D) : M.bind m f g = (m g).bind fun r => f r.1 r.2 := rfl
@[simp] theorem M.ret_bind {α β : Type} (a : α) (f : α → M β) : M.bind (M.ret a) f = f a := rfl
@[simp] theorem M.ite_ret {α : Type} (b : Bool) (x y : M α) : M.ite (M.ret b) x y = bif b then x else y := rfl
@[simp] theorem M.cons_ret (a : D) (as : List D) : M.cons (M.ret a) (M.ret as) = M.ret (a :: as) := rfl
@[simp] theorem M.tr_ret (b : Bool) : M.tr (M.ret b) = M.ret (.bl b) := rfl
theorem M.bind_eq {α β : Type} {m : M α} {f : α → M β} {g g' : List D} {b : β} (h : M.bind m f g = .ok (b, g')) : ∃ a g1, m g = .ok (a, g1) ∧ f a g1 = .ok (b, g') := by
  obtain ⟨⟨a, g1⟩, h1, h2⟩ := O.bind_eq h
  exact ⟨a, g1, h1, h2⟩
theorem M.up_eq {α : Type} {o : O α} {g g' : List D} {a : α} (h : M.up o g = .ok (a, g')) : o = .ok a ∧ g' = g := by
  obtain ⟨x, h1, h2⟩ := O.bind_eq h
  cases h2
  exact ⟨h1, rfl⟩
theorem M.ret_eq {α : Type} {x a : α} {g g' : List D} (h : M.ret x g = .ok (a, g')) : a = x ∧ g' = g := by
  have h' : O.ok (x, g) = .ok (a, g') := h
  cases h'
  exact ⟨rfl, rfl⟩
theorem M.ite_eq {α : Type} {m : M Bool} {x y : M α} {g g' : List D} {a : α} (h : M.ite m x y g = .ok (a, g')) : ∃ g1, (m g = .ok (true, g1) ∧ x g1 = .ok (a, g')) ∨ (m g = .ok (false, g1) ∧ y g1 = .ok (a, g')) := by
  obtain ⟨b, g1, h1, h2⟩ := M.bind_eq h
  cases b with
  | true => exact ⟨g1, .inl ⟨h1, h2⟩⟩
  | false => exact ⟨g1, .inr ⟨h1, h2⟩⟩
abbrev gB (s : List (Option DV)) (bb : Addr) (g : List D) : ST := ⟨s, some (bb, .lst g)⟩
def DEm (F : Fam) (bb : Addr) (e : Expr) (s : List (Option DV)) (m : M D) : Prop := ∀ g d g', m g = .ok (d, g') → DE F e (gB s bb g) (gB s bb g') d
def DTm (F : Fam) (bb : Addr) (e : Expr) (s : List (Option DV)) (m : M Bool) : Prop := ∀ g d g', m g = .ok (d, g') → DT F e (gB s bb g) (gB s bb g') d
def DWm (F : Fam) (bb : Addr) (e : Expr) (s : List (Option DV)) (m : M Bool) : Prop := ∀ g d g', m g = .ok (d, g') → DW F e (gB s bb g) (gB s bb g') d
def DAm (F : Fam) (bb : Addr) (es : List Expr) (s : List (Option DV)) (m : M (List D)) : Prop := ∀ g d g', m g = .ok (d, g') → DA F es (gB s bb g) (gB s bb g') d ∧ d.length = es.length
def DOm (F : Fam) (bb : Addr) (e : Expr) (s : List (Option DV)) (m : M (List D)) : Prop := ∀ g d g', m g = .ok (d, g') → DO F e (gB s bb g) (gB s bb g') d
def DIm (F : Fam) (bb : Addr) (tg e : Expr) (s : List (Option DV)) (m : M (List D)) : Prop := ∀ g d g', m g = .ok (d, g') → DI F tg e (gB s bb g) (gB s bb g') d
def DVm {α : Type} (F : Fam) (bb : Addr) (e : Expr) (s : List (Option DV)) (κ : α → DV) (m : M α) : Prop := ∀ g x g', m g = .ok (x, g') → EvV F.C (anyE F e) (gB s bb g) (gB s bb g') (κ x)
def DSm {R : Type} (F : Fam) (bb : Addr) (sts : List Stmt) (s : List (Option DV)) (m : M R) (P : R × List D → Po) : Prop := ∀ g, DSk F sts (gB s bb g) (m g) P
section
variable {F : Fam} {bb : Addr} {s : List (Option DV)} {e a b c tg iter elt : Expr} {pos p p2 q1 cpos apos : Pos} {ma mb mc me : M D} {oe : O D} {mt mu : M Bool} {ot : O Bool} {es : List Expr} {ms mi : M (List D)} {os : O (List D)} {rest t u body sts : List Stmt} {R T α β γ : Type} {P : R × List D → Po} {scope : Scope}
theorem e_up (h : ∀ g, DEp F e (gB s bb g) oe) : DEm F bb e s (M.up oe) := fun g d g' q => by
  obtain ⟨h1, rfl⟩ := M.up_eq q
  exact h _ d h1
theorem t_up (h : ∀ g, DTp F e (gB s bb g) ot) : DTm F bb e s (M.up ot) := fun g d g' q => by
  obtain ⟨h1, rfl⟩ := M.up_eq q
  exact h _ d h1
theorem a_up (h : ∀ g, DAp F es (gB s bb g) os) : DAm F bb es s (M.up os) := fun g d g' q => by
  obtain ⟨h1, rfl⟩ := M.up_eq q
  exact h _ d h1
theorem o_up (h : ∀ g, DOp F e (gB s bb g) os) : DOm F bb e s (M.up os) := fun g d g' q => by
  obtain ⟨h1, rfl⟩ := M.up_eq q
  exact h _ d h1
theorem i_up (h : ∀ g, DIp F tg e (gB s bb g) os) : DIm F bb tg e s (M.up os) := fun g d g' q => by
  obtain ⟨h1, rfl⟩ := M.up_eq q
  exact h _ d h1
theorem me_op {op : Operator} {q : D → D → O D} (hr : OpS F op q) (ha : DEm F bb a s ma) (hb : DEm F bb b s mb) : DEm F bb (.BinOp a op b pos) s (ma.bind fun x => mb.bind fun y => M.up (q x y)) := fun g z g' h => by
  obtain ⟨x, g1, h1, h⟩ := M.bind_eq h
  obtain ⟨y, g2, h2, h⟩ := M.bind_eq h
  obtain ⟨h', e⟩ := M.up_eq h
  clear h
  subst e
  have h := h'
  exact de_op (ha _ _ _ h1) (hb _ _ _ h2) (hr x y z h)
theorem mt_cmp {op : CmpOp} {q : D → D → O Bool} (hr : CmS F op q) (ha : DEm F bb a s ma) (hb : DEm F bb b s mb) (hm : behindInMarks op b = false := by first | exact nomark _ | rfl) : DTm F bb (.Compare a [op] [b] pos) s (ma.bind fun x => mb.bind fun y => M.up (q x y)) := fun g z g' h => by
  obtain ⟨x, g1, h1, h⟩ := M.bind_eq h
  obtain ⟨y, g2, h2, h⟩ := M.bind_eq h
  obtain ⟨h', e⟩ := M.up_eq h
  clear h
  subst e
  have h := h'
  exact dt_cmp (ha _ _ _ h1) (hb _ _ _ h2) (hr x y z h) hm
theorem me_cmp {op : CmpOp} {q : D → D → O Bool} (hr : CmS F op q) (ha : DEm F bb a s ma) (hb : DEm F bb b s mb) (hm : behindInMarks op b = false := by first | exact nomark _ | rfl) : DEm F bb (.Compare a [op] [b] pos) s (M.tr (ma.bind fun x => mb.bind fun y => M.up (q x y))) := fun g z g' h => by
  obtain ⟨k, g3, h0, h⟩ := M.bind_eq h
  obtain ⟨e1, e2⟩ := M.ret_eq h
  subst e1 e2
  obtain ⟨x, g1, h1, h0⟩ := M.bind_eq h0
  obtain ⟨y, g2, h2, h0⟩ := M.bind_eq h0
  obtain ⟨h3, e⟩ := M.up_eq h0
  subst e
  exact de_cmp (ha _ _ _ h1) (hb _ _ _ h2) (hr x y k h3) hm
theorem mt_w (h : DWm F bb e s mt) : DTm F bb e s mt := fun g k g' q => dt_w (h g k g' q)
theorem mw_or1 (h : DTm F bb a s mt) : DWm F bb (.BoolOp .Or [a] pos) s mt := fun g k g' q => dw_or1 (h g k g' q)
theorem mw_or {rest : List Expr} (h : DTm F bb a s mt) (h2 : DWm F bb (.BoolOp .Or (b :: rest) pos) s mu) : DWm F bb (.BoolOp .Or (a :: b :: rest) pos) s (M.ite mt (M.ret true) mu) := fun g k g' q => by
  obtain ⟨g1, ⟨h3, q⟩ | ⟨h3, q⟩⟩ := M.ite_eq q
  · obtain ⟨e1, e2⟩ := M.ret_eq q
    subst e1 e2
    exact dw_or (k := true) (l := false) (h _ _ _ h3) (fun z => nomatch z)
  · exact dw_or (k := false) (l := k) (h _ _ _ h3) (fun _ => h2 _ _ _ q) (fun z => nomatch z)
theorem ma_cons (h : DEm F bb e s me) (hr : DAm F bb es s ms) (hs : ∀ i, starEach (e :: es) (F.X i).env = (false, eval e (F.X i).env) :: starEach es (F.X i).env := by intro _; rfl) : DAm F bb (e :: es) s (M.cons me ms) := fun g d g' q => by
  obtain ⟨x, g1, h1, q⟩ := M.bind_eq q
  obtain ⟨xs, g2, h2, q⟩ := M.bind_eq q
  obtain ⟨e1, e2⟩ := M.ret_eq q
  subst e1 e2
  obtain ⟨h3, h4⟩ := hr _ _ _ h2
  exact ⟨da_cons (h _ _ _ h1) h3 hs, by rw [List.length_cons, List.length_cons, h4]⟩
theorem me_tup {x1 : Nat} (h : DAm F bb es s ms) (hl : es.length ≤ 1000 := by decide) : DEm F bb (.Tuple es x1 pos) s (ms.bind fun ds => M.ret (.tup ds)) := fun g d g' q => by
  obtain ⟨ds, g1, h1, q⟩ := M.bind_eq q
  obtain ⟨e1, e2⟩ := M.ret_eq q
  subst e1 e2
  obtain ⟨h3, h4⟩ := h _ _ _ h1
  exact de_tup h3 (Nat.le_trans (by rw [h4]; exact hl) (by decide))
theorem mo_lst (h : DAm F bb es s ms) (hl : es.length ≤ 1000 := by decide) : DOm F bb (.List es pos) s ms := fun g d g' q => by
  obtain ⟨h3, h4⟩ := h _ _ _ q
  exact do_lst h3 (Nat.le_trans (by rw [h4]; exact hl) (by decide))
theorem me_do (h : DOm F bb e s ms) : DEm F bb e s (ms.bind fun ds => M.ret (.lst ds)) := fun g d g' q => by
  obtain ⟨ds, g1, h1, q⟩ := M.bind_eq q
  obtain ⟨e1, e2⟩ := M.ret_eq q
  subst e1 e2
  exact de_do (h _ _ _ h1)
theorem me_lst (h : DAm F bb es s ms) (hl : es.length ≤ 1000 := by decide) : DEm F bb (.List es pos) s (ms.bind fun ds => M.ret (.lst ds)) := me_do (mo_lst h hl)
theorem me_ix (ha : DEm F bb a s ma) (hb : DEm F bb b s mb) (hs : PlainIx b := by intro _ _; rfl) : DEm F bb (.Subscript a b pos) s (ma.bind fun x => mb.bind fun y => M.up (ix x y)) := fun g d g' h => by
  obtain ⟨x, g1, h1, h⟩ := M.bind_eq h
  obtain ⟨y, g2, h2, h⟩ := M.bind_eq h
  obtain ⟨h', e⟩ := M.up_eq h
  clear h
  subst e
  have h := h'
  unfold ix at h
  split at h
  · obtain ⟨z, h3, h⟩ := op2_eq h
    cases h
    exact de_ixT (ha _ _ _ h1) (hb _ _ _ h2) h3 hs
  · obtain ⟨z, h3, h⟩ := op2_eq h
    cases h
    exact de_ixL (ha _ _ _ h1) (hb _ _ _ h2) h3 hs
  · split at h
    · obtain ⟨z, h3, h⟩ := op2_eq h
      cases h
      exact de_ixS (ha _ _ _ h1) (hb _ _ _ h2) (sl6 (by assumption)) h3 hs
    · cases h
  · cases h
section
variable {k : Nat} {nm : Str} {φ : List D → O D}
theorem me_callTy {T : String} (hm : F.mg nm = none) (hv : bootBuiltins nm = some (.type T)) (hr : CaS F (.type T) φ) (ha : DAm F bb (e :: es) s ms)
    (hg : ∀ i, Gl (F.X i) nm := by intro _; rfl) (hn : nm ≠ "__name__" := by decide) (hdb : (nm == ("__debug__" : Str)) = false := by decide)
    (he : ∀ i, starEach (e :: es) (F.X i).env = (false, eval e (F.X i).env) :: starEach es (F.X i).env := by intro _; rfl) (hpl : ∀ i, (backTo pos (starEach es (F.X i).env)).any (·.1) = false := by intro _; rfl) : DEm F bb (.Call (.Name nm p) (e :: es) [] pos) s (ms.bind fun ds => M.up (φ ds)) := fun g d g' q => by
  obtain ⟨ds, g1, h1, q⟩ := M.bind_eq q
  obtain ⟨q', e⟩ := M.up_eq q
  clear q
  subst e
  have q := q'
  exact de_callTy hm hv (ha _ _ _ h1).1 (hr ds d q) hg hn hdb he hpl
def spFB (C : Kc) (φ : List D → M D) : Sp := spB C fun ds gs d gs' => φ ds gs = .ok (d, gs')
theorem me_bag [Calm F] {φ : List D → M D} {j : Nat} {x : Str} {q' : Pos} (cl : Cal F.P F.w F.C F.mg F.base k nm (spFB F.C φ)) (hj : s[j]? = some (some .bag)) (ha : DAm F bb es s ms) (hk : k ≤ F.k := by exact Nat.le_of_ble_eq_true rfl)
    (hN : ∀ i, (F.X i).N[j]? = some x := by intro _; rfl) (hv : ∀ i, Vis (F.X i).env.scope x := by intro _; first | exact Or.inl rfl | exact Or.inr (Or.inl rfl) | exact Or.inr (Or.inr rfl))
    (hd : (x == ("__debug__" : Str)) = false := by decide) (hcd : (x == ("__classdict__" : Str)) = false := by decide)
    (hgl : ∀ i, Gl (F.X i) nm := by intro _; rfl) (hdb : (nm == ("__debug__" : Str)) = false := by decide)
    (he : ∀ i, starEach (.Name x q' :: es) (F.X i).env = (false, eval (.Name x q') (F.X i).env) :: starEach es (F.X i).env := by intro _; rfl) (hpl : ∀ i, (backTo pos (starEach es (F.X i).env)).any (·.1) = false := by intro _; rfl) :
    DEm F bb (.Call (.Name nm p) (.Name x q' :: es) [] pos) s (ms.bind φ) := fun g d g' q => by
  obtain ⟨ds, g1, h1, q⟩ := M.bind_eq q
  exact de_callBag (S1 := gB s bb g1) cl hj rfl (ha _ _ _ h1).1 rfl q hk hN hv hd hcd hgl hdb he hpl
theorem p_callNew [Calm F] {S : ST} {φ : List D → M D} (cl : Cal F.P F.w F.C F.mg F.base k nm (spFB F.C φ)) (ha : DOp F e S os) (hk : k ≤ F.k := by exact Nat.le_of_ble_eq_true rfl)
    (hg : ∀ i, Gl (F.X i) nm := by intro _; rfl) (hdb : (nm == ("__debug__" : Str)) = false := by decide)
    (he : ∀ i, starEach [e] (F.X i).env = (false, eval e (F.X i).env) :: starEach [] (F.X i).env := by intro _; rfl) (hpl : ∀ i, (backTo pos (starEach [] (F.X i).env)).any (·.1) = false := by intro _; rfl) : DEp F (.Call (.Name nm p) [e] [] pos) S (os.bind fun gs => (φ [] gs).bind fun r => .ok r.1) := fun d q => by
  obtain ⟨gs, h1, q⟩ := O.bind_eq q
  obtain ⟨⟨r, g'⟩, h2, q⟩ := O.bind_eq q
  cases q
  exact de_callNew cl (ha gs h1) h2 hk hg hdb he hpl
theorem o_call [Calm F] {S : ST} {φ : List D → O (List D)} {os : O (List D)} (cl : Cal F.P F.w F.C F.mg F.base k nm (spFN F.C φ)) (ha : DAp F (e :: es) S os) (hk : k ≤ F.k := by exact Nat.le_of_ble_eq_true rfl)
    (hg : ∀ i, Gl (F.X i) nm := by intro _; rfl) (hdb : (nm == ("__debug__" : Str)) = false := by decide)
    (he : ∀ i, starEach (e :: es) (F.X i).env = (false, eval e (F.X i).env) :: starEach es (F.X i).env := by intro _; rfl) (hpl : ∀ i, (backTo pos (starEach es (F.X i).env)).any (·.1) = false := by intro _; rfl) : DOp F (.Call (.Name nm p) (e :: es) [] pos) S (os.bind φ) := fun d q => by
  obtain ⟨ds, h1, q⟩ := O.bind_eq q
  exact do_call cl (ha ds h1).1 q hk hg hdb he hpl
end
def lcM (f : D → M (Option D)) : List D → M (List D)
  | [] => M.ret []
  | d :: ds => (f d).bind fun o => (lcM f ds).bind fun r => M.ret (o.toList ++ r)
def sizedM {α : Type} (n : Nat) (m : M α) : M α := fun g => if n ≤ 1000000 then m g else .bad
theorem sizedM_eq {α : Type} {n : Nat} {m : M α} {g : List D} {r : α × List D} (h : sizedM n m g = .ok r) : n ≤ 1000000 ∧ m g = .ok r := by
  unfold sizedM at h
  by_cases hn : n ≤ 1000000
  · rw [if_pos hn] at h; exact ⟨hn, h⟩
  · rw [if_neg hn] at h; cases h
def mapM (f : D → M D) (ds : List D) : M (List D) := sizedM ds.length (lcM (fun d => (f d).bind fun x => M.ret (some x)) ds)
def filM (t : D → M Bool) (f : D → M D) (ds : List D) : M (List D) := sizedM ds.length (lcM (fun d => M.ite (t d) ((f d).bind fun x => M.ret (some x)) (M.ret none)) ds)
theorem lcM_take {f : D → M (Option D)} : ∀ {ds r : List D} {g g' : List D}, lcM f ds g = .ok (r, g') → ∀ i, ∃ r' g1, lcM f (ds.take i) g = .ok (r', g1)
  | ds, r, g, g', h, 0 => ⟨[], g, rfl⟩
  | [], r, g, g', h, i + 1 => ⟨[], g, rfl⟩
  | d :: ds, r, g, g', h, i + 1 => by
    obtain ⟨o, g1, h1, h⟩ := M.bind_eq (show M.bind _ _ g = _ from h)
    obtain ⟨r1, g2, h2, h⟩ := M.bind_eq h
    obtain ⟨r', g3, h3⟩ := lcM_take h2 i
    refine ⟨o.toList ++ r', g3, ?_⟩
    show M.bind (f d) _ g = _
    rw [M.bind_ap, h1]
    simp only [O.bind_ok, M.bind_ap, h3]
    rfl
theorem lcM_snoc {f : D → M (Option D)} {d : D} : ∀ {xs r : List D} {g g' : List D}, lcM f (xs ++ [d]) g = .ok (r, g') → ∀ {r1 g1}, lcM f xs g = .ok (r1, g1) → ∃ o, f d g1 = .ok (o, g') ∧ r = r1 ++ o.toList
  | [], r, g, g', h, r1, g1, h1 => by
    obtain ⟨o, g2, h2, h⟩ := M.bind_eq (show M.bind _ _ g = _ from h)
    obtain ⟨r2, g3, h3, h⟩ := M.bind_eq h
    obtain ⟨e1, e2⟩ := M.ret_eq (show M.ret [] g2 = _ from h3)
    obtain ⟨e3, e4⟩ := M.ret_eq h
    obtain ⟨e5, e6⟩ := M.ret_eq (show M.ret [] g = _ from h1)
    subst e1 e2 e3 e4 e5 e6
    exact ⟨o, h2, by simp⟩
  | x :: xs, r, g, g', h, r1, g1, h1 => by
    obtain ⟨o, g2, h2, h⟩ := M.bind_eq (show M.bind (f x) _ g = _ from h)
    obtain ⟨r2, g3, h3, h⟩ := M.bind_eq h
    obtain ⟨e3, e4⟩ := M.ret_eq h
    obtain ⟨o', g4, h4, h1⟩ := M.bind_eq (show M.bind (f x) _ g = _ from h1)
    rw [h2] at h4
    cases h4
    obtain ⟨r5, g5, h5, h1⟩ := M.bind_eq h1
    obtain ⟨e5, e6⟩ := M.ret_eq h1
    obtain ⟨o2, h6, e7⟩ := lcM_snoc h3 h5
    subst e3 e4 e5 e6 e7
    exact ⟨o2, h6, by simp⟩
theorem lcM_len {f : D → M (Option D)} : ∀ {xs r : List D} {g g' : List D}, lcM f xs g = .ok (r, g') → r.length ≤ xs.length
  | [], r, g, g', h => by obtain ⟨e1, e2⟩ := M.ret_eq (show M.ret [] g = _ from h); subst e1; exact Nat.le_refl _
  | d :: xs, r, g, g', h => by
    obtain ⟨o, g1, h1, h⟩ := M.bind_eq (show M.bind _ _ g = _ from h)
    obtain ⟨s, g2, h2, h⟩ := M.bind_eq h
    obtain ⟨e1, e2⟩ := M.ret_eq h
    have := lcM_len h2
    subst e1
    cases o <;> simp <;> omega
def LcM (F : Fam) (bb : Addr) (scope : Scope) (s : List (Option DV)) (elt tg iter : Expr) (ifs : List Expr) (own : List (Str × Nat)) (m : M (List D)) : Prop := ∀ g r g', m g = .ok (r, g') → EvO F.C (tLc (anyI F tg iter) (anyG (F.blk scope) tg) (anyTs (F.blk scope) ifs) (anyE (F.blk scope) elt) (own.map (·.2))) (gB s bb g) (gB s bb g') r
def DTsm (F : Fam) (bb : Addr) (ifs : List Expr) (s : List (Option DV)) (m : M Bool) : Prop := ∀ g d g', m g = .ok (d, g') → DTs F ifs (gB s bb g) (gB s bb g') d
theorem ev_lcMG {ifs : List Expr} {vs : List Nat} {j : Nat} {x : Str} {xp : Pos} {tt : D → M Bool} {el : D → M D} {ds r g g1 g' : List D} (hi : DI F (.Name x xp) iter (gB s bb g) (gB s bb g1) ds) (hn : noOwns s vs = true) (hj : j ∈ vs) (gn : ∀ (d : D) (S : ST), DG (F.blk scope) (.Name x xp) d S (S.set j d) [j])
    (ht : ∀ d, DTsm (F.blk scope) bb ifs ((hidS s vs).set j (some (.imm d))) (tt d)) (he : ∀ d, DEm (F.blk scope) bb elt ((hidS s vs).set j (some (.imm d))) (el d)) (hl : ds.length ≤ 1000000)
    (h : lcM (fun d => M.ite (tt d) ((el d).bind fun x => M.ret (some x)) (M.ret none)) ds g1 = .ok (r, g')) :
    EvO F.C (tLc (anyI F (.Name x xp) iter) (anyG (F.blk scope) (.Name x xp)) (anyTs (F.blk scope) ifs) (anyE (F.blk scope) elt) vs) (gB s bb g) (gB s bb g') r := by
  have key := lcM_take h
  obtain ⟨out, go, ho⟩ : ∃ (out go : Nat → List D), ∀ i, lcM (fun d => M.ite (tt d) ((el d).bind fun x => M.ret (some x)) (M.ret none)) (ds.take i) g1 = .ok (out i, go i) := ⟨fun i => (key i).choose, fun i => (key i).choose_spec.choose, fun i => (key i).choose_spec.choose_spec⟩
  have o0 : out 0 = [] ∧ go 0 = g1 := by
    have := ho 0
    rw [List.take_zero] at this
    obtain ⟨e1, e2⟩ := M.ret_eq (show M.ret [] g1 = _ from this)
    exact ⟨e1, e2⟩
  have oe : out ds.length = r ∧ go ds.length = g' := by
    have := ho ds.length
    rw [List.take_length, h] at this
    have := O.ok.inj this
    exact ⟨(Prod.mk.inj this).1.symm, (Prod.mk.inj this).2.symm⟩
  have := ev_lc (elt := elt) (ifs := ifs) (scope := scope) (vs0 := vs) hi (fun i => some (bb, .lst (go i))) out (by rw [o0.2]) o0.1 (fun _ => rfl) (fun i d hd => by
    have e1 := ho (i + 1)
    rw [take_one hd] at e1
    obtain ⟨o, e4, e3⟩ := lcM_snoc e1 (ho i)
    have hlt : i < ds.length := (List.getElem?_eq_some_iff.mp hd).1
    have hlen : (out i).length < sizeLine := Nat.lt_of_le_of_lt (lcM_len (ho i)) (by rw [List.length_take]; exact Nat.lt_of_le_of_lt (Nat.le_trans (Nat.min_le_left _ _) (Nat.le_trans (Nat.le_of_lt hlt) hl)) (by decide))
    obtain ⟨g2, ⟨z1, z2⟩ | ⟨z1, z2⟩⟩ := M.ite_eq e4
    · obtain ⟨y, g3, z3, z4⟩ := M.bind_eq z2
      obtain ⟨z5, z6⟩ := M.ret_eq z4
      subst z5 z6
      exact ⟨_, _, true, [j], gn d _, fun i z => by rw [List.mem_singleton.mp z]; exact hj, ht d _ _ _ z1, fun _ => ⟨_, y, he d _ _ _ z3, rfl, keep_name (S := gB s bb _) hn hj, e3, hlen⟩, fun z => nomatch z⟩
    · obtain ⟨z5, z6⟩ := M.ret_eq z2
      subst z5 z6
      exact ⟨_, _, false, [j], gn d _, fun i z => by rw [List.mem_singleton.mp z]; exact hj, ht d _ _ _ z1, fun z => (nomatch z), fun _ => ⟨rfl, keep_name (S := gB s bb _) hn hj, by rw [e3]; simp⟩⟩)
  rw [oe.1, oe.2] at this
  exact this
theorem lm_map {x : Str} {xp : Pos} {j : Nat} {own : List (Str × Nat)} {f : D → M D} (hi : DIm F bb (.Name x xp) iter s mi) (he : ∀ d, DEm (F.blk scope) bb elt ((hidS s (own.map (·.2))).set j (some (.imm d))) (f d)) (hn : noOwns s (own.map (·.2)) = true := by rfl) (hj : j ∈ own.map (·.2) := by decide)
    (gn : ∀ (d : D) (S : ST), DG (F.blk scope) (.Name x xp) d S (S.set j d) [j] := by intro _ _; exact dg_name) : LcM F bb scope s elt (.Name x xp) iter [] own (mi.bind (mapM f)) := fun g r g' q => by
  obtain ⟨ds, g1, h1, q⟩ := M.bind_eq q
  obtain ⟨h2, q⟩ := sizedM_eq q
  exact ev_lcMG (tt := fun _ => M.ret true) (hi _ _ _ h1) hn hj gn (fun d g d' g' z => by obtain ⟨e1, e2⟩ := M.ret_eq z; subst e1 e2; exact dts_nil) he h2 q
theorem lm_fil {x : Str} {xp : Pos} {j : Nat} {own : List (Str × Nat)} {k : D → M Bool} {f : D → M D} (hi : DIm F bb (.Name x xp) iter s mi) (ht : ∀ d, DTm (F.blk scope) bb c ((hidS s (own.map (·.2))).set j (some (.imm d))) (k d)) (he : ∀ d, DEm (F.blk scope) bb elt ((hidS s (own.map (·.2))).set j (some (.imm d))) (f d)) (hn : noOwns s (own.map (·.2)) = true := by rfl) (hj : j ∈ own.map (·.2) := by decide)
    (gn : ∀ (d : D) (S : ST), DG (F.blk scope) (.Name x xp) d S (S.set j d) [j] := by intro _ _; exact dg_name) : LcM F bb scope s elt (.Name x xp) iter [c] own (mi.bind (filM k f)) := fun g r g' q => by
  obtain ⟨ds, g1, h1, q⟩ := M.bind_eq q
  obtain ⟨h2, q⟩ := sizedM_eq q
  exact ev_lcMG (hi _ _ _ h1) hn hj gn (fun d g d' g' z => dts_one (ht d _ _ _ z)) he h2 q
theorem mo_lc [Calm F] {ifs : List Expr} {own : List (Str × Nat)} (ok : ∀ i, BlkOk (F.X i).N (F.X i).env.scope scope own) (h : LcM F bb scope s elt tg iter ifs own ms) (hs : ∀ i x, foldedSetIterable iter (F.X i).env x = pure x := by intro _ _; rfl) : DOm F bb (.ListComp elt [⟨tg, iter, ifs, 0⟩] scope pos) s ms := fun g r g' q =>
  do_of (fun i => pe_lc (F.calm i) (by rw [F.hN i]; exact F.nd) (anyI_ok i) (ok i) (fun s H C cl fp => anyG_ok (F := F.blk scope) (i, s, H, C, cl, fp)) (fun s H C cl fp => anyTs_ok (F := F.blk scope) (i, s, H, C, cl, fp)) (fun s H C cl fp => anyE_ok (F := F.blk scope) (i, s, H, C, cl, fp)) (hs i)) (h g r g' q)
def MF (bb : Addr) : D × List D → Po := fun r => { rt := fun d S => d = r.1 ∧ S.g = some (bb, .lst r.2), nx := fun S => r.1 = .non ∧ S.g = some (bb, .lst r.2) }
abbrev mkB (bb : Addr) (mk : T → List (Option DV)) : T × List D → ST := fun x => gB (mk x.1) bb x.2
def forM (f : T → D → M T) (ds : List D) (t : T) : M T := fun g => forO (fun x d => f x.1 d x.2) ds (t, g)
@[simp] theorem forM_nil (f : T → D → M T) (t : T) : forM f [] t = M.ret t := rfl
@[simp] theorem forM_cons (f : T → D → M T) (d : D) (ds : List D) (t : T) : forM f (d :: ds) t = (f t d).bind fun t' => forM f ds t' := rfl
theorem m_fz {j : Nat} {mo : MO} {m : M R} (hj : s[j]? = some (some (.own mo))) (h : DSm F bb sts (s.set j (some (.imm (dOf mo)))) m P) : DSm F bb sts s m P := fun g => k_fz (S := gB s bb g) hj (h g)
theorem m_retA {P : D × List D → Po} (h : DEm F bb e s me) (hP : ∀ d g, (P (d, g)).rt d (gB s bb g) := by intro _ _; exact ⟨rfl, rfl⟩) : DSm F bb (.Return (some e) pos :: rest) s me P := fun g r q => by
  obtain ⟨d, g'⟩ := r
  exact ds_ret (h _ _ _ q) (hP _ _)
theorem m_set {j : Nat} {x : Str} {pos' : Pos} {mr : D → M R} (he : DEm F bb e s me) (hr : ∀ d, DSm F bb rest (s.set j (some (.imm d))) (mr d) P) (hN : ∀ i, (F.X i).N[j]? = some x := by intro _; rfl) (hx : ∀ i, Loc (F.X i).env.scope x := by intro _; first | exact Or.inl rfl | exact Or.inr rfl)
    (hs : ∀ i, swapsWith e (some (.Name x pos')) pos.line (F.X i).env = pure false := by intro _; rfl) (hf : ∀ i, (F.X i).fn x = true ∨ (F.X i).env.scope.names.lookup x = some .local := by intro _; first | exact .inl rfl | exact .inr rfl) : DSm F bb (.Assign [.Name x pos'] e pos :: rest) s (me.bind mr) P := fun g r q => by
  obtain ⟨d, g1, h1, q⟩ := M.bind_eq q
  exact ds_set (he _ _ _ h1) (hr d g1 r q) hN hx hs hf
theorem m_append {j : Nat} {x : Str} {gs : List D} {mr : D → M R} (he : DEm F bb e s me) (hj : s[j]? = some (some (.own (.lst gs)))) (hr : ∀ d, DSm F bb rest (s.set j (some (.own (.lst (gs ++ [d]))))) (mr d) P)
    (hp : ∀ i, PE (F.X i) (.Call (.Attribute (.Name x q1) "append" apos) [e] [] cpos) (tBM (F.X i).K "list" rAppend (tVar j) (tCons (anyE F e) tNil)) := by
      intro i; exact pe_bm PySem.F.plainAttrs_list PySem.F.slot_list_append PySem.F.type_list_append mt_append (pv _) (pa_cons (anyE_ok i) pa_nil))
    (hs : ∀ i, swapsWith (.Call (.Attribute (.Name x q1) "append" apos) [e] [] cpos) none pos.line (F.X i).env = pure false := by intro _; rfl) : DSm F bb (.Expr (.Call (.Attribute (.Name x q1) "append" apos) [e] [] cpos) pos :: rest) s (me.bind fun d => sizedM gs.length (mr d)) P := fun g r q => by
  obtain ⟨d, g1, h1, q⟩ := M.bind_eq q
  obtain ⟨h2, q⟩ := sizedM_eq q
  exact ds_append (S := gB s bb g) (S1 := gB s bb g1) (he _ _ _ h1) ⟨gs, hj⟩ hj (hr d g1 r q) (Nat.lt_of_le_of_lt h2 (by decide)) hp hs
theorem m_ifr {m1 m2 : M R} (ht : DTm F bb c s mt) (h1 : DSm F bb t s m1 (fun r => { P r with nx := fun _ => False })) (h2 : DSm F bb rest s m2 P) : DSm F bb (.If c t [] pos :: rest) s (M.ite mt m1 m2) P := fun g r q => by
  obtain ⟨r, g'⟩ := r
  obtain ⟨g1, ⟨h3, q⟩ | ⟨h3, q⟩⟩ := M.ite_eq q
  · exact ds_ifr (k := true) (ht _ _ _ h3) (fun _ => h1 g1 _ q) (fun z => nomatch z)
  · exact ds_ifr (k := false) (ht _ _ _ h3) (fun z => nomatch z) (fun _ => h2 g1 _ q)
theorem m_ifj (mk : T → List (Option DV)) {n1 n2 : M T} {mr : T → M R} (ht : DTm F bb c s mt) (h1 : DSm F bb t s n1 (PJ (mkB bb mk))) (h2 : DSm F bb u s n2 (PJ (mkB bb mk))) (hr : ∀ x, DSm F bb rest (mk x) (mr x) P) : DSm F bb (.If c t u pos :: rest) s ((M.ite mt n1 n2).bind mr) P := fun g r q => by
  obtain ⟨x, g2, q1, q⟩ := M.bind_eq (g' := r.2) (b := r.1) q
  obtain ⟨g1, ⟨h3, q1⟩ | ⟨h3, q1⟩⟩ := M.ite_eq q1
  · exact ds_if (fun S' => Wk S' (gB (mk x) bb g2)) (k := true) (ht _ _ _ h3) (fun _ => ds_mono (h1 g1 (x, g2) q1) (fun _ z => z) (fun _ _ z => z.elim) (fun _ z => z.elim) (fun _ z => z.elim) (fun _ _ z => z.elim)) (fun z => nomatch z) (fun _ z => ds_wk z (hr x g2 r q))
  · exact ds_if (fun S' => Wk S' (gB (mk x) bb g2)) (k := false) (ht _ _ _ h3) (fun z => nomatch z) (fun _ => ds_mono (h2 g1 (x, g2) q1) (fun _ z => z) (fun _ _ z => z.elim) (fun _ z => z.elim) (fun _ z => z.elim) (fun _ _ z => z.elim)) (fun _ z => ds_wk z (hr x g2 r q))
theorem m_nilJ {mk : T → List (Option DV)} {x : T} (w : WkL s (mk x)) : DSm F bb [] s (M.ret x) (PJ (mkB bb mk)) := fun g => k_nilJ (mk := mkB bb mk) (x := (x, g)) ⟨w, rfl⟩
theorem m_nilB {mk : T → List (Option DV)} {x : T} (w : WkL s (mk x)) : DSm F bb [] s (M.ret x) (PB (mkB bb mk)) := fun g => k_nilB (mk := mkB bb mk) (x := (x, g)) ⟨w, rfl⟩
theorem m_for1 (mk : T → List (Option DV)) {t0 : T} {x : Str} {xp : Pos} {j : Nat} {mo : T → D → M T} {mr : T → M R} (hi : DIm F bb (.Name x xp) iter s mi) (w : WkL s (mk t0)) (hb : ∀ t d, DSm F bb body ((mk t).set j (some (.imm d))) (mo t d) (PB (mkB bb mk))) (hr : ∀ t, DSm F bb rest (mk t) (mr t) P)
    (g1 : ∀ (d : D) (S : ST), DG F (.Name x xp) d S (S.set j d) [j] := by intro _ _; exact dg_name)
    (hp : ∀ i, PassesOwn (model (F.X i).prog (F.X i).w) (F.X i).A (F.X i).env (F.X i).xe := by intro _; exact PassesOwn.never)
    (hf : ∀ i, PS (F.X i) (.For (.Name x xp) iter body [] pos) (tFor (anyI F (.Name x xp) iter) (anyG F (.Name x xp)) (anyS F body)) := by intro i; exact ps_for PassesOwn.never (Fam.calm _ i) (anyI_ok i) (anyG_ok i) (anyS_ok i)) :
    DSm F bb (.For (.Name x xp) iter body [] pos :: rest) s (mi.bind fun ds => (forM mo ds t0).bind mr) P := fun g r q => by
  obtain ⟨ds, ga, h1, q⟩ := M.bind_eq (g' := r.2) (b := r.1) q
  obtain ⟨te, gb, h2, q⟩ := M.bind_eq q
  have h2' : forO (fun (x : T × List D) d => mo x.1 d x.2) ds (t0, ga) = .ok (te, gb) := h2
  refine ds_for (fun i S' => ∃ x, forO (fun (x : T × List D) d => mo x.1 d x.2) (ds.take i) (t0, ga) = .ok x ∧ Wk S' (gB (mk x.1) bb x.2)) (fun S' => Wk S' (gB (mk te) bb gb)) (hi _ _ _ h1) ⟨(t0, ga), rfl, ⟨w, rfl⟩⟩ (fun i S' d hd hI => ?_) (fun S' hI => ?_) (fun S' z => ds_wk z (hr te gb r q)) hp hf
  · obtain ⟨x, e1, wx⟩ := hI
    obtain ⟨x', e2⟩ := forO_take h2' (i + 1)
    have e3 := e2
    rw [take_one hd, forO_append, e1] at e3
    obtain ⟨x2, e4, e5⟩ := O.bind_eq (show (mo x.1 d x.2).bind (fun t' => forO _ [] t') = _ from e3)
    cases e5
    refine ⟨_, [j], dg_wk wx (g1 d _), ds_mono (hb x.1 d x.2 x' e4) (fun S2 z => ⟨_, e2, z⟩) (fun _ _ z => z.elim) (fun _ z => z.elim) (fun S2 z => ⟨_, e2, z⟩) (fun _ _ z => z.elim)⟩
  · obtain ⟨x, e1, wx⟩ := hI
    rw [List.take_length, h2'] at e1
    cases e1
    exact wx
def bagIx (ob : O D) : M D := fun g => (ob.bind fun y => ix (.lst g) y).bind fun d => .ok (d, g)
@[simp] theorem bagIx_ap (ob : O D) (g : List D) : bagIx ob g = (ob.bind fun y => ix (.lst g) y).bind fun d => .ok (d, g) := rfl
theorem e_bagIx {j : Nat} {x : Str} {ob : O D} (hj : s[j]? = some (some .bag)) (hb : ∀ g, DEp F b (gB s bb g) ob) (hs : PlainIx b := by intro _ _; rfl)
    (hN : ∀ i, (F.X i).N[j]? = some x := by intro _; rfl) (hv : ∀ i, Vis (F.X i).env.scope x := by intro _; first | exact Or.inl rfl | exact Or.inr (Or.inl rfl) | exact Or.inr (Or.inr rfl))
    (hd : (x == ("__debug__" : Str)) = false := by decide) (hcd : (x == ("__classdict__" : Str)) = false := by decide) : DEm F bb (.Subscript (.Name x p) b pos) s (bagIx ob) := fun g d g' q => by
  obtain ⟨z, q1, q⟩ := O.bind_eq (show O.bind _ _ = _ from q)
  cases q
  obtain ⟨y, h2, q1⟩ := O.bind_eq q1
  cases y with
  | int i =>
    obtain ⟨z, h3, q2⟩ := op2_eq (show op2 (atI g i) O.ok = _ from q1)
    cases q2
    exact de_bagIx (S := gB s bb g) (S1 := gB s bb g) hj (hb g _ h2) rfl rfl h3 hs hN hv hd hcd
  | _ => cases q1
theorem m_bagSet {j : Nat} {x : Str} {i : Int} {mr : M R} (he : DEm F bb e s me) (hj : s[j]? = some (some .bag)) (hb : ∀ g, DEp F b (gB s bb g) (.ok (.int i))) (hr : DSm F bb rest s mr P)
    (hN : ∀ i, (F.X i).N[j]? = some x := by intro _; rfl) (hv : ∀ i, Vis (F.X i).env.scope x := by intro _; first | exact Or.inl rfl | exact Or.inr (Or.inl rfl) | exact Or.inr (Or.inr rfl))
    (hd : (x == ("__debug__" : Str)) = false := by decide) (hcd : (x == ("__classdict__" : Str)) = false := by decide)
    (hp : ∀ i, PS (F.X i) (.Assign [.Subscript (.Name x q1) b p] e pos) (tAsg (anyE F e) (gSub (tVar j) (anyE F b) rSetL)) := by
      intro i; exact ps_asg (anyE_ok i) (pg_sub (pv _) (anyE_ok i) set_list)) :
    DSm F bb (.Assign [.Subscript (.Name x q1) b p] e pos :: rest) s (me.bind fun d g => op2 (ixN g.length i) fun n => mr (g.set n d)) P := fun g r q => by
  obtain ⟨d, g1, h1, q⟩ := M.bind_eq (g' := r.2) (b := r.1) q
  obtain ⟨n, h3, q⟩ := op2_eq q
  exact ds_bagSet (S1 := gB s bb g1) (he _ _ _ h1) hj (hb g1 _ rfl) rfl h3 (hr _ r q) hN hv hd hcd hp
theorem vm_e (h : DEm F bb e s me) : DVm F bb e s kI me := fun g x g' q => evv_m (h _ _ _ q)
theorem vm_o (h : DOm F bb e s ms) : DVm F bb e s kL ms := fun g x g' q => evv_o (h _ _ _ q)
theorem m_par2 [Calm F] {κ : α → DV} {κ' : β → DV} {m1 : M α} {m2 : M β} {i j : Nat} {n1 n2 : Str} {px py pt : Pos} {kt k2 : Nat} {pt2 : Pos} {mr : α → β → M R} (ha : DVm F bb a s κ m1) (hb : DVm F bb b s κ' m2) (hr : ∀ x y, DSm F bb rest ((s.set i (some (κ x))).set j (some (κ' y))) (mr x y) P)
    (hi : i < s.length := by exact Nat.le_of_ble_eq_true rfl) (hj : j < s.length := by exact Nat.le_of_ble_eq_true rfl) (h1 : ∀ l, (F.X l).N[i]? = some n1 := by intro _; rfl) (h2 : ∀ l, (F.X l).N[j]? = some n2 := by intro _; rfl) (hij : i ≠ j := by decide)
    (hx : ∀ l, (F.X l).env.scope.names.lookup n1 = some .local := by intro _; rfl) (hy : ∀ l, (F.X l).env.scope.names.lookup n2 = some .local := by intro _; rfl)
    (hw : ∀ l, swappedStores [.Tuple [.Name n1 px, .Name n2 py] kt pt] (.Tuple [a, b] k2 pt2) (F.X l).env = pure (some [n1, n2]) := by intro _; rfl)
    (hs : ∀ l, swapsWithSole [.Tuple [.Name n1 px, .Name n2 py] kt pt] (.Tuple [a, b] k2 pt2) pos.line (F.X l).env = pure false := by intro _; rfl)
    (hst : ∀ i, starEach [a, b] (F.X i).env = (false, eval a (F.X i).env) :: starEach [b] (F.X i).env := by intro _; rfl) (hst2 : ∀ i, starEach [b] (F.X i).env = (false, eval b (F.X i).env) :: starEach [] (F.X i).env := by intro _; rfl) :
    DSm F bb (.Assign [.Tuple [.Name n1 px, .Name n2 py] kt pt] (.Tuple [a, b] k2 pt2) pos :: rest) s (m1.bind fun x => m2.bind fun y => mr x y) P := fun g r q => by
  obtain ⟨x, ga, q1, q⟩ := M.bind_eq (g' := r.2) (b := r.1) q
  obtain ⟨y, gb, q2, q⟩ := M.bind_eq q
  refine ds_cons (M := fun S3 => S3 = gB ((s.set i (some (κ x))).set j (some (κ' y))) bb gb) (d1_of (te := tPar i j (tCons (anyE F a) (tCons (anyE F b) tNil))) (fun l => ps_par (F.calm l) (by rw [F.hN l]; exact F.nd) (h1 l) (h2 l) hij (hx l) (hy l) (pa_cons (anyE_ok l) (pa_cons (anyE_ok l) pa_nil (hst2 l)) (hst l)) (hw l) (hs l)) ?_) fun _ z => z ▸ hr x y gb r q
  intro σ G H c E m
  exact par2 c (ha _ _ _ q1) (hb _ _ _ q2) hi hj fun v w G2 H2 _ mw => ⟨v, w, rfl, m.nx _ _ _ _ mw rfl⟩
theorem m_parT2 {κ : α → DV} {κ' : β → DV} {m1 : M α} {m2 : M β} {i j : Nat} {n1 n2 : Str} {px py pt : Pos} {kt k2 : Nat} {pt2 : Pos} {mr : α → β → M R} (ha : DVm F bb a s κ m1) (hb : DVm F bb b s κ' m2) (hr : ∀ x y, DSm F bb rest ((s.set i (some (κ x))).set j (some (κ' y))) (mr x y) P)
    (hi : i < s.length := by exact Nat.le_of_ble_eq_true rfl) (hj : j < s.length := by exact Nat.le_of_ble_eq_true rfl)
    (hp : ∀ o, PS (F.X o) (.Assign [.Tuple [.Name n1 px, .Name n2 py] kt pt] (.Tuple [a, b] k2 pt2) pos) (tAsg (tTup (tCons (anyE F a) (tCons (anyE F b) tNil))) (gTup (F.X o).K 2 (gCons (gName i) (gCons (gName j) gNil)))) := by
      intro o; exact ps_asg (pe_tup (pa_cons (anyE_ok o) (pa_cons (anyE_ok o) pa_nil))) (pg_tup (Fam.calm _ o) (pgs_cons (pg_name (Fam.ndX _ o) rfl (by first | exact Or.inl rfl | exact Or.inr rfl)) (pgs_cons (pg_name (Fam.ndX _ o) rfl (by first | exact Or.inl rfl | exact Or.inr rfl)) pgs_nil)))) :
    DSm F bb (.Assign [.Tuple [.Name n1 px, .Name n2 py] kt pt] (.Tuple [a, b] k2 pt2) pos :: rest) s (m1.bind fun x => m2.bind fun y => mr x y) P := fun g r q => by
  obtain ⟨x, ga, q1, q⟩ := M.bind_eq (g' := r.2) (b := r.1) q
  obtain ⟨y, gb, q2, q⟩ := M.bind_eq q
  refine ds_cons (M := fun S3 => S3 = gB ((s.set i (some (κ x))).set j (some (κ' y))) bb gb) (d1_of (te := tAsg (tTup (tCons (anyE F a) (tCons (anyE F b) tNil))) (gTup F.C.K 2 (gCons (gName i) (gCons (gName j) gNil)))) (fun o => by have := hp o; rw [F.hK o] at this; exact this) ?_) fun _ z => z ▸ hr x y gb r q
  intro σ G H c E m
  exact par2 c (ha _ _ _ q1) (hb _ _ _ q2) hi hj fun v w G2 H2 _ mw => ⟨by show 2 ≤ sizeLine; decide, fun p hp => ⟨p, [v, w], rfl, SqT.of upd_same, rfl, v, [w], rfl, w, [], rfl, rfl, m.nx _ _ _ _ (mw.side hp) rfl⟩⟩
theorem m_par3 {κ : α → DV} {κ' : β → DV} {κ'' : γ → DV} {m1 : M α} {m2 : M β} {m3 : M γ} {i j l : Nat} {n1 n2 n3 : Str} {px py pz pt : Pos} {kt k2 : Nat} {pt2 : Pos} {mr : α → β → γ → M R} (ha : DVm F bb a s κ m1) (hb : DVm F bb b s κ' m2) (hc : DVm F bb c s κ'' m3) (hr : ∀ x y z, DSm F bb rest (((s.set i (some (κ x))).set j (some (κ' y))).set l (some (κ'' z))) (mr x y z) P)
    (hi : i < s.length := by exact Nat.le_of_ble_eq_true rfl) (hj : j < s.length := by exact Nat.le_of_ble_eq_true rfl) (hl : l < s.length := by exact Nat.le_of_ble_eq_true rfl)
    (hp : ∀ o, PS (F.X o) (.Assign [.Tuple [.Name n1 px, .Name n2 py, .Name n3 pz] kt pt] (.Tuple [a, b, c] k2 pt2) pos) (tPar3 i j l (tCons (anyE F a) (tCons (anyE F b) (tCons (anyE F c) tNil)))) := by
      intro o; exact ps_par3 (Fam.calm _ o) (Fam.ndX _ o) rfl rfl rfl (by decide) (by decide) (by decide) rfl rfl rfl (pa_cons (anyE_ok o) (pa_cons (anyE_ok o) (pa_cons (anyE_ok o) pa_nil))) rfl) :
    DSm F bb (.Assign [.Tuple [.Name n1 px, .Name n2 py, .Name n3 pz] kt pt] (.Tuple [a, b, c] k2 pt2) pos :: rest) s (m1.bind fun x => m2.bind fun y => m3.bind fun z => mr x y z) P := fun g r q => by
  obtain ⟨x, ga, q1, q⟩ := M.bind_eq (g' := r.2) (b := r.1) q
  obtain ⟨y, gb, q2, q⟩ := M.bind_eq q
  obtain ⟨z, gc, q3, q⟩ := M.bind_eq q
  refine ds_cons (M := fun S3 => S3 = gB (((s.set i (some (κ x))).set j (some (κ' y))).set l (some (κ'' z))) bb gc) (d1_of (te := tPar3 i j l (tCons (anyE F a) (tCons (anyE F b) (tCons (anyE F c) tNil)))) hp ?_) fun _ zz => zz ▸ hr x y z gc r q
  intro σ G H cx E m
  exact par3 cx (ha _ _ _ q1) (hb _ _ _ q2) (hc _ _ _ q3) hi hj hl fun u v w G2 H2 mw => ⟨u, v, w, rfl, m.nx _ _ _ _ mw rfl⟩
theorem m_parT3 {κ : α → DV} {κ' : β → DV} {κ'' : γ → DV} {m1 : M α} {m2 : M β} {m3 : M γ} {i j l : Nat} {n1 n2 n3 : Str} {px py pz pt : Pos} {kt k2 : Nat} {pt2 : Pos} {mr : α → β → γ → M R} (ha : DVm F bb a s κ m1) (hb : DVm F bb b s κ' m2) (hc : DVm F bb c s κ'' m3) (hr : ∀ x y z, DSm F bb rest (((s.set i (some (κ x))).set j (some (κ' y))).set l (some (κ'' z))) (mr x y z) P)
    (hi : i < s.length := by exact Nat.le_of_ble_eq_true rfl) (hj : j < s.length := by exact Nat.le_of_ble_eq_true rfl) (hl : l < s.length := by exact Nat.le_of_ble_eq_true rfl)
    (hp : ∀ o, PS (F.X o) (.Assign [.Tuple [.Name n1 px, .Name n2 py, .Name n3 pz] kt pt] (.Tuple [a, b, c] k2 pt2) pos) (tAsg (tTup (tCons (anyE F a) (tCons (anyE F b) (tCons (anyE F c) tNil)))) (gTup (F.X o).K 3 (gCons (gName i) (gCons (gName j) (gCons (gName l) gNil))))) := by
      intro o; exact ps_asg (pe_tup (pa_cons (anyE_ok o) (pa_cons (anyE_ok o) (pa_cons (anyE_ok o) pa_nil)))) (pg_tup (Fam.calm _ o) (pgs_cons (pg_name (Fam.ndX _ o) rfl (by first | exact Or.inl rfl | exact Or.inr rfl)) (pgs_cons (pg_name (Fam.ndX _ o) rfl (by first | exact Or.inl rfl | exact Or.inr rfl)) (pgs_cons (pg_name (Fam.ndX _ o) rfl (by first | exact Or.inl rfl | exact Or.inr rfl)) pgs_nil))))) :
    DSm F bb (.Assign [.Tuple [.Name n1 px, .Name n2 py, .Name n3 pz] kt pt] (.Tuple [a, b, c] k2 pt2) pos :: rest) s (m1.bind fun x => m2.bind fun y => m3.bind fun z => mr x y z) P := fun g r q => by
  obtain ⟨x, ga, q1, q⟩ := M.bind_eq (g' := r.2) (b := r.1) q
  obtain ⟨y, gb, q2, q⟩ := M.bind_eq q
  obtain ⟨z, gc, q3, q⟩ := M.bind_eq q
  refine ds_cons (M := fun S3 => S3 = gB (((s.set i (some (κ x))).set j (some (κ' y))).set l (some (κ'' z))) bb gc) (d1_of (te := tAsg (tTup (tCons (anyE F a) (tCons (anyE F b) (tCons (anyE F c) tNil)))) (gTup F.C.K 3 (gCons (gName i) (gCons (gName j) (gCons (gName l) gNil))))) (fun o => by have := hp o; rw [F.hK o] at this; exact this) ?_) fun _ zz => zz ▸ hr x y z gc r q
  intro σ G H cx E m
  exact par3 cx (ha _ _ _ q1) (hb _ _ _ q2) (hc _ _ _ q3) hi hj hl fun u v w G2 H2 mw => ⟨by show 3 ≤ sizeLine; decide, fun p hp => ⟨p, [u, v, w], rfl, SqT.of upd_same, rfl, u, [v, w], rfl, v, [w], rfl, w, [], rfl, rfl, m.nx _ _ _ _ (mw.side hp) rfl⟩⟩
theorem m_asg2 [Calm F] {i j k2 : Nat} {n1 n2 : Str} {px py pt : Pos} {mr : D → D → M R} (he : DEm F bb e s me) (hr : ∀ x y, DSm F bb rest ((s.set i (some (.imm x))).set j (some (.imm y))) (mr x y) P)
    (g1 : ∀ (d : D) (S : ST), DG F (.Name n1 px) d S (S.set i d) [i] := by intro _ _; exact dg_name) (g2 : ∀ (d : D) (S : ST), DG F (.Name n2 py) d S (S.set j d) [j] := by intro _ _; exact dg_name)
    (ho : ∀ o, PS (F.X o) (.Assign [.Tuple [.Name n1 px, .Name n2 py] k2 pt] e pos) (tAsg (anyE F e) (anyG F (.Tuple [.Name n1 px, .Name n2 py] k2 pt))) := by intro o; exact ps_asg (anyE_ok o) (anyG_ok o)) :
    DSm F bb (.Assign [.Tuple [.Name n1 px, .Name n2 py] k2 pt] e pos :: rest) s (me.bind fun d g => un2 d fun x y => mr x y g) P := fun g r q => by
  obtain ⟨d, ga, q1, q⟩ := M.bind_eq (g' := r.2) (b := r.1) q
  obtain ⟨x, y, hd, q⟩ := un2_eq q
  exact ds_asg (he _ _ _ q1) (dg_un2 (y := (x, y)) (by rcases hd with rfl | rfl <;> rfl) g1 g2) (hr x y ga r q) ho
theorem m_asg3 [Calm F] {i j l k2 : Nat} {n1 n2 n3 : Str} {px py pz pt : Pos} {mr : D → D → D → M R} (he : DEm F bb e s me) (hr : ∀ x y z, DSm F bb rest (((s.set i (some (.imm x))).set j (some (.imm y))).set l (some (.imm z))) (mr x y z) P)
    (g1 : ∀ (d : D) (S : ST), DG F (.Name n1 px) d S (S.set i d) [i] := by intro _ _; exact dg_name) (g2 : ∀ (d : D) (S : ST), DG F (.Name n2 py) d S (S.set j d) [j] := by intro _ _; exact dg_name) (g3 : ∀ (d : D) (S : ST), DG F (.Name n3 pz) d S (S.set l d) [l] := by intro _ _; exact dg_name)
    (ho : ∀ o, PS (F.X o) (.Assign [.Tuple [.Name n1 px, .Name n2 py, .Name n3 pz] k2 pt] e pos) (tAsg (anyE F e) (anyG F (.Tuple [.Name n1 px, .Name n2 py, .Name n3 pz] k2 pt))) := by intro o; exact ps_asg (anyE_ok o) (anyG_ok o)) :
    DSm F bb (.Assign [.Tuple [.Name n1 px, .Name n2 py, .Name n3 pz] k2 pt] e pos :: rest) s (me.bind fun d g => un3 d fun x y z => mr x y z g) P := fun g r q => by
  obtain ⟨d, ga, q1, q⟩ := M.bind_eq (g' := r.2) (b := r.1) q
  obtain ⟨x, y, z, hd, q⟩ := un3_eq q
  exact ds_asg (he _ _ _ q1) (dg_un3 (y := (x, y, z)) (by rcases hd with rfl | rfl <;> rfl) g1 g2 g3) (hr x y z ga r q) ho
end
section
variable {P : Program} {w : World} {C : Kc} {mg : Str → Option Value} {base : Heap} {x qual : Str} {st : Stmt} {f : Addr} {fd : FuncData} {N ps : List Str} {k : Nat} {n : Str} {φ : List D → M D}
theorem fxB (F : Fun C.K x qual st f fd) (Sc : FnScope (n :: N) ps (defScope st)) (len : ∀ ds g r, φ ds g = .ok r → ds.length + 1 = ps.length)
    (body : ∀ b cdv A outer s H E hr ds, DSm (famD C mg base (n :: N) Sc.nd qual (defScope st) f cdv A outer s H E k hr) b (defBody st) (DL.startB (n :: N) ds) (φ ds) (MF b)) : FnOk C.P C.w C.K mg base CX0 (k + 1) f fd ps (spFB C φ) :=
  fnB F Sc (fun ds gs d gs' h => len ds gs _ h) fun ds gs d gs' h b cdv A outer s H E hr => body b cdv A outer s H E hr ds gs (d, gs') h
end
def m0 (f : M D) (ds : List D) : M D := fun g => match ds with
  | [] => f g
  | _ => .bad
def m1 (f : D → M D) (ds : List D) : M D := fun g => match ds with
  | [a] => f a g
  | _ => .bad
def m2 (f : D → D → M D) (ds : List D) : M D := fun g => match ds with
  | [a, b] => f a b g
  | _ => .bad
def m3 (f : D → D → D → M D) (ds : List D) : M D := fun g => match ds with
  | [a, b, c] => f a b c g
  | _ => .bad
def m4 (f : D → D → D → D → M D) (ds : List D) : M D := fun g => match ds with
  | [a, b, c, d] => f a b c d g
  | _ => .bad
@[simp] theorem m0_ap (f : M D) : m0 f [] = f := rfl
@[simp] theorem m1_ap (f : D → M D) (a : D) : m1 f [a] = f a := rfl
@[simp] theorem m2_ap (f : D → D → M D) (a b : D) : m2 f [a, b] = f a b := rfl
@[simp] theorem m3_ap (f : D → D → D → M D) (a b c : D) : m3 f [a, b, c] = f a b c := rfl
@[simp] theorem m4_ap (f : D → D → D → D → M D) (a b c d : D) : m4 f [a, b, c, d] = f a b c d := rfl
theorem m0_len {f : M D} {ds g : List D} {r : D × List D} (h : m0 f ds g = .ok r) : ds.length = 0 := by unfold m0 at h; split at h <;> first | rfl | cases h
theorem m1_len {f : D → M D} {ds g : List D} {r : D × List D} (h : m1 f ds g = .ok r) : ds.length = 1 := by unfold m1 at h; split at h <;> first | rfl | cases h
theorem m2_len {f : D → D → M D} {ds g : List D} {r : D × List D} (h : m2 f ds g = .ok r) : ds.length = 2 := by unfold m2 at h; split at h <;> first | rfl | cases h
section
variable {F : Fam} {bb : Addr} {sts : List Stmt} {P : D × List D → Po} {S : List D → List (Option DV)}
theorem am0 {f : M D} (h : DSm F bb sts (S []) f P) : ∀ ds, DSm F bb sts (S ds) (m0 f ds) P := fun ds g r q => by
  unfold m0 at q; split at q
  · exact h g r q
  · cases q
theorem am1 {f : D → M D} (h : ∀ a, DSm F bb sts (S [a]) (f a) P) : ∀ ds, DSm F bb sts (S ds) (m1 f ds) P := fun ds g r q => by
  unfold m1 at q; split at q
  · exact h _ g r q
  · cases q
theorem am2 {f : D → D → M D} (h : ∀ a b, DSm F bb sts (S [a, b]) (f a b) P) : ∀ ds, DSm F bb sts (S ds) (m2 f ds) P := fun ds g r q => by
  unfold m2 at q; split at q
  · exact h _ _ g r q
  · cases q
end
end SL
namespace SL
open PySem L2 DL
variable [TabL]
def clsName : Nat → Str
  | 0 => "Ratio"
  | 1 => "Fold"
  | 2 => "Raisin"
  | 3 => "Way"
  | 4 => "Watch"
  | 5 => "Track"
  | 6 => "Console"
  | _ => "?"
def clsFields : Nat → List Str
  | 0 => ["top", "bottom"]
  | 1 => ["cells"]
  | 2 => ["place", "side"]
  | 3 => ["lead", "ring"]
  | 4 => ["letters", "moves", "good"]
  | 5 => ["cells", "is_odd", "begin"]
  | 6 => ["fold", "colours"]
  | _ => []
def tyNames : List String := ["NoneType", "bool", "int", "str", "tuple", "list", "dict"]
def isiNames : List String := ["int", "bool", "str", "tuple"]
def bltNames : List Str := ["isinstance", "len", "int", "bool", "str", "tuple", "list", "range", "enumerate", "abs", "max", "min", "all", "any", "sum", "repr", "sorted", "set", "dict", "zip"]
structure Tx (C : Kc) (mg : Str → Option Value) : Prop where
  nb : ∀ n ∈ bltNames, mg n = none
  cn : ∀ c, C.has c = true → mg (clsName c) = some (.ref (C.cl c))
  ins : ∀ c, C.has c = true → InsF C.K (C.cl c)
  na : ∀ c, C.has c = true → ∀ f ∈ clsFields c, NoAttr C.K (C.cl c) f
  kO : ∀ c, C.has c = true → ∀ T ∈ isiNames, PySem.W.kitOne C.K (.ref (C.cl c)) (.type T) = some false
  kB : ∀ c, C.has c = true → ∀ T ∈ tyNames, PySem.W.kitOne C.K (.type T) (.ref (C.cl c)) = some false
  kC : ∀ c c', C.has c = true → C.has c' = true → c ≠ c' → PySem.W.kitOne C.K (.ref (C.cl c)) (.ref (C.cl c')) = some false
  nf : ∀ c c', C.has c = true → C.has c' = true → PySem.W.notFirst C.K (C.cl c) (.ref (C.cl c')) = true
  nfT : ∀ c, C.has c = true → ∀ T ∈ tyNames, PySem.W.notFirst C.K (C.cl c) (.type T) = true
  ne : ∀ c, C.has c = true → PySem.W.findIn C.K (.ref (C.cl c)) "__ne__" = some (some (.builtin "object.__ne__"))
  opf : C.has 0 = true → OpF C.K (C.cl 0)
  iA : C.has 0 = true → IntF C.K .Add
  iS : C.has 0 = true → IntF C.K .Sub
  iM : C.has 0 = true → IntF C.K .Mult
section
variable {F : Fam} {S : ST} {e a b c : Expr} {pos p p2 q1 q2 apos : Pos} {oa ob oe : O D} {es : List Expr} {os : O (List D)} {R : Type} {P : R → Po} {rest : List Stmt}
theorem Tx.bl {C : Kc} {mg : Str → Option Value} (T : Tx C mg) (n : Str) (h : n ∈ bltNames := by decide) : mg n = none := T.nb n h
theorem Tx.fl {C : Kc} {mg : Str → Option Value} (T : Tx C mg) {cs : List Nat} {f : Str} (h : ∀ c ∈ cs, f ∈ clsFields c := by decide) : ∀ c ∈ cs, C.has c = true → Cls C.K (C.cl c) ∧ NoAttr C.K (C.cl c) f := fun c hc hh => ⟨(T.ins c hh).cl, T.na c hh f (h c hc)⟩
theorem x_isiB {T : String} {x : Str} {xp : Pos} (t : Tx F.C F.mg) (ha : DEp F a S oa) (hv : bootBuiltins x = some (.type T)) (hx : x ∈ bltNames := by decide) (hT : T ∈ isiNames := by decide) (hg : ∀ i, Gl (F.X i) x := by intro _; rfl) (hn : x ≠ "__name__" := by decide) (hb : (x == ("__debug__" : Str)) = false := by decide)
    (hgi : ∀ i, Gl (F.X i) "isinstance" := by intro _; rfl)
    (he : ∀ i, starEach [a, .Name x xp] (F.X i).env = (false, eval a (F.X i).env) :: starEach [.Name x xp] (F.X i).env := by intro _; rfl) (hpl : ∀ i, (backTo pos (starEach [.Name x xp] (F.X i).env)).any (·.1) = false := by intro _; rfl) : DEp F (.Call (.Name "isinstance" p) [a, .Name x xp] [] pos) S (tr (oa.bind (isiB T))) :=
  p_isi (t.bl "isinstance") (de_bltn (t.nb x hx) hv (v := .ty T) rfl hg hn hb) (fun y k h => isi_ok t.ins (fun c hc => t.kO c hc T hT) h) ha hgi he (fun _ => rfl) hpl
theorem x_isiC {cn : Nat} {x : Str} {xp : Pos} (t : Tx F.C F.mg) (hh : F.C.has cn = true) (ha : DEp F a S oa) (hx : clsName cn = x := by rfl) (hg : ∀ i, Gl (F.X i) x := by intro _; rfl) (hb : (x == ("__debug__" : Str)) = false := by decide)
    (hgi : ∀ i, Gl (F.X i) "isinstance" := by intro _; rfl)
    (he : ∀ i, starEach [a, .Name x xp] (F.X i).env = (false, eval a (F.X i).env) :: starEach [.Name x xp] (F.X i).env := by intro _; rfl) (hpl : ∀ i, (backTo pos (starEach [.Name x xp] (F.X i).env)).any (·.1) = false := by intro _; rfl) : DEp F (.Call (.Name "isinstance" p) [a, .Name x xp] [] pos) S (tr (oa.bind (isiC cn))) :=
  p_isi (t.bl "isinstance") (de_glob (by rw [← hx]; exact t.cn cn hh) (v := .ref (F.C.cl cn)) rfl (fun _ => .cst _) hg hb) (fun y k h => isi_own t.ins hh (fun c hc n => t.kC c cn hc hh n) (t.kB cn hh) h) ha hgi he (fun _ => rfl) hpl
theorem putD_lt {f : Str} {d : D} : ∀ {fs : List (Str × D)} {n : Nat}, fs.length < n → (putD f d fs).length < n + 1
  | [], n, h => by show 1 < n + 1; have : 0 < n := h; omega
  | (g, x) :: r, n, h => by
    unfold putD
    split
    · show r.length + 1 < n + 1; have : r.length + 1 < n := h; omega
    · have h' : r.length + 1 < n := h
      show (putD f d r).length + 1 < n + 1
      have := putD_lt (f := f) (d := d) (fs := r) (n := n - 1) (by omega)
      omega
theorem k_fld {j : Nat} {x f : Str} {bb : Addr} {cn : Nat} {fs : List (Str × D)} {mr : D → O R} (hc : Cls F.C.K (F.C.cl cn) ∧ NoAttr F.C.K (F.C.cl cn) f) (he : DEp F e S oe) (hj : S.s[j]? = some (some .bag)) (hg : S.g = some (bb, .ins cn fs)) (hr : ∀ d, DSk F rest ⟨S.s, some (bb, .ins cn (putD f d fs))⟩ (mr d) P) (hl : fs.length < 1000 := by first | decide | exact putD_lt (n := 999) (by decide) | exact putD_lt (n := 999) (putD_lt (n := 998) (by decide)) | exact putD_lt (n := 999) (putD_lt (n := 998) (putD_lt (n := 997) (by decide))))
    (hN : ∀ i, (F.X i).N[j]? = some x := by intro _; rfl) (hv : ∀ i, Vis (F.X i).env.scope x := by intro _; first | exact Or.inl rfl | exact Or.inr (Or.inl rfl) | exact Or.inr (Or.inr rfl))
    (hd : (x == ("__debug__" : Str)) = false := by decide) (hcd : (x == ("__classdict__" : Str)) = false := by decide)
    (hs : ∀ i, swapsWith e (some (.Attribute (.Name x q1) f q2)) pos.line (F.X i).env = pure false := by intro _; rfl) : DSk F (.Assign [.Attribute (.Name x q1) f q2] e pos :: rest) S (oe.bind mr) P := fun r q => by
  obtain ⟨d, h1, q⟩ := O.bind_eq q
  exact ds_fld (he d h1) hj hg hc.1 hc.2 (hr d r q) hl hN hv hd hcd hs
theorem k_nilI {b : Addr} {cn : Nat} {fs : List (Str × D)} (hg : S.g = some (b, .ins cn fs)) : DSk F [] S (.ok fs) (PI b cn) := fun r q => by cases q; exact ds_nil hg
def rgL (a b : D) : O (List D) := (asI a).bind fun i => (asI b).bind fun j => if 0 ≤ i ∧ i ≤ j ∧ j ≤ 1000000 then .ok (rgD i j) else .bad
theorem o_listRg [Calm F] (T : Tx F.C F.mg) (ha : DEp F a S oa) (hb : DEp F b S ob)
    (hg : ∀ l, Gl (F.X l) "list" := by intro _; rfl) (hg2 : ∀ l, Gl (F.X l) "range" := by intro _; rfl)
    (n1 : ∀ l, starEach [.Call (.Name "range" p2) [a, b] [] q1] (F.X l).env = (false, eval (.Call (.Name "range" p2) [a, b] [] q1) (F.X l).env) :: starEach [] (F.X l).env := by intro _; rfl)
    (n2 : ∀ l, starEach [a, b] (F.X l).env = (false, eval a (F.X l).env) :: starEach [b] (F.X l).env := by intro _; rfl) (n3 : ∀ l, starEach [b] (F.X l).env = (false, eval b (F.X l).env) :: starEach [] (F.X l).env := by intro _; rfl)
    (n4 : ∀ l, (backTo q1 (starEach [b] (F.X l).env)).any (·.1) = false := by intro _; rfl) :
    DOp F (.Call (.Name "list" p) [.Call (.Name "range" p2) [a, b] [] q1] [] pos) S (oa.bind fun x => ob.bind fun y => rgL x y) := fun r q => by
  obtain ⟨x, h1, q⟩ := O.bind_eq q
  obtain ⟨y, h2, q⟩ := O.bind_eq q
  obtain ⟨i, h3, qq⟩ := O.bind_eq (show O.bind _ _ = _ from q)
  obtain ⟨j, h4, q2⟩ := O.bind_eq qq
  split at q2
  · rename_i hk
    have e0 := asI_eq h3
    have e1 := asI_eq h4
    subst e0 e1
    have e2 := O.ok.inj q2
    subst e2
    exact do_listRg (T.bl "list") (T.bl "range") (ha _ h1) (hb _ h2) (RgOk.of_le hk.1 (by omega) (by omega) (by omega)) hg hg2 n1 n2 n3 n4
  · cases q2
theorem cm_none {op : CmpOp} {x y z : D} (h : ∀ G u v, Den F.C G u x → Den F.C G v y → False) : OpD F (compareOp op) x y z :=
  ⟨fun _ _ _ _ => False, fun _ => fun _ _ _ _ _ _ _ _ _ _ _ _ z => z.elim, fun G H u v s hu hv Q q => h G u v hu hv⟩
theorem den_has {C : Kc} {G : Hp} {v : V} {c : Nat} {fs : List (Str × D)} (h : Den C G v (.obj c fs)) : C.has c = true := by
  cases h with
  | obj q _ _ => exact q
def ownEq (eqs : Nat → Option (D → D → O D)) (x y : D) : O Bool := match x with
  | .obj c _ => if isCst y then .bad else op2 (eqs c) fun f => (f x y).bind asB
  | x => match x, y with
    | .int _, .obj 0 _ => op2 (eqs 0) fun f => (f y x).bind asB
    | x, y => c_eq x y
def ownNe (eqs : Nat → Option (D → D → O D)) (x y : D) : O Bool := match x with
  | .obj c _ => if isCst y then .bad else op2 (eqs c) fun f => ((f x y).bind asB).bind fun b => .ok (!b)
  | x => c_ne x y
theorem tyD_in {C : Kc} {y : D} (hc : isCst y = false) : (∃ c fs, y = .obj c fs ∧ tyD C y = .ref (C.cl c)) ∨ ∃ T ∈ tyNames, tyD C y = .type T := by
  cases y <;> first | exact .inl ⟨_, _, rfl, rfl⟩ | exact .inr ⟨_, by decide, rfl⟩ | cases hc
theorem nf_of {C : Kc} {mg : Str → Option Value} (T : Tx C mg) {c : Nat} {y : D} (hh : C.has c = true) (hy : ∀ c' fs, y = .obj c' fs → C.has c' = true) (hc : isCst y = false) : PySem.W.notFirst C.K (C.cl c) (tyD C y) = true := by
  rcases tyD_in (C := C) hc with ⟨c', fs, e, q⟩ | ⟨t, ht, q⟩
  · rw [q]; exact T.nf c c' hh (hy c' fs e)
  · rw [q]; exact T.nfT c hh t ht
def EqF (F : Fam) (eqs : Nat → Option (D → D → O D)) : Prop := ∀ c f, eqs c = some f → F.C.has c = true → ∃ k, k + 1 ≤ F.k ∧ Met F.P F.w F.C F.mg F.base k c "__eq__" (spF F.C (l2 f))
theorem s_oeq [Calm F] {eqs : Nat → Option (D → D → O D)} (T : Tx F.C F.mg) (E : EqF F eqs) : CmS F .Eq (ownEq eqs) := fun x y z h => by
  have hO : ∀ c fs (y : D) z, isCst y = false → (op2 (eqs c) fun f => (f (.obj c fs) y).bind asB) = .ok z → OpD F (compareOp .Eq) (.obj c fs) y (.bl z) := fun c fs y z hcst q => by
    obtain ⟨f, hf, q⟩ := op2_eq q
    obtain ⟨d, q1, q2⟩ := O.bind_eq q
    have e0 := asB_eq q2
    subst e0
    by_cases hh : F.C.has c = true
    · by_cases hy : ∀ c' fs, y = .obj c' fs → F.C.has c' = true
      · obtain ⟨k, hk, mt⟩ := E c f hf hh
        exact od_eqO mt (Nat.le_of_succ_le hk) (fun c' fs' e q => T.ins c' q) (by cases y <;> first | rfl | cases hcst) (nf_of T hh hy hcst) q1
      · refine cm_none fun G u v h1 h2 => hy fun c' fs' e => ?_
        subst e
        exact den_has h2
    · exact cm_none fun G u v h1 h2 => hh (den_has h1)
  unfold ownEq at h
  split at h
  · split at h
    · cases h
    · rename_i hcst
      exact hO _ _ _ _ (by simpa using hcst) h
  · split at h
    · obtain ⟨f, hf, h⟩ := op2_eq h
      obtain ⟨d, q1, q2⟩ := O.bind_eq h
      have e0 := asB_eq q2
      subst e0
      by_cases hh : F.C.has 0 = true
      · obtain ⟨k, hk, mt⟩ := E 0 f hf hh
        exact od_eqR2 mt (Nat.le_of_succ_le hk) (T.opf hh) q1
      · exact cm_none fun G u v h1 h2 => hh (den_has h2)
    · exact s_eq _ _ _ h
theorem s_one [Calm F] {eqs : Nat → Option (D → D → O D)} (T : Tx F.C F.mg) (E : EqF F eqs) : CmS F .NotEq (ownNe eqs) := fun x y z h => by
  unfold ownNe at h
  split at h
  · split at h
    · cases h
    · rename_i c fs hcst
      have hcst : isCst y = false := by simpa using hcst
      obtain ⟨f, hf, h⟩ := op2_eq h
      obtain ⟨b, q, e⟩ := O.bind_eq h
      have e1 := O.ok.inj e
      subst e1
      obtain ⟨d, q1, q2⟩ := O.bind_eq q
      have e0 := asB_eq q2
      subst e0
      by_cases hh : F.C.has c = true
      · by_cases hy : ∀ c' fs, y = .obj c' fs → F.C.has c' = true
        · obtain ⟨k, hk, mt⟩ := E c f hf hh
          exact od_neO mt hk (fun c' fs' e q => T.ins c' q) (by cases y <;> first | rfl | cases hcst) (nf_of T hh hy hcst) (T.ins c hh) (T.ne c hh) q1
        · refine cm_none fun G u v h1 h2 => hy fun c' fs' e => ?_
          subst e
          exact den_has h2
      · exact cm_none fun G u v h1 h2 => hh (den_has h1)
  · exact s_ne _ _ _ h
def ownLen (lens : Nat → Option (D → O D)) : List D → O D
  | [.obj c fs] => op2 (lens c) fun f => (f (.obj c fs)).bind fun d => (asI d).bind fun i => if 0 ≤ i ∧ i < 2 ^ 63 then .ok (.int i) else .bad
  | ds => bi_len ds
def LenF (F : Fam) (m : Str) (n : Nat) (lens : Nat → Option (D → O D)) : Prop := ∀ c f, lens c = some f → F.C.has c = true → ∃ k, k + n ≤ F.k ∧ Met F.P F.w F.C F.mg F.base k c m (spF F.C (l1 f))
theorem ca_none {f : Value} {c : Nat} {fs : List (Str × D)} {ds : List D} {z : D} (h : ¬ F.C.has c = true) : CaD F f (.obj c fs :: ds) z :=
  ⟨fun _ _ _ => False, fun _ => fun _ _ _ _ _ _ _ _ _ z => z.elim, fun G H us s hu Q q => by
    cases hu with
    | cons h0 _ => exact h (den_has h0)⟩
theorem s_olen [Calm F] {lens : Nat → Option (D → O D)} (L : LenF F "__len__" 1 lens) : CaS F (.builtin "len") (ownLen lens) := fun ds z h => by
  unfold ownLen at h
  split at h
  · obtain ⟨f, h1, h⟩ := op2_eq h
    obtain ⟨d, h2, h⟩ := O.bind_eq h
    obtain ⟨i, h3, h4⟩ := O.bind_eq h
    have e0 := asI_eq h3
    subst e0
    split at h4
    · rename_i hi
      have e1 := O.ok.inj h4
      subst e1
      rename_i c fs _ _
      by_cases hh : F.C.has c = true
      · obtain ⟨k, hk, mt⟩ := L c f h1 hh
        exact ca_lenO mt hk h2 hi.1 hi.2
      · exact ca_none hh
    · cases h4
  · exact s_len _ _ h
end
end SL
namespace SL
open PySem L2 DL
variable [TabL]
def clF (c0 c1 c2 c3 c4 c5 c6 : Addr) : Nat → Addr
  | 0 => c0
  | 1 => c1
  | 2 => c2
  | 3 => c3
  | 4 => c4
  | 5 => c5
  | _ => c6
def hasF (b0 b1 b2 b3 b4 b5 b6 : Bool) : Nat → Bool
  | 0 => b0
  | 1 => b1
  | 2 => b2
  | 3 => b3
  | 4 => b4
  | 5 => b5
  | 6 => b6
  | _ => false
end SL
namespace SLR
open PySem PyProof.Rows
section
variable {prog : Program} {w : World} {A : Around} {E : Value → Shared → Prop} {s : Shared}
end
end SLR
namespace L2
open PySem PySem.Spec PyProof.Rows
section
variable {X : Cx}
end
end L2
namespace SL
open PySem L2 DL
variable [TabL]
section
variable {F : Fam} {S : ST} {e : Expr} {pos p1 p2 p3 : Pos} {oa : O D} {k : Nat}
end
end SL
namespace SL
open PySem L2 DL
variable [TabL]
section
variable {F : Fam} {S : ST} {o e : Expr} {pos apos : Pos} {oa ob : O D}
theorem p_tm1 {id : String} {name : Str} {r : V → List V → Hp → VK → Prop} {φ : D → D → O D} (slot : Slot "str" name id) (ty : typeOf (.builtin id) = pure (.type "method_descriptor")) (rule : ∀ i, MtR (F.X i) id r)
    (hr : ∀ x y z, φ x y = .ok z → (∃ a, x = .str a) ∧ ∀ G H u v, DL.Sub G H → Den F.C G u x → Den F.C G v y → ∀ Q : VK, (∀ w G2 H2, Pu G H G2 H2 → Den F.C G2 w z → Q w H2) → r u [v] H Q)
    (ho : DEp F o S oa) (he : DEp F e S ob)
    (hs : ∀ i, starEach [e] (F.X i).env = [(false, eval e (F.X i).env)]) (hbase : ∀ i, attributeBase o name (F.X i).env (eval o (F.X i).env) = eval o (F.X i).env) (hline : (apos.endLine == pos.line) = true) :
    DEp F (.Call (.Attribute o name apos) [e] [] pos) S (oa.bind fun x => ob.bind fun y => φ x y) := fun d q => by
  obtain ⟨x, h1, q⟩ := O.bind_eq q
  obtain ⟨y, h2, q⟩ := O.bind_eq q
  obtain ⟨⟨a, ea⟩, h3⟩ := hr x y d q
  subst ea
  refine de_of (te := tM1 r (anyE F o) (anyE F e)) (fun i => pe_m1 slot ty (rule i) (anyE_ok i) (anyE_ok i) (hs i) (hbase i) hline) fun σ G H c Q q => ?_
  refine (ho _ h1) σ G H c _ fun u G1 H1 m1 d1 => ⟨?_, (he _ h2) σ G1 H1 m1.cx _ fun v G2 H2 m2 d2 => ?_⟩
  · cases d1; exact ⟨_, rfl⟩
  · exact h3 G2 H2 u v m2.cx.sub (d1.mono m2.go.gg) d2 Q fun w G3 H3 p d3 => q w G3 H3 ((m1.trans m2).pu p) d3
def t_part : D → D → O D
  | .str a, .str b => if (b.length == 0) = false ∧ a.length ≤ 1000000 then .ok (.tup [.str (Txt.partition a b).1, .str (Txt.partition a b).2.1, .str (Txt.partition a b).2.2]) else .bad
  | _, _ => .bad
def joinOk (a : Str) (ys : List Str) : Bool := decide ((ys.map (·.length)).sum + ys.length * a.length ≤ 1000000)
def t_join : D → D → O D
  | .str a, .lst ds => op2 (strs? ds) fun ys => if joinOk a ys then .ok (.str (Txt.join a ys)) else .bad
  | .str a, .tup ds => op2 (strs? ds) fun ys => if joinOk a ys then .ok (.str (Txt.join a ys)) else .bad
  | _, _ => .bad
def t_index : D → D → O D
  | .str a, .str b => match Builtin.Str.occurrences a b 0 a.length 1 with
    | i :: _ => .ok (.int (i : Nat))
    | [] => .bad
  | _, _ => .bad
theorem p_sindex (ho : DEp F o S oa) (he : DEp F e S ob)
    (hs : ∀ i, starEach [e] (F.X i).env = [(false, eval e (F.X i).env)] := by intro _; rfl) (hbase : ∀ i, attributeBase o "index" (F.X i).env (eval o (F.X i).env) = eval o (F.X i).env := by intro _; rfl) (hline : (apos.endLine == pos.line) = true := by rfl) :
    DEp F (.Call (.Attribute o "index" apos) [e] [] pos) S (oa.bind fun x => ob.bind fun y => t_index x y) :=
  p_tm1 PySem.F.slot_str_index PySem.F.type_str_index (fun i => mt_sindex) (fun x y z h => by
    unfold t_index at h
    split at h
    · rename_i a b
      split at h
      · rename_i i r c
        cases h
        exact ⟨⟨a, rfl⟩, fun G H u v s hu hv Q q => by
          cases hu; cases hv
          exact ⟨a, b, _, _, rfl, rfl, c, q _ _ _ (.refl s) (.int _)⟩⟩
      · cases h
    · cases h) ho he hs hbase hline
theorem denL_strs_eq {C : Kc} {G : Hp} : ∀ {vs : List V} {ys : List Str}, DenL C G vs (ys.map D.str) → vs = ys.map V.str
  | _, [], .nil => rfl
  | _, y :: ys, .cons h t => by cases h; rw [denL_strs_eq t]; rfl
def fmtO : D → O D
  | .int i => if i.natAbs.log2 < 1920 then .ok (.str (toString i)) else .bad
  | .str t => if t.length ≤ 1000000 then .ok (.str t) else .bad
  | _ => .bad
def jO : List (O D) → Str → O D
  | [], acc => .ok (.str acc)
  | o :: os, acc => o.bind fun d => match d with
    | .str t => if (acc ++ t).length ≤ 1000000 then jO os (acc ++ t) else .bad
    | _ => .bad
end
structure SMet (K : PySem.W.Frag) (C : Addr) (m : Str) (f : Addr) : Prop where
  rd : ClX.CRead K C (.type "type")
  at_ : ∃ p rest, PySem.W.findCls K (.ref C) (.type "type") m = some (.get (.builtin "staticmethod.__get__") (.ref p) .none (.ref C)) ∧ PySem.W.recIn K p "staticmethod" = some (.ref f :: rest)
  kp : PySem.W.keepIn K (.ref f) = true
def noxF (F : Fam) : Fam where
  I := F.I
  X := fun i => (F.X i).nox
  P := F.P
  w := F.w
  C := F.C
  mg := F.mg
  base := F.base
  N := F.N
  k := F.k
  hP := F.hP
  hw := F.hw
  hK := F.hK
  hmg := F.hmg
  hbase := F.hbase
  hN := F.hN
  nd := F.nd
  roomH := F.roomH
  cP := F.cP
  cw := F.cw
instance {F : Fam} [Calm F] : Calm (noxF F) := ⟨fun i => F.calm i, fun i => Calm.h (F := F) i⟩
end SL
namespace SL
open PySem L2 DL
variable [TabL]
theorem pe_never {X : Cx} {o : Expr} {ta : TE} {m : Str} {es : List Expr} {kws : List Keyword} {pos apos : Pos} {pl : Sem Bool} (he : PE X o ta)
    (ht : eval (.Call (.Attribute o m apos) es kws pos) X.env = (do
      let ov ← eval o X.env
      standAt apos.atName
      let (f, first) ← holding [ov] (getMethod ov m pl)
      callWith pos f first (backTo pos (starEach es X.env)) (backToKw pos (keywordEach kws X.env)))) : PE X (.Call (.Attribute o m apos) es kws pos) (fun σ H Q => ta σ H fun _ _ => False) :=
  ⟨fun pins s σ H Q I h => PySem.W.methodCall_KW (pl := pl) (thn (he.run pins s σ H _ I h) fun u s1 ⟨_, _, _, _, z⟩ => z.elim) ht⟩
section
variable {F : Fam} {S S1 S2 : ST} {a e : Expr} {es : List Expr} {kws : List Keyword} {pos apos : Pos} {m : Str} {c : Nat} {fs : List (Str × D)} {d : D} {oa : O D} {os : O (List D)} {φ : List D → O D}
theorem de_never (ho : DE F a S S1 (.obj c fs)) (hh : ¬ F.C.has c = true) (pl : F.I → Sem Bool)
    (ht : ∀ i, eval (.Call (.Attribute a m apos) es kws pos) (F.X i).env = (do
      let ov ← eval a (F.X i).env
      standAt apos.atName
      let (f, first) ← holding [ov] (getMethod ov m (pl i))
      callWith pos f first (backTo pos (starEach es (F.X i).env)) (backToKw pos (keywordEach kws (F.X i).env)))) : DE F (.Call (.Attribute a m apos) es kws pos) S S2 d :=
  de_of (te := fun σ H Q => anyE F a σ H fun _ _ => False) (fun i => pe_never (pl := pl i) (anyE_ok i) (ht i)) fun σ G H cx Q q => ho σ G H cx _ fun v G1 H1 m1 dv => hh (den_has dv)
def MtH (F : Fam) (m : Str) (φ : List D → O D) : Prop := ∀ x ds d, φ (x :: ds) = .ok d → ∃ cn fs, x = .obj cn fs ∧ (F.C.has cn = true → ∃ k φ', k ≤ F.k ∧ Met F.P F.w F.C F.mg F.base k cn m (spF F.C φ') ∧ fs.lookup m = none ∧ φ' (x :: ds) = .ok d)
theorem q_meth [Calm F] (mt : MtH F m φ) (ho : DEp F a S oa) (ha : DAp F (e :: es) S os)
    (pl : F.I → Sem Bool) (he : ∀ i, starEach (e :: es) (F.X i).env = (false, eval e (F.X i).env) :: starEach es (F.X i).env := by intro _; rfl) (hpl : ∀ i, (backTo pos (starEach es (F.X i).env)).any (·.1) = false := by intro _; rfl)
    (ht : ∀ i, eval (.Call (.Attribute a m apos) (e :: es) [] pos) (F.X i).env = (do
      let ov ← eval a (F.X i).env
      standAt apos.atName
      let (f, first) ← holding [ov] (getMethod ov m (pl i))
      callWith pos f first (backTo pos (starEach (e :: es) (F.X i).env)) (backToKw pos (keywordEach [] (F.X i).env))) := by intro _; rfl) : DEp F (.Call (.Attribute a m apos) (e :: es) [] pos) S (oa.bind fun x => os.bind fun ds => φ (x :: ds)) := fun d q => by
  obtain ⟨x, h1, q⟩ := O.bind_eq q
  obtain ⟨ds, h2, q⟩ := O.bind_eq q
  obtain ⟨cn, fs, e1, hh⟩ := mt x ds d q
  subst e1
  by_cases hc : F.C.has cn = true
  · obtain ⟨k, φ', hk, hm, hn, hq⟩ := hh hc
    exact de_meth hm (ho _ h1) (ha _ h2).1 hq hn hk pl he hpl ht
  · exact de_never (ho _ h1) hc pl ht
end
end SL
namespace SetL
open PySem PySem.Spec PyProof.Rows L2
section
variable {P : Program} {w : World} {A : Around} {E : Value → Shared → Prop} {s : Shared}
end
end SetL
namespace SetX
open PySem PySem.Spec PyProof.Rows L2
def keyS (e : Int × Value) : Str := match e.2 with | .str k _ => k | _ => ⟨#[]⟩
def GoodS (w : World) (e : Int × Value) : Prop := ∃ k tk, e.2 = Value.str k tk ∧ e.1 = hashStr w k
def SetS (w : World) (h : Heap) (a : Addr) (S : Str → Bool) (n : Nat) : Prop :=
  ∃ o es ep t, h.get? a = some o ∧ o.ExactSet ∧ o.data = .set es ep t ∧ (∀ e ∈ es.toList, GoodS w e) ∧ (es.toList.map keyS).Nodup ∧ (∀ k, S k = true ↔ k ∈ es.toList.map keyS) ∧
    es.size < scanBound ∧ t.fits es.size = true ∧ es.size = n ∧ Ris t.place.toList ∧ (w.params.followText "set-order" = true ∨ t.led = true)
section
variable {P : Program} {w : World} {h h' : Heap} {a : Addr} {S : Str → Bool} {n : Nat}
theorem SetS.at (R : SetS w h a S n) (k : ∀ o, h.get? a = some o → h'.get? a = some o) : SetS w h' a S n := by
  obtain ⟨o, es, ep, t, ho, r⟩ := R
  exact ⟨o, es, ep, t, k o ho, r⟩
theorem SetS.lt (R : SetS w h a S n) : a < h.objs.size := by
  obtain ⟨o, es, ep, t, ho, r⟩ := R
  exact Heap.lt_size ho
theorem SetS.congr {S' : Str → Bool} (R : SetS w h a S n) (e : ∀ k, S' k = S k) : SetS w h a S' n := by
  have q : S' = S := funext e
  rw [q]; exact R
end
section
variable {P : Program} {w : World} {A : Around} {E : Value → Shared → Prop} {s : Shared} {a : Addr} {S : Str → Bool} {n : Nat}
end
section
variable {P : Program} {w : World} {A : Around} {E : Value → Shared → Prop} {s : Shared}
end
end SetX
namespace DL
open PySem L2
variable [TabL]
section
variable {F : Fam} {S S1 : ST} {e : Expr} {pos p p2 q1 cpos apos : Pos} {rest : List Stmt} {P : Po}
end
end DL
namespace SL
open PySem L2 DL
variable [TabL]
section
variable {F : Fam} {S : ST} {o e : Expr} {pos p p2 q1 cpos apos : Pos} {oa oe : O D} {os : O (List D)} {rest : List Stmt} {R : Type} {P : R → Po}
end
section
variable {F : Fam} {bb : Addr} {s : List (Option DV)} {o e : Expr} {pos apos : Pos} {ma mb : M D}
theorem me_join (ho : DEm F bb o s ma) (he : DEm F bb e s mb)
    (hs : ∀ i, starEach [e] (F.X i).env = [(false, eval e (F.X i).env)] := by intro _; rfl) (hbase : ∀ i, attributeBase o "join" (F.X i).env (eval o (F.X i).env) = eval o (F.X i).env := by intro _; rfl) (hline : (apos.endLine == pos.line) = true := by rfl) :
    DEm F bb (.Call (.Attribute o "join" apos) [e] [] pos) s (ma.bind fun x => mb.bind fun y => M.up (t_join x y)) := fun g d g' h => by
  obtain ⟨x, g1, h1, h⟩ := M.bind_eq h
  obtain ⟨y, g2, h2, h⟩ := M.bind_eq h
  obtain ⟨h', e⟩ := M.up_eq h
  subst e
  clear h
  have ht : ∃ (a : Str) (ys : List Str), x = .str a ∧ (y = .lst (ys.map D.str) ∨ y = .tup (ys.map D.str)) ∧ (ys.map (·.length)).sum + ys.length * a.length ≤ 16777216 ∧ d = .str (Txt.join a ys) := by
    unfold t_join at h'
    split at h'
    · rename_i a ds
      obtain ⟨ys, k1, k⟩ := op2_eq h'
      split at k
      · rename_i c
        cases k
        cases strs?_eq k1
        have c := of_decide_eq_true c
        exact ⟨a, ys, rfl, .inl rfl, by omega, rfl⟩
      · cases k
    · rename_i a ds
      obtain ⟨ys, k1, k⟩ := op2_eq h'
      split at k
      · rename_i c
        cases k
        cases strs?_eq k1
        have c := of_decide_eq_true c
        exact ⟨a, ys, rfl, .inr rfl, by omega, rfl⟩
      · cases k
    · cases h'
  obtain ⟨a, ys, rfl, hy, hc, rfl⟩ := ht
  refine de_of (te := tM1 (fun x xs H Q => ∃ a p, ∃ ys : List Str, x = .str a ∧ xs = [.ref p] ∧ (SqL F.C.K H p (ys.map V.str) ∨ SqT F.C.K H p (ys.map V.str)) ∧ (ys.map (·.length)).sum + ys.length * a.length ≤ 16777216 ∧ Q (.str (Txt.join a ys)) H) (anyE F o) (anyE F e))
    (fun i => pe_m1 PySem.F.slot_str_join PySem.F.type_str_join (by have := mt_join (X := F.X i); rw [F.hK i] at this; exact this) (anyE_ok i) (anyE_ok i) (hs i) (hbase i) hline) fun σ G H c Q q => ?_
  refine (ho _ _ _ h1) σ G H c _ fun u G1 H1 m1 d1 => ⟨by cases d1; exact ⟨_, rfl⟩, (he _ _ _ h2) σ G1 H1 m1.cx _ fun v G2 H2 m2 d2 => ?_⟩
  cases d1
  rcases hy with rfl | rfl
  · cases d2 with
    | lst k1 k2 =>
      cases denL_strs_eq k2
      exact ⟨a, _, ys, rfl, rfl, .inl (m2.cx.sub.seq k1), hc, q _ _ _ (m1.trans m2) (.str _)⟩
  · cases d2 with
    | tup k1 k2 =>
      cases denL_strs_eq k2
      exact ⟨a, _, ys, rfl, rfl, .inr (same_t m2.cx.sub k1), hc, q _ _ _ (m1.trans m2) (.str _)⟩
end
end SL
namespace SL
open PySem L2 DL
variable [TabL]
section
variable {F : Fam} {S : ST} {iter elt : Expr} {oi : O (List D)} {scope : Scope}
end
end SL
namespace SL
open PySem L2 DL
variable [TabL]
section
variable {F : Fam} {S S1 : ST} {e a b c : Expr} {pos p q1 : Pos} {oe ob : O D} {rest : List Stmt} {R : Type} {P : R → Po}
def ndIx (kds : List (D × D)) (y : D) : O D := op2 (dkey y) fun k => op2 (dlook k kds) .ok
theorem k_ndSet {j : Nat} {x : Str} {kds : List (D × D)} {mr : D → NestedKey → D → O R} (he : DEp F e S oe) (hj : S.s[j]? = some (some (.own (.dic kds)))) (hb : DEp F b S ob) (hr : ∀ d k kd, DSk F rest (S.setM j (.dic (dstore k kd d kds))) (mr d k kd) P)
    (hp : ∀ i, PS (F.X i) (.Assign [.Subscript (.Name x q1) b p] e pos) (tAsg (anyE F e) (gSub (tVar j) (anyE F b) (ND.rNSet (F.X i).K (F.X i).prog (F.X i).w))) := by
      intro i; exact ps_asg (anyE_ok i) (pg_sub (pv _) (anyE_ok i) (ND.set_nd (Fam.units _ i)))) :
    DSk F (.Assign [.Subscript (.Name x q1) b p] e pos :: rest) S (oe.bind fun d => ob.bind fun kd => op2 (dkey kd) fun k => sized (kds.length + 1) (mr d k kd)) P := fun r q => by
  obtain ⟨d, h1, q⟩ := O.bind_eq q
  obtain ⟨y, h2, q⟩ := O.bind_eq q
  obtain ⟨k, h4, q2⟩ := op2_eq q
  obtain ⟨h5, q3⟩ := sized_eq q2
  exact ds_ndSet (he d h1) hj (hb _ h2) h4 (by have := h5; omega) (hr d k y r q3) hp
theorem evv_nd {F : Fam} {pos : Pos} : EvV F.C (anyE F (.Dict [] [] pos)) S S (.own (.dic [])) := fun σ G H c Q q =>
  ⟨ND.tNNew F.C.P F.C.w, fun i => by have := ND.pe_nnew (X := F.X i) (pos := pos); rw [F.hP i, F.hw i] at this; rw [F.cP, F.cw]; exact this, fun p od hp => by
    have gp : G p = none := c.sub.free hp
    have sm : Same H (upd H p (ND.NDO F.C.P F.C.w p od [])) := fun a u h => by rw [upd_ne (ne_of_none h hp)]; exact h
    exact q _ G _ (c.mv (Same.kt sm) (fun _ _ h => h) (c.sub.trans sm) fun _ _ h => h) (.own hp gp upd_same (.dN .nil))⟩
theorem v_n : DVp F (.Dict [] [] pos) S kD (.ok []) := fun x q => by cases q; exact evv_nd
end
end SL
namespace SL
open PySem L2 DL
variable [TabL]
section
variable {F : Fam} {bb : Addr} {s : List (Option DV)} {c : Expr} {pos : Pos} {rest body : List Stmt} {R T : Type} {P : R × List D → Po}
end
end SL
namespace SL
open PySem L2 DL
variable [TabL]
section
variable {F : Fam} {S S1 : ST} {e a b c kx vx tg iter : Expr} {pos p q1 apos vpos : Pos} {oe oa ob : O D} {os oi : O (List D)} {rest : List Stmt} {R : Type} {P : R → Po} {scope : Scope} {es : List Expr} {nm : Str}
theorem ds_setV {PP : Po} {mo : MO} {j : Nat} {x : Str} {pos' : Pos} (he : EvV F.C (anyE F e) S S1 (.own mo)) (q : DS F rest (S1.setM j mo) PP) (hj : j < S1.s.length) (hN : ∀ i, (F.X i).N[j]? = some x) (hx : ∀ i, Loc (F.X i).env.scope x)
    (hs : ∀ i, swapsWith e (some (.Name x pos')) pos.line (F.X i).env = pure false) (hf : ∀ i, (F.X i).fn x = true ∨ (F.X i).env.scope.names.lookup x = some .local) : DS F (.Assign [.Name x pos'] e pos :: rest) S PP := by
  refine ds_cons (M := fun S2 => S2 = S1.setM j mo) (d1_of (te := tAsg (anyE F e) (gName j)) (fun i => ps_set (by rw [F.hN i]; exact F.nd) (hN i) (hx i) (anyE_ok i) (hs i) (hf i)) ?_) fun _ z => z ▸ q
  intro σ G H c E m
  refine he σ G H c _ fun v G1 H1 m1 sv => ?_
  cases sv with
  | @own q _ o hq gq hq1 dl =>
    refine m.nx _ _ G1 H1 ?_ rfl
    have cx2 := m1.cx.storeO (i := j) gq hq1 dl hj (fun j es r z => fresh_oa c hq (m1.oa q (.inl ⟨j, es, r, z⟩))) (fun o r => fresh_oa c hq (m1.oa q (.inr ⟨o, r⟩)))
    refine ⟨m1.go, cx2, fun a z => ?_⟩
    rcases z with ⟨j', es, r1, r2⟩ | ⟨o, r⟩
    · by_cases ij : j = j'
      · subst ij
        rw [List.getElem?_set_self (by rw [m1.cx.len]; exact hj)] at r2
        cases r2
        exact .inr hq
      · have r1' : (S1.s.set j (some (.own mo)))[j']? = some (some (.own es)) := r1
        rw [List.getElem?_set_ne ij] at r1'
        rw [List.getElem?_set_ne ij] at r2
        exact .inl (m1.oa a (.inl ⟨j', es, r1', r2⟩))
    · exact .inl (m1.oa a (.inr ⟨o, r⟩))
theorem k_setN {j : Nat} {x : Str} {pos' : Pos} {mr : List (D × D) → O R} (hr : ∀ kds, DSk F rest (S.setM j (.dic kds)) (mr kds) P) (hj : j < S.s.length := by exact Nat.le_of_ble_eq_true rfl) (hN : ∀ i, (F.X i).N[j]? = some x := by intro _; rfl) (hx : ∀ i, Loc (F.X i).env.scope x := by intro _; first | exact Or.inl rfl | exact Or.inr rfl)
    (hs : ∀ i, swapsWith (.Dict [] [] p) (some (.Name x pos')) pos.line (F.X i).env = pure false := by intro _; rfl) (hf : ∀ i, (F.X i).fn x = true ∨ (F.X i).env.scope.names.lookup x = some .local := by intro _; first | exact .inl rfl | exact .inr rfl) : DSk F (.Assign [.Name x pos'] (.Dict [] [] p) pos :: rest) S ((O.ok []).bind mr) P := fun r q =>
  ds_setV evv_nd (hr [] r q) hj hN hx hs hf
def itN : D → O (List D)
  | .dic kds => .ok (itemsD kds)
  | _ => .bad
theorem i_items {elts : List Expr} {kk : Nat} {tpos : Pos} (h : DEp F e S oe) (hbase : ∀ l, attributeBase e "items" (F.X l).env (eval e (F.X l).env) = eval e (F.X l).env := by intro _; rfl) (hline : (p.endLine == q1.line) = true := by rfl) :
    DIp F (.Tuple elts kk tpos) (.Call (.Attribute e "items" p) [] [] q1) S (oe.bind itN) := fun ds q => by
  obtain ⟨x, h1, q⟩ := O.bind_eq q
  cases x with
  | dic kds => cases q; exact di_itN (h _ h1) hbase hline
  | _ => cases q
def ndGet : D → List D → O D
  | .dic kds, [y, z] => op2 (dkey y) fun k => .ok ((dlook k kds).getD z)
  | _, _ => .bad
theorem p_get {e1 e2 : Expr} (h : DEp F e S oe) (ha : DAp F [e1, e2] S os) (hbase : ∀ l, attributeBase e "get" (F.X l).env (eval e (F.X l).env) = eval e (F.X l).env := by intro _; rfl) (hline : (apos.endLine == pos.line) = true := by rfl)
    (hfew : ∀ l, ((backTo pos (starEach [e1, e2] (F.X l).env)).all (fun x => !x.1) && (backToKw pos (keywordEach [] (F.X l).env)).all (fun x => x.1.isSome) && decide (([e1, e2] : List Expr).length + ([] : List Keyword).length + (if ([] : List Keyword).isEmpty then 0 else 1) < 30)) = true := by intro _; rfl)
    (hs : ∀ l, starEach [e1, e2] (F.X l).env = (false, eval e1 (F.X l).env) :: starEach [e2] (F.X l).env := by intro _; rfl) (hpl : ∀ l, (backTo pos (starEach [e2] (F.X l).env)).any (·.1) = false := by intro _; rfl) :
    DEp F (.Call (.Attribute e "get" apos) [e1, e2] [] pos) S (oe.bind fun x => os.bind fun ds => ndGet x ds) := fun d q => by
  obtain ⟨x, h1, q⟩ := O.bind_eq q
  obtain ⟨ds, h2, q⟩ := O.bind_eq q
  unfold ndGet at q
  split at q
  · obtain ⟨k, h3, q⟩ := op2_eq q
    cases q
    exact de_ndGet (h _ h1) (ha _ h2).1 h3 hbase hline hfew hs hpl
  · cases q
def ndSum : D → O D
  | .dic kds => op2 (ints? (kds.map (·.2))) fun is => .ok (.int is.sum)
  | _ => .bad
theorem p_sumV [Calm F] (hm : F.mg "sum" = none) (h : DEp F e S oe) (hbase : ∀ l, attributeBase e "values" (F.X l).env (eval e (F.X l).env) = eval e (F.X l).env := by intro _; rfl) (hline : (apos.endLine == vpos.line) = true := by rfl)
    (hg : ∀ l, Gl (F.X l) "sum" := by intro _; rfl) (he : ∀ l, starEach [.Call (.Attribute e "values" apos) [] [] vpos] (F.X l).env = [(false, eval (.Call (.Attribute e "values" apos) [] [] vpos) (F.X l).env)] := by intro _; rfl) :
    DEp F (.Call (.Name "sum" p) [.Call (.Attribute e "values" apos) [] [] vpos] [] pos) S (oe.bind ndSum) := fun d q => by
  obtain ⟨x, h1, q⟩ := O.bind_eq q
  cases x with
  | dic kds =>
    obtain ⟨is, h2, q⟩ := op2_eq (show op2 (ints? (kds.map (·.2))) (fun is => O.ok (D.int is.sum)) = _ from q)
    cases q
    exact de_ndSum hm (h _ h1) (ints?_eq h2) hbase hline hg he
  | _ => cases q
end
end SL
namespace SetX
open PySem PySem.Spec PyProof.Rows L2
def insL (k : List Nat) : List (List Nat) → List (List Nat)
  | [] => [k]
  | x :: l => if k < x then k :: x :: l else if k = x then x :: l else x :: insL k l
def sortL : List (List Nat) → List (List Nat)
  | [] => []
  | k :: l => insL k (sortL l)
def sv : Value → List Nat
  | .str x _ => x.cps.toList
  | _ => []
section
variable {P : Program} {w : World} {A : Around} {E : Value → Shared → Prop} {s : Shared}
end
end SetX
namespace DL
open PySem L2
variable [TabL]
section
variable {F : Fam} {S S1 : ST} {e : Expr} {pos p p2 cpos : Pos}
end
end DL
namespace SL
open PySem L2 DL
variable [TabL]
section
variable {F : Fam} {S : ST} {e : Expr} {pos p p2 cpos : Pos} {oe : O D}
end
end SL
namespace SL
open PySem L2 DL
variable [TabL]
section
variable {F : Fam}
end
end SL
namespace SLR
open PySem PyProof.Rows
end SLR
namespace L2
open PySem PySem.Spec PyProof.Rows
section
variable {X : Cx}
end
end L2
namespace SL
open PySem L2 DL
variable [TabL]
section
variable {F : Fam} {S : ST} {e : Expr} {pos p1 p2 p3 : Pos} {oa : O D} {k : Nat}
end
end SL
namespace SL
open PySem L2 DL
variable [TabL]
theorem bb_dict : bootBuiltins "dict" = some (.type "dict") := by decide +kernel
section
variable {F : Fam} {S S1 : ST} {e a b iter tg : Expr} {pos p q1 : Pos} {oe oa ob : O D}
def itX : D → O (List D)
  | .dic kds => .ok (kds.map (·.1))
  | d => itD d
theorem i_valX (h : DEp F iter S oe) : DIp F tg iter S (oe.bind itX) := fun ds q => by
  obtain ⟨x, h1, q⟩ := O.bind_eq q
  cases x with
  | dic kds => cases q; exact di_itKN (h _ h1)
  | _ => exact i_val h ds (by rw [h1]; exact q)
def ixX : D → D → O D
  | .dic kds, y => ndIx kds y
  | x, y => ix x y
theorem p_ixX (ha : DEp F a S oa) (hb : DEp F b S ob) (hs : PlainIx b := by intro _ _; rfl) (hn : NoSl b := by intro _ _; rfl) : DEp F (.Subscript a b pos) S (oa.bind fun x => ob.bind fun y => ixX x y) := fun d h => by
  obtain ⟨x, h1, q⟩ := O.bind_eq h
  obtain ⟨y, h2, q⟩ := O.bind_eq q
  cases x with
  | dic kds =>
    obtain ⟨k, h3, q⟩ := op2_eq (show op2 (dkey y) (fun k => op2 (dlook k kds) O.ok) = _ from q)
    obtain ⟨z, h4, q⟩ := op2_eq q
    cases q
    exact de_ndIxE (ha _ h1) (hb _ h2) h3 h4 hn
  | _ => exact p_ix ha hb hs d (by rw [h1, h2]; exact q)
def dictO : List D → List (D × D) → O (List (D × D))
  | [], acc => .ok acc
  | .tup [kd, vd] :: ds, acc => op2 (dkey kd) fun k => dictO ds (dstore k kd vd acc)
  | _ :: _, _ => .bad
theorem dictO_pairs : ∀ {ds : List D} {acc r : List (D × D)}, dictO ds acc = .ok r → PairsD ds acc r
  | [], acc, r, h => by cases h; exact .nil _
  | d :: ds, acc, r, h => by
    unfold dictO at h
    split at h
    · rename_i q; cases q
    · rename_i kd vd ds' q
      cases q
      obtain ⟨k, h1, h⟩ := op2_eq h
      exact .cons h1 (dictO_pairs h)
    · cases h
def bi_dict : List D → O D
  | [.lst ds] => if ds.length ≤ 1000000 then (dictO ds []).bind fun r => .ok (.dic r) else .bad
  | _ => .bad
theorem s_dict [Calm F] : CaS F (.type "dict") bi_dict := fun ds z h => by
  unfold bi_dict at h
  split at h
  · split at h
    · obtain ⟨r, h1, h⟩ := O.bind_eq h
      cases h
      exact cad_dictN (dictO_pairs h1) (by assumption)
    · cases h
  · cases h
end
end SL
namespace SL
open PySem L2 DL
variable [TabL]
section
variable {F : Fam} {S : ST} {e : Expr} {pos : Pos} {oe : O D} {rest : List Stmt} {R : Type} {P : R → Po}
end
section
variable {F : Fam} {bb : Addr} {e : Expr} {pos p p2 cpos : Pos} {s : List (Option DV)} {me : M D}
end
end SL
namespace SL
open PySem L2 DL
variable [TabL]
section
variable {F : Fam} {S S1 : ST} {a : Expr} {pos p p2 q1 : Pos} {oa : O D}
theorem de_tupRg1 [Calm F] {j : Int} (hl : F.mg "tuple" = none) (hm : F.mg "range" = none) (ha : DE F a S S1 (.int j)) (ok : RgOk 0 j)
    (hg : ∀ l, Gl (F.X l) "tuple") (hg2 : ∀ l, Gl (F.X l) "range")
    (n1 : ∀ l, starEach [.Call (.Name "range" p2) [a] [] q1] (F.X l).env = (false, eval (.Call (.Name "range" p2) [a] [] q1) (F.X l).env) :: starEach [] (F.X l).env)
    (n2 : ∀ l, starEach [a] (F.X l).env = (false, eval a (F.X l).env) :: starEach [] (F.X l).env) :
    DE F (.Call (.Name "tuple" p) [.Call (.Name "range" p2) [a] [] q1] [] pos) S S1 (.tup (rgD 0 j)) :=
  de_of (te := tTupRg (tRg1 (anyE F a))) (fun l => pe_tupRg (F.calm l) (hg l) (by rw [F.hmg]; exact hl) (prg_1 (hg2 l) (by rw [F.hmg]; exact hm) (anyE_ok l) (n2 l)) (n1 l)) fun σ G H c Q q =>
    ha σ G H c _ fun v G1 H1 m d1 => by
      cases d1
      refine ⟨j, rfl, ok, fun p hp => ?_⟩
      have n := m.cx.new (o := .tup (rgV 0 j)) hp
      exact q _ _ _ (m.trans n) (.tup (SqT.of upd_same) ((den_rg 0 j)))
theorem p_tupRg1 [Calm F] (hl : F.mg "tuple" = none) (hm : F.mg "range" = none) (ha : DEp F a S oa)
    (hg : ∀ l, Gl (F.X l) "tuple" := by intro _; rfl) (hg2 : ∀ l, Gl (F.X l) "range" := by intro _; rfl)
    (n1 : ∀ l, starEach [.Call (.Name "range" p2) [a] [] q1] (F.X l).env = (false, eval (.Call (.Name "range" p2) [a] [] q1) (F.X l).env) :: starEach [] (F.X l).env := by intro _; rfl)
    (n2 : ∀ l, starEach [a] (F.X l).env = (false, eval a (F.X l).env) :: starEach [] (F.X l).env := by intro _; rfl) :
    DEp F (.Call (.Name "tuple" p) [.Call (.Name "range" p2) [a] [] q1] [] pos) S (oa.bind fun y => (rgL (.int 0) y).bind fun ds => .ok (.tup ds)) := fun r q => by
  obtain ⟨y, h2, q⟩ := O.bind_eq q
  obtain ⟨ds, h5, q⟩ := O.bind_eq q
  cases q
  obtain ⟨i, h3, qq⟩ := O.bind_eq (show O.bind _ _ = _ from h5)
  obtain ⟨j, h4, q2⟩ := O.bind_eq qq
  cases h3
  split at q2
  · rename_i hk
    have e1 := asI_eq h4
    subst e1
    cases q2
    exact de_tupRg1 hl hm (ha _ h2) (RgOk.of_le (by omega) (by omega) (by omega) (by omega)) hg hg2 n1 n2
  · cases q2
end
end SL
namespace L2
open PySem PySem.Spec PyProof.Rows
theorem tuple_mul1 (l : Addr) (items : Array Value) (n : Nat) (dd : Option Addr) (sl : Array (Option Value)) (u : Tok) (c1 : items.isEmpty = false) :
    Meets (Builtin.«tuple.__mul__» ⟨[.ref l, .int 1 u], []⟩) (fun _ R s => s.heap.get? l = some { cls := .type "tuple", dict := dd, data := .seq items n, slots := sl } ∧ R (.ok (.ret (Value.ref l))) s) :=
  .of_wp fun prog w A R s h => by
    obtain ⟨hp, g, d, tk, os⟩ := s
    obtain ⟨hl, h⟩ := h
    have f1 := AutoSeq1.idx_int
    wp_walk using wpAny_loadPart' hl
    all_goals exact ⟨_, rfl, h⟩
def rOneT (K : PySem.W.Frag) : R2 := fun x y H Q => ∃ l xs, x = .ref l ∧ y = .int 1 ∧ SqT K H l xs ∧ xs ≠ [] ∧ xs.length ≤ 1000 ∧ Q (.ref l) H
variable {X : Cx}
theorem op_oneT : OpR X (binaryOp .Mult) (rOneT X.K) := by
  intro pins s σ H x y v u Q I rx ry h
  obtain ⟨l, xs, rfl, rfl, hT, hne, hz, q⟩ := h
  cases rx
  obtain ⟨t, rfl⟩ := ry
  obtain ⟨its, r, ⟨⟨cls, dd, data, sl⟩, ho, hc, n, hd⟩, hs⟩ := I.tuple hT
  simp only at hc hd
  subst hc hd
  have hle : its.length = xs.length := r.length.symm
  have hn : its ≠ [] := fun e => hne (by
    rw [e] at hle
    exact List.eq_nil_of_length_eq_zero hle.symm)
  have hi : its.toArray.isEmpty = false := by
    cases its with
    | nil => exact absurd rfl hn
    | cons a b => rfl
  refine wpAny_binaryOp_repeat_ref (T := "tuple") (U := "int") (by decide) ⟨_, ho, rfl⟩ (fun s' => typeIs_int s' 1 t) noFill_tuple_mul F.fills_int_mul F.slot_int_rmul repeat_tuple F.slot_int_index.lookup
    (call_meets F.slot_int_rmul (typeIs_int s 1 t) F.entry_int_rmul (F.args_int_rmul_2 _ _) (int_rmul_tuple 1 t l its.toArray n dd sl)
      ⟨ho, rfl, ⟨_, ho, rfl⟩, call_meets F.slot_tuple_mul ⟨_, ho, rfl⟩ F.entry_tuple_mul (F.args_tuple_mul_2 _ _) (tuple_mul1 l its.toArray n dd sl t hi) ⟨ho, ?_⟩⟩)
  exact ⟨.ref l, H, I, rfl, q⟩
end L2
namespace SL
open PySem L2 DL
variable [TabL]
variable {F : Fam}
def b_mulX : D → D → O D
  | .tup xs, .int k => if k = 1 ∧ 1 ≤ xs.length ∧ xs.length ≤ 1000 then .ok (.tup xs) else b_mul (.tup xs) (.int k)
  | x, y => b_mul x y
theorem s_mulX : OpS F .Mult b_mulX := fun x y z h => by
  unfold b_mulX at h
  split at h
  · rename_i xs k
    by_cases c : k = 1 ∧ 1 ≤ xs.length ∧ xs.length ≤ 1000
    · rw [if_pos c] at h
      cases h
      obtain ⟨rfl, c1, c2⟩ := c
      refine ⟨rOneT F.C.K, fun i => by have := op_oneT (X := F.X i); rw [F.hK i] at this; exact this, fun G H u v s hu hv Q q => ?_⟩
      cases hv
      cases hu with
      | @tup a vs _ t1 t2 => exact ⟨a, vs, rfl, rfl, same_t s t1, (fun e => by rw [e] at t2; cases t2; exact absurd c1 (by decide)), by rw [t2.length]; exact c2, q _ _ _ (Pu.refl s) (.tup t1 t2)⟩
    · rw [if_neg c] at h
      exact s_mul _ _ z h
  · exact s_mul _ _ z h
end SL
namespace SL
open PySem L2 DL
variable [TabL]
variable {F : Fam} {S S1 : ST} {e a b c tg iter elt : Expr} {d : D} {pos p p2 q1 cpos apos : Pos} {oa ob oe : O D} {ot : O Bool} {es : List Expr} {os oi : O (List D)} {rest t u body sts : List Stmt} {R T B : Type} {P : R → Po} {scope : Scope}
end SL
namespace DL
open PySem L2
variable [TabL]
variable {F : Fam} {S S1 S2 S3 : ST} {elt tg iter : Expr} {ds : List D} {P : Po} {rest : List Stmt} {pos p : Pos}
end DL
namespace SL
open PySem L2 DL
variable [TabL]
end SL
namespace L2
open PySem PySem.Spec PyProof.Rows
section
variable {prog : Program} {w : World} {A : Around} {E : Value → Shared → Prop} {s : Shared} {l : Addr} {its : List Value} {xs : List Str} {Q : Value → Shared → Prop}
end
end L2
namespace SL
open PySem L2 DL
variable [TabL]
variable {F : Fam}
end SL
namespace L2
open PySem PySem.Spec PyProof.Rows ND
end L2
namespace DL
open PySem L2
variable [TabL]
end DL
namespace SL
open PySem L2 DL
variable [TabL]
variable {F : Fam}
end SL
namespace SL
open PySem L2 DL
variable [TabL]
variable {F : Fam} {bb : Addr} {s : List (Option DV)} {tg iter elt : Expr} {scope : Scope} {mi : M (List D)} {B : Type}
end SL
namespace DL
open PySem L2
variable [TabL]
variable {F : Fam} {S S1 S2 : ST} {o e : Expr}
end DL
namespace SL
open PySem L2 DL
variable [TabL]
variable {F : Fam} {S : ST} {o e : Expr} {oa ob : O D} {apos pos : Pos}
end SL
namespace SL
open PySem L2 DL
variable [TabL]
section
variable {F : Fam} {S S1 : ST} {e a b iter tg : Expr} {pos p q1 : Pos} {oe oa ob : O D}
end
end SL
namespace KD
open PySem PySem.Spec PyProof.Rows L2
section
variable {X : Cx}
end
end KD
namespace DL
open PySem L2 PyProof.Rows
variable [TabL]
section
variable {F : Fam} {S S1 S2 S3 : ST} {kx vx tg iter elt e : Expr} {pos p apos : Pos} {ds : List D} {P : Po} {rest : List Stmt} {ifs : List Expr} {scope : Scope} {own : List (Str × Nat)} {d : D}
def kdrop (kds : List (Key × D)) (k : Key) : List (Key × D) := kds.filter fun kv => decide (kv.1 ≠ k)
theorem DenK.drop {C : Kc} {G : Hp} (k : Key) : ∀ {xs : List (Key × V)} {kds : List (Key × D)}, DenK C G xs kds → DenK C G (dropK xs k) (kdrop kds k)
  | _, _, .nil => .nil
  | _, _, .cons (k := j) (v := v) (d := d) (vs := vs) (ds := ds) h l => by
    have ih := DenK.drop k l
    unfold dropK kdrop at ih ⊢
    rw [List.filter_cons, List.filter_cons]
    by_cases z : j = k
    · simp only [z, ne_eq, not_true_eq_false, decide_false]; exact ih
    · simp only [ne_eq, z, not_false_eq_true, decide_true, if_true]; exact .cons h ih
end
end DL
namespace SL
open PySem L2 DL
variable [TabL]
section
variable {F : Fam} {S S1 : ST} {e a b c kx vx elt iter tg : Expr} {pos p apos : Pos} {oe : O D} {oi os : O (List D)} {rest : List Stmt} {R : Type} {P : R → Po} {scope : Scope}
end
end SL
namespace KN
open PySem PySem.Spec PyProof.Rows L2
section
variable {X : Cx}
end
end KN
namespace DL
open PySem L2 PyProof.Rows
variable [TabL]
section
variable {F : Fam} {S S1 S2 : ST} {e : Expr} {p pos q1 cpos apos : Pos} {d : D} {P : Po} {rest : List Stmt}
inductive DispC : List (Option Expr) → List Expr → List (Key × D) → Prop where
  | nil : DispC [] [] []
  | cons {k : Str} {i : Int} {n1 n2 : Nat} {p1 p2 : Pos} {ks : List (Option Expr)} {vs : List Expr} {kds : List (Key × D)} : DispC ks vs kds → DispC (some (.Constant (.str k) n1 p1) :: ks) (.Constant (.int i) n2 p2 :: vs) ((.inr k, .int i) :: kds)
def trsC (kds : List (Key × D)) : List (TE × TE) := kds.map fun kv => (tC (kV kv.1), tC (match kv.2 with | .int i => .int i | _ => .non))
def kvsC (kds : List (Key × D)) : List (Key × V) := kds.map fun kv => (kv.1, match kv.2 with | .int i => .int i | _ => .non)
theorem DispC.all : ∀ {ks : List (Option Expr)} {vs : List Expr} {kds : List (Key × D)}, DispC ks vs kds → ks.all (·.isSome) = true ∧ ks.length = vs.length ∧ ks.length = kds.length
  | _, _, _, .nil => ⟨rfl, rfl, rfl⟩
  | _, _, _, .cons h => by
    obtain ⟨h1, h2, h3⟩ := h.all
    exact ⟨by rw [List.all_cons, h1]; rfl, by rw [List.length_cons, List.length_cons, h2], by rw [List.length_cons, List.length_cons, h3]⟩
theorem DispC.run {σ : L2.St} {H : Hp} : ∀ {ks : List (Option Expr)} {vs : List Expr} {kds : List (Key × D)} {Q : List (V × V) → Hp → Prop}, DispC ks vs kds → Q ((kvsC kds).map fun kv => (kV kv.1, kv.2)) H → tPairs (trsC kds) σ H Q
  | _, _, _, _, .nil, q => q
  | _, _, _, Q, @DispC.cons k i _ _ _ _ ks vs kds h, q => DispC.run (kds := kds) (Q := fun ps H3 => Q ((kV (.inr k), .int i) :: ps) H3) h q
theorem DispC.den {C : Kc} {G : Hp} : ∀ {ks : List (Option Expr)} {vs : List Expr} {kds : List (Key × D)}, DispC ks vs kds → DenK C G (kvsC kds) kds
  | _, _, _, .nil => .nil
  | _, _, _, .cons h => .cons (.int _) h.den
end
end DL
namespace SL
open PySem L2 DL
variable [TabL]
def l0 {α : Type} (f : O α) : List D → O α
  | [] => f
  | _ => .bad
section
variable {F : Fam} {S S1 : ST} {e : Expr} {pos p q1 cpos apos : Pos} {oe : O D} {rest : List Stmt} {R : Type} {P : R → Po}
end
end SL
namespace L2
open PySem PySem.Spec PyProof.Rows
variable {X : Cx}
end L2
namespace DL
open PySem L2
variable [TabL]
variable {F : Fam} {S S1 S2 : ST} {o e : Expr}
end DL
namespace SL
open PySem L2 DL
section
variable [TabL]
variable {F : Fam} {S : ST} {o e : Expr} {oa ob : O D} {apos pos : Pos}
end
def M.op {α β : Type} (o : Option α) (f : α → M β) : M β := fun g => op2 o fun a => f a g
section
variable [TabL]
variable {F : Fam} {rest : List Stmt} {R : Type}
end
end SL
namespace EX
open PySem L2 DL
variable [TabL]
def clo (g : Addr → Option Obj) : Nat → List Addr → Nat → List Addr → List Addr
  | 0, _, _, acc => acc
  | _ + 1, [], _, acc => acc
  | n + 1, a :: r, seen, acc => match Nat.testBit seen a with
    | true => clo g n r seen acc
    | false => match g a with
      | some o => clo g n (He.refsD o ++ r) (seen ||| (1 <<< a)) (match o.cls with
        | .none => (match Nat.beq a mainGlobals || Nat.beq a cStatics with
          | true => a :: acc
          | false => acc)
        | _ => a :: acc)
      | none => clo g n r (seen ||| (1 <<< a)) acc
def KF (g : Addr → Option Obj) : PySem.W.Frag := He.frG g (clo g 100000 [mainGlobals, cStatics] 0 [])
theorem KF_in {hp : Heap} : (KF hp.get?).In hp := He.frG_in
structure DR where
  adr : PySem.W.Frag → Addr
  name : Str
  qual : Str
  params : Arguments
  body : List Stmt
  scope : Scope
  dfl : List V := []
def fnAt (K : PySem.W.Frag) (a : Addr) : He.FnW := match K.lookup a with
  | some ⟨_, _, .func u, _⟩ => some (u.name, u.qualname, u.params, u.body, u.scope, u.globals, u.closure, u.builtins)
  | _ => none
def okAt (K : PySem.W.Frag) (a : Addr) (qual : Str) (dvs : List V) : Bool := PySem.W.keepIn K (.ref a) && (match K.lookup a with
  | some ⟨_, _, .func u, _⟩ => PySem.W.codeIn K u.code qual && He.dflB K u.defaults dvs
  | _ => false)
def DR.val (d : DR) : He.FnW := some (d.name, d.qual, d.params, .stmts d.body, d.scope, mainGlobals, [], builtinsNs)
theorem funD_at {K : PySem.W.Frag} {a : Addr} {name qual : Str} {params : Arguments} {body : List Stmt} {scope : Scope} {dvs : List V} (e : fnAt K a = some (name, qual, params, .stmts body, scope, mainGlobals, [], builtinsNs)) (ok : okAt K a qual dvs = true) : ∃ fd, FunD K name qual params body scope dvs [] a fd := by
  obtain ⟨kp, ok2⟩ := He.ba ok
  unfold fnAt at e
  cases lk : K.lookup a with
  | none => rw [lk] at ok2; cases ok2
  | some ob =>
    obtain ⟨oc, od, dt, sl⟩ := ob
    rw [lk] at ok2 e
    cases dt with
    | func u =>
      obtain ⟨u1, u2, u3, u4, u5, u6, u7, u8, u9, u10, u11, u12, u13, u14, u15⟩ := u
      have z : (some (u1, u2, u3, u4, u5, u6, u7, u15) : He.FnW) = some (name, qual, params, .stmts body, scope, mainGlobals, [], builtinsNs) := e
      simp only [Option.some.injEq, Prod.mk.injEq] at z
      obtain ⟨z1, z2, z3, z4, z5, z6, z7, z8⟩ := z
      subst z1 z2 z3 z4 z5 z6 z7 z8
      obtain ⟨k1, k2⟩ := He.ba (show (PySem.W.codeIn K u13 u2 && He.dflB K u8 dvs) = true from ok2)
      exact ⟨_, ⟨oc, od, u8, u9, u10, u11, u12, u13, u14, sl, rfl, lk, k1, He.dflB_ok k2, .inl rfl⟩, kp⟩
    | _ => cases ok2
theorem fun_ofD {K : PySem.W.Frag} {x qual : Str} {st : Stmt} {f : Addr} {fd : FuncData} (F : FunD K x qual (defArgs st) (defBody st) (defScope st) [] [] f fd) : Fun K x qual st f fd := by
  obtain ⟨oc, od, dV, kV, doc, pm, an, cdv, ct, osl, e, lk, hcd, hD, _⟩ := F.ex
  rcases hD with ⟨_, rfl⟩ | ⟨z, _⟩
  · exact ⟨⟨oc, od, kV, doc, pm, an, cdv, ct, osl, e, lk, hcd⟩, F.kp⟩
  · exact absurd rfl z
def obsY (rs : List DR) (exs : PySem.W.Frag → List Bool) (K : PySem.W.Frag) : Bool × List He.FnW := ((exs K).all id && rs.all fun d => okAt K (d.adr K) d.qual d.dfl, rs.map fun d => fnAt K (d.adr K))
def valY (rs : List DR) : Bool × List He.FnW := (true, rs.map DR.val)
def hookY (rs : List DR) (exs : PySem.W.Frag → List Bool) : PySem.W.Hook where
  α := Bool × List He.FnW
  obs := fun s => obsY rs exs (KF s.heap.get?)
  val := fun _ => valY rs
  says := fun _ hp => ∃ K : PySem.W.Frag, K.In hp ∧ obsY rs exs K = valY rs
  of := fun _ _ e => ⟨_, KF_in, e⟩
  keeps := fun _ _ _ ⟨K, hK, e⟩ k => ⟨K, PySem.W.Frag.In.keeps hK k, e⟩
def obY (rs : List DR) (exs : PySem.W.Frag → List Bool) (s : PySem.W.SharedT) : Bool × List He.FnW := obsY rs exs (KF (HandSHeadRun.getT s))
theorem obY_eq (rs : List DR) (exs : PySem.W.Frag → List Bool) (s : PySem.W.SharedT) : obY rs exs s = (hookY rs exs).obs s.abs := by
  have e : HandSHeadRun.getT s = s.abs.heap.get? := funext (HandSHeadRun.getT_eq s)
  unfold obY
  rw [e]
  rfl
section
variable {rs : List DR} {exs : PySem.W.Frag → List Bool} {K : PySem.W.Frag}
theorem fact (c : obsY rs exs K = valY rs) (i : Nat) {b : Bool} (h : (exs K)[i]? = some b) : b = true := by
  have c1 := (He.ba (show ((exs K).all id && rs.all fun d => okAt K (d.adr K) d.qual d.dfl) = true from congrArg Prod.fst c)).1
  exact List.all_eq_true.mp c1 b (List.mem_of_getElem? h)
theorem defAt (c : obsY rs exs K = valY rs) (i : Nat) {d : DR} (h : rs[i]? = some d) : ∃ fd, FunD K d.name d.qual d.params d.body d.scope d.dfl [] (d.adr K) fd := by
  have c2 := (He.ba (show ((exs K).all id && rs.all fun d => okAt K (d.adr K) d.qual d.dfl) = true from congrArg Prod.fst c)).2
  have e : rs.map (fun d => fnAt K (d.adr K)) = rs.map DR.val := congrArg Prod.snd c
  have e2 : (rs.map fun d => fnAt K (d.adr K))[i]? = (rs.map DR.val)[i]? := by rw [e]
  rw [List.getElem?_map, List.getElem?_map, h] at e2
  exact funD_at (Option.some.inj e2) (List.all_eq_true.mp c2 d (List.mem_of_getElem? h))
end
section
variable {K : PySem.W.Frag}
def eqB (o : Option Bool) (b : Bool) : Bool := match o with
  | some c => c == b
  | none => false
theorem eqB_ok {o : Option Bool} {b : Bool} (h : eqB o b = true) : o = some b := by
  cases o with
  | none => cases h
  | some c => rw [eq_of_beq (show (c == b) = true from h)]
theorem eqO_ok {a b : Option (Option Value)} (h : He.eqO a b = true) : a = b := He.eqO_ok h
def insB (K : PySem.W.Frag) (c : Addr) : Bool := He.eqO (PySem.W.findIn K (.ref c) "__class__") (some (some (.builtin "object.__class__"))) && eqB (PySem.W.mroIn K c (.type "object")) true
def getB (K : PySem.W.Frag) : Bool := He.eqO (PySem.W.specialIn K (.builtin "object.__class__") "__get__") (some (some (.builtin "getset_descriptor.__get__"))) && eqB (PySem.W.takesIn K (.builtin "object.__class__")) true
theorem ins_of {x : Str} (c : (He.Fa.cls x).ok K = true) (h1 : insB K (He.ga K x) = true) (h2 : getB K = true) : InsF K (He.ga K x) :=
  ⟨He.cls_ok c, eqO_ok (He.ba h1).1, eqO_ok (He.ba h2).1, eqB_ok (He.ba h2).2, eqB_ok (He.ba h1).2⟩
def opB (K : PySem.W.Frag) (o : Operator) : Bool := match PySem.W.findIn K (.type "int") (PySem.dunder o.info.2), PySem.W.findIn K (.type "int") (dunderR o.info.2) with
  | some fo, some ro => (fo.isSome && !isSeqSlot fo) || (ro.isSome && !isSeqSlot ro)
  | _, _ => false
theorem opB_ok {o : Operator} (h : opB K o = true) : ∃ fo ro, PySem.W.findIn K (.type "int") (PySem.dunder o.info.2) = some fo ∧ PySem.W.findIn K (.type "int") (dunderR o.info.2) = some ro ∧ ((fo.isSome && !isSeqSlot fo) || (ro.isSome && !isSeqSlot ro)) = true := by
  unfold opB at h
  split at h
  · rename_i fo ro e1 e2
    exact ⟨fo, ro, e1, e2, h⟩
  · cases h
theorem mk_of {x : Str} (h : (He.Fa.mkr x).ok K = true) : Mk K (He.ga K x) (He.ma K (He.ga K x) "__init__") := He.mkr_ok h
theorem meth_of {x m : Str} (h : (He.Fa.meth x m).ok K = true) : Meth K (He.ga K x) m (He.ma K (He.ga K x) m) := He.meth_ok h
end
theorem walkE {l : PySem.W.OpenLaw} {q : Program} {loose : List Str} {XP : (Str → Option Value) → Heap → Prop} {YP : World → Heap → Prop} {d : DefRec} {k : Nat} (x : Str) (hk : k ≤ 100) (t0 : TabL.T = [] := by rfl) (hn : l.most = some 63) (hdf : d.params.defaults = [])
    (F : ∀ (w : World) (mg : Str → Option Value) (fa : Addr) (hp : Heap), YP w hp → hp.Ns mainGlobals mg → mg d.name = some (.ref fa) →
      ∃ (K : PySem.W.Frag) (fd : FuncData), K.In hp ∧ (∀ (s : Shared) (u : Value), BindsTo s fd ⟨[u], []⟩ [(x, u)]) ∧ ∀ base : Heap, K.In base → base.Ns mainGlobals mg → FnOk l.prog w K mg base CX0 k fa fd [x] (spLaw K)) :
    PySem.W.WalkO q loose XP YP l.row.toRowW d [] (fun f vs => PySem.call f vs) :=
  L2.walk_ofE (n := 63) (k := k) (x := x) (CX := CX0) hn (by decide) hdf (Room.mono (k := 100) ⟨rfl, by decide, by decide⟩ hk) (fun w mg fa hp Y G hm => by
    obtain ⟨K, fd, h1, h2, h3⟩ := F w mg fa hp Y G hm
    exact ⟨K, fd, spLaw K, h1, h2, fun _ a ns hl _ hS => ⟨a, ns, rfl, hl, tabs_nil t0 _, hS, fun _ => rfl⟩, h3⟩) fun _ _ _ _ z => z
end EX
namespace SL
open PySem L2 DL
variable [TabL]
def natOf : D → Nat
  | .int i => i.natAbs
  | _ => 0
def f_is_integer (v_value : D) : O D :=
  (tr (O.ite ((tr ((O.ok v_value).bind (isiB "int"))).bind asB) ((tr (((tr ((O.ok v_value).bind (isiB "bool"))).bind asB).bind fun k => O.ok (!k))).bind asB) (O.ok false)))
def f_is_between (v_value v_least v_most : D) : O D :=
  (tr (O.ite (((O.cons (O.ok v_value) (O.ok [])).bind (l1 f_is_integer)).bind asB) ((tr (chainO (O.ok v_least) (O.ok v_value) (O.ok v_most) c_le c_le)).bind asB) (O.ok false)))
def f_are_small (v_value v_least v_most : D) : O D :=
  (O.ite (O.ite (((tr ((O.ok v_value).bind (isiB "str"))).bind asB).bind fun k => O.ok (!k)) (O.ok true) ((chainO (O.ok v_least) ((O.cons (O.ok v_value) (O.ok [])).bind bi_len) (O.ok v_most) c_le c_le).bind fun k => O.ok (!k))) (O.ok (D.bl false)) ((O.cons ((((O.ok v_value).bind itD).bind (mapO (fun v_sign => (tr (chainO (O.ok (D.str "a")) (O.ok v_sign) (O.ok (D.str "z")) c_le c_le))))).bind fun ds => O.ok (D.lst ds)) (O.ok [])).bind bi_all))
def f_is_in_order (v_value : D) : O D :=
  ((O.cons ((((O.ok (D.int 1)).bind fun x => ((O.cons (O.ok v_value) (O.ok [])).bind bi_len).bind fun y => rg2 x y).bind (mapO (fun v_at => (tr (((O.ok v_value).bind fun x => ((O.ok v_at).bind fun x => (O.ok (D.int 1)).bind fun y => b_sub x y).bind fun y => ix x y).bind fun x => ((O.ok v_value).bind fun x => (O.ok v_at).bind fun y => ix x y).bind fun y => c_lt x y))))).bind fun ds => O.ok (D.lst ds)) (O.ok [])).bind bi_all)
def f_are_figures (v_text : D) : O D :=
  (O.ite (O.ite ((O.ok v_text).bind fun x => (O.ok (D.str "")).bind fun y => c_eq x y) (O.ok true) ((((O.cons ((((O.ok v_text).bind itD).bind (mapO (fun v_sign => (tr ((O.ok v_sign).bind fun x => (O.ok (D.str "0123456789")).bind fun y => c_in x y))))).bind fun ds => O.ok (D.lst ds)) (O.ok [])).bind bi_all).bind asB).bind fun k => O.ok (!k))) (O.ok (D.bl false)) (tr (O.ite ((tr ((O.ok v_text).bind fun x => (O.ok (D.str "0")).bind fun y => c_eq x y)).bind asB) (O.ok true) ((tr (((O.ok v_text).bind fun x => (O.ok (D.int 0)).bind fun y => ix x y).bind fun x => (O.ok (D.str "0")).bind fun y => c_ne x y)).bind asB))))
def f_shared_factor (v_one v_two : D) : O D :=
  (((O.cons (O.ok v_one) (O.ok [])).bind bi_abs).bind fun v_high_1 => (((O.cons (O.ok v_two) (O.ok [])).bind bi_abs).bind fun v_low_2 => ((whileO (fun (s3 : D × D) => ((O.ok s3.2).bind fun x => (O.ok (D.int 0)).bind fun y => c_gt x y)) (fun s3 => ((O.ok s3.2).bind fun v_high_4 => (((O.ok s3.1).bind fun x => (O.ok s3.2).bind fun y => b_mod x y).bind fun v_low_5 => (O.ok (v_high_4, v_low_5))))) (natOf (v_two) + 1) (v_high_1, v_low_2)).bind fun (s3 : D × D) => (O.ok s3.1))))
def f_is_fraction (v_value : D) : O D :=
  (tr (O.ite (((O.cons (O.ok v_value) (O.ok [])).bind (l1 f_is_integer)).bind asB) (O.ok true) ((tr ((O.ok v_value).bind (isiC 0))).bind asB)))
def Ratio_init (v_top v_bottom : D) : O (List (Str × D)) :=
  (O.ite ((((O.cons (O.ok v_top) (O.ok [])).bind (l1 f_is_integer)).bind asB).bind fun k => O.ok (!k)) ((O.cons (O.ok v_top) (O.ok [])).bind fun ds => O.exc 100 ds) (O.ite (O.ite ((((O.cons (O.ok v_bottom) (O.ok [])).bind (l1 f_is_integer)).bind asB).bind fun k => O.ok (!k)) (O.ok true) ((O.ok v_bottom).bind fun x => (O.ok (D.int 1)).bind fun y => c_lt x y)) ((O.cons (O.ok v_bottom) (O.ok [])).bind fun ds => O.exc 100 ds) (((O.cons (O.ok v_top) (O.cons (O.ok v_bottom) (O.ok []))).bind (l2 f_shared_factor)).bind fun v_factor_1 => (((O.ok v_top).bind fun x => (O.ok v_factor_1).bind fun y => b_fdiv x y).bind fun f2 => (((O.ok v_bottom).bind fun x => (O.ok v_factor_1).bind fun y => b_fdiv x y).bind fun f3 => (O.ok (putD "bottom" f3 (putD "top" f2 ([])))))))))
def f_as_ratio (v_value : D) : O D :=
  (O.ite ((tr ((O.ok v_value).bind (isiC 0))).bind asB) (O.ok v_value) ((O.cons (O.ok v_value) (O.ok [])).bind fun ds => ((l2 Ratio_init) (ds ++ [D.int 1])).bind fun fs => O.ok (D.obj 0 fs)))
def f_order_of (v_one v_two : D) : O D :=
  (((O.cons (O.ok v_one) (O.ok [])).bind (l1 f_as_ratio)).bind fun v_here_1 => (((O.cons (O.ok v_two) (O.ok [])).bind (l1 f_as_ratio)).bind fun v_there_2 => ((((O.ok v_here_1).bind (fld "top" [0])).bind fun x => ((O.ok v_there_2).bind (fld "bottom" [0])).bind fun y => b_mul x y).bind fun v_left_3 => ((((O.ok v_there_2).bind (fld "top" [0])).bind fun x => ((O.ok v_here_1).bind (fld "bottom" [0])).bind fun y => b_mul x y).bind fun v_right_4 => (O.ite ((O.ok v_left_3).bind fun x => (O.ok v_right_4).bind fun y => c_eq x y) (O.ok (D.int 0)) (O.ite ((O.ok v_left_3).bind fun x => (O.ok v_right_4).bind fun y => c_lt x y) ((O.ok (D.int 1)).bind b_neg) (O.ok (D.int 1))))))))
def f_cell_text (v_cell : D) : O D :=
  ((O.ok v_cell).bind fun d => un3 d fun v_first_1 v_last_2 v_is_turned_3 => (O.ite ((O.ok v_is_turned_3).bind asB) (jO [((O.ok v_first_1).bind fmtO), (O.ok (D.str "-")), ((O.ok v_last_2).bind fmtO), (O.ok (D.str "~"))] Str.empty) (jO [((O.ok v_first_1).bind fmtO), (O.ok (D.str "-")), ((O.ok v_last_2).bind fmtO)] Str.empty)))
def Ratio_compared (v_self v_value : D) : O D :=
  (O.ite ((((O.cons (O.ok v_value) (O.ok [])).bind (l1 f_is_fraction)).bind asB).bind fun k => O.ok (!k)) ((O.cons (O.ok v_value) (O.ok [])).bind fun ds => O.exc 100 ds) ((O.cons (O.ok v_self) (O.cons (O.ok v_value) (O.ok []))).bind (l2 f_order_of)))
def Ratio_eq (v_self v_other : D) : O D :=
  (O.ite ((((O.cons (O.ok v_other) (O.ok [])).bind (l1 f_is_fraction)).bind asB).bind fun k => O.ok (!k)) (O.ok (D.bl false)) (((O.cons (O.ok v_other) (O.ok [])).bind (l1 f_as_ratio)).bind fun v_by_1 => (tr (O.ite ((tr (((O.ok v_self).bind (fld "top" [0])).bind fun x => ((O.ok v_by_1).bind (fld "top" [0])).bind fun y => c_eq x y)).bind asB) ((tr (((O.ok v_self).bind (fld "bottom" [0])).bind fun x => ((O.ok v_by_1).bind (fld "bottom" [0])).bind fun y => c_eq x y)).bind asB) (O.ok false)))))
def f_is_cell (v_many v_value : D) : O D :=
  (O.ite (O.ite (((tr ((O.ok v_value).bind (isiB "tuple"))).bind asB).bind fun k => O.ok (!k)) (O.ok true) (O.ite (((O.cons (O.ok v_value) (O.ok [])).bind bi_len).bind fun x => (O.ok (D.int 3)).bind fun y => c_ne x y) (O.ok true) (((tr (((O.ok v_value).bind fun x => (O.ok (D.int 2)).bind fun y => ix x y).bind (isiB "bool"))).bind asB).bind fun k => O.ok (!k)))) (O.ok (D.bl false)) (tr (O.ite (((O.cons ((O.ok v_value).bind fun x => (O.ok (D.int 0)).bind fun y => ix x y) (O.cons (O.ok (D.int 0)) (O.cons ((O.ok v_many).bind fun x => (O.ok (D.int 1)).bind fun y => b_sub x y) (O.ok [])))).bind (l3 f_is_between)).bind asB) (((O.cons ((O.ok v_value).bind fun x => (O.ok (D.int 1)).bind fun y => ix x y) (O.cons ((O.ok v_value).bind fun x => (O.ok (D.int 0)).bind fun y => ix x y) (O.cons ((O.ok v_many).bind fun x => (O.ok (D.int 1)).bind fun y => b_sub x y) (O.ok [])))).bind (l3 f_is_between)).bind asB) (O.ok false))))
def f_check_cells (v_cells : D) : O D :=
  (O.ite (O.ite (((tr ((O.ok v_cells).bind (isiB "tuple"))).bind asB).bind fun k => O.ok (!k)) (O.ok true) ((chainO (O.ok (D.int 2)) ((O.cons (O.ok v_cells) (O.ok [])).bind bi_len) (O.ok (D.int 8)) c_le c_le).bind fun k => O.ok (!k))) ((O.cons (O.ok (D.non)) (O.ok [])).bind fun ds => O.exc 102 ds) (((O.ok v_cells).bind enT).bind fun ds => (forO (fun (s1 : Unit) d => un2 d fun v_index_2 v_cell_3 => (O.ite ((((O.cons ((O.cons (O.ok v_cells) (O.ok [])).bind bi_len) (O.cons (O.ok v_cell_3) (O.ok []))).bind (l2 f_is_cell)).bind asB).bind fun k => O.ok (!k)) ((O.cons (O.ok v_index_2) (O.ok [])).bind fun ds => O.exc 102 ds) (O.ok ()))) ds ()).bind fun (s1 : Unit) => (O.ok D.non)))
def f_cell_in (v_word : D) : O D :=
  (((O.ok v_word).bind fun x => (O.ok (D.str "-")).bind fun y => t_part x y).bind fun d => un3 d fun v_first_1 v_line_2 v_rest_3 => ((O.ite (((O.ok v_rest_3).bind fun x => (((O.ok (D.int 1)).bind b_neg).bind fun x => (asI x).bind fun i => O.ok (some i)).bind fun l => (O.ok none).bind fun h => cut x l h).bind fun x => (O.ok (D.str "~")).bind fun y => c_eq x y) ((O.ok v_rest_3).bind fun x => (O.ok none).bind fun l => (((O.ok (D.int 1)).bind b_neg).bind fun x => (asI x).bind fun i => O.ok (some i)).bind fun h => cut x l h) (O.ok v_rest_3)).bind fun v_last_4 => (O.ite (O.ite (((O.cons (O.ok v_word) (O.ok [])).bind bi_len).bind fun x => (O.ok (D.int 4)).bind fun y => c_gt x y) (O.ok true) (O.ite ((((O.cons (O.ok v_first_1) (O.ok [])).bind (l1 f_are_figures)).bind asB).bind fun k => O.ok (!k)) (O.ok true) ((((O.cons (O.ok v_last_4) (O.ok [])).bind (l1 f_are_figures)).bind asB).bind fun k => O.ok (!k)))) (O.ok (D.non)) ((O.cons ((O.cons (O.ok v_first_1) (O.ok [])).bind bi_int) (O.cons ((O.cons (O.ok v_last_4) (O.ok [])).bind bi_int) (O.cons (tr ((O.ok v_rest_3).bind fun x => (O.ok v_last_4).bind fun y => c_ne x y)) (O.ok [])))).bind fun ds => O.ok (D.tup ds)))))
def Fold_init (v_cells : D) : O (List (Str × D)) :=
  (((O.cons (O.ok v_cells) (O.ok [])).bind (l1 f_check_cells)).bind fun _ => ((O.ok v_cells).bind fun f1 => (O.ok (putD "cells" f1 ([])))))
def Fold_len (v_self : D) : O D :=
  ((O.cons ((O.ok v_self).bind (fld "cells" [1, 5])) (O.ok [])).bind bi_len)
def Watch_len (v_self : D) : O D :=
  ((O.cons ((O.ok v_self).bind (fld "moves" [4])) (O.ok [])).bind bi_len)
def lens : Nat → Option (D → O D)
  | 1 => some Fold_len
  | 4 => some Watch_len
  | _ => none
def f_run_of (v_fold v_cell : D) : O (List D) :=
  (((((O.ok v_fold).bind (fld "cells" [1, 5])).bind fun x => (O.ok v_cell).bind fun y => ix x y).bind fun x => (O.ok (D.int 0)).bind fun y => ix x y).bind fun x => (((((O.ok v_fold).bind (fld "cells" [1, 5])).bind fun x => (O.ok v_cell).bind fun y => ix x y).bind fun x => (O.ok (D.int 1)).bind fun y => ix x y).bind fun x => (O.ok (D.int 1)).bind fun y => b_add x y).bind fun y => rgL x y)
def f_factor_of (v_fold v_cell : D) : O D :=
  ((((((O.ok v_fold).bind (fld "cells" [1, 5])).bind fun x => (O.ok v_cell).bind fun y => ix x y).bind fun x => (O.ok (D.int 1)).bind fun y => ix x y).bind fun x => ((((O.ok v_fold).bind (fld "cells" [1, 5])).bind fun x => (O.ok v_cell).bind fun y => ix x y).bind fun x => (O.ok (D.int 0)).bind fun y => ix x y).bind fun y => b_sub x y).bind fun x => (O.ok (D.int 1)).bind fun y => b_add x y)
def Fold_eq (v_self v_other : D) : O D :=
  (tr (O.ite ((tr ((O.ok v_other).bind (isiC 1))).bind asB) ((tr (((O.ok v_self).bind (fld "cells" [1, 5])).bind fun x => ((O.ok v_other).bind (fld "cells" [1, 5])).bind fun y => c_eq x y)).bind asB) (O.ok false)))
def f_check_fold (v_fold : D) : O D :=
  (O.ite (((tr ((O.ok v_fold).bind (isiC 1))).bind asB).bind fun k => O.ok (!k)) ((O.cons (O.ok v_fold) (O.ok [])).bind fun ds => O.exc 115 ds) (O.ok D.non))
def f_raisin_order (v_one v_two : D) : O D :=
  (((O.cons ((O.ok v_one).bind (fld "place" [2])) (O.cons ((O.ok v_two).bind (fld "place" [2])) (O.ok []))).bind (l2 f_order_of)).bind fun v_places_1 => (O.ite (O.ite ((O.ok v_places_1).bind fun x => (O.ok (D.int 0)).bind fun y => c_ne x y) (O.ok true) (((O.ok v_one).bind (fld "side" [2])).bind fun x => ((O.ok v_two).bind (fld "side" [2])).bind fun y => c_eq x y)) (O.ok v_places_1) (O.ite (((O.ok v_one).bind (fld "side" [2])).bind fun x => (O.ok (D.str "-")).bind fun y => c_eq x y) ((O.ok (D.int 1)).bind b_neg) (O.ok (D.int 1)))))
def Raisin_compared (v_self v_value : D) : O D :=
  (O.ite (((tr ((O.ok v_value).bind (isiC 2))).bind asB).bind fun k => O.ok (!k)) ((O.cons (O.ok v_value) (O.ok [])).bind fun ds => O.exc 116 ds) ((O.cons (O.ok v_self) (O.cons (O.ok v_value) (O.ok []))).bind (l2 f_raisin_order)))
def eqs0 : Nat → Option (D → D → O D)
  | 0 => some Ratio_eq
  | _ => none
def Raisin_eq (v_self v_other : D) : O D :=
  (tr (O.ite ((tr ((O.ok v_other).bind (isiC 2))).bind asB) ((tr (O.ite ((tr (((O.ok v_self).bind (fld "place" [2])).bind fun x => ((O.ok v_other).bind (fld "place" [2])).bind fun y => (ownEq eqs0) x y)).bind asB) ((tr (((O.ok v_self).bind (fld "side" [2])).bind fun x => ((O.ok v_other).bind (fld "side" [2])).bind fun y => (ownEq eqs0) x y)).bind asB) (O.ok false))).bind asB) (O.ok false)))
def f_other_side (v_side : D) : O D :=
  (O.ite ((O.ok v_side).bind fun x => (O.ok (D.str "-")).bind fun y => c_eq x y) (O.ok (D.str "+")) (O.ok (D.str "-")))
def f_check_moves (v_letters v_moves : D) : O D :=
  (O.ite (O.ite (((tr ((O.ok v_moves).bind (isiB "tuple"))).bind asB).bind fun k => O.ok (!k)) (O.ok true) ((chainO (O.ok (D.int 1)) ((O.cons (O.ok v_moves) (O.ok [])).bind bi_len) (O.ok (D.int 6)) c_le c_le).bind fun k => O.ok (!k))) ((O.cons (O.ok (D.non)) (O.ok [])).bind fun ds => O.exc 108 ds) (((O.ok v_moves).bind enT).bind fun ds => (forO (fun (s1 : Unit) d => un2 d fun v_index_2 v_line_3 => (O.ite (O.ite (((tr ((O.ok v_line_3).bind (isiB "tuple"))).bind asB).bind fun k => O.ok (!k)) (O.ok true) (((O.cons (O.ok v_line_3) (O.ok [])).bind bi_len).bind fun x => ((O.cons (O.ok v_letters) (O.ok [])).bind bi_len).bind fun y => c_ne x y)) ((O.cons (O.ok v_index_2) (O.ok [])).bind fun ds => O.exc 108 ds) (O.ite ((((O.cons ((((O.ok v_line_3).bind itD).bind (mapO (fun v_stand => ((O.cons (O.ok v_stand) (O.cons (O.ok (D.int 0)) (O.cons (((O.cons (O.ok v_moves) (O.ok [])).bind bi_len).bind fun x => (O.ok (D.int 1)).bind fun y => b_sub x y) (O.ok [])))).bind (l3 f_is_between))))).bind fun ds => O.ok (D.lst ds)) (O.ok [])).bind bi_all).bind asB).bind fun k => O.ok (!k)) ((O.cons (O.ok v_index_2) (O.ok [])).bind fun ds => O.exc 108 ds) (O.ok ())))) ds ()).bind fun (s1 : Unit) => (O.ok D.non)))
def f_are_good (v_many v_good : D) : O D :=
  (O.ite (O.ite (((tr ((O.ok v_good).bind (isiB "tuple"))).bind asB).bind fun k => O.ok (!k)) (O.ok true) ((((O.cons ((((O.ok v_good).bind itD).bind (mapO (fun v_stand => ((O.cons (O.ok v_stand) (O.cons (O.ok (D.int 0)) (O.cons ((O.ok v_many).bind fun x => (O.ok (D.int 1)).bind fun y => b_sub x y) (O.ok [])))).bind (l3 f_is_between))))).bind fun ds => O.ok (D.lst ds)) (O.ok [])).bind bi_all).bind asB).bind fun k => O.ok (!k))) (O.ok (D.bl false)) ((O.cons (O.ok v_good) (O.ok [])).bind (l1 f_is_in_order)))
def Watch_init (v_letters v_moves v_good : D) : O (List (Str × D)) :=
  (O.ite (O.ite ((((O.cons (O.ok v_letters) (O.cons (O.ok (D.int 1)) (O.cons (O.ok (D.int 8)) (O.ok [])))).bind (l3 f_are_small)).bind asB).bind fun k => O.ok (!k)) (O.ok true) ((((O.cons (O.ok v_letters) (O.ok [])).bind (l1 f_is_in_order)).bind asB).bind fun k => O.ok (!k))) ((O.cons (O.ok v_letters) (O.ok [])).bind fun ds => O.exc 107 ds) (((O.cons (O.ok v_letters) (O.cons (O.ok v_moves) (O.ok []))).bind (l2 f_check_moves)).bind fun _ => (O.ite ((((O.cons ((O.cons (O.ok v_moves) (O.ok [])).bind (ownLen lens)) (O.cons (O.ok v_good) (O.ok []))).bind (l2 f_are_good)).bind asB).bind fun k => O.ok (!k)) ((O.cons (O.ok v_good) (O.ok [])).bind fun ds => O.exc 109 ds) ((O.ok v_letters).bind fun f1 => ((O.ok v_moves).bind fun f2 => ((O.ok v_good).bind fun f3 => (O.ok (putD "good" f3 (putD "moves" f2 (putD "letters" f1 ([])))))))))))
def f_stand_behind (v_watch v_stand v_sign : D) : O D :=
  ((((O.ok v_watch).bind (fld "moves" [4])).bind fun x => (O.ok v_stand).bind fun y => ix x y).bind fun x => (((O.ok v_watch).bind (fld "letters" [4])).bind fun x => (O.ok v_sign).bind fun y => t_index x y).bind fun y => ix x y)
def f_form_of (v_watch : D) : O D :=
  ((O.cons ((O.ok v_watch).bind (fld "letters" [4])) (O.cons ((O.ok v_watch).bind (fld "moves" [4])) (O.cons ((O.ok v_watch).bind (fld "good" [4])) (O.ok [])))).bind fun ds => O.ok (D.tup ds))
def Watch_eq (v_self v_other : D) : O D :=
  (tr (O.ite ((tr ((O.ok v_other).bind (isiC 4))).bind asB) ((tr (((O.cons (O.ok v_self) (O.ok [])).bind (l1 f_form_of)).bind fun x => ((O.cons (O.ok v_other) (O.ok [])).bind (l1 f_form_of)).bind fun y => c_eq x y)).bind asB) (O.ok false)))
def f_check_colours (v_fold v_colours : D) : O D :=
  (O.ite ((((O.cons (O.ok v_colours) (O.cons ((O.cons (O.ok v_fold) (O.ok [])).bind (ownLen lens)) (O.cons ((O.cons (O.ok v_fold) (O.ok [])).bind (ownLen lens)) (O.ok [])))).bind (l3 f_are_small)).bind asB).bind fun k => O.ok (!k)) ((O.cons (O.ok v_colours) (O.ok [])).bind fun ds => O.exc 106 ds) (O.ok D.non))
def f_goes_with (v_watch v_colours : D) : O D :=
  ((O.cons ((((O.ok v_colours).bind itD).bind (mapO (fun v_sign => (tr ((O.ok v_sign).bind fun x => ((O.ok v_watch).bind (fld "letters" [4])).bind fun y => c_in x y))))).bind fun ds => O.ok (D.lst ds)) (O.ok [])).bind bi_all)
def f_check_watch (v_colours v_watch : D) : O D :=
  (O.ite (((tr ((O.ok v_watch).bind (isiC 4))).bind asB).bind fun k => O.ok (!k)) ((O.cons (O.ok v_watch) (O.ok [])).bind fun ds => O.exc 117 ds) (O.ite ((((O.cons (O.ok v_watch) (O.cons (O.ok v_colours) (O.ok []))).bind (l2 f_goes_with)).bind asB).bind fun k => O.ok (!k)) ((O.cons (O.ok v_colours) (O.ok [])).bind fun ds => O.exc 119 ds) (O.ok D.non)))
def f_first_nodes (v_fold v_colours v_watch : D) : O D :=
  (((((O.cons (O.ok v_fold) (O.ok [])).bind (ownLen lens)).bind rg1).bind (mapO (fun v_cell => ((O.cons (O.ok v_cell) (O.cons ((O.cons (O.ok v_watch) (O.cons (O.ok (D.int 0)) (O.cons ((O.ok v_colours).bind fun x => (O.ok v_cell).bind fun y => ix x y) (O.ok [])))).bind (l3 f_stand_behind)) (O.ok []))).bind fun ds => O.ok (D.tup ds))))).bind fun ds => O.ok (D.lst ds))
def f_nodes_behind (v_fold v_colours v_watch v_node : D) : O D :=
  ((((((O.cons (O.ok v_fold) (O.cons ((O.ok v_node).bind fun x => (O.ok (D.int 0)).bind fun y => ix x y) (O.ok []))).bind (l2 f_run_of)).bind fun ds => O.ok (D.lst ds)).bind itD).bind (mapO (fun v_cell => ((O.cons (O.ok v_cell) (O.cons ((O.cons (O.ok v_watch) (O.cons ((O.ok v_node).bind fun x => (O.ok (D.int 1)).bind fun y => ix x y) (O.cons ((O.ok v_colours).bind fun x => (O.ok v_cell).bind fun y => ix x y) (O.ok [])))).bind (l3 f_stand_behind)) (O.ok []))).bind fun ds => O.ok (D.tup ds))))).bind fun ds => O.ok (D.lst ds))
def f_check_asked (v_fold v_colours v_watch : D) : O D :=
  (((O.cons (O.ok v_fold) (O.ok [])).bind (l1 f_check_fold)).bind fun _ => (((O.cons (O.ok v_fold) (O.cons (O.ok v_colours) (O.ok []))).bind (l2 f_check_colours)).bind fun _ => (((O.cons (O.ok v_colours) (O.cons (O.ok v_watch) (O.ok []))).bind (l2 f_check_watch)).bind fun _ => (O.ok D.non))))
def f_common_multiple (v_numbers : D) : O D :=
  ((O.ok (D.int 1)).bind fun v_found_1 => (((O.ok v_numbers).bind itD).bind fun ds => (forO (fun (s2 : D) v_number_3 => ((((O.ok s2).bind fun x => (O.ok v_number_3).bind fun y => b_mul x y).bind fun x => ((O.cons (O.ok s2) (O.cons (O.ok v_number_3) (O.ok []))).bind (l2 f_shared_factor)).bind fun y => b_fdiv x y).bind fun v_found_4 => (O.ok v_found_4))) ds v_found_1).bind fun (s2 : D) => (O.ok s2)))
def f_staying_length (v_fold v_colours v_watch v_turns : D) : O D :=
  (((O.cons (O.ok v_fold) (O.cons (O.ok v_colours) (O.cons (O.ok v_watch) (O.ok [])))).bind (l3 f_check_asked)).bind fun _ => (O.ite ((((O.cons (O.ok v_turns) (O.cons (O.ok (D.int 0)) (O.cons (O.ok (D.int 200)) (O.ok [])))).bind (l3 f_is_between)).bind asB).bind fun k => O.ok (!k)) ((O.cons (O.ok v_turns) (O.ok [])).bind fun ds => O.exc 100 ds) (((O.cons (((((O.cons (O.ok v_fold) (O.ok [])).bind (ownLen lens)).bind rg1).bind (mapO (fun v_cell => ((O.cons (O.ok v_fold) (O.cons (O.ok v_cell) (O.ok []))).bind (l2 f_factor_of))))).bind fun ds => O.ok (D.lst ds)) (O.ok [])).bind (l1 f_common_multiple)).bind fun v_by_1 => ((O.ok []).bind fun v_here_2 => ((O.ok (D.int 1)).bind fun v_whole_3 => ((((O.cons (O.ok v_fold) (O.cons (O.ok v_colours) (O.cons (O.ok v_watch) (O.ok [])))).bind (l3 f_first_nodes)).bind itD).bind fun ds => (forO (fun (s4 : List (D × D)) v_node_5 => ((O.ite (((O.ok v_node_5).bind fun x => (O.ok (D.int 1)).bind fun y => ix x y).bind fun x => ((O.ok v_watch).bind (fld "good" [4])).bind fun y => c_in x y) ((O.ok (D.int 1)).bind fun a6 => (O.ok v_node_5).bind fun kd8 => op2 (dkey kd8) fun k7 => sized (s4.length + 1) (O.ok (dstore k7 kd8 a6 s4))) (O.ok s4)).bind fun (j9 : List (D × D)) => (O.ok j9))) ds v_here_2).bind fun (s4 : List (D × D)) => (((O.ok v_turns).bind rg1).bind fun ds => (forO (fun (s10 : D × D) v_turn_11 => ((O.ok []).bind fun (v_later_12 : List (D × D)) => (((O.ok s10.1).bind itN).bind fun ds => (forO (fun (s13 : List (D × D)) d => un2 d fun v_node_14 v_amount_15 => (((O.ok v_amount_15).bind fun x => ((O.ok v_by_1).bind fun x => ((O.cons (O.ok v_fold) (O.cons ((O.ok v_node_14).bind fun x => (O.ok (D.int 0)).bind fun y => ix x y) (O.ok []))).bind (l2 f_factor_of)).bind fun y => b_fdiv x y).bind fun y => b_mul x y).bind fun v_share_16 => ((((O.cons (O.ok v_fold) (O.cons (O.ok v_colours) (O.cons (O.ok v_watch) (O.cons (O.ok v_node_14) (O.ok []))))).bind (l4 f_nodes_behind)).bind itD).bind fun ds => (forO (fun (s17 : List (D × D)) v_beyond_18 => ((O.ite (((O.ok v_beyond_18).bind fun x => (O.ok (D.int 1)).bind fun y => ix x y).bind fun x => ((O.ok v_watch).bind (fld "good" [4])).bind fun y => c_in x y) ((atomO (((O.ok (D.dic s17)).bind fun x => (O.cons (O.ok v_beyond_18) (O.cons (O.ok (D.int 0)) (O.ok []))).bind fun ds => ndGet x ds).bind fun x => (O.ok v_share_16).bind fun y => b_add x y)).bind fun a19 => (O.ok v_beyond_18).bind fun kd21 => op2 (dkey kd21) fun k20 => sized (s17.length + 1) (O.ok (dstore k20 kd21 a19 s17))) (O.ok s17)).bind fun (j22 : List (D × D)) => (O.ok j22))) ds s13).bind fun (s17 : List (D × D)) => (O.ok s17)))) ds v_later_12).bind fun (s13 : List (D × D)) => ((O.ok (D.dic s13)).bind fun v_here_23 => (((O.ok s10.2).bind fun x => (O.ok v_by_1).bind fun y => b_mul x y).bind fun v_whole_24 => (O.ok (v_here_23, v_whole_24))))))) ds ((D.dic s4), v_whole_3)).bind fun (s10 : D × D) => ((O.cons ((O.ok s10.1).bind ndSum) (O.cons (O.ok s10.2) (O.ok []))).bind fun ds => ((l2 Ratio_init) (ds ++ [])).bind fun fs => O.ok (D.obj 0 fs)))))))))
def mt_compared : List D → O D
  | .obj 0 fs :: ds => if (fs.lookup ("compared" : Str)).isNone then l2 Ratio_compared (.obj 0 fs :: ds) else .bad
  | .obj 2 fs :: ds => if (fs.lookup ("compared" : Str)).isNone then l2 Raisin_compared (.obj 2 fs :: ds) else .bad
  | _ => .bad
def eqs : Nat → Option (D → D → O D)
  | 0 => some Ratio_eq
  | 1 => some Fold_eq
  | 2 => some Raisin_eq
  | 4 => some Watch_eq
  | _ => none
theorem mtH_compared {F : Fam} {k0 k2 : Nat} (m0 : F.C.has 0 = true → Met F.P F.w F.C F.mg F.base k0 0 "compared" (spF F.C (l2 Ratio_compared))) (m2 : F.C.has 2 = true → Met F.P F.w F.C F.mg F.base k2 2 "compared" (spF F.C (l2 Raisin_compared))) (h0 : k0 ≤ F.k := by exact Nat.le_of_ble_eq_true rfl) (h2 : k2 ≤ F.k := by exact Nat.le_of_ble_eq_true rfl) : MtH F "compared" mt_compared := fun x ds d h => by
  unfold mt_compared at h; split at h
  · rename_i fs ds' e; cases e; split at h
    · exact ⟨0, fs, rfl, fun hh => ⟨k0, _, h0, m0 hh, by rename_i z; exact Option.isNone_iff_eq_none.mp z, h⟩⟩
    · cases h
  · rename_i fs ds' e; cases e; split at h
    · exact ⟨2, fs, rfl, fun hh => ⟨k2, _, h2, m2 hh, by rename_i z; exact Option.isNone_iff_eq_none.mp z, h⟩⟩
    · cases h
  · cases h
theorem lenF_lens {F : Fam} {k1 k4 : Nat} (m1 : F.C.has 1 = true → Met F.P F.w F.C F.mg F.base k1 1 "__len__" (spF F.C (l1 Fold_len))) (m4 : F.C.has 4 = true → Met F.P F.w F.C F.mg F.base k4 4 "__len__" (spF F.C (l1 Watch_len))) (h1 : k1 + 1 ≤ F.k := by exact Nat.le_of_ble_eq_true rfl) (h4 : k4 + 1 ≤ F.k := by exact Nat.le_of_ble_eq_true rfl) : LenF F "__len__" 1 lens := fun c f h hh => by
  unfold lens at h; split at h
  · cases h; exact ⟨k1, h1, m1 hh⟩
  · cases h; exact ⟨k4, h4, m4 hh⟩
  · cases h
theorem eqF_eqs0 {F : Fam} {k0 : Nat} (m0 : F.C.has 0 = true → Met F.P F.w F.C F.mg F.base k0 0 "__eq__" (spF F.C (l2 Ratio_eq))) (h0 : k0 + 1 ≤ F.k := by exact Nat.le_of_ble_eq_true rfl) : EqF F eqs0 := fun c f h hh => by
  unfold eqs0 at h; split at h
  · cases h; exact ⟨k0, h0, m0 hh⟩
  · cases h
theorem x_MOST_CELLS {F : Fam} {S : DL.ST} {pos : Pos} (h : ∃ t, F.mg "MOST_CELLS" = some (.int 8 t)) (hg : ∀ i, Gl (F.X i) "MOST_CELLS" := by intro _; rfl) : DEp F (.Name "MOST_CELLS" pos) S (.ok (.int 8)) := by
  obtain ⟨t, h1⟩ := h
  exact p_glob h1 (v := .int 8) ⟨t, rfl⟩ (fun _ => .int _) hg
theorem x_MOST_STANDS {F : Fam} {S : DL.ST} {pos : Pos} (h : ∃ t, F.mg "MOST_STANDS" = some (.int 6 t)) (hg : ∀ i, Gl (F.X i) "MOST_STANDS" := by intro _; rfl) : DEp F (.Name "MOST_STANDS" pos) S (.ok (.int 6)) := by
  obtain ⟨t, h1⟩ := h
  exact p_glob h1 (v := .int 6) ⟨t, rfl⟩ (fun _ => .int _) hg
theorem x_MOST_ROW {F : Fam} {S : DL.ST} {pos : Pos} (h : ∃ t, F.mg "MOST_ROW" = some (.int 200 t)) (hg : ∀ i, Gl (F.X i) "MOST_ROW" := by intro _; rfl) : DEp F (.Name "MOST_ROW" pos) S (.ok (.int 200)) := by
  obtain ⟨t, h1⟩ := h
  exact p_glob h1 (v := .int 200) ⟨t, rfl⟩ (fun _ => .int _) hg
end SL
namespace M1
theorem pos_of {g q : Int} (hg : 0 < g) (h : 0 < g * q) : 0 < q := by
  rcases Int.lt_or_le 0 q with z | z
  · exact z
  · have := Int.mul_le_mul_of_nonneg_left z (Int.le_of_lt hg)
    rw [Int.mul_zero] at this
    omega
theorem dvd_of {k m n : Int} (h1 : Int.gcd k m = 1) (h2 : k ∣ m * n) : k ∣ n := by
  have h3 : k.natAbs ∣ m.natAbs * n.natAbs := by
    rw [← Int.natAbs_mul]
    exact Int.natAbs_dvd_natAbs.mpr h2
  have h4 : Nat.Coprime k.natAbs m.natAbs := h1
  exact Int.natAbs_dvd_natAbs.mp (h4.dvd_of_dvd_mul_left h3)
theorem low_eq {a b c d : Int} (hb : 0 < b) (hd : 0 < d) (h : a * d = c * b) : a / (Int.gcd a b : Int) = c / (Int.gcd c d : Int) ∧ b / (Int.gcd a b : Int) = d / (Int.gcd c d : Int) := by
  have g0 : 0 < Int.gcd a b := Nat.pos_of_ne_zero fun e => by have := (Int.gcd_eq_zero_iff.mp e).2; omega
  have k0 : 0 < Int.gcd c d := Nat.pos_of_ne_zero fun e => by have := (Int.gcd_eq_zero_iff.mp e).2; omega
  obtain ⟨p, hp⟩ : (Int.gcd a b : Int) ∣ a := Int.gcd_dvd_left ..
  obtain ⟨q, hq⟩ : (Int.gcd a b : Int) ∣ b := Int.gcd_dvd_right ..
  obtain ⟨r, hr⟩ : (Int.gcd c d : Int) ∣ c := Int.gcd_dvd_left ..
  obtain ⟨t, ht⟩ : (Int.gcd c d : Int) ∣ d := Int.gcd_dvd_right ..
  have c1 : Int.gcd p q = 1 := by
    have e := Int.gcd_mul_left (Int.gcd a b : Int) p q
    rw [← hp, ← hq] at e
    have e2 : Int.gcd a b * Int.gcd p q = Int.gcd a b * 1 := by rw [Nat.mul_one]; simpa using e.symm
    exact Nat.eq_of_mul_eq_mul_left g0 e2
  have c2 : Int.gcd r t = 1 := by
    have e := Int.gcd_mul_left (Int.gcd c d : Int) r t
    rw [← hr, ← ht] at e
    have e2 : Int.gcd c d * Int.gcd r t = Int.gcd c d * 1 := by rw [Nat.mul_one]; simpa using e.symm
    exact Nat.eq_of_mul_eq_mul_left k0 e2
  have gp : (0 : Int) < (Int.gcd a b : Int) := by omega
  have kp : (0 : Int) < (Int.gcd c d : Int) := by omega
  have e1 : a / (Int.gcd a b : Int) = p := by
    have : a = (Int.gcd a b : Int) * p := hp
    exact Int.ediv_eq_of_eq_mul_right (by omega) this
  have e2 : b / (Int.gcd a b : Int) = q := Int.ediv_eq_of_eq_mul_right (by omega) hq
  have e3 : c / (Int.gcd c d : Int) = r := Int.ediv_eq_of_eq_mul_right (by omega) hr
  have e4 : d / (Int.gcd c d : Int) = t := Int.ediv_eq_of_eq_mul_right (by omega) ht
  rw [e1, e2, e3, e4]
  have q0 : 0 < q := by
    have : 0 < (Int.gcd a b : Int) * q := by rw [← hq]; exact hb
    exact pos_of (by omega) this
  have t0 : 0 < t := by
    have : 0 < (Int.gcd c d : Int) * t := by rw [← ht]; exact hd
    exact pos_of (by omega) this
  have hx : p * t = r * q := by
    have : ((Int.gcd a b : Int) * (Int.gcd c d : Int)) * (p * t) = ((Int.gcd a b : Int) * (Int.gcd c d : Int)) * (r * q) := by
      have h' : ((Int.gcd a b : Int) * p) * ((Int.gcd c d : Int) * t) = ((Int.gcd c d : Int) * r) * ((Int.gcd a b : Int) * q) := by
        rw [← hp, ← ht, ← hr, ← hq]; exact h
      grind
    have nz : (Int.gcd a b : Int) * (Int.gcd c d : Int) ≠ 0 := Int.mul_ne_zero (by omega) (by omega)
    exact Int.eq_of_mul_eq_mul_left nz this
  have d1 : q ∣ t := by
    have : q ∣ p * t := ⟨r, by rw [hx, Int.mul_comm]⟩
    exact dvd_of (by rw [Int.gcd_comm]; exact c1) this
  have d2 : t ∣ q := by
    have : t ∣ r * q := ⟨p, by rw [← hx, Int.mul_comm]⟩
    exact dvd_of (by rw [Int.gcd_comm]; exact c2) this
  have qt : q = t := by
    have h1 := Int.le_of_dvd t0 d1
    have h2 := Int.le_of_dvd q0 d2
    omega
  subst qt
  exact ⟨Int.eq_of_mul_eq_mul_right (by omega) hx, rfl⟩
theorem low_val {a b : Int} (hb : 0 < b) : ∃ g : Int, 0 < g ∧ a = (a / (Int.gcd a b : Int)) * g ∧ b = (b / (Int.gcd a b : Int)) * g ∧ 0 < b / (Int.gcd a b : Int) ∧ b / (Int.gcd a b : Int) ≤ b := by
  have g0 : 0 < Int.gcd a b := Nat.pos_of_ne_zero fun e => by have := (Int.gcd_eq_zero_iff.mp e).2; omega
  have gp : (0 : Int) < (Int.gcd a b : Int) := by omega
  have e1 := Int.ediv_mul_cancel (Int.gcd_dvd_left a b)
  have e2 := Int.ediv_mul_cancel (Int.gcd_dvd_right a b)
  refine ⟨Int.gcd a b, gp, e1.symm, e2.symm, ?_, ?_⟩
  · have : 0 < b / (Int.gcd a b : Int) * (Int.gcd a b : Int) := by rw [e2]; exact hb
    exact pos_of gp (by rw [Int.mul_comm]; exact this)
  · exact Int.ediv_le_self _ (by omega)
end M1
namespace SL
open PySem L2 DL
theorem nrfl {α : Sort _} {a b : α} (h : a = b) (_ : True) : a = b := h
theorem bk {α β : Type} (a : α) (f : α → O β) : (O.ok a).bind f = f a := nrfl rfl trivial
theorem ck (a : D) (as : List D) : O.cons (.ok a) (.ok as) = .ok (a :: as) := nrfl rfl trivial
theorem asBk (b : Bool) : asB (.bl b) = .ok b := nrfl rfl trivial
theorem trk (b : Bool) : tr (.ok b) = .ok (.bl b) := nrfl rfl trivial
theorem ite1 {α : Type} (x y : O α) : O.ite (.ok true) x y = x := nrfl rfl trivial
theorem ite0 {α : Type} (x y : O α) : O.ite (.ok false) x y = y := nrfl rfl trivial
theorem ap1 {α : Type} (f : D → O α) (a : D) : l1 f [a] = f a := nrfl rfl trivial
theorem ap2 {α : Type} (f : D → D → O α) (a b : D) : l2 f [a, b] = f a b := nrfl rfl trivial
theorem ap3 {α : Type} (f : D → D → D → O α) (a b c : D) : l3 f [a, b, c] = f a b c := nrfl rfl trivial
theorem ap4 {α : Type} (f : D → D → D → D → O α) (a b c d : D) : l4 f [a, b, c, d] = f a b c d := nrfl rfl trivial
theorem u2t {α : Type} (a b : D) (f : D → D → O α) : un2 (.tup [a, b]) f = f a b := nrfl rfl trivial
theorem chk (x y z : D) (q r : D → D → O Bool) : chainO (.ok x) (.ok y) (.ok z) q r = O.ite (q x y) (r y z) (.ok false) := nrfl rfl trivial
theorem aik (i : Int) : asI (.int i) = .ok i := nrfl rfl trivial
theorem mret {α : Type} (a : α) (g : List D) : M.ret a g = .ok (a, g) := nrfl rfl trivial
theorem mupa {α : Type} (o : O α) (g : List D) : M.up o g = o.bind fun a => .ok (a, g) := nrfl rfl trivial
theorem mbind {α β : Type} (m : M α) (f : α → M β) (g : List D) : M.bind m f g = (m g).bind fun r => f r.1 r.2 := nrfl rfl trivial
theorem bagx (ob : O D) (g : List D) : bagIx ob g = (ob.bind fun y => ix (.lst g) y).bind fun d => .ok (d, g) := nrfl rfl trivial
theorem mp0 (f : M D) : m0 f [] = f := nrfl rfl trivial
theorem mp1 (f : D → M D) (a : D) : m1 f [a] = f a := nrfl rfl trivial
theorem mp2 (f : D → D → M D) (a b : D) : m2 f [a, b] = f a b := nrfl rfl trivial
@[simp] theorem b_add_i (i j : Int) : b_add (.int i) (.int j) = .ok (.int (i + j)) := nrfl rfl trivial
@[simp] theorem b_sub_i (i j : Int) : b_sub (.int i) (.int j) = .ok (.int (i - j)) := nrfl rfl trivial
@[simp] theorem b_neg_i (i : Int) : b_neg (.int i) = .ok (.int (-i)) := nrfl rfl trivial
@[simp] theorem c_lt_i (i j : Int) : c_lt (.int i) (.int j) = .ok (decide (i < j)) := nrfl rfl trivial
@[simp] theorem c_le_i (i j : Int) : c_le (.int i) (.int j) = .ok (decide (i ≤ j)) := nrfl rfl trivial
@[simp] theorem c_gt_i (i j : Int) : c_gt (.int i) (.int j) = .ok (decide (j < i)) := nrfl rfl trivial
@[simp] theorem c_ge_i (i j : Int) : c_ge (.int i) (.int j) = .ok (decide (j ≤ i)) := nrfl rfl trivial
@[simp] theorem c_eq_i (i j : Int) : c_eq (.int i) (.int j) = .ok (decide (i = j)) := nrfl rfl trivial
@[simp] theorem c_eq_s (i j : Str) : c_eq (.str i) (.str j) = .ok (decide (i = j)) := nrfl rfl trivial
@[simp] theorem c_eq_b (i j : Bool) : c_eq (.bl i) (.bl j) = .ok (decide (i = j)) := nrfl rfl trivial
@[simp] theorem c_ne_i (i j : Int) : c_ne (.int i) (.int j) = .ok (!decide (i = j)) := nrfl rfl trivial
@[simp] theorem c_ne_s (i j : Str) : c_ne (.str i) (.str j) = .ok (!decide (i = j)) := nrfl rfl trivial
@[simp] theorem bi_int_i (i : Int) : bi_int [.int i] = .ok (.int i) := nrfl rfl trivial
@[simp] theorem bi_abs_i (i : Int) : bi_abs [.int i] = .ok (.int (if i < 0 then -i else i)) := nrfl rfl trivial
@[simp] theorem bi_tuple_l (ds : List D) : bi_tuple [.lst ds] = .ok (.tup ds) := nrfl rfl trivial
@[simp] theorem bi_tuple_t (ds : List D) : bi_tuple [.tup ds] = .ok (.tup ds) := nrfl rfl trivial
@[simp] theorem bi_len_l (ds : List D) : bi_len [.lst ds] = .ok (.int ds.length) := nrfl rfl trivial
@[simp] theorem bi_len_t (ds : List D) : bi_len [.tup ds] = .ok (.int ds.length) := nrfl rfl trivial
@[simp] theorem bi_max_i (i j : Int) : bi_max [.int i, .int j] = .ok (.int (if j > i then j else i)) := nrfl rfl trivial
@[simp] theorem bi_min_i (i j : Int) : bi_min [.int i, .int j] = .ok (.int (if j < i then j else i)) := nrfl rfl trivial
@[simp] theorem bi_max_2 (i j : Int) : bi_max [.lst [.int i, .int j]] = .ok (.int (if j > i then j else i)) := nrfl rfl trivial
@[simp] theorem bi_min_2 (i j : Int) : bi_min [.lst [.int i, .int j]] = .ok (.int (if j < i then j else i)) := nrfl rfl trivial
@[simp] theorem ownLen_l (t : Nat → Option (D → O D)) (ds : List D) : ownLen t [.lst ds] = .ok (.int ds.length) := nrfl rfl trivial
@[simp] theorem ownLen_t (t : Nat → Option (D → O D)) (ds : List D) : ownLen t [.tup ds] = .ok (.int ds.length) := nrfl rfl trivial
theorem mulOk_l {i j : Int} (h1 : -(2 ^ 64) < i) (h2 : i < 2 ^ 64) : mulOk i j = true := decide_eq_true (.inl (.inl ⟨h1, h2⟩))
theorem mulOk_r {i j : Int} (h1 : -(2 ^ 64) < j) (h2 : j < 2 ^ 64) : mulOk i j = true := decide_eq_true (.inl (.inr ⟨h1, h2⟩))
theorem b_mul_l {i j : Int} (h1 : -(2 ^ 64) < i) (h2 : i < 2 ^ 64) : b_mul (.int i) (.int j) = .ok (.int (i * j)) := if_pos (mulOk_l h1 h2)
theorem b_mul_r {i j : Int} (h1 : -(2 ^ 64) < j) (h2 : j < 2 ^ 64) : b_mul (.int i) (.int j) = .ok (.int (i * j)) := if_pos (mulOk_r h1 h2)
theorem b_mod_i {i j : Int} (h : 0 < j) : b_mod (.int i) (.int j) = .ok (.int (i % j)) := if_pos h
theorem b_fdiv_i {i j : Int} (h : 0 < j) (h2 : j < 2 ^ 64) : b_fdiv (.int i) (.int j) = .ok (.int (i / j)) := by
  refine if_pos ⟨h, ?_⟩
  have := (Nat.log2_lt (n := j.natAbs) (k := 64) (by omega)).mpr (by omega)
  omega
theorem atI_ok {α : Type} {xs : List α} {i : Int} {d : α} (h0 : 0 ≤ i) (h : xs[i.toNat]? = some d) : atI xs i = some d := by
  have hl : i.toNat < xs.length := (List.getElem?_eq_some_iff.mp h).1
  unfold atI ixN
  rw [if_pos h0, if_pos (by omega)]
  exact h
theorem ix_t {ds : List D} {i : Int} {d : D} (h0 : 0 ≤ i) (h : ds[i.toNat]? = some d) : ix (.tup ds) (.int i) = .ok d := by
  show op2 (atI ds i) .ok = _
  rw [atI_ok h0 h]; rfl
theorem ix_l {ds : List D} {i : Int} {d : D} (h0 : 0 ≤ i) (h : ds[i.toNat]? = some d) : ix (.lst ds) (.int i) = .ok d := by
  show op2 (atI ds i) .ok = _
  rw [atI_ok h0 h]; rfl
@[simp] theorem ix_t2_0 (a b : D) : ix (.tup [a, b]) (.int 0) = .ok a := nrfl rfl trivial
@[simp] theorem ix_t2_1 (a b : D) : ix (.tup [a, b]) (.int 1) = .ok b := nrfl rfl trivial
@[simp] theorem ix_l2_0 (a b : D) : ix (.lst [a, b]) (.int 0) = .ok a := nrfl rfl trivial
@[simp] theorem ix_l2_1 (a b : D) : ix (.lst [a, b]) (.int 1) = .ok b := nrfl rfl trivial
@[simp] theorem ix_t3_0 (a b c : D) : ix (.tup [a, b, c]) (.int 0) = .ok a := nrfl rfl trivial
@[simp] theorem ix_t3_1 (a b c : D) : ix (.tup [a, b, c]) (.int 1) = .ok b := nrfl rfl trivial
@[simp] theorem ix_t3_2 (a b c : D) : ix (.tup [a, b, c]) (.int 2) = .ok c := nrfl rfl trivial
@[simp] theorem ix_l3_0 (a b c : D) : ix (.lst [a, b, c]) (.int 0) = .ok a := nrfl rfl trivial
@[simp] theorem ix_l3_1 (a b c : D) : ix (.lst [a, b, c]) (.int 1) = .ok b := nrfl rfl trivial
@[simp] theorem ix_l3_2 (a b c : D) : ix (.lst [a, b, c]) (.int 2) = .ok c := nrfl rfl trivial
theorem rg1_i {i : Int} (h : -(2 ^ 62) ≤ i) (h2 : i < 2 ^ 62) : rg1 (.int i) = .ok (rangeD 0 i.toNat) := if_pos ⟨h, h2⟩
theorem rg2_i {i j : Int} (h : -(2 ^ 62) ≤ i) (h2 : i < 2 ^ 62) (h3 : -(2 ^ 62) ≤ j) (h4 : j < 2 ^ 62) : rg2 (.int i) (.int j) = .ok (rangeD i (j - i).toNat) := if_pos ⟨h, h2, h3, h4⟩
theorem gcd_loop {c : D × D → O Bool} {f : D × D → O (D × D)} (hc : ∀ x y : Int, c (.int x, .int y) = .ok (decide (0 < y))) (hf : ∀ x y : Int, 0 < y → f (.int x, .int y) = .ok (.int y, .int (x % y))) : ∀ (n : Nat) (x y : Int), 0 ≤ x → 0 ≤ y → y.natAbs < n → whileO c f n (.int x, .int y) = .ok (.int (Int.gcd x y), .int 0)
  | 0, x, y, _, _, h => by omega
  | n + 1, x, y, hx, hy, hn => by
    unfold whileO
    rw [hc]
    by_cases z : 0 < y
    · rw [decide_eq_true z, ite1, hf _ _ z, bk]
      have h1 := Int.emod_nonneg x (b := y) (by omega)
      have h2 := Int.emod_lt_of_pos x z
      rw [gcd_loop hc hf n y (x % y) hy h1 (by omega)]
      have e : Int.gcd y (x % y) = Int.gcd x y := by
        obtain ⟨m, rfl⟩ := Int.eq_ofNat_of_zero_le hx
        obtain ⟨k, rfl⟩ := Int.eq_ofNat_of_zero_le hy
        show Nat.gcd k ((m : Int) % (k : Int)).natAbs = Nat.gcd m k
        rw [← Int.natCast_emod, Int.natAbs_natCast, Nat.gcd_comm m k, Nat.gcd_rec k m, Nat.gcd_comm]
      rw [e]
    · have : y = 0 := by omega
      subst this
      rw [decide_eq_false z, ite0]
      have e : ((Int.gcd x 0 : Nat) : Int) = x := by rw [Int.gcd_zero_right]; omega
      rw [e]
theorem abs_if (i : Int) : (if i < 0 then -i else i) = (i.natAbs : Int) := by split <;> omega
theorem shared_factor_i (a b : Int) : f_shared_factor (.int a) (.int b) = .ok (.int (Int.gcd a b)) := by
  unfold f_shared_factor
  simp only [bk, ck, bi_abs_i, abs_if, natOf]
  rw [gcd_loop (by intro x y; rfl) (by intro x y h; simp only [bk, b_mod_i h]) (b.natAbs + 1) _ _ (by omega) (by omega) (by omega)]
  rw [bk]
  show O.ok (D.int _) = _
  rw [show Int.gcd (a.natAbs : Int) (b.natAbs : Int) = Int.gcd a b by unfold Int.gcd; rw [Int.natAbs_natCast, Int.natAbs_natCast]]
@[simp] theorem is_integer_i (i : Int) : f_is_integer (.int i) = .ok (.bl true) := by
  unfold f_is_integer
  with_unfolding_all rfl
@[simp] theorem is_between_i (i l m : Int) : f_is_between (.int i) (.int l) (.int m) = .ok (.bl (decide (l ≤ i) && decide (i ≤ m))) := by
  unfold f_is_between
  simp only [bk, ck, ap1, is_integer_i, asBk, ite1, chk, c_le_i]
  by_cases h : l ≤ i
  · simp only [decide_eq_true h, ite1, trk, bk, asBk, Bool.true_and]
  · simp only [decide_eq_false h, ite0, trk, bk, asBk, Bool.false_and]
def ratD (p q : Int) : D := .obj 0 [("top", .int p), ("bottom", .int q)]
def lowF (a b : Int) : List (Str × D) := [("top", .int (a / (Int.gcd a b : Int))), ("bottom", .int (b / (Int.gcd a b : Int)))]
theorem gcd_pos {a b : Int} (h : 0 < b) : (0 : Int) < (Int.gcd a b : Int) := by
  have : 0 < Int.gcd a b := Nat.pos_of_ne_zero fun e => by have := (Int.gcd_eq_zero_iff.mp e).2; omega
  omega
theorem gcd_le {a b : Int} (h : 0 < b) : (Int.gcd a b : Int) ≤ b := Int.le_of_dvd h (Int.gcd_dvd_right ..)
theorem Ratio_init_i {a b : Int} (h : 0 < b) (h2 : b < 2 ^ 64) : Ratio_init (.int a) (.int b) = .ok (lowF a b) := by
  unfold Ratio_init
  have g1 := gcd_pos (a := a) h
  have g2 := gcd_le (a := a) h
  simp only [bk, ck, ap1, ap2, is_integer_i, asBk, Bool.not_true, ite0, c_lt_i, decide_eq_false (show ¬ b < 1 by omega), shared_factor_i, b_fdiv_i g1 (show (Int.gcd a b : Int) < 2 ^ 64 by omega)]
  rfl
def mkR (a b : Int) : D := ratD (a / (Int.gcd a b : Int)) (b / (Int.gcd a b : Int))
theorem mkR_one (a : Int) : mkR a 1 = ratD a 1 := by
  unfold mkR
  rw [show Int.gcd a 1 = 1 by simp]
  simp
@[simp] theorem isiC_r (p q : Int) : isiC 0 (ratD p q) = .ok true := nrfl rfl trivial
@[simp] theorem isiC_i (c : Nat) (i : Int) : isiC c (.int i) = .ok false := nrfl rfl trivial
@[simp] theorem is_fraction_i (i : Int) : f_is_fraction (.int i) = .ok (.bl true) := by
  unfold f_is_fraction
  simp only [bk, ck, ap1, is_integer_i, asBk, ite1, trk]
@[simp] theorem is_fraction_r (p q : Int) : f_is_fraction (ratD p q) = .ok (.bl true) := by
  unfold f_is_fraction
  rw [show f_is_integer = f_is_integer from rfl]
  simp only [bk, ck, ap1, show f_is_integer (ratD p q) = .ok (.bl false) from rfl, asBk, ite0, isiC_r, trk]
@[simp] theorem as_ratio_i (i : Int) : f_as_ratio (.int i) = .ok (ratD i 1) := by
  unfold f_as_ratio
  simp only [bk, ck, isiC_i, trk, asBk, ite0, List.cons_append, List.nil_append, ap2, Ratio_init_i (a := i) (b := 1) (by decide) (by decide)]
  exact congrArg O.ok (mkR_one i)
@[simp] theorem as_ratio_r (p q : Int) : f_as_ratio (ratD p q) = .ok (ratD p q) := nrfl rfl trivial
@[simp] theorem fld_top (p q : Int) : fld "top" [0] (ratD p q) = .ok (.int p) := nrfl rfl trivial
@[simp] theorem fld_bottom (p q : Int) : fld "bottom" [0] (ratD p q) = .ok (.int q) := nrfl rfl trivial
theorem b_fdiv_x {i j : Int} (h : 0 < j) (h2 : j < 2 ^ 700) : b_fdiv (.int i) (.int j) = .ok (.int (i / j)) := by
  refine if_pos ⟨h, ?_⟩
  have := (Nat.log2_lt (n := j.natAbs) (k := 700) (by omega)).mpr (by omega)
  omega
def sm (i : Int) : Prop := -(2 ^ 300) < i ∧ i < 2 ^ 300
end SL
namespace SL
open PySem L2 DL
def raiD (p q : Int) (s : Str) : D := .obj 2 [("place", ratD p q), ("side", .str s)]
def Side (s : Str) : Prop := s = "+" ∨ s = "-"
theorem mp_ne : ¬ (("-" : Str) = "+") := by decide +kernel
@[simp] theorem isiB_str (s : Str) : isiB "str" (.str s) = .ok true := by with_unfolding_all rfl
@[simp] theorem isiB_tup (s : List D) : isiB "tuple" (.tup s) = .ok true := by with_unfolding_all rfl
@[simp] theorem isiB_bl (s : Bool) : isiB "bool" (.bl s) = .ok true := by with_unfolding_all rfl
@[simp] theorem fld_place (p q : Int) (s : Str) : fld "place" [2] (raiD p q s) = .ok (ratD p q) := nrfl rfl trivial
@[simp] theorem fld_side (p q : Int) (s : Str) : fld "side" [2] (raiD p q s) = .ok (.str s) := by with_unfolding_all rfl
def under (p q : Int) (s : Str) : Int := if q = 1 ∧ s = "-" then p / q - 1 else p / q
def flip (s : Str) : Str := if s = "-" then "+" else "-"
@[simp] theorem other_side_s (s : Str) : f_other_side (.str s) = .ok (.str (flip s)) := by
  unfold f_other_side flip
  simp only [bk, c_eq_s]
  by_cases h : s = "-"
  · rw [decide_eq_true h, ite1, if_pos h]
  · rw [decide_eq_false h, ite0, if_neg h]
abbrev Cell := Int × Int × Bool
def celD (c : Cell) : D := .tup [.int c.1, .int c.2.1, .bl c.2.2]
def cellsD (L : List Cell) : D := .tup (L.map celD)
def folD (L : List Cell) : D := .obj 1 [("cells", cellsD L)]
@[simp] theorem fld_cells (L : List Cell) : fld "cells" [1, 5] (folD L) = .ok (cellsD L) := nrfl rfl trivial
theorem ix_cell {L : List Cell} {w : Int} {c : Cell} (h0 : 0 ≤ w) (h : L[w.toNat]? = some c) : ix (cellsD L) (.int w) = .ok (celD c) := ix_t h0 (by rw [List.getElem?_map, h]; rfl)
theorem factor_of_i {L : List Cell} {w : Int} {a b : Int} {f : Bool} (h0 : 0 ≤ w) (h : L[w.toNat]? = some (a, b, f)) : f_factor_of (folD L) (.int w) = .ok (.int (b - a + 1)) := by
  unfold f_factor_of
  simp only [bk, fld_cells, ix_cell h0 h, celD, ix_t3_0, ix_t3_1, b_sub_i, b_add_i]
def goes (c : Cell) (p q w : Int) : Int := if c.2.2 then (c.2.1 + 1) * q - (c.2.1 - c.1 + 1) * (p - w * q) else c.1 * q + (c.2.1 - c.1 + 1) * (p - w * q)
def lows (t q : Int) : Int × Int := (t / (Int.gcd t q : Int), q / (Int.gcd t q : Int))
theorem mkR_eq {a b c d : Int} (hb : 0 < b) (hd : 0 < d) (h : a * d = c * b) : mkR a b = mkR c d := by
  unfold mkR
  rw [(M1.low_eq hb hd h).1, (M1.low_eq hb hd h).2]
theorem mkR_val {a b : Int} (hb : 0 < b) : ∃ p q g : Int, mkR a b = ratD p q ∧ 0 < g ∧ a = p * g ∧ b = q * g ∧ 0 < q ∧ q ≤ b := by
  obtain ⟨g, h1, h2, h3, h4, h5⟩ := M1.low_val (a := a) hb
  exact ⟨_, _, g, rfl, h1, h2, h3, h4, h5⟩
end SL
namespace SL
open PySem L2 DL
structure Spot where
  p : Int
  q : Int
  s : Str
def undr (x : Spot) : Int := under x.p x.q x.s
structure Vd (lo hi : Int) (x : Spot) : Prop where
  q0 : 0 < x.q
  g1 : Int.gcd x.p x.q = 1
  l : lo * x.q ≤ x.p
  h : x.p ≤ hi * x.q
  ls : x.p = lo * x.q → x.s = "+"
  hs : x.p = hi * x.q → x.s = "-"
  sd : Side x.s
theorem gcd_mul_self {k q : Int} (h : 0 < q) (hg : Int.gcd (k * q) q = 1) : q = 1 := by
  have h1 : q.natAbs ∣ Int.gcd (k * q) q := Int.dvd_gcd (Int.natAbs_dvd.mpr ⟨k, Int.mul_comm ..⟩) (Int.natAbs_dvd.mpr (Int.dvd_refl q))
  rw [hg] at h1
  have := Nat.dvd_one.mp h1
  omega
theorem undr_in {lo hi : Int} {x : Spot} (v : Vd lo hi x) : lo ≤ undr x ∧ undr x < hi ∧ 0 ≤ x.p - undr x * x.q ∧ x.p - undr x * x.q ≤ x.q ∧ (x.p - undr x * x.q = 0 → x.s = "+") ∧ (x.p - undr x * x.q = x.q → x.s = "-") := by
  obtain ⟨p, q, s⟩ := x
  obtain ⟨q0, g1, l, h, ls, hs, sd⟩ := v
  simp only at q0 g1 l h ls hs sd
  show lo ≤ under p q s ∧ under p q s < hi ∧ 0 ≤ p - under p q s * q ∧ p - under p q s * q ≤ q ∧ (p - under p q s * q = 0 → s = "+") ∧ (p - under p q s * q = q → s = "-")
  unfold under
  by_cases z : q = 1 ∧ s = "-"
  · rw [if_pos z]
    obtain ⟨z1, z2⟩ := z
    subst z1 z2
    have : p ≠ lo * 1 := fun e => mp_ne (ls e)
    simp only [Int.ediv_one, Int.mul_one] at *
    exact ⟨by omega, by omega, by omega, by omega, fun e => by omega, fun _ => trivial⟩
  · rw [if_neg z]
    have e := Int.mul_ediv_add_emod p q
    have r0 := Int.emod_nonneg p (b := q) (by omega)
    have r1 := Int.emod_lt_of_pos p q0
    have e2 : p - p / q * q = p % q := by rw [Int.mul_comm]; omega
    have hne : p ≠ hi * q := fun e => by
      have h1 := hs e
      rw [e] at g1
      exact z ⟨gcd_mul_self q0 g1, h1⟩
    refine ⟨Int.le_ediv_of_mul_le q0 l, Int.ediv_lt_of_lt_mul q0 (by omega), by omega, by omega, fun k => ?_, fun k => by omega⟩
    have h1 : p = p / q * q := by omega
    rw [h1] at g1
    rcases sd with h2 | h2
    · exact h2
    · exact absurd ⟨gcd_mul_self q0 g1, h2⟩ z
def gone (c : Cell) (x : Spot) : Spot := ⟨(lows (goes c x.p x.q (undr x)) x.q).1, (lows (goes c x.p x.q (undr x)) x.q).2, if c.2.2 then flip x.s else x.s⟩
structure Good (L : List Cell) : Prop where
  n1 : 2 ≤ L.length
  n2 : L.length ≤ 8
  ok : ∀ c ∈ L, 0 ≤ c.1 ∧ c.1 ≤ c.2.1 ∧ c.2.1 < L.length
def stp (L : List Cell) (x : Spot) : Spot := match L[(undr x).toNat]? with
  | some c => gone c x
  | none => x
structure On (L : List Cell) (x : Spot) : Prop where
  v : Vd 0 L.length x
  q2 : x.q < 2 ^ 200
theorem On.cell {L : List Cell} {x : Spot} (o : On L x) : ∃ c, L[(undr x).toNat]? = some c ∧ c ∈ L := by
  obtain ⟨u1, u2, _⟩ := undr_in o.v
  have hl : (undr x).toNat < L.length := by omega
  exact ⟨L[(undr x).toNat], List.getElem?_eq_getElem hl, List.getElem_mem hl⟩
theorem is_cell_ok {n : Nat} {c : Cell} (h : 0 ≤ c.1 ∧ c.1 ≤ c.2.1 ∧ c.2.1 < n) : f_is_cell (.int n) (celD c) = .ok (.bl true) := by
  obtain ⟨a, b, f⟩ := c
  simp only at h
  unfold f_is_cell celD
  simp only [bk, ck, isiB_tup, trk, asBk, Bool.not_true, ite0, bi_len_t, ix_t3_0, ix_t3_1, ix_t3_2, isiB_bl, b_sub_i, ap3, is_between_i]
  rw [show c_ne (.int ([D.int a, D.int b, D.bl f].length : Nat)) (.int 3) = .ok false from rfl]
  simp only [ite0, decide_eq_true (show (0 : Int) ≤ a by omega), decide_eq_true (show a ≤ (n : Int) - 1 by omega), decide_eq_true (show a ≤ b by omega), decide_eq_true (show b ≤ (n : Int) - 1 by omega), Bool.and_self, ite1, trk]
theorem forO_unit {f : Unit → D → O Unit} : ∀ {ds : List D}, (∀ d ∈ ds, f () d = .ok ()) → forO f ds () = .ok ()
  | [], _ => rfl
  | d :: ds, h => by
    show (f () d).bind _ = _
    rw [h d List.mem_cons_self]
    exact forO_unit fun x hx => h x (List.mem_cons_of_mem _ hx)
theorem check_cells_ok {L : List Cell} (g : Good L) : f_check_cells (cellsD L) = .ok .non := by
  unfold f_check_cells cellsD
  have n1 := g.n1
  have n2 := g.n2
  simp only [bk, ck, isiB_tup, trk, asBk, Bool.not_true, ite0, bi_len_t, chk, c_le_i, List.length_map, decide_eq_true (show (2 : Int) ≤ (L.length : Int) by omega), decide_eq_true (show (L.length : Int) ≤ 8 by omega), ite1]
  show (forO _ (enumD (L.map celD)) ()).bind _ = _
  rw [forO_unit fun d hd => ?_]
  · rfl
  · obtain ⟨i, hi⟩ := List.getElem?_of_mem hd
    obtain ⟨y, h1, h2⟩ := enumD_get hi
    rw [List.getElem?_map] at h1
    cases hc : L[i]? with
    | none => rw [hc] at h1; cases h1
    | some c =>
      rw [hc] at h1
      cases h1
      subst h2
      have hm := List.mem_of_getElem? hc
      simp only [u2t, ap2, is_cell_ok (g.ok c hm), bk, asBk, Bool.not_true, ite0]
theorem mk_fold {L : List Cell} (g : Good L) : ((l1 Fold_init) ([cellsD L] ++ [])).bind (fun fs => O.ok (D.obj 1 fs)) = .ok (folD L) := by
  rw [List.append_nil, ap1]
  unfold Fold_init
  simp only [bk, ck, ap1, check_cells_ok g]
  rfl
theorem ownLen_o {t : Nat → Option (D → O D)} {c : Nat} {fs : List (Str × D)} {f : D → O D} {n : Int} (h : t c = some f) (hf : f (.obj c fs) = .ok (.int n)) (h0 : 0 ≤ n) (h1 : n < 2 ^ 63) : ownLen t [.obj c fs] = .ok (.int n) := by
  unfold ownLen
  simp only [h, op2_some, hf, bk, aik]
  exact if_pos ⟨h0, h1⟩
theorem Fold_len_i (L : List Cell) : Fold_len (folD L) = .ok (.int L.length) := by
  unfold Fold_len
  simp only [bk, ck, fld_cells, cellsD, bi_len_t, List.length_map]
theorem len_fold (L : List Cell) (h : L.length ≤ 1000) : ownLen lens [folD L] = .ok (.int L.length) := ownLen_o (f := Fold_len) rfl (Fold_len_i L) (by omega) (by omega)
end SL
namespace SL
open PySem L2 DL
def row (L : List Cell) : Nat → Spot → List Int
  | 0, _ => []
  | n + 1, x => undr x :: row L n (stp L x)
def far (L : List Cell) : Nat → Spot → Spot
  | 0, x => x
  | n + 1, x => far L n (stp L x)
end SL
namespace SL
open PySem L2 DL
def Bag (g : List D) : Prop := ∃ a b c : Int, g = [.int a, .int b, .int c]
theorem mitea {α : Type} (m : M Bool) (x y : M α) (g : List D) : M.ite m x y g = (m g).bind fun r => (bif r.1 then x else y) r.2 := nrfl rfl trivial
theorem mconsa (m : M D) (ms : M (List D)) (g : List D) : M.cons m ms g = (m g).bind fun r => (ms r.2).bind fun t => .ok (r.1 :: t.1, t.2) := nrfl rfl trivial
theorem mtra (m : M Bool) (g : List D) : M.tr m g = (m g).bind fun r => .ok (.bl r.1, r.2) := nrfl rfl trivial
theorem ixN3_0 (a b c : D) : ixN [a, b, c].length 0 = some 0 := nrfl rfl trivial
theorem ixN3_1 (a b c : D) : ixN [a, b, c].length 1 = some 1 := nrfl rfl trivial
theorem ixN3_2 (a b c : D) : ixN [a, b, c].length 2 = some 2 := nrfl rfl trivial
theorem set3_0 (a b c x : D) : [a, b, c].set 0 x = [x, b, c] := nrfl rfl trivial
theorem set3_1 (a b c x : D) : [a, b, c].set 1 x = [a, x, c] := nrfl rfl trivial
theorem set3_2 (a b c x : D) : [a, b, c].set 2 x = [a, b, x] := nrfl rfl trivial
theorem op2k {α β : Type} (a : α) (f : α → O β) : op2 (some a) f = f a := nrfl rfl trivial
theorem bif1 {α : Type} (x y : α) : (bif true then x else y) = x := nrfl rfl trivial
theorem bif0 {α : Type} (x y : α) : (bif false then x else y) = y := nrfl rfl trivial
theorem sizedMk {α : Type} {n : Nat} {m : M α} {g : List D} (h : n ≤ 1000000) : sizedM n m g = m g := if_pos h
theorem forM_acc {α : Type} {P : α → Prop} {enc : α → D} {f : List D → D → M (List D)} (hf : ∀ acc d g, Bag g → acc.length ≤ 1000000 → ∃ c g', f acc d g = .ok (acc ++ [enc c], g') ∧ P c ∧ Bag g') :
    ∀ (ds : List D) (L0 : List α) (g : List D), Bag g → L0.length + ds.length ≤ 1000000 → (∀ c ∈ L0, P c) → ∃ (L : List α) (g' : List D), forM f ds (L0.map enc) g = .ok (L.map enc, g') ∧ L.length = L0.length + ds.length ∧ (∀ c ∈ L, P c) ∧ Bag g'
  | [], L0, g, hb, _, h0 => ⟨L0, g, rfl, rfl, h0, hb⟩
  | d :: ds, L0, g, hb, hl, h0 => by
    rw [List.length_cons] at hl
    obtain ⟨c, g1, e1, p1, b1⟩ := hf (L0.map enc) d g hb (by rw [List.length_map]; omega)
    obtain ⟨L, g2, e2, e3, p2, b2⟩ := forM_acc hf ds (L0 ++ [c]) g1 b1 (by rw [List.length_append, List.length_singleton]; omega) (fun x hx => by
      rcases List.mem_append.mp hx with h | h
      · exact h0 x h
      · rw [List.mem_singleton.mp h]; exact p1)
    refine ⟨L, g2, ?_, ?_, p2, b2⟩
    · rw [forM_cons, mbind, e1, bk, ← e2, List.map_append]; rfl
    · rw [e3, List.length_append, List.length_singleton, List.length_cons]; omega
theorem forM_accK {α β : Type} {P : α → Prop} {enc : α → D} {f : List D → D → M (List D)} {K : List D × List D → O β} {Q : β → Prop} {ds g : List D} (hb : Bag g) (hl : ds.length ≤ 1000000) (hf : ∀ acc d g, Bag g → acc.length ≤ 1000000 → ∃ c g', f acc d g = .ok (acc ++ [enc c], g') ∧ P c ∧ Bag g')
    (hk : ∀ (L : List α) (g' : List D), L.length = ds.length → (∀ c ∈ L, P c) → Bag g' → ∃ r, K (L.map enc, g') = .ok r ∧ Q r) : ∃ r, (forM f ds [] g).bind K = .ok r ∧ Q r := by
  obtain ⟨L, g', e, hL, hP, b⟩ := forM_acc hf ds [] g hb (by simp; omega) (fun _ h => nomatch h)
  have e : forM f ds [] g = .ok (L.map enc, g') := e
  rw [e, bk]
  exact hk L g' (by simpa using hL) hP b
theorem forO_int {f : D → D → O D} (hf : ∀ s t : Int, ∃ u : Int, f (.int s) (.int t) = .ok (.int u)) : ∀ (js : List Int) (s : Int), ∃ u : Int, forO f (js.map D.int) (.int s) = .ok (.int u)
  | [], s => ⟨s, rfl⟩
  | j :: js, s => by
    obtain ⟨u, e⟩ := hf s j
    obtain ⟨v, e'⟩ := forO_int hf js u
    exact ⟨v, by show (f (.int s) (.int j)).bind _ = _; rw [e, bk]; exact e'⟩
theorem forO_intK {β : Type} {f : D → D → O D} {K : D → O β} {Q : β → Prop} {js : List Int} {s : Int} (hf : ∀ s t : Int, ∃ u : Int, f (.int s) (.int t) = .ok (.int u)) (hk : ∀ u : Int, ∃ r, K (.int u) = .ok r ∧ Q r) : ∃ r, (forO f (js.map D.int) (.int s)).bind K = .ok r ∧ Q r := by
  obtain ⟨u, e⟩ := forO_int hf js s
  rw [e, bk]
  exact hk u
end SL
namespace SL.K39
open PySem L2 DL SL
def f_law_purse (v_law_script v_law_k : D) : O (List D) :=
  ((((O.ok (D.int 7)).bind fun x => (O.ok v_law_k).bind fun y => b_mul x y).bind fun x => (O.ok (D.int 2)).bind fun y => b_add x y).bind fun v_law_held_1 => (((O.ok (D.int 90001)).bind fun x => (O.ok v_law_k).bind fun y => b_add x y).bind fun v_law_seed_2 => ((O.ite ((O.ok v_law_k).bind fun x => ((O.cons (O.ok v_law_script) (O.ok [])).bind (ownLen lens)).bind fun y => c_lt x y) (((O.cons ((O.ok v_law_script).bind fun x => (O.ok v_law_k).bind fun y => ix x y) (O.ok [])).bind bi_int).bind fun v_law_held_3 => (O.ok v_law_held_3)) (O.ok v_law_held_1)).bind fun (j4 : D) => ((((O.ok v_law_script).bind fun x => (O.ok none).bind fun l => ((O.ok (D.int 5)).bind fun x => (asI x).bind fun i => O.ok (some i)).bind fun h => cut x l h).bind itD).bind fun ds => (forO (fun (s5 : D) v_law_each_6 => ((((O.cons ((((O.ok s5).bind fun x => (O.ok (D.int 39373)).bind fun y => b_mul x y).bind fun x => (((O.cons (O.ok v_law_each_6) (O.ok [])).bind bi_int).bind fun x => (O.ok (D.int 2147483399)).bind fun y => b_mod x y).bind fun y => b_add x y).bind fun x => (O.ok (D.int 1)).bind fun y => b_add x y) (O.ok [])).bind bi_int).bind fun x => (O.ok (D.int 2147483563)).bind fun y => b_mod x y).bind fun v_law_seed_7 => (O.ok v_law_seed_7))) ds v_law_seed_2).bind fun (s5 : D) => ((((O.cons (((O.ok s5).bind fun x => (O.ok (D.int 48271)).bind fun y => b_mul x y).bind fun x => (((O.cons (O.ok j4) (O.ok [])).bind bi_int).bind fun x => (O.ok (D.int 2147483399)).bind fun y => b_mod x y).bind fun y => b_add x y) (O.ok [])).bind bi_int).bind fun x => (O.ok (D.int 2147483563)).bind fun y => b_mod x y).bind fun v_law_seed_8 => (O.cons (O.ok v_law_seed_8) (O.cons (O.ite (((O.cons (O.ok j4) (O.ok [])).bind bi_abs).bind fun x => ((O.ok (D.int 10)).bind fun x => (O.ok (D.int 18)).bind fun y => b_pow x y).bind fun y => c_ge x y) ((O.cons (O.ok j4) (O.ok [])).bind bi_abs) (O.ok (D.int 0))) (O.cons (O.ok (D.int 0)) (O.ok [])))))))))
def f_law_draw (v_law_many : D) : M D :=
  (((bagIx (O.ok (D.int 2))).bind fun x => (M.up (O.ok (D.int 1))).bind fun y => M.up (b_add x y)).bind fun b5 g => op2 (ixN g.length 2) fun n => (((M.cons (bagIx (O.ok (D.int 0))) (M.up (O.ok []))).bind fun ds => M.up (bi_int ds)).bind fun v_law_seed_1 => ((((M.cons ((M.up ((O.ok v_law_seed_1).bind fun x => ((((O.cons (O.ok v_law_seed_1) (O.ok [])).bind bi_int).bind fun x => (O.ok (D.int 30011)).bind fun y => b_mod x y).bind fun x => (O.ok (D.int 12347)).bind fun y => b_add x y).bind fun y => b_mul x y)).bind fun x => ((M.up (O.ok (D.int 39373))).bind fun x => (bagIx (O.ok (D.int 2))).bind fun y => M.up (b_mul x y)).bind fun y => M.up (b_add x y)) (M.up (O.ok []))).bind fun ds => M.up (bi_int ds)).bind fun x => (M.up (O.ok (D.int 2147483563))).bind fun y => M.up (b_mod x y)).bind fun b4 g => op2 (ixN g.length 0) fun n => (M.ite ((bagIx (O.ok (D.int 1))).bind fun x => (M.up (O.ok (D.int 0))).bind fun y => M.up (c_gt x y)) ((((M.cons (bagIx (O.ok (D.int 1))) (M.up (O.ok []))).bind fun ds => M.up (bi_int ds)).bind fun x => (M.up (O.ok v_law_many)).bind fun y => M.up (b_mod x y)).bind fun v_law_digit_2 => (((bagIx (O.ok (D.int 1))).bind fun x => (M.up (O.ok v_law_many)).bind fun y => M.up (b_fdiv x y)).bind fun b3 g => op2 (ixN g.length 1) fun n => (M.up (O.ok v_law_digit_2)) (g.set n b3))) ((((M.cons (bagIx (O.ok (D.int 0))) (M.up (O.ok []))).bind fun ds => M.up (bi_int ds)).bind fun x => (M.up (O.ok (D.int 733))).bind fun y => M.up (b_fdiv x y)).bind fun x => (M.up (O.ok v_law_many)).bind fun y => M.up (b_mod x y))) (g.set n b4))) (g.set n b5))
def f_law_pick (v_law_some : D) : M D :=
  ((M.up (O.ok v_law_some)).bind fun x => ((M.up (O.cons ((O.cons (O.ok v_law_some) (O.ok [])).bind (ownLen lens)) (O.ok []))).bind (m1 f_law_draw)).bind fun y => M.up (ix x y))
def f_law_dough (v_law_most : D) : M D :=
  (((M.up (O.ok (D.int 2))).bind fun x => ((M.up (O.cons ((O.ok v_law_most).bind fun x => (O.ok (D.int 1)).bind fun y => b_sub x y) (O.ok []))).bind (m1 f_law_draw)).bind fun y => M.up (b_add x y)).bind fun v_law_size_1 => ((M.up (O.ok [])).bind fun v_law_found_2 => ((M.up ((O.ok v_law_size_1).bind rg1)).bind fun ds => (forM (fun (s3 : List D) v_law_k_4 => (((M.up (O.cons (O.ok (D.int 6)) (O.ok []))).bind (m1 f_law_draw)).bind fun v_law_which_5 => (((M.up (O.cons (O.ok v_law_size_1) (O.ok []))).bind (m1 f_law_draw)).bind fun v_law_far_6 => (((M.up (O.cons (O.ok v_law_size_1) (O.ok []))).bind (m1 f_law_draw)).bind fun v_law_near_7 => ((M.up ((O.cons (O.ok v_law_far_6) (O.cons (O.ok v_law_near_7) (O.ok []))).bind bi_min)).bind fun v_law_first_8 => ((M.up ((O.cons (O.ok v_law_far_6) (O.cons (O.ok v_law_near_7) (O.ok []))).bind bi_max)).bind fun v_law_last_9 => ((M.ite (M.up ((O.ok v_law_which_5).bind fun x => (O.ok (D.int 0)).bind fun y => c_eq x y)) ((M.up (O.ok (D.int 0))).bind fun v_law_first_10 => ((M.up ((O.ok v_law_size_1).bind fun x => (O.ok (D.int 1)).bind fun y => b_sub x y)).bind fun v_law_last_11 => (M.ret (v_law_first_10, v_law_last_11)))) (M.ret (v_law_first_8, v_law_last_9))).bind fun (j12 : D × D) => ((M.ite (M.up ((O.ok v_law_which_5).bind fun x => (O.ok (D.int 1)).bind fun y => c_eq x y)) ((M.up (O.ok j12.1)).bind fun v_law_last_13 => (M.ret v_law_last_13)) (M.ret j12.2)).bind fun (j14 : D) => (((M.cons (M.up (O.ok j12.1)) (M.cons (M.up (O.ok j14)) (M.cons (M.tr (((M.up (O.cons (O.ok (D.int 2)) (O.ok []))).bind (m1 f_law_draw)).bind fun x => (M.up (O.ok (D.int 1))).bind fun y => M.up (c_eq x y))) (M.up (O.ok []))))).bind fun ds => M.ret (D.tup ds)).bind fun a15 => sizedM s3.length (M.ret (s3 ++ [a15]))))))))))) ds v_law_found_2).bind fun (s3 : List D) => (M.up ((O.cons (O.ok (D.lst s3)) (O.ok [])).bind bi_tuple)))))
def f_law_signs (v_law_many : D) : M D :=
  ((M.up (O.ok (D.str "abcdefghijklmnopqrstuvwxyz"))).bind fun v_law_left_1 => ((M.up (O.ok (D.str ""))).bind fun v_law_found_2 => ((M.up ((O.ok v_law_many).bind rg1)).bind fun ds => (forM (fun (s3 : D × D) v_law_turn_4 => (((M.up (O.cons (((((O.cons (O.ok s3.1) (O.ok [])).bind (ownLen lens)).bind fun x => (O.ok v_law_many).bind fun y => b_sub x y).bind fun x => (O.ok v_law_turn_4).bind fun y => b_add x y).bind fun x => (O.ok (D.int 1)).bind fun y => b_add x y) (O.ok []))).bind (m1 f_law_draw)).bind fun v_law_at_5 => ((M.up ((O.ok s3.2).bind fun x => ((O.ok s3.1).bind fun x => (O.ok v_law_at_5).bind fun y => ix x y).bind fun y => b_add x y)).bind fun v_law_found_6 => ((M.up ((O.ok s3.1).bind fun x => (((O.ok v_law_at_5).bind fun x => (O.ok (D.int 1)).bind fun y => b_add x y).bind fun x => (asI x).bind fun i => O.ok (some i)).bind fun l => (O.ok none).bind fun h => cut x l h)).bind fun v_law_left_7 => (M.ret (v_law_left_7, v_law_found_6)))))) ds (v_law_left_1, v_law_found_2)).bind fun (s3 : D × D) => (M.up (O.ok s3.2)))))
def f_law_eye (v_law_signs_here v_law_most : D) : M D :=
  (((M.up (O.ok (D.int 1))).bind fun x => ((M.up (O.cons (O.ok v_law_most) (O.ok []))).bind (m1 f_law_draw)).bind fun y => M.up (b_add x y)).bind fun v_law_many_1 => (((M.cons (((M.up ((O.ok v_law_many_1).bind rg1)).bind (mapM (fun v_law_k => ((M.cons (((M.up ((O.ok v_law_signs_here).bind itD)).bind (mapM (fun v_law_sign => ((M.up (O.cons (O.ok v_law_many_1) (O.ok []))).bind (m1 f_law_draw))))).bind fun ds => M.ret (D.lst ds)) (M.up (O.ok []))).bind fun ds => M.up (bi_tuple ds))))).bind fun ds => M.ret (D.lst ds)) (M.up (O.ok []))).bind fun ds => M.up (bi_tuple ds)).bind fun v_law_lines_2 => ((M.cons (M.up (O.ok v_law_signs_here)) (M.cons (M.up (O.ok v_law_lines_2)) (M.cons ((M.cons (((M.up ((O.ok v_law_many_1).bind rg1)).bind (filM (fun v_law_k => (((M.up (O.cons (O.ok (D.int 3)) (O.ok []))).bind (m1 f_law_draw)).bind fun x => (M.up (O.ok (D.int 0))).bind fun y => M.up (c_gt x y))) (fun v_law_k => (M.up (O.ok v_law_k))))).bind fun ds => M.ret (D.lst ds)) (M.up (O.ok []))).bind fun ds => M.up (bi_tuple ds)) (M.up (O.ok []))))).bind fun ds => M.ret (D.tup ds))))
def f_law_scene (v_law_most v_law_stands : D) : M D :=
  (((M.up (O.cons (O.ok v_law_most) (O.ok []))).bind (m1 f_law_dough)).bind fun v_law_dough_here_1 => (((M.cons ((M.up (O.cons ((O.cons (O.ok (D.int 1)) (O.cons (O.ok (D.int 2)) (O.cons (O.ok (D.int 2)) (O.cons (O.ok (D.int 2)) (O.cons (O.ok (D.int 3)) (O.cons (O.ok (D.int 3)) (O.cons (O.ok (D.int 4)) (O.cons (O.ok (D.int 8)) (O.ok []))))))))).bind fun ds => O.ok (D.lst ds)) (O.ok []))).bind (m1 f_law_pick)) (M.up (O.ok []))).bind (m1 f_law_signs)).bind fun v_law_signs_here_2 => (((M.up (O.cons (O.ok v_law_signs_here_2) (O.cons (O.ok v_law_stands) (O.ok [])))).bind (m2 f_law_eye)).bind fun v_law_eye_here_3 => ((M.cons (M.up (O.ok v_law_dough_here_1)) (M.cons ((M.up (O.ok (D.str ""))).bind fun x => (((M.up ((O.ok v_law_dough_here_1).bind itD)).bind (mapM (fun v_law_k => ((M.up (O.cons (O.ok v_law_signs_here_2) (O.ok []))).bind (m1 f_law_pick))))).bind fun ds => M.ret (D.lst ds)).bind fun y => M.up (t_join x y)) (M.up (O.cons (O.ok v_law_eye_here_3) (O.ok []))))).bind fun ds => M.ret (D.lst ds)))))
def f_law_trap (v_law_eye_here : D) : M D :=
  ((M.up ((O.cons ((O.ok v_law_eye_here).bind fun x => (O.ok (D.int 1)).bind fun y => ix x y) (O.ok [])).bind (ownLen lens))).bind fun v_law_many_1 => (M.ite (M.ite (M.up ((O.ok v_law_many_1).bind fun x => (O.ok (D.int 1)).bind fun y => c_eq x y)) (M.ret true) (((M.up (O.cons (O.ok (D.int 2)) (O.ok []))).bind (m1 f_law_draw)).bind fun x => (M.up (O.ok (D.int 0))).bind fun y => M.up (c_eq x y))) (M.up (O.ok v_law_eye_here)) (M.up ((O.cons ((O.ok v_law_eye_here).bind fun x => (O.ok (D.int 0)).bind fun y => ix x y) (O.cons ((((O.ok v_law_eye_here).bind fun x => (O.ok (D.int 1)).bind fun y => ix x y).bind fun x => (O.ok none).bind fun l => (((O.ok (D.int 1)).bind b_neg).bind fun x => (asI x).bind fun i => O.ok (some i)).bind fun h => cut x l h).bind fun x => ((O.cons (((O.cons ((O.ok v_law_many_1).bind fun x => (O.ok (D.int 1)).bind fun y => b_sub x y) (O.ok [])).bind fun ds => O.ok (D.tup ds)).bind fun x => ((O.cons ((O.ok v_law_eye_here).bind fun x => (O.ok (D.int 0)).bind fun y => ix x y) (O.ok [])).bind (ownLen lens)).bind fun y => b_mulX x y) (O.ok [])).bind fun ds => O.ok (D.tup ds)).bind fun y => b_add x y) (O.cons (((O.ok v_law_many_1).bind fun x => (O.ok (D.int 1)).bind fun y => b_sub x y).bind fun y => (rgL (D.int 0) y).bind fun ds => O.ok (D.tup ds)) (O.ok [])))).bind fun ds => O.ok (D.tup ds)))))
def f_law_led (v_law_eye_here v_law_stand v_law_sign : D) : O D :=
  ((((O.ok v_law_eye_here).bind fun x => (O.ok (D.int 1)).bind fun y => ix x y).bind fun x => (O.ok v_law_stand).bind fun y => ix x y).bind fun x => (((O.ok v_law_eye_here).bind fun x => (O.ok (D.int 0)).bind fun y => ix x y).bind fun x => (O.ok v_law_sign).bind fun y => t_index x y).bind fun y => ix x y)
def f_law_graph (v_law_dough_here v_law_paint v_law_eye_here : D) : O D :=
  ((O.ok []).bind fun (v_law_found_1 : List (D × D)) => ((((O.cons (O.ok v_law_dough_here) (O.ok [])).bind (ownLen lens)).bind rg1).bind fun ds => (forO (fun (s2 : List (D × D)) v_law_k_3 => ((((((O.ok v_law_dough_here).bind fun x => (O.ok v_law_k_3).bind fun y => ixX x y).bind fun x => (O.ok (D.int 0)).bind fun y => ixX x y).bind fun x => ((((O.ok v_law_dough_here).bind fun x => (O.ok v_law_k_3).bind fun y => ixX x y).bind fun x => (O.ok (D.int 1)).bind fun y => ixX x y).bind fun x => (O.ok (D.int 1)).bind fun y => b_add x y).bind fun y => rgL x y).bind fun ds => O.ok (D.lst ds)).bind fun v_law_run_4 => ((((O.cons ((O.ok v_law_eye_here).bind fun x => (O.ok (D.int 1)).bind fun y => ixX x y) (O.ok [])).bind (ownLen lens)).bind rg1).bind fun ds => (forO (fun (s5 : List (D × D)) v_law_stand_6 => (((((O.ok v_law_run_4).bind itX).bind (mapO (fun v_law_far => ((O.cons (O.ok v_law_far) (O.cons ((O.cons (O.ok v_law_eye_here) (O.cons (O.ok v_law_stand_6) (O.cons ((O.ok v_law_paint).bind fun x => (O.ok v_law_far).bind fun y => ixX x y) (O.ok [])))).bind (l3 f_law_led)) (O.ok []))).bind fun ds => O.ok (D.tup ds))))).bind fun ds => O.ok (D.lst ds)).bind fun a7 => ((O.cons (O.ok v_law_k_3) (O.cons (O.ok v_law_stand_6) (O.ok []))).bind fun ds => O.ok (D.tup ds)).bind fun kd9 => op2 (dkey kd9) fun k8 => sized (s5.length + 1) (O.ok (dstore k8 kd9 a7 s5)))) ds s2).bind fun (s5 : List (D × D)) => (O.ok s5)))) ds v_law_found_1).bind fun (s2 : List (D × D)) => (O.ok (D.dic s2))))
def f_law_firsts (v_law_paint v_law_eye_here : D) : O D :=
  (((((O.cons (O.ok v_law_paint) (O.ok [])).bind (ownLen lens)).bind rg1).bind (mapO (fun v_law_k => ((O.cons (O.ok v_law_k) (O.cons ((O.cons (O.ok v_law_eye_here) (O.cons (O.ok (D.int 0)) (O.cons ((O.ok v_law_paint).bind fun x => (O.ok v_law_k).bind fun y => ix x y) (O.ok [])))).bind (l3 f_law_led)) (O.ok []))).bind fun ds => O.ok (D.tup ds))))).bind fun ds => O.ok (D.lst ds))
def f_law_due (v_law_dough_here v_law_paint v_law_eye_here v_law_number : D) : O D :=
  (((O.cons (O.ok v_law_dough_here) (O.cons (O.ok v_law_paint) (O.cons (O.ok v_law_eye_here) (O.ok [])))).bind (l3 f_law_graph)).bind fun v_law_graph_here_1 => ((O.ok (D.int 1)).bind fun v_law_whole_2 => (((O.cons ((((O.ok v_law_graph_here_1).bind itX).bind (mapO (fun v_law_pair => ((O.cons (O.ok v_law_pair) (O.cons ((O.cons (tr (((O.ok v_law_pair).bind fun x => (O.ok (D.int 1)).bind fun y => ixX x y).bind fun x => ((O.ok v_law_eye_here).bind fun x => (O.ok (D.int 2)).bind fun y => ixX x y).bind fun y => c_in x y)) (O.ok [])).bind bi_int) (O.ok []))).bind fun ds => O.ok (D.tup ds))))).bind fun ds => O.ok (D.lst ds)) (O.ok [])).bind bi_dict).bind fun v_law_worth_3 => (((O.ok v_law_number).bind rg1).bind fun ds => (forO (fun (s4 : D × D) v_law_turn_5 => ((O.ok []).bind fun v_law_later_6 => (((O.ok s4.1).bind fun x => (O.ok (D.int 840)).bind fun y => b_mul x y).bind fun v_law_whole_7 => (((O.ok v_law_graph_here_1).bind itX).bind fun ds => (forO (fun (s8 : List (D × D)) v_law_pair_9 => (((O.ok v_law_dough_here).bind fun x => ((O.ok v_law_pair_9).bind fun x => (O.ok (D.int 0)).bind fun y => ixX x y).bind fun y => ixX x y).bind fun d => un3 d fun v_law_first_10 v_law_last_11 v_law_over_12 => ((O.ite (((O.ok v_law_pair_9).bind fun x => (O.ok (D.int 1)).bind fun y => ixX x y).bind fun x => ((O.ok v_law_eye_here).bind fun x => (O.ok (D.int 2)).bind fun y => ixX x y).bind fun y => c_in x y) ((O.ok (D.int 840)).bind fun x => (((O.ok v_law_last_11).bind fun x => (O.ok v_law_first_10).bind fun y => b_sub x y).bind fun x => (O.ok (D.int 1)).bind fun y => b_add x y).bind fun y => b_fdiv x y) (O.ok (D.int 0))).bind fun v_law_part_13 => (((O.ok v_law_part_13).bind fun x => ((O.cons (((((O.ok v_law_graph_here_1).bind fun x => (O.ok v_law_pair_9).bind fun y => ixX x y).bind itX).bind (mapO (fun v_law_far => ((O.ok s4.2).bind fun x => (O.ok v_law_far).bind fun y => ixX x y)))).bind fun ds => O.ok (D.lst ds)) (O.ok [])).bind bi_sum).bind fun y => b_mul x y).bind fun a14 => (O.ok v_law_pair_9).bind fun kd16 => op2 (dkey kd16) fun k15 => sized (s8.length + 1) (O.ok (dstore k15 kd16 a14 s8)))))) ds v_law_later_6).bind fun (s8 : List (D × D)) => ((O.ok (D.dic s8)).bind fun v_law_worth_17 => (O.ok (v_law_whole_7, v_law_worth_17))))))) ds (v_law_whole_2, v_law_worth_3)).bind fun (s4 : D × D) => ((O.cons ((O.cons (((((O.cons (O.ok v_law_paint) (O.cons (O.ok v_law_eye_here) (O.ok []))).bind (l2 f_law_firsts)).bind itX).bind (mapO (fun v_law_pair => ((O.ok s4.2).bind fun x => (O.ok v_law_pair).bind fun y => ixX x y)))).bind fun ds => O.ok (D.lst ds)) (O.ok [])).bind bi_sum) (O.cons (O.ok s4.1) (O.ok []))).bind fun ds => O.ok (D.lst ds))))))
def f_law_right : M D :=
  (((M.cons ((M.cons ((M.up (O.cons (O.ok (D.int 12)) (O.ok []))).bind (m1 f_law_draw)) (M.cons ((M.up (O.cons (O.ok (D.int 201)) (O.ok []))).bind (m1 f_law_draw)) (M.up (O.cons (O.ok (D.int 199)) (O.cons (O.ok (D.int 200)) (O.ok [])))))).bind fun ds => M.ret (D.lst ds)) (M.up (O.ok []))).bind (m1 f_law_pick)).bind fun v_law_number_1 => (((M.up (O.cons (O.ok (D.int 8)) (O.cons (O.ok (D.int 6)) (O.ok [])))).bind (m2 f_law_scene)).bind fun d g => un3 d fun v_law_dough_here_2 v_law_paint_3 v_law_eye_here_4 => (((M.up (O.cons (O.ok v_law_eye_here_4) (O.ok []))).bind (m1 f_law_trap)).bind fun v_law_eye_here_5 => ((M.up ((O.cons (O.ok v_law_dough_here_2) (O.ok [])).bind fun ds => ((l1 Fold_init) (ds ++ [])).bind fun fs => O.ok (D.obj 1 fs))).bind fun v_law_mine_6 => ((M.up ((O.cons ((O.ok v_law_eye_here_5).bind fun x => (O.ok (D.int 0)).bind fun y => ix x y) (O.cons ((O.ok v_law_eye_here_5).bind fun x => (O.ok (D.int 1)).bind fun y => ix x y) (O.cons ((O.ok v_law_eye_here_5).bind fun x => (O.ok (D.int 2)).bind fun y => ix x y) (O.ok [])))).bind fun ds => ((l3 Watch_init) (ds ++ [])).bind fun fs => O.ok (D.obj 4 fs))).bind fun v_law_seer_7 => ((M.up ((O.cons (O.ok v_law_dough_here_2) (O.cons (O.ok v_law_paint_3) (O.cons (O.ok v_law_eye_here_5) (O.cons (O.ok v_law_number_1) (O.ok []))))).bind (l4 f_law_due))).bind fun d g => un2 d fun v_law_due_here_8 v_law_whole_9 => ((M.up ((O.cons (O.ok v_law_mine_6) (O.cons (O.ok v_law_paint_3) (O.cons (O.ok v_law_seer_7) (O.cons (O.ok v_law_number_1) (O.ok []))))).bind (l4 f_staying_length))).bind fun v_law_told_10 => ((M.up ((O.cons (O.ok v_law_number_1) (O.cons (O.ok v_law_seer_7) (O.cons (O.ok v_law_paint_3) (O.cons (O.ok v_law_mine_6) (O.ok []))))).bind fun ds => (l4 f_staying_length) (perm [3, 2, 1, 0] ds))).bind fun v_law_again_11 => (M.ite (M.up (O.ite (((tr ((O.ok v_law_told_10).bind (isiC 0))).bind asB).bind fun k => O.ok (!k)) (O.ok true) (O.ite ((O.ok v_law_told_10).bind fun x => (O.ok v_law_again_11).bind fun y => (ownNe eqs0) x y) (O.ok true) (((O.ok v_law_told_10).bind (fld "bottom" [0])).bind fun x => (O.ok (D.int 1)).bind fun y => c_lt x y)))) (M.up (O.ok (D.bl false))) (M.ite (M.up ((((O.ok v_law_told_10).bind (fld "top" [0])).bind fun x => (O.ok v_law_whole_9).bind fun y => b_mul x y).bind fun x => ((O.ok v_law_due_here_8).bind fun x => ((O.ok v_law_told_10).bind (fld "bottom" [0])).bind fun y => b_mul x y).bind fun y => (ownNe eqs0) x y)) (M.up (O.ok (D.bl false))) (M.ite (M.up (O.ite ((O.ok v_law_number_1).bind fun x => (O.ok (D.int 0)).bind fun y => c_gt x y) ((((O.cons (O.ok v_law_mine_6) (O.cons (O.ok v_law_paint_3) (O.cons (O.ok v_law_seer_7) (O.cons ((O.ok v_law_number_1).bind fun x => (O.ok (D.int 1)).bind fun y => b_sub x y) (O.ok []))))).bind (l4 f_staying_length)).bind fun x => (O.cons (O.ok v_law_told_10) (O.ok [])).bind fun ds => mt_compared (x :: ds)).bind fun x => (O.ok (D.int 0)).bind fun y => c_lt x y) (O.ok false))) (M.up (O.ok (D.bl false))) ((M.up ((O.cons ((O.ok v_law_eye_here_5).bind fun x => (O.ok (D.int 0)).bind fun y => ix x y) (O.cons ((O.ok v_law_eye_here_5).bind fun x => (O.ok (D.int 1)).bind fun y => ix x y) (O.cons (((O.cons ((O.ok v_law_eye_here_5).bind fun x => (O.ok (D.int 1)).bind fun y => ix x y) (O.ok [])).bind (ownLen lens)).bind fun y => (rgL (D.int 0) y).bind fun ds => O.ok (D.tup ds)) (O.ok [])))).bind fun ds => ((l3 Watch_init) (ds ++ [])).bind fun fs => O.ok (D.obj 4 fs))).bind fun v_law_full_12 => ((M.up ((O.cons ((O.ok v_law_eye_here_5).bind fun x => (O.ok (D.int 0)).bind fun y => ix x y) (O.cons ((O.ok v_law_eye_here_5).bind fun x => (O.ok (D.int 1)).bind fun y => ix x y) (O.cons ((O.ok []).bind fun ds => O.ok (D.tup ds)) (O.ok [])))).bind fun ds => ((l3 Watch_init) (ds ++ [])).bind fun fs => O.ok (D.obj 4 fs))).bind fun v_law_none_13 => (M.up (tr (O.ite ((tr (((O.cons (O.ok v_law_mine_6) (O.cons (O.ok v_law_paint_3) (O.cons (O.ok v_law_full_12) (O.cons (O.ok v_law_number_1) (O.ok []))))).bind (l4 f_staying_length)).bind fun x => ((O.cons (O.ok v_law_dough_here_2) (O.ok [])).bind (ownLen lens)).bind fun y => (ownEq eqs0) x y)).bind asB) ((tr (((O.cons (O.ok v_law_mine_6) (O.cons (O.ok v_law_paint_3) (O.cons (O.ok v_law_none_13) (O.cons (O.ok v_law_number_1) (O.ok []))))).bind (l4 f_staying_length)).bind fun x => (O.ok (D.int 0)).bind fun y => (ownEq eqs0) x y)).bind asB) (O.ok false))))))))))) g)))) g))
def f_law (v_law_script : D) : O D :=
  ((O.cons (((((O.cons (O.ok (D.int 2)) (O.cons ((O.cons ((O.cons (O.ok v_law_script) (O.ok [])).bind (ownLen lens)) (O.cons (O.ok (D.int 3)) (O.ok []))).bind bi_min) (O.ok []))).bind bi_max).bind rg1).bind (mapO (fun v_law_k => (((O.cons (O.ok v_law_script) (O.cons (O.ok v_law_k) (O.ok []))).bind (l2 f_law_purse)).bind fun gs => ((m0 f_law_right) [] gs).bind fun r => O.ok r.1)))).bind fun ds => O.ok (D.lst ds)) (O.ok [])).bind bi_all)
end SL.K39
namespace SL
open PySem L2 DL TL
def okStr : O D → Bool
  | .ok (.str _) => true
  | _ => false
def strOf : O D → Str
  | .ok (.str t) => t
  | _ => Str.empty
def dOf : O D → D
  | .ok d => d
  | _ => .non
theorem okStr_eq {o : O D} (h : okStr o = true) : o = .ok (.str (strOf o)) := by
  cases o with
  | ok d => cases d with
    | str t => rfl
    | _ => cases h
  | _ => cases h
def ctx (c : Cell) : Str := strOf (f_cell_text (celD c))
def isCel (o : O D) (c : Cell) : Bool := match o with
  | .ok (.tup [.int a, .int b, .bl f]) => decide (a = c.1) && decide (b = c.2.1) && decide (f = c.2.2)
  | _ => false
theorem isCel_eq {o : O D} {c : Cell} (h : isCel o c = true) : o = .ok (celD c) := by
  obtain ⟨a, b, f⟩ := c
  unfold isCel at h
  split at h
  · simp only [Bool.and_eq_true, decide_eq_true_eq] at h
    obtain ⟨⟨rfl, rfl⟩, rfl⟩ := h
    rfl
  · cases h
def chkC (c : Cell) : Bool := okStr (f_cell_text (celD c)) && isCel (f_cell_in (.str (ctx c))) c && !(decide (32 ∈ (ctx c).cps.toList)) && decide ((ctx c).length ≤ 4) && (ctx c).cps.toList.all (· < 128)
theorem chk_all : ∀ a b : Fin 8, ∀ f : Bool, chkC ((a.val : Int), (b.val : Int), f) = true := by decide +kernel
theorem chk_cell {c : Cell} (h : 0 ≤ c.1 ∧ c.1 ≤ c.2.1 ∧ c.2.1 < 8) : chkC c = true := by
  obtain ⟨a, b, f⟩ := c
  simp only at h
  have := chk_all ⟨a.toNat, by omega⟩ ⟨b.toNat, by omega⟩ f
  simp only at this
  rw [Int.toNat_of_nonneg (by omega), Int.toNat_of_nonneg (by omega)] at this
  exact this
structure CT (c : Cell) : Prop where
  wr : f_cell_text (celD c) = .ok (.str (ctx c))
  rd : f_cell_in (.str (ctx c)) = .ok (celD c)
  sp : 32 ∉ (ctx c).cps.toList
  ln : (ctx c).length ≤ 4
  ch : ∀ x ∈ (ctx c).cps.toList, x < 128
theorem ct_of {c : Cell} (h : 0 ≤ c.1 ∧ c.1 ≤ c.2.1 ∧ c.2.1 < 8) : CT c := by
  have k := chk_cell h
  unfold chkC at k
  simp only [Bool.and_eq_true, Bool.not_eq_true', decide_eq_false_iff_not, decide_eq_true_eq, List.all_eq_true] at k
  obtain ⟨⟨⟨⟨k1, k2⟩, k3⟩, k4⟩, k5⟩ := k
  exact ⟨okStr_eq k1, isCel_eq k2, k3, k4, k5⟩
theorem Good.ct {L : List Cell} (g : Good L) {c : Cell} (h : c ∈ L) : CT c := ct_of (by have := g.ok c h; have := g.n2; omega)
theorem itk (ds : List D) : itD (.tup ds) = .ok ds := nrfl rfl trivial
theorem itl (ds : List D) : itD (.lst ds) = .ok ds := nrfl rfl trivial
end SL
namespace SL
open PySem L2 DL TL
def st (l : List Nat) : Str := ⟨l.toArray⟩
def tx (l : List Nat) : D := .str (st l)
theorem st_len (l : List Nat) : (st l).length = l.length := by
  show l.toArray.size = l.length
  simp
theorem st_tl (s : Str) : st s.cps.toList = s := by
  show (⟨s.cps.toList.toArray⟩ : Str) = s
  rw [Array.toArray_toList]
theorem ixn_nat {n k : Nat} (h : k < n) : ixN n (k : Int) = some (k : Int).toNat := by
  unfold ixN
  simp
  omega
theorem ix_tx {l : List Nat} {i : Int} {c : Nat} (h0 : 0 ≤ i) (hl : l.length ≤ 1000000) (h : l[i.toNat]? = some c) : ix (tx l) (.int i) = .ok (tx [c]) := by
  show (if (st l).length ≤ 1000000 then op2 (atI (st l).cps.toList i) fun c => O.ok (D.str ⟨#[c]⟩) else .bad) = _
  rw [if_pos (by rw [st_len]; exact hl)]
  have e : (st l).cps.toList = l := by show l.toArray.toList = l; simp
  have hi : i.toNat < l.length := (List.getElem?_eq_some_iff.mp h).1
  have e2 : atI l i = some c := by
    unfold atI
    have e3 : ixN l.length i = some i.toNat := by
      obtain ⟨k, rfl⟩ := Int.eq_ofNat_of_zero_le h0
      exact ixn_nat (by omega)
    rw [e3]
    exact h
  rw [e, e2]
  rfl
theorem add_tx {a b : List Nat} (h : a.length + b.length ≤ 1000000) : b_add (tx a) (tx b) = .ok (tx (a ++ b)) := by
  show (if (st a).length + (st b).length ≤ 1000000 then O.ok (D.str (st a ++ st b)) else .bad) = _
  rw [if_pos (by rw [st_len, st_len]; exact h)]
  congr 2
  show (⟨a.toArray ++ b.toArray⟩ : Str) = ⟨(a ++ b).toArray⟩
  rw [List.append_toArray]
theorem it_tx (l : List Nat) : itD (tx l) = .ok (l.map fun c => tx [c]) := by
  show O.ok (signsD (st l)) = _
  unfold signsD
  have e : (st l).cps.toList = l := by show l.toArray.toList = l; simp
  rw [e]
  rfl
theorem len_tx {l : List Nat} (h : l.length ≤ 1000000) : bi_len [tx l] = .ok (.int l.length) := by
  show (if (st l).length ≤ 1000000 then O.ok (D.int (st l).length) else .bad) = _
  rw [if_pos (by rw [st_len]; exact h), st_len]
theorem olen_tx {t : Nat → Option (D → O D)} {l : List Nat} (h : l.length ≤ 1000000) : ownLen t [tx l] = .ok (.int l.length) := len_tx h
theorem drop_tx {l : List Nat} (k : Nat) (h : l.length ≤ 1000000) : cut (tx l) (some (k : Int)) none = .ok (tx (l.drop k)) := by
  show (if (st l).length ≤ 1000000 then O.ok (D.str (cutS (st l) (some (k : Int)) none)) else .bad) = _
  rw [if_pos (by rw [st_len]; exact h)]
  unfold cutS
  have e : (st l).cps.toList = l := by show l.toArray.toList = l; simp
  rw [e, HT.sIx_none, HT.sIx_nat, st_len]
  show O.ok (tx ((l.drop (min k l.length)).take (l.length - min k l.length))) = _
  congr 2
  rcases Nat.le_total k l.length with z | z
  · rw [Nat.min_eq_left z, List.take_of_length_le (by rw [List.length_drop]; exact Nat.le_refl _)]
  · rw [Nat.min_eq_right z, List.drop_of_length_le (Nat.le_refl _), List.drop_of_length_le z, List.take_nil]
theorem joinL_nil : ∀ ps : List (List Nat), joinL [] ps = ps.flatten
  | [] => rfl
  | [p] => by show p = p ++ []; rw [List.append_nil]
  | p :: q :: r => by show p ++ ([] ++ joinL [] (q :: r)) = _; rw [List.nil_append, joinL_nil (q :: r)]; rfl
theorem join_tx {ls : List (List Nat)} (h : (ls.map List.length).sum ≤ 1000000) : t_join (.str "") (.lst (ls.map tx)) = .ok (tx ls.flatten) := by
  have e1 : ls.map tx = (ls.map st).map D.str := by rw [List.map_map]; rfl
  have e0 : ("" : Str) = st [] := by decide +kernel
  rw [e1]
  show op2 (strs? ((ls.map st).map D.str)) _ = _
  rw [strs?_map, op2k]
  have hj : joinOk ("" : Str) (ls.map st) = true := by
    refine decide_eq_true ?_
    rw [e0, st_len, List.map_map]
    have : ((fun x => x.length) ∘ st : List Nat → Nat) = List.length := by funext l; exact st_len l
    rw [this]
    simpa using h
  rw [hj, if_pos rfl]
  congr 2
  rw [join_eq]
  have := tl_join ("" : Str) (ls.map st)
  have e2 : tl ("" : Str) = [] := by decide +kernel
  have e3 : (ls.map st).map tl = ls := by
    rw [List.map_map]
    conv => rhs; rw [← List.map_id ls]
    refine List.map_congr_left fun l _ => ?_
    show l.toArray.toList = l
    simp
  rw [e2, e3, joinL_nil] at this
  have h2 : st (tl (Str.join ("" : Str) (ls.map st))) = Str.join ("" : Str) (ls.map st) := st_tl _
  rw [← h2, this]
def sml (c : Nat) : Prop := 97 ≤ c ∧ c ≤ 122
instance (c : Nat) : Decidable (sml c) := inferInstanceAs (Decidable (_ ∧ _))
theorem le_one (a b : Nat) : c_le (tx [a]) (tx [b]) = .ok (decide (a ≤ b)) := by
  show O.ok (!decide ((st [b]).cps.toList < (st [a]).cps.toList)) = _
  congr 1
  have : ((st [b]).cps.toList < (st [a]).cps.toList) ↔ b < a := by
    show [b] < [a] ↔ b < a
    constructor
    · intro h
      cases h with
      | rel h => exact h
      | cons h => cases h
    · intro h; exact .rel h
  by_cases z : b < a
  · rw [decide_eq_true (this.mpr z), decide_eq_false (by omega)]; rfl
  · rw [decide_eq_false (fun h => z (this.mp h)), decide_eq_true (by omega)]; rfl
theorem str_a : D.str "a" = tx [97] := by
  show D.str "a" = D.str (st [97])
  congr 1
theorem str_z : D.str "z" = tx [122] := by
  show D.str "z" = D.str (st [122])
  congr 1
theorem are_small_tx {l : List Nat} (hl : l.length ≤ 1000000) (n m : Int) : f_are_small (tx l) (.int n) (.int m) = .ok (.bl (decide (n ≤ l.length) && decide ((l.length : Int) ≤ m) && l.all fun c => decide (sml c))) := by
  unfold f_are_small
  have e0 : isiB "str" (tx l) = .ok true := isiB_str _
  simp only [bk, ck, e0, trk, asBk, Bool.not_true, ite0, len_tx hl, chk, c_le_i, it_tx, str_a, str_z]
  by_cases z1 : n ≤ (l.length : Int)
  · rw [decide_eq_true z1, ite1]
    by_cases z2 : (l.length : Int) ≤ m
    · rw [decide_eq_true z2, bk, Bool.not_true, ite0]
      rw [mapO_ok (fun d => match d with | .str s => .bl (decide (97 ≤ s.cps.toList.headD 0) && decide (s.cps.toList.headD 0 ≤ 122)) | _ => .non) (fun d hd => ?hd) (by rw [List.length_map]; exact hl)]
      case hd =>
        obtain ⟨c, _, rfl⟩ := List.mem_map.mp hd
        show _ = O.ok (D.bl (decide (97 ≤ c) && decide (c ≤ 122)))
        rw [le_one, le_one]
        by_cases y : 97 ≤ c
        · rw [decide_eq_true y, ite1, trk]; rfl
        · rw [decide_eq_false y, ite0, trk]; rfl
      have e : (l.map fun c => tx [c]).map (fun d => match d with | .str s => D.bl (decide (97 ≤ s.cps.toList.headD 0) && decide (s.cps.toList.headD 0 ≤ 122)) | _ => .non) = (l.map fun c => decide (sml c)).map D.bl := by
        rw [List.map_map, List.map_map]
        refine List.map_congr_left fun c _ => ?_
        show D.bl (decide (97 ≤ c) && decide (c ≤ 122)) = D.bl (decide (sml c))
        congr 1
        unfold sml
        exact (Bool.decide_and _ _).symm
      rw [e, bk, ck, bk]
      show op2 (bls? _) _ = _
      rw [bls?_map, op2k]
      show O.ok (D.bl _) = _
      congr 2
      rw [List.all_map]
      rfl
    · rw [decide_eq_false z2, bk, Bool.not_false, ite1]
      simp
  · rw [decide_eq_false z1, ite0, bk, Bool.not_false, ite1]
    simp
end SL
namespace SL
open PySem L2 DL
structure Sq (n : Nat) (d : D) : Prop where
  ok : okP d = true
  cl : (toP d).canLay0 = true
  dp : (toP d).depth ≤ n
structure SqA (n : Nat) (d : List D) : Prop where
  ok : okPs d = true
  cl : PyData.canLayAll0 (toPs d) = true
  dp : PyData.depthAll (toPs d) ≤ n
theorem Sq.eqOk {n : Nat} {d : D} (h : Sq n d) (hn : n ≤ 60) : eqOk d = true := by
  have := h.dp
  unfold SL.eqOk
  rw [h.ok]
  show ((toP d).canLay0 && decide ((toP d).depth ≤ 64)) = true
  rw [h.cl, decide_eq_true (by omega)]; rfl
def cz (L : List Cell) (j : Int) : Cell := L.getD j.toNat (0, 0, false)
theorem cz_of {L : List Cell} (g : Good L) {j : Int} (h0 : 0 ≤ j) (h1 : j < L.length) : L[j.toNat]? = some (cz L j) ∧ 0 ≤ (cz L j).1 ∧ (cz L j).1 ≤ (cz L j).2.1 ∧ (cz L j).2.1 < L.length := by
  have hl : j.toNat < L.length := by omega
  have e : cz L j = L[j.toNat] := by unfold cz; rw [List.getD_eq_getElem?_getD, List.getElem?_eq_getElem hl]; rfl
  rw [e]
  exact ⟨List.getElem?_eq_getElem hl, g.ok _ (List.getElem_mem hl)⟩
def rng (n : Nat) : List Int := (List.range n).map fun (k : Nat) => (k : Int)
theorem mem_rng {n : Nat} {j : Int} : j ∈ rng n ↔ 0 ≤ j ∧ j < n := by
  unfold rng
  constructor
  · intro h
    obtain ⟨k, hk, rfl⟩ := List.mem_map.mp h
    have := List.mem_range.mp hk
    omega
  · intro h
    exact List.mem_map.mpr ⟨j.toNat, List.mem_range.mpr (by omega), by omega⟩
theorem rise_rng (n : Nat) : (rng n).Pairwise (· < ·) := by
  unfold rng
  rw [List.pairwise_map]
  exact List.Pairwise.imp (fun h => by omega) (List.pairwise_lt_range)
theorem rng_length (n : Nat) : (rng n).length = n := by unfold rng; rw [List.length_map, List.length_range]
theorem rangeD_rng (n : Nat) : rangeD 0 n = (rng n).map D.int := by
  unfold rangeD rng
  rw [List.map_map]
  refine List.map_congr_left fun k _ => ?_
  show D.int (0 + (k : Int)) = D.int (k : Int)
  rw [Int.zero_add]
theorem rgD_rng (n : Nat) : rgD 0 (n : Int) = (rng n).map D.int := by
  unfold rgD rng
  rw [List.map_map, Int.sub_zero, Int.toNat_natCast]
  refine List.map_congr_left fun k _ => ?_
  show D.int (0 + (k : Int)) = D.int (k : Int)
  rw [Int.zero_add]
def hat (h : List Nat) (j : Int) : Nat := h.getD j.toNat 0
def opn (h : List Nat) (c : Nat) : List Int := (rng h.length).filter fun k => decide (hat h k = c)
def inrun (L : List Cell) (j k : Int) : Bool := decide ((cz L j).1 ≤ k) && decide (k ≤ (cz L j).2.1)
def beh (L : List Cell) (h : List Nat) (cs : List Int) (c : Nat) : List Int := (rng L.length).filter fun k => decide (hat h k = c) && cs.any fun j => inrun L j k
structure Hue (L : List Cell) (h : List Nat) : Prop where
  len : h.length = L.length
  sm : ∀ c ∈ h, sml c
theorem ix_hat {h : List Nat} {j : Int} (hl : h.length ≤ 8) (h0 : 0 ≤ j) (h1 : j < h.length) : ix (tx h) (.int j) = .ok (tx [hat h j]) := by
  refine ix_tx h0 (by omega) ?_
  unfold hat
  rw [List.getD_eq_getElem?_getD, List.getElem?_eq_getElem (show j.toNat < h.length by omega)]
  rfl
theorem run_of_ok {L : List Cell} (g : Good L) {j : Int} (h0 : 0 ≤ j) (h1 : j < L.length) : f_run_of (folD L) (.int j) = .ok (rgD (cz L j).1 ((cz L j).2.1 + 1)) := by
  obtain ⟨hc, c0, c1, c2⟩ := cz_of g h0 h1
  have n2 := g.n2
  unfold f_run_of
  generalize hcc : cz L j = c at *
  obtain ⟨a, b, f⟩ := c
  simp only at c0 c1 c2
  have e1 : rgL (.int a) (.int (b + 1)) = .ok (rgD a (b + 1)) := by
    show (if 0 ≤ a ∧ a ≤ b + 1 ∧ b + 1 ≤ 1000000 then O.ok (rgD a (b + 1)) else .bad) = _
    rw [if_pos (by omega)]
  simp only [bk, fld_cells, ix_cell h0 hc, celD, ix_t3_0, ix_t3_1, b_add_i, e1]
def runI (c : Cell) : List Int := (List.range (c.2.1 + 1 - c.1).toNat).map fun (i : Nat) => c.1 + (i : Int)
theorem rgD_runI (c : Cell) : rgD c.1 (c.2.1 + 1) = (runI c).map D.int := by
  unfold rgD runI
  rw [List.map_map]
  rfl
theorem mem_runI {c : Cell} {k : Int} : k ∈ runI c ↔ c.1 ≤ k ∧ k ≤ c.2.1 := by
  unfold runI
  constructor
  · intro h
    obtain ⟨i, hi, rfl⟩ := List.mem_map.mp h
    have := List.mem_range.mp hi
    omega
  · intro h
    exact List.mem_map.mpr ⟨(k - c.1).toNat, List.mem_range.mpr (by omega), by omega⟩
theorem runI_len {c : Cell} : (runI c).length = (c.2.1 + 1 - c.1).toNat := by unfold runI; rw [List.length_map, List.length_range]
def runs (L : List Cell) (cs : List Int) : List Int := (cs.map fun j => runI (cz L j)).flatten
structure Wrd (w : List Nat) : Prop where
  n1 : 1 ≤ w.length
  n2 : w.length ≤ 200
  sm : ∀ c ∈ w, sml c
end SL
namespace SL
open PySem L2 DL
structure Eye where
  ls : List Nat
  ms : List (List Int)
  gs : List Int
structure EyeOk (W : Eye) : Prop where
  l1 : 1 ≤ W.ls.length
  l8 : W.ls.length ≤ 8
  sm : ∀ c ∈ W.ls, sml c
  up : W.ls.Pairwise (· < ·)
  m1 : 1 ≤ W.ms.length
  m6 : W.ms.length ≤ 6
  ml : ∀ r ∈ W.ms, r.length = W.ls.length
  mr : ∀ r ∈ W.ms, ∀ s ∈ r, 0 ≤ s ∧ s < W.ms.length
  gr : ∀ s ∈ W.gs, 0 ≤ s ∧ s < W.ms.length
  gu : W.gs.Pairwise (· < ·)
def tupI (r : List Int) : D := .tup (r.map D.int)
def movD (W : Eye) : D := .tup (W.ms.map tupI)
def eyeD (W : Eye) : D := .tup [tx W.ls, movD W, tupI W.gs]
def watD (W : Eye) : D := .obj 4 [("letters", tx W.ls), ("moves", movD W), ("good", tupI W.gs)]
def led (W : Eye) (s : Int) (c : Nat) : Int := (W.ms.getD s.toNat []).getD (W.ls.idxOf c) 0
theorem led_row {W : Eye} (w : EyeOk W) {s : Int} {c : Nat} (h0 : 0 ≤ s) (h1 : s < W.ms.length) (hc : c ∈ W.ls) : ∃ r, W.ms[s.toNat]? = some r ∧ r ∈ W.ms ∧ r[W.ls.idxOf c]? = some (led W s c) := by
  have hs : s.toNat < W.ms.length := by omega
  have e := List.getElem?_eq_getElem hs
  have hm : W.ms[s.toNat] ∈ W.ms := List.getElem_mem hs
  have hi : W.ls.idxOf c < W.ms[s.toNat].length := by rw [w.ml _ hm]; exact List.idxOf_lt_length_of_mem hc
  have e0 : W.ms.getD s.toNat [] = W.ms[s.toNat] := by rw [List.getD_eq_getElem?_getD, e]; rfl
  refine ⟨_, e, hm, ?_⟩
  unfold led
  rw [e0, List.getD_eq_getElem?_getD, List.getElem?_eq_getElem hi]
  rfl
theorem led_in {W : Eye} (w : EyeOk W) {s : Int} {c : Nat} (h0 : 0 ≤ s) (h1 : s < W.ms.length) (hc : c ∈ W.ls) : 0 ≤ led W s c ∧ led W s c < W.ms.length := by
  obtain ⟨r, _, hm, e⟩ := led_row w h0 h1 hc
  exact w.mr r hm _ (List.mem_of_getElem? e)
theorem lt_one (a b : Nat) : c_lt (tx [a]) (tx [b]) = .ok (decide (a < b)) := by
  show O.ok (decide ((st [a]).cps.toList < (st [b]).cps.toList)) = _
  congr 1
  refine decide_eq_decide.mpr ?_
  show [a] < [b] ↔ a < b
  constructor
  · intro h
    cases h with
    | rel h => exact h
    | cons h => cases h
  · intro h; exact .rel h
theorem all_true {ds : List D} (h : ∀ d ∈ ds, d = .bl true) : bi_all [.lst ds] = .ok (.bl true) := by
  have e : ds = (ds.map fun _ => true).map D.bl := by
    rw [List.map_map]
    refine Eq.trans (List.map_id' ds).symm (List.map_congr_left fun d hd => h d hd)
  rw [e]
  show op2 (bls? _) _ = _
  rw [bls?_map, op2k]
  simp
theorem mapO_true {f : D → O D} {ds : List D} (h : ∀ d ∈ ds, f d = .ok (.bl true)) (hl : ds.length ≤ 1000000) : ∃ r, mapO f ds = .ok r ∧ bi_all [.lst r] = .ok (.bl true) :=
  ⟨_, mapO_ok (fun _ => .bl true) h hl, all_true fun d hd => by obtain ⟨x, _, rfl⟩ := List.mem_map.mp hd; rfl⟩
theorem up_at {α : Type} {R : α → α → Prop} {l : List α} (h : l.Pairwise R) {i : Nat} {a b : α} (ha : l[i]? = some a) (hb : l[i + 1]? = some b) : R a b := by
  obtain ⟨h1, rfl⟩ := List.getElem?_eq_some_iff.mp ha
  obtain ⟨h2, rfl⟩ := List.getElem?_eq_some_iff.mp hb
  exact List.pairwise_iff_getElem.mp h i (i + 1) h1 h2 (by omega)
theorem in_order_tx {l : List Nat} (h : l.Pairwise (· < ·)) (hl : l.length ≤ 1000) : f_is_in_order (tx l) = .ok (.bl true) := by
  unfold f_is_in_order
  simp only [bk, ck, len_tx (show l.length ≤ 1000000 by omega), rg2_i (show -(2 ^ 62) ≤ (1 : Int) by omega) (show (1 : Int) < 2 ^ 62 by omega) (show -(2 ^ 62) ≤ (l.length : Int) by omega) (show (l.length : Int) < 2 ^ 62 by omega), b_sub_i]
  rw [mapO_ok (fun _ => D.bl true) (fun d hd => ?hd) (by rw [rangeD_length]; omega)]
  case hd =>
    obtain ⟨i, hi⟩ := List.getElem?_of_mem hd
    obtain ⟨hi1, rfl⟩ := rangeD_get hi
    have h1 : i < l.length := by omega
    have h2 : i + 1 < l.length := by omega
    have e1 : ix (tx l) (.int (1 + (i : Int) - 1)) = .ok (tx [l[i]]) := ix_tx (by omega) (by omega) (by rw [show (1 + (i : Int) - 1).toNat = i by omega]; exact List.getElem?_eq_getElem h1)
    have e2 : ix (tx l) (.int (1 + (i : Int))) = .ok (tx [l[i + 1]]) := ix_tx (by omega) (by omega) (by rw [show (1 + (i : Int)).toNat = i + 1 by omega]; exact List.getElem?_eq_getElem h2)
    have := up_at h (List.getElem?_eq_getElem h1) (List.getElem?_eq_getElem h2)
    simp only [b_sub_i, bk, e1, e2, lt_one, decide_eq_true this, trk]
  simp only [bk, ck]
  exact all_true fun d hd => by obtain ⟨x, _, rfl⟩ := List.mem_map.mp hd; rfl
theorem in_order_ints {l : List Int} (h : l.Pairwise (· < ·)) (hl : l.length ≤ 1000) : f_is_in_order (tupI l) = .ok (.bl true) := by
  unfold f_is_in_order tupI
  have el : bi_len [.tup (l.map D.int)] = .ok (.int l.length) := by rw [bi_len_t, List.length_map]
  simp only [bk, ck, el, rg2_i (show -(2 ^ 62) ≤ (1 : Int) by omega) (show (1 : Int) < 2 ^ 62 by omega) (show -(2 ^ 62) ≤ (l.length : Int) by omega) (show (l.length : Int) < 2 ^ 62 by omega), b_sub_i]
  rw [mapO_ok (fun _ => D.bl true) (fun d hd => ?hd) (by rw [rangeD_length]; omega)]
  case hd =>
    obtain ⟨i, hi⟩ := List.getElem?_of_mem hd
    obtain ⟨hi1, rfl⟩ := rangeD_get hi
    have h1 : i < l.length := by omega
    have h2 : i + 1 < l.length := by omega
    have e1 : ix (.tup (l.map D.int)) (.int (1 + (i : Int) - 1)) = .ok (.int l[i]) := ix_t (by omega) (by rw [show (1 + (i : Int) - 1).toNat = i by omega, List.getElem?_map, List.getElem?_eq_getElem h1]; rfl)
    have e2 : ix (.tup (l.map D.int)) (.int (1 + (i : Int))) = .ok (.int l[i + 1]) := ix_t (by omega) (by rw [show (1 + (i : Int)).toNat = i + 1 by omega, List.getElem?_map, List.getElem?_eq_getElem h2]; rfl)
    have := up_at h (List.getElem?_eq_getElem h1) (List.getElem?_eq_getElem h2)
    simp only [b_sub_i, bk, e1, e2, c_lt_i, decide_eq_true this, trk]
  simp only [bk, ck]
  exact all_true fun d hd => by obtain ⟨x, _, rfl⟩ := List.mem_map.mp hd; rfl
theorem between_all {r : List Int} {n : Int} (h : ∀ s ∈ r, 0 ≤ s ∧ s < n) (hl : r.length ≤ 1000) {f : D → O D} (hf : ∀ i : Int, f (.int i) = f_is_between (.int i) (.int 0) (.int (n - 1))) : ∃ t, mapO f (r.map D.int) = .ok t ∧ bi_all [.lst t] = .ok (.bl true) :=
  mapO_true (fun d hd => by
    obtain ⟨s, hs, rfl⟩ := List.mem_map.mp hd
    have := h s hs
    rw [hf, is_between_i, decide_eq_true (show (0 : Int) ≤ s by omega), decide_eq_true (show s ≤ n - 1 by omega)]
    rfl) (by rw [List.length_map]; omega)
theorem check_moves_ok {W : Eye} (w : EyeOk W) : f_check_moves (tx W.ls) (movD W) = .ok .non := by
  have m1 := w.m1
  have m6 := w.m6
  have l8 := w.l8
  unfold f_check_moves movD
  have el : bi_len [.tup (W.ms.map tupI)] = .ok (.int W.ms.length) := by rw [bi_len_t, List.length_map]
  simp only [bk, ck, isiB_tup, trk, asBk, Bool.not_true, ite0, el, chk, c_le_i, decide_eq_true (show (1 : Int) ≤ (W.ms.length : Int) by omega), decide_eq_true (show (W.ms.length : Int) ≤ 6 by omega), ite1, len_tx (show W.ls.length ≤ 1000000 by omega), b_sub_i]
  show (forO _ (enumD (W.ms.map tupI)) ()).bind _ = _
  rw [forO_unit fun d hd => ?_]
  · rfl
  · obtain ⟨i, hi⟩ := List.getElem?_of_mem hd
    obtain ⟨y, h1, h2⟩ := enumD_get hi
    rw [List.getElem?_map] at h1
    cases hc : W.ms[i]? with
    | none => rw [hc] at h1; cases h1
    | some r =>
      rw [hc] at h1
      cases h1
      subst h2
      have hm := List.mem_of_getElem? hc
      have hl := w.ml r hm
      have er : bi_len [.tup (r.map D.int)] = .ok (.int r.length) := by rw [bi_len_t, List.length_map]
      simp only [u2t, tupI, bk, ck, isiB_tup, trk, asBk, Bool.not_true, ite0, er, c_ne_i, hl, decide_true, itk, ap3]
      obtain ⟨t, e1, e2⟩ := between_all (n := (W.ms.length : Int)) (w.mr r hm) (by omega) (f := fun v_stand => f_is_between v_stand (.int 0) (.int ((W.ms.length : Int) - 1))) (fun _ => rfl)
      simp only [e1, bk, ck, e2, asBk, Bool.not_true, ite0]
theorem are_good_ok {W : Eye} (w : EyeOk W) : f_are_good (.int W.ms.length) (tupI W.gs) = .ok (.bl true) := by
  have m6 := w.m6
  have gl : W.gs.length ≤ 6 := by
    have nd : W.gs.Nodup := List.Pairwise.imp (fun {a b} z => by omega) w.gu
    have : W.gs.length ≤ (rng W.ms.length).length := by
      have key : ∀ (l m : List Int), l.Nodup → (∀ x ∈ l, x ∈ m) → l.length ≤ m.length := by
        intro l
        induction l with
        | nil => intro m _ _; exact Nat.zero_le _
        | cons a l ih =>
          intro m h1 h2
          obtain ⟨n1, n2⟩ := List.nodup_cons.mp h1
          have hm := h2 a List.mem_cons_self
          have := ih (m.erase a) n2 fun x hx => (List.mem_erase_of_ne (fun e => n1 (by rw [← e]; exact hx))).mpr (h2 x (List.mem_cons_of_mem _ hx))
          rw [List.length_erase_of_mem hm] at this
          have : 0 < m.length := List.length_pos_of_mem hm
          rw [List.length_cons]
          omega
      exact key _ _ nd fun x hx => mem_rng.mpr (w.gr x hx)
    rw [rng_length] at this
    omega
  unfold f_are_good
  have e0 : isiB "tuple" (tupI W.gs) = .ok true := isiB_tup _
  have ei : itD (tupI W.gs) = .ok (W.gs.map D.int) := itk _
  simp only [bk, ck, e0, trk, asBk, Bool.not_true, ite0, ei, b_sub_i, ap1, ap3]
  obtain ⟨t, e1, e2⟩ := between_all (n := (W.ms.length : Int)) w.gr (by omega) (f := fun v_stand => f_is_between v_stand (.int 0) (.int ((W.ms.length : Int) - 1))) (fun _ => rfl)
  simp only [e1, bk, ck, e2, asBk, Bool.not_true, ite0]
  exact in_order_ints w.gu (by omega)
theorem put_lmg (a b c : D) : putD "good" c (putD "moves" b (putD "letters" a [])) = [(("letters" : Str), a), (("moves" : Str), b), (("good" : Str), c)] := by
  have h1 : ¬ (("letters" : Str) = "moves") := by decide +kernel
  have h2 : ¬ (("letters" : Str) = "good") := by decide +kernel
  have h3 : ¬ (("moves" : Str) = "good") := by decide +kernel
  simp only [putD, if_neg h1, if_neg h2, if_neg h3]
theorem mk_watch {W : Eye} (w : EyeOk W) : ((l3 Watch_init) ([tx W.ls, movD W, tupI W.gs] ++ [])).bind (fun fs => O.ok (D.obj 4 fs)) = .ok (watD W) := by
  have l1 := w.l1
  have l8 := w.l8
  rw [List.append_nil, ap3]
  unfold Watch_init
  have e2 : (W.ls.all fun c => decide (sml c)) = true := List.all_eq_true.mpr fun c hc => decide_eq_true (w.sm c hc)
  have e3 : ownLen lens [movD W] = .ok (.int W.ms.length) := by unfold movD; rw [ownLen_t, List.length_map]
  simp only [bk, ck, ap1, ap2, ap3, are_small_tx (l := W.ls) (by omega), e2, decide_eq_true (show (1 : Int) ≤ (W.ls.length : Int) by omega), decide_eq_true (show (W.ls.length : Int) ≤ 8 by omega), Bool.and_self, asBk, Bool.not_true, ite0, in_order_tx w.up (by omega), check_moves_ok w, e3, are_good_ok w, put_lmg]
  rfl
theorem fld_lt (W : Eye) : fld "letters" [4] (watD W) = .ok (tx W.ls) := nrfl rfl trivial
theorem fld_mv (W : Eye) : fld "moves" [4] (watD W) = .ok (movD W) := nrfl rfl trivial
theorem fld_gd (W : Eye) : fld "good" [4] (watD W) = .ok (tupI W.gs) := nrfl rfl trivial
theorem in_one (c : Nat) (l : List Nat) : c_in (tx [c]) (tx l) = .ok (decide (c ∈ l)) := by
  show O.ok (decide (c ∈ (st l).cps.toList)) = _
  have e : (st l).cps.toList = l := by show l.toArray.toList = l; simp
  rw [e]
theorem nodup_idx {l : List Nat} (h : l.Nodup) {i : Nat} {c : Nat} (hi : l[i]? = some c) : l.idxOf c = i := by
  obtain ⟨h1, rfl⟩ := List.getElem?_eq_some_iff.mp hi
  exact h.idxOf_getElem i h1
theorem index_tx {l : List Nat} (h : l.Nodup) {c : Nat} (hc : c ∈ l) : t_index (tx l) (tx [c]) = .ok (.int (l.idxOf c)) := by
  have e : (st l).cps.toList = l := by show l.toArray.toList = l; simp
  have f := StrLaws.found_one (st l) c
  rw [e, decide_eq_true hc] at f
  show (match Builtin.Str.occurrences (st l) (st [c]) 0 (st l).length 1 with | i :: _ => O.ok (D.int (i : Nat)) | [] => O.bad) = _
  cases q : Builtin.Str.occurrences (st l) (st [c]) 0 (st l).length 1 with
  | nil =>
    have q' : Builtin.Str.occurrences (st l) ⟨#[c]⟩ 0 (st l).length 1 = [] := q
    rw [q'] at f
    exact absurd f (by decide)
  | cons i r =>
    have s := StrLaws.occ_spec (st l) (st [c]) 0 (st l).length 1 i (by rw [q]; exact List.mem_cons_self)
    have s' := (StrLaws.subAt_one (st l) c i).mp s
    rw [e] at s'
    rw [nodup_idx h s']
theorem EyeOk.nd {W : Eye} (w : EyeOk W) : W.ls.Nodup := List.Pairwise.imp (fun {a b} z => by omega) w.up
theorem led_ix {W : Eye} (w : EyeOk W) {s : Int} {c : Nat} (h0 : 0 ≤ s) (h1 : s < W.ms.length) (hc : c ∈ W.ls) : ((ix (movD W) (.int s)).bind fun x => (t_index (tx W.ls) (tx [c])).bind fun y => ix x y) = .ok (.int (led W s c)) := by
  obtain ⟨r, e1, hm, e2⟩ := led_row w h0 h1 hc
  have e3 : ix (movD W) (.int s) = .ok (tupI r) := ix_t h0 (by rw [List.getElem?_map, e1]; rfl)
  rw [e3, bk, index_tx w.nd hc, bk]
  exact ix_t (by omega) (by rw [Int.toNat_natCast, List.getElem?_map, e2]; rfl)
theorem stand_behind_ok {W : Eye} (w : EyeOk W) {s : Int} {c : Nat} (h0 : 0 ≤ s) (h1 : s < W.ms.length) (hc : c ∈ W.ls) : f_stand_behind (watD W) (.int s) (tx [c]) = .ok (.int (led W s c)) := by
  unfold f_stand_behind
  simp only [bk, fld_mv, fld_lt]
  exact led_ix w h0 h1 hc
structure Goes (W : Eye) (L : List Cell) (h : List Nat) : Prop where
  hu : Hue L h
  rd : ∀ c ∈ h, c ∈ W.ls
theorem hat_inZ {h : List Nat} {k : Int} (h0 : 0 ≤ k) (h1 : k < h.length) : hat h k ∈ h := by
  unfold hat
  rw [List.getD_eq_getElem?_getD, List.getElem?_eq_getElem (by omega : k.toNat < h.length)]
  exact List.getElem_mem _
theorem check_asked_ok {W : Eye} (w : EyeOk W) {L : List Cell} (g : Good L) {h : List Nat} (o : Goes W L h) : f_check_asked (folD L) (tx h) (watD W) = .ok .non := by
  have n2 := g.n2
  have hl := o.hu.len
  have e1 : f_check_fold (folD L) = .ok .non := rfl
  have e2 : (h.all fun c => decide (sml c)) = true := List.all_eq_true.mpr fun c hc => decide_eq_true (o.hu.sm c hc)
  have e3 : f_check_colours (folD L) (tx h) = .ok .non := by
    unfold f_check_colours
    simp only [bk, ck, ap3, len_fold L (by omega), are_small_tx (l := h) (by omega), e2, decide_eq_true (show (L.length : Int) ≤ (h.length : Int) by omega), decide_eq_true (show (h.length : Int) ≤ (L.length : Int) by omega), Bool.and_self, asBk, Bool.not_true, ite0]
  have e4 : f_check_watch (tx h) (watD W) = .ok .non := by
    have e5 : isiC 4 (watD W) = .ok true := rfl
    have e6 : f_goes_with (watD W) (tx h) = .ok (.bl true) := by
      unfold f_goes_with
      simp only [bk, it_tx, fld_lt]
      obtain ⟨t, e1, e2⟩ := mapO_true (f := fun v_sign => tr (c_in v_sign (tx W.ls))) (ds := h.map fun c => tx [c]) (fun d hd => by
        obtain ⟨c, hc, rfl⟩ := List.mem_map.mp hd
        rw [in_one, decide_eq_true (o.rd c hc), trk]) (by rw [List.length_map]; omega)
      simp only [e1, bk, ck, e2]
    unfold f_check_watch
    simp only [bk, ck, e5, trk, asBk, Bool.not_true, ite0, ap2, e6]
  unfold f_check_asked
  simp only [bk, ck, ap1, ap2, e1, e3, e4]
def ndD (p : Int × Int) : D := .tup [.int p.1, .int p.2]
def firsts (W : Eye) (L : List Cell) (h : List Nat) : List (Int × Int) := (rng L.length).map fun k => (k, led W 0 (hat h k))
def behindN (W : Eye) (L : List Cell) (h : List Nat) (p : Int × Int) : List (Int × Int) := (runI (cz L p.1)).map fun k => (k, led W p.2 (hat h k))
theorem first_nodes_ok {W : Eye} (w : EyeOk W) {L : List Cell} (g : Good L) {h : List Nat} (o : Goes W L h) : f_first_nodes (folD L) (tx h) (watD W) = .ok (.lst ((firsts W L h).map ndD)) := by
  have n2 := g.n2
  have hl := o.hu.len
  have m1 := w.m1
  unfold f_first_nodes
  simp only [bk, ck, len_fold L (by omega), rg1_i (show -(2 ^ 62) ≤ (L.length : Int) by omega) (show (L.length : Int) < 2 ^ 62 by omega), Int.toNat_natCast, rangeD_rng, ap3]
  rw [mapO_ok (fun d => match d with | .int k => ndD (k, led W 0 (hat h k)) | _ => .non) (fun d hd => ?hd) (by rw [List.length_map, rng_length]; omega)]
  case hd =>
    obtain ⟨k, hk, rfl⟩ := List.mem_map.mp hd
    have hk := mem_rng.mp hk
    simp only [bk, ck, ap3, ix_hat (show h.length ≤ 8 by omega) hk.1 (show k < h.length by omega), stand_behind_ok w (show (0 : Int) ≤ 0 by omega) (show (0 : Int) < W.ms.length by omega) (o.rd _ (hat_inZ hk.1 (show k < h.length by omega)))]
    rfl
  rw [bk]
  congr 2
  unfold firsts
  rw [List.map_map, List.map_map]
  rfl
theorem nodes_behind_ok {W : Eye} (w : EyeOk W) {L : List Cell} (g : Good L) {h : List Nat} (o : Goes W L h) {p : Int × Int} (p0 : 0 ≤ p.1) (p1 : p.1 < L.length) (s0 : 0 ≤ p.2) (s1 : p.2 < W.ms.length) : f_nodes_behind (folD L) (tx h) (watD W) (ndD p) = .ok (.lst ((behindN W L h p).map ndD)) := by
  have n2 := g.n2
  have hl := o.hu.len
  obtain ⟨_, c0, c1, c2⟩ := cz_of g p0 p1
  have x0 : ix (ndD p) (.int 0) = .ok (.int p.1) := ix_t2_0 _ _
  have x1 : ix (ndD p) (.int 1) = .ok (.int p.2) := ix_t2_1 _ _
  unfold f_nodes_behind
  simp only [bk, ck, x0, x1, ap2, ap3, run_of_ok g p0 p1, rgD_runI, itl]
  rw [mapO_ok (fun d => match d with | .int k => ndD (k, led W p.2 (hat h k)) | _ => .non) (fun d hd => ?hd) (by rw [List.length_map, runI_len]; omega)]
  case hd =>
    obtain ⟨k, hk, rfl⟩ := List.mem_map.mp hd
    have hk := mem_runI.mp hk
    simp only [bk, ck, ap3, ix_hat (show h.length ≤ 8 by omega) (show 0 ≤ k by omega) (show k < h.length by omega), stand_behind_ok w s0 s1 (o.rd _ (hat_inZ (show 0 ≤ k by omega) (show k < h.length by omega)))]
    rfl
  rw [bk]
  congr 2
  unfold behindN
  rw [List.map_map, List.map_map]
  rfl
end SL
namespace SL
open PySem L2 DL
def Urn (c : Nat) (g : List D) : Prop := ∃ a b k : Int, g = [.int a, .int b, .int k] ∧ 0 ≤ b ∧ b < 2 ^ 31 ∧ 0 ≤ k ∧ k ≤ c
theorem Urn.mono {c d : Nat} {g : List D} (h : Urn c g) (hd : c ≤ d) : Urn d g := by
  obtain ⟨a, b, k, e, h1, h2, h3, h4⟩ := h
  exact ⟨a, b, k, e, h1, h2, h3, by omega⟩
end SL
namespace SL
open PySem L2 DL
end SL
namespace SL
open PySem L2 DL
section
variable (L : List Cell) (h : List Nat)
def ss : List Nat := (SetX.sortL (h.map fun c => [c])).map fun l => l.headD 0
def wmore (p : List Nat × List Int) : List (List Nat × List Int) := ((ss h).map fun c => (p.1 ++ [c], beh L h p.2 c)).filter fun q => decide (q.2 ≠ [])
def wl : Nat → List (List Nat × List Int)
  | 0 => (ss h).map fun c => ([c], opn h c)
  | n + 1 => (wl n).flatMap (wmore L h)
end
end SL
namespace SL
open PySem L2 DL
abbrev PD := List (List Int × Int)
def plook (k : List Int) : PD → Option Int
  | [] => none
  | (x, v) :: r => if x = k then some v else plook k r
def pput (k : List Int) (v : Int) : PD → PD
  | [] => []
  | (x, u) :: r => (if x = k then (x, v) else (x, u)) :: pput k v r
def pstore (k : List Int) (v : Int) (d : PD) : PD := if (plook k d).isSome then pput k v d else d ++ [(k, v)]
def wt (d : PD) (f : List Int → Int) : Int := (d.map fun p => p.2 * f p.1).sum
def keysN (d : PD) : Prop := (d.map (·.1)).Nodup
theorem pput_none {k : List Int} {v : Int} : ∀ {d : PD}, k ∉ d.map (·.1) → pput k v d = d
  | [], _ => rfl
  | (x, u) :: r, h => by
    have h1 : ¬ x = k := fun e => h (by rw [← e]; exact List.mem_cons_self)
    unfold pput
    rw [if_neg h1, pput_none fun z => h (List.mem_cons_of_mem _ z)]
theorem wt_pput {f : List Int → Int} {k : List Int} {v u : Int} : ∀ {d : PD}, keysN d → plook k d = some u → wt (pput k v d) f = wt d f + (v - u) * f k
  | [], _, h => by cases h
  | (x, y) :: r, hn, h => by
    obtain ⟨n1, n2⟩ := List.nodup_cons.mp (show (x :: r.map (·.1)).Nodup from hn)
    unfold plook at h
    unfold pput wt
    by_cases e : x = k
    · subst e
      rw [if_pos rfl] at h
      cases h
      rw [if_pos rfl, pput_none n1, List.map_cons, List.map_cons, List.sum_cons, List.sum_cons, Int.sub_mul]
      show v * f x + _ = u * f x + _ + (v * f x - u * f x)
      omega
    · rw [if_neg e] at h
      rw [if_neg e, List.map_cons, List.map_cons, List.sum_cons, List.sum_cons]
      have := wt_pput (f := f) (v := v) n2 h
      unfold wt at this
      rw [this]
      omega
theorem keys_pput {k : List Int} {v : Int} : ∀ {d : PD}, (pput k v d).map (·.1) = d.map (·.1)
  | [] => rfl
  | (x, u) :: r => by
    unfold pput
    rw [List.map_cons, List.map_cons, keys_pput]
    congr 1
    split <;> rfl
theorem plook_none {k : List Int} : ∀ {d : PD}, plook k d = none ↔ k ∉ d.map (·.1)
  | [] => by simp [plook]
  | (x, v) :: r => by
    unfold plook
    by_cases e : x = k
    · rw [if_pos e]; subst e; simp
    · rw [if_neg e, plook_none, List.map_cons, List.mem_cons, not_or]
      exact ⟨fun z => ⟨fun y => e y.symm, z⟩, fun z => z.2⟩
theorem wt_store {f : List Int → Int} {k : List Int} {m : Int} {d : PD} (hn : keysN d) : wt (pstore k ((plook k d).getD 0 + m) d) f = wt d f + m * f k ∧ keysN (pstore k ((plook k d).getD 0 + m) d) := by
  unfold pstore
  cases q : plook k d with
  | none =>
    rw [if_neg (by simp)]
    refine ⟨?_, ?_⟩
    · unfold wt
      rw [List.map_append, List.sum_append]
      simp
    · unfold keysN
      rw [List.map_append]
      refine List.nodup_append.mpr ⟨hn, by simp, fun a ha b hb e => ?_⟩
      rw [List.map_singleton, List.mem_singleton] at hb
      have hb' : b = k := hb
      exact plook_none.mp q (by rw [← hb', ← e]; exact ha)
  | some u =>
    rw [if_pos (show (some u).isSome = true from rfl)]
    refine ⟨?_, ?_⟩
    · rw [wt_pput hn q]
      show wt d f + (u + m - u) * f k = _
      rw [show u + m - u = m by omega]
    · unfold keysN
      rw [keys_pput]; exact hn
end SL
namespace SL
open PySem L2 DL
section
variable (L : List Cell) (h : List Nat)
def cadd (cs : List Int) (m : Int) (a : PD) (c : Nat) : PD := if beh L h cs c ≠ [] then pstore (beh L h cs c) ((plook (beh L h cs c) a).getD 0 + m) a else a
def cstep (a : PD) (p : List Int × Int) : PD := (ss h).foldl (cadd L h p.1 p.2) a
def cnext (d : PD) : PD := d.foldl (cstep L h) []
def cfirst : PD := (ss h).map fun c => (opn h c, 1)
def cn : Nat → PD
  | 0 => cfirst h
  | n + 1 => cnext L h (cn n)
end
def subs : List Int → List (List Int)
  | [] => [[]]
  | a :: l => subs l ++ (subs l).map (a :: ·)
theorem subs_len : ∀ l : List Int, (subs l).length = 2 ^ l.length
  | [] => rfl
  | a :: l => by
    unfold subs
    rw [List.length_append, List.length_map, subs_len l, List.length_cons, Nat.pow_succ]
    omega
theorem nodup_le {l m : List (List Int)} (h1 : l.Nodup) (h2 : ∀ x ∈ l, x ∈ m) : l.length ≤ m.length := by
  induction l generalizing m with
  | nil => exact Nat.zero_le _
  | cons a l ih =>
    obtain ⟨n1, n2⟩ := List.nodup_cons.mp h1
    have hm := h2 a List.mem_cons_self
    have := ih (m := m.erase a) n2 fun x hx => (List.mem_erase_of_ne (fun e => n1 (by rw [← e]; exact hx))).mpr (h2 x (List.mem_cons_of_mem _ hx))
    rw [List.length_erase_of_mem hm] at this
    have : 0 < m.length := List.length_pos_of_mem hm
    rw [List.length_cons]
    omega
structure PDk (L : List Cell) (d : PD) : Prop where
  nd : keysN d
  sub : ∀ p ∈ d, p.1 ∈ subs (rng L.length)
  cel : ∀ p ∈ d, (∀ j ∈ p.1, 0 ≤ j ∧ j < L.length) ∧ p.1.length ≤ L.length
theorem PDk.len {L : List Cell} {d : PD} (h : PDk L d) (hl : L.length ≤ 8) : d.length ≤ 256 := by
  have := nodup_le h.nd fun x hx => by
    obtain ⟨p, hp, rfl⟩ := List.mem_map.mp hx
    exact h.sub p hp
  rw [List.length_map, subs_len, rng_length] at this
  exact Nat.le_trans this (Nat.pow_le_pow_right (by omega) hl)
theorem pstore_mem {k : List Int} {v : Int} {d : PD} {p : List Int × Int} (hp : p ∈ pstore k v d) : p.1 = k ∨ ∃ q ∈ d, q.1 = p.1 := by
  have hk : p.1 ∈ (pstore k v d).map (·.1) := List.mem_map.mpr ⟨p, hp, rfl⟩
  unfold pstore at hk
  split at hk
  · rw [keys_pput] at hk
    obtain ⟨q, hq, e⟩ := List.mem_map.mp hk
    exact .inr ⟨q, hq, e⟩
  · rw [List.map_append] at hk
    rcases List.mem_append.mp hk with hk | hk
    · obtain ⟨q, hq, e⟩ := List.mem_map.mp hk
      exact .inr ⟨q, hq, e⟩
    · exact .inl (List.mem_singleton.mp hk)
end SL
namespace SL
open PySem L2 DL
def kk (cs : List Int) : NestedKey := .tup (cs.map NestedKey.num)
def encP (p : List Int × Int) : D × D := (.tup (p.1.map D.int), .int p.2)
abbrev encD (d : PD) : List (D × D) := d.map encP
theorem nk_ints : ∀ cs : List Int, nkDs (cs.map D.int) = some (cs.map NestedKey.num)
  | [] => rfl
  | c :: cs => by
    show (some (NestedKey.num c)).bind (fun k => (nkDs (cs.map D.int)).map (k :: ·)) = _
    rw [nk_ints cs]; rfl
theorem depth_nums : ∀ cs : List Int, NestedKey.depthAll (cs.map NestedKey.num) ≤ 1
  | [] => by simp [NestedKey.depthAll]
  | c :: cs => by
    have := depth_nums cs
    rw [List.map_cons]
    simp only [NestedKey.depthAll, NestedKey.depth]
    omega
theorem nkD_ints (cs : List Int) : nkD (.tup (cs.map D.int)) = some (kk cs) := by
  show (nkDs (cs.map D.int)).map NestedKey.tup = _
  rw [nk_ints]; rfl
theorem dkey_ints (cs : List Int) : dkey (.tup (cs.map D.int)) = some (kk cs) := by
  show ((nkDs (cs.map D.int)).bind fun ks => if (NestedKey.tup ks).depth ≤ 8 then some (NestedKey.tup ks) else none) = _
  rw [nk_ints]
  show (if (NestedKey.tup (cs.map NestedKey.num)).depth ≤ 8 then some (NestedKey.tup (cs.map NestedKey.num)) else none) = _
  rw [if_pos (by have := depth_nums cs; simp only [NestedKey.depth]; omega)]
  rfl
theorem kk_inj {a b : List Int} : kk a = kk b ↔ a = b := by
  refine ⟨fun h => ?_, fun h => by rw [h]⟩
  unfold kk at h
  injection h with h
  exact (List.map_inj_right fun x y e => by injection e).mp h
theorem dlook_enc (k : List Int) : ∀ d : PD, dlook (kk k) (encD d) = (plook k d).map D.int
  | [] => rfl
  | (x, v) :: r => by
    show (if nkD (.tup (x.map D.int)) = some (kk k) then some (D.int v) else dlook (kk k) (encD r)) = ((if x = k then some v else plook k r)).map D.int
    rw [nkD_ints, dlook_enc k r]
    by_cases e : x = k
    · rw [if_pos (by rw [e]), if_pos e]; rfl
    · rw [if_neg (fun z => e (kk_inj.mp (Option.some.inj z))), if_neg e]
theorem dput_enc (k : List Int) (v : Int) : ∀ d : PD, dput (kk k) (.int v) (encD d) = encD (pput k v d)
  | [] => rfl
  | (x, u) :: r => by
    show (if nkD (.tup (x.map D.int)) = some (kk k) then (D.tup (x.map D.int), D.int v) else (D.tup (x.map D.int), D.int u)) :: dput (kk k) (.int v) (encD r) = encP (if x = k then (x, v) else (x, u)) :: encD (pput k v r)
    rw [nkD_ints, dput_enc k v r]
    by_cases e : x = k
    · rw [if_pos (by rw [e]), if_pos e]; rfl
    · rw [if_neg (fun z => e (kk_inj.mp (Option.some.inj z))), if_neg e]; rfl
theorem dstore_enc (k : List Int) (v : Int) (d : PD) : dstore (kk k) (.tup (k.map D.int)) (.int v) (encD d) = encD (pstore k v d) := by
  unfold dstore pstore
  rw [dlook_enc, Option.isSome_map]
  split
  · exact dput_enc k v d
  · show _ = List.map encP (d ++ [(k, v)]); rw [List.map_append]; rfl
theorem get_enc (k : List Int) (d : PD) : ndGet (.dic (encD d)) [.tup (k.map D.int), .int 0] = .ok (.int ((plook k d).getD 0)) := by
  show op2 (dkey (.tup (k.map D.int))) (fun k' => O.ok ((dlook k' (encD d)).getD (.int 0))) = _
  rw [dkey_ints, op2k, dlook_enc]
  cases plook k d <;> rfl
theorem sum_enc (d : PD) : ndSum (.dic (encD d)) = .ok (.int (d.map (·.2)).sum) := by
  show op2 (ints? ((encD d).map (·.2))) (fun is => O.ok (D.int is.sum)) = _
  have e : (encD d).map (·.2) = (d.map (·.2)).map D.int := by rw [List.map_map, List.map_map]; rfl
  rw [e, ints?_map, op2k]
theorem forO_st {T α β : Type} (enc : α → T) (dn : β → D) (I : α → Prop) (sp : α → β → α) {f : T → D → O T} : ∀ (xs : List β) (s : α), I s → (∀ s x, x ∈ xs → I s → f (enc s) (dn x) = .ok (enc (sp s x)) ∧ I (sp s x)) → forO f (xs.map dn) (enc s) = .ok (enc (xs.foldl sp s)) ∧ I (xs.foldl sp s)
  | [], s, hs, _ => ⟨rfl, hs⟩
  | x :: xs, s, hs, hf => by
    obtain ⟨h1, h2⟩ := hf s x List.mem_cons_self hs
    obtain ⟨h3, h4⟩ := forO_st enc dn I sp xs (sp s x) h2 fun s y hy => hf s y (List.mem_cons_of_mem _ hy)
    refine ⟨?_, h4⟩
    show (f (enc s) (dn x)).bind (fun t' => forO f (xs.map dn) t') = _
    rw [h1, bk, h3]
    rfl
theorem forO_turns {T : Type} (enc : Nat → T) {f : T → D → O T} : ∀ (ds : List D) (k : Nat), (∀ i d, k ≤ i → i < k + ds.length → f (enc i) d = .ok (enc (i + 1))) → forO f ds (enc k) = .ok (enc (k + ds.length))
  | [], k, _ => rfl
  | d :: ds, k, hf => by
    show (f (enc k) d).bind (fun t' => forO f ds t') = _
    rw [hf k d (Nat.le_refl _) (by rw [List.length_cons]; omega), bk, forO_turns enc ds (k + 1) fun i d h1 h2 => hf i d (by omega) (by rw [List.length_cons]; omega)]
    rw [List.length_cons]
    congr 2
    omega
end SL
namespace SL
open PySem L2 DL
def fac (L : List Cell) (c : Int) : Int := (cz L c).2.1 - (cz L c).1 + 1
abbrev Tri := (Int × Int) × Int
section
variable (W : Eye) (L : List Cell) (h : List Nat)
def isG (p : Int × Int) : Bool := decide (p.2 ∈ W.gs)
def goodB (p : Int × Int) : List (Int × Int) := (behindN W L h p).filter (isG W)
def pl (M : Int) : Nat → List Tri
  | 0 => ((firsts W L h).filter (isG W)).map fun p => (p, 1)
  | t + 1 => (pl M t).flatMap fun q => (goodB W L h q.1).map fun p => (p, q.2 * (M / fac L q.1.1))
def sumB (g : Int × Int → Int) (p : Int × Int) : Int := ((goodB W L h p).map g).sum
def SS (M : Int) (t : Nat) (g : Int × Int → Int) : Int := ((pl W L h M t).map fun q => q.2 * g q.1).sum
end
variable {W : Eye} {L : List Cell} {h : List Nat}
structure NdIn (W : Eye) (L : List Cell) (p : Int × Int) : Prop where
  c0 : 0 ≤ p.1
  c1 : p.1 < L.length
  s0 : 0 ≤ p.2
  s1 : p.2 < W.ms.length
theorem fac_pos (g : Good L) {c : Int} (h0 : 0 ≤ c) (h1 : c < L.length) : 1 ≤ fac L c ∧ fac L c ≤ L.length := by
  obtain ⟨_, a, b, d⟩ := cz_of g h0 h1
  unfold fac
  omega
theorem firsts_in (w : EyeOk W) (o : Goes W L h) : ∀ p ∈ firsts W L h, NdIn W L p := fun p hp => by
  have hl := o.hu.len
  have m1 := w.m1
  obtain ⟨k, hk, rfl⟩ := List.mem_map.mp hp
  have hk := mem_rng.mp hk
  have := led_in w (s := 0) (by omega) (by omega) (o.rd _ (hat_inZ hk.1 (show k < h.length by omega)))
  exact ⟨hk.1, hk.2, this.1, this.2⟩
theorem behind_in (w : EyeOk W) (g : Good L) (o : Goes W L h) {p : Int × Int} (i : NdIn W L p) : ∀ q ∈ behindN W L h p, NdIn W L q := fun q hq => by
  have hl := o.hu.len
  obtain ⟨_, a, b, d⟩ := cz_of g i.c0 i.c1
  obtain ⟨k, hk, rfl⟩ := List.mem_map.mp hq
  have hk := mem_runI.mp hk
  have := led_in w i.s0 i.s1 (o.rd _ (hat_inZ (show 0 ≤ k by omega) (show k < h.length by omega)))
  exact ⟨by show 0 ≤ k; omega, by show k < _; omega, this.1, this.2⟩
theorem goodB_in (w : EyeOk W) (g : Good L) (o : Goes W L h) {p : Int × Int} (i : NdIn W L p) : ∀ q ∈ goodB W L h p, NdIn W L q := fun q hq => behind_in w g o i q (List.mem_filter.mp hq).1
theorem pl_in (w : EyeOk W) (g : Good L) (o : Goes W L h) (M : Int) : ∀ t, ∀ q ∈ pl W L h M t, NdIn W L q.1
  | 0, q, hq => by
    obtain ⟨p, hp, rfl⟩ := List.mem_map.mp hq
    exact firsts_in w o p (List.mem_filter.mp hp).1
  | t + 1, q, hq => by
    obtain ⟨r, hr, hq⟩ := List.mem_flatMap.mp hq
    obtain ⟨p, hp, rfl⟩ := List.mem_map.mp hq
    exact goodB_in w g o (pl_in w g o M t r hr) p hp
theorem sum_app (f : Tri → Int) (k : Tri → List Tri) : ∀ l : List Tri, ((l.flatMap k).map f).sum = (l.map fun a => ((k a).map f).sum).sum
  | [] => rfl
  | a :: l => by rw [List.flatMap_cons, List.map_append, List.sum_append, List.map_cons, List.sum_cons, sum_app f k l]
theorem sum_mulL (c : Int) {α : Type} (f : α → Int) : ∀ l : List α, (l.map fun a => c * f a).sum = c * (l.map f).sum
  | [] => by simp
  | a :: l => by rw [List.map_cons, List.sum_cons, sum_mulL c f l, List.map_cons, List.sum_cons, Int.mul_add]
theorem sum_congr {α : Type} {f g : α → Int} {l : List α} (h : ∀ a ∈ l, f a = g a) : (l.map f).sum = (l.map g).sum := congrArg List.sum (List.map_congr_left h)
theorem SS_succ (M : Int) (t : Nat) (g : Int × Int → Int) : SS W L h M (t + 1) g = SS W L h M t fun p => M / fac L p.1 * sumB W L h g p := by
  unfold SS
  show (((pl W L h M t).flatMap fun q => (goodB W L h q.1).map fun p => (p, q.2 * (M / fac L q.1.1))).map fun q => q.2 * g q.1).sum = _
  rw [sum_app]
  refine sum_congr fun q _ => ?_
  rw [List.map_map]
  show ((goodB W L h q.1).map fun p => q.2 * (M / fac L q.1.1) * g p).sum = _
  rw [sum_mulL, Int.mul_assoc]
  rfl
theorem SS_congr (w : EyeOk W) (gd : Good L) (o : Goes W L h) {M : Int} {t : Nat} {f g : Int × Int → Int} (e : ∀ p, NdIn W L p → f p = g p) : SS W L h M t f = SS W L h M t g :=
  sum_congr fun q hq => by rw [e _ (pl_in w gd o M t q hq)]
theorem SS_mul (c : Int) (M : Int) (t : Nat) (g : Int × Int → Int) : SS W L h M t (fun p => c * g p) = c * SS W L h M t g := by
  unfold SS
  rw [← sum_mulL]
  exact sum_congr fun q _ => by rw [← Int.mul_assoc, ← Int.mul_assoc, Int.mul_comm q.2 c]
theorem div_swap {M N f : Int} (hf : 0 < f) (h1 : f ∣ M) (h2 : f ∣ N) : M / f * N = N / f * M := by
  obtain ⟨a, rfl⟩ := h1
  obtain ⟨b, rfl⟩ := h2
  rw [Int.mul_ediv_cancel_left _ (by omega), Int.mul_ediv_cancel_left _ (by omega), Int.mul_comm f b, ← Int.mul_assoc, Int.mul_comm f a, ← Int.mul_assoc, Int.mul_comm a b]
theorem SS_swap (w : EyeOk W) (gd : Good L) (o : Goes W L h) {M N : Int} (hM : ∀ c : Int, 0 ≤ c → c < L.length → fac L c ∣ M) (hN : ∀ c : Int, 0 ≤ c → c < L.length → fac L c ∣ N) : ∀ (t : Nat) (g : Int × Int → Int), SS W L h M t g * N ^ t = SS W L h N t g * M ^ t
  | 0, g => by rw [Int.pow_zero, Int.pow_zero]; rfl
  | t + 1, g => by
    rw [SS_succ, SS_succ, Int.pow_succ, Int.pow_succ, ← Int.mul_assoc, ← Int.mul_assoc, SS_swap w gd o hM hN t]
    have e : SS W L h N t (fun p => M / fac L p.1 * sumB W L h g p) * N = SS W L h N t (fun p => N / fac L p.1 * sumB W L h g p) * M := by
      rw [Int.mul_comm, ← SS_mul, Int.mul_comm (SS W L h N t fun p => N / fac L p.1 * sumB W L h g p), ← SS_mul]
      refine SS_congr w gd o fun p i => ?_
      have hp := (fac_pos gd i.c0 i.c1).1
      rw [← Int.mul_assoc, ← Int.mul_assoc, Int.mul_comm N, Int.mul_comm M, div_swap (by omega) (hM _ i.c0 i.c1) (hN _ i.c0 i.c1)]
    rw [Int.mul_assoc, Int.mul_comm (M ^ t) N, ← Int.mul_assoc, e, Int.mul_assoc, Int.mul_comm M, ← Int.mul_assoc]
def nodeK (p : Int × Int) : List Int := [p.1, p.2]
def unK : List Int → Int × Int
  | [a, b] => (a, b)
  | _ => (0, 0)
theorem unK_nodeK (p : Int × Int) : unK (nodeK p) = p := rfl
theorem nodeK_inj {p q : Int × Int} (e : nodeK p = nodeK q) : p = q := by rw [← unK_nodeK p, e, unK_nodeK]
section
variable (W : Eye) (L : List Cell) (h : List Nat)
def gput (s : Int) (a : PD) (p : Int × Int) : PD := if isG W p then pstore (nodeK p) ((plook (nodeK p) a).getD 0 + s) a else a
def gone' (M : Int) (a : PD) (e : List Int × Int) : PD := (behindN W L h (unK e.1)).foldl (gput W (e.2 * (M / fac L (unK e.1).1))) a
def gput1 (a : PD) (p : Int × Int) : PD := if isG W p then pstore (nodeK p) 1 a else a
def gdict (M : Int) : Nat → PD
  | 0 => (firsts W L h).foldl (gput1 W) []
  | t + 1 => (gdict M t).foldl (gone' W L h M) []
end
theorem gput_fold {s : Int} {f : List Int → Int} : ∀ (l : List (Int × Int)) (a : PD), keysN a → wt (l.foldl (gput W s) a) f = wt a f + s * ((l.filter (isG W)).map fun p => f (nodeK p)).sum ∧ keysN (l.foldl (gput W s) a)
  | [], a, hn => by simp [hn]
  | p :: l, a, hn => by
    rw [List.foldl_cons]
    by_cases e : isG W p = true
    · have eg : gput W s a p = pstore (nodeK p) ((plook (nodeK p) a).getD 0 + s) a := if_pos e
      obtain ⟨h1, h2⟩ := wt_store (f := f) (k := nodeK p) (m := s) hn
      obtain ⟨h3, h4⟩ := gput_fold (s := s) (f := f) l _ h2
      rw [eg]
      refine ⟨?_, h4⟩
      rw [h3, h1, List.filter_cons_of_pos e, List.map_cons, List.sum_cons, Int.mul_add]
      omega
    · have eg : gput W s a p = a := if_neg e
      rw [eg, List.filter_cons_of_neg e]
      exact gput_fold l a hn
theorem gone_fold {M : Int} {f : List Int → Int} : ∀ (d a : PD), keysN a → wt (d.foldl (gone' W L h M) a) f = wt a f + wt d (fun k => M / fac L (unK k).1 * sumB W L h (fun p => f (nodeK p)) (unK k)) ∧ keysN (d.foldl (gone' W L h M) a)
  | [], a, hn => by simp [wt, hn]
  | e :: d, a, hn => by
    rw [List.foldl_cons]
    obtain ⟨h1, h2⟩ := gput_fold (W := W) (s := e.2 * (M / fac L (unK e.1).1)) (f := f) (behindN W L h (unK e.1)) a hn
    obtain ⟨h3, h4⟩ := gone_fold (M := M) (f := f) d _ h2
    refine ⟨?_, h4⟩
    have h3' := h3
    show wt (d.foldl (gone' W L h M) (gone' W L h M a e)) f = _
    unfold gone' at h3' ⊢
    rw [h3', h1]
    unfold wt
    rw [List.map_cons, List.sum_cons, Int.mul_assoc]
    exact Int.add_assoc _ _ _
theorem gfirst_eq : ∀ (l : List (Int × Int)) (a : PD), (a.map (·.1) ++ (l.map nodeK)).Nodup → l.foldl (gput1 W) a = a ++ (l.filter (isG W)).map fun p => (nodeK p, (1 : Int))
  | [], a, _ => by simp
  | p :: l, a, hn => by
    rw [List.foldl_cons]
    rw [List.map_cons] at hn
    by_cases e : isG W p = true
    · have nin : plook (nodeK p) a = none := plook_none.mpr fun z => (List.nodup_append.mp hn).2.2 _ z _ List.mem_cons_self rfl
      have eg : gput1 W a p = a ++ [(nodeK p, 1)] := by
        unfold gput1 pstore
        rw [if_pos e, nin, if_neg (by simp)]
      rw [eg, gfirst_eq l _ (by rw [List.map_append, List.append_assoc]; exact hn), List.filter_cons_of_pos e, List.map_cons, List.append_assoc]
      rfl
    · have eg : gput1 W a p = a := if_neg e
      rw [eg, List.filter_cons_of_neg e]
      refine gfirst_eq l a ?_
      obtain ⟨n1, n2, n3⟩ := List.nodup_append.mp hn
      exact List.nodup_append.mpr ⟨n1, (List.nodup_cons.mp n2).2, fun x hx y hy => n3 x hx y (List.mem_cons_of_mem _ hy)⟩
theorem firsts_nd : ((firsts W L h).map nodeK).Nodup := by
  unfold firsts
  rw [List.map_map]
  refine List.pairwise_map.mpr ((rise_rng L.length).imp fun {a b} z e => ?_)
  have e' : [a, led W 0 (hat h a)] = [b, led W 0 (hat h b)] := e
  injection e' with e' _
  omega
theorem gdict0 (M : Int) : gdict W L h M 0 = ((firsts W L h).filter (isG W)).map fun p => (nodeK p, (1 : Int)) := by
  show (firsts W L h).foldl (gput1 W) [] = _
  rw [gfirst_eq _ [] (by rw [List.map_nil, List.nil_append]; exact firsts_nd), List.nil_append]
theorem gdict_keys (M : Int) : ∀ t, keysN (gdict W L h M t)
  | 0 => by
    rw [gdict0]
    unfold keysN
    rw [List.map_map]
    have := firsts_nd (W := W) (L := L) (h := h)
    refine List.pairwise_map.mpr ?_
    exact List.Pairwise.filter _ (List.pairwise_map.mp this)
  | t + 1 => (gone_fold (M := M) (f := fun _ => 0) (gdict W L h M t) [] List.nodup_nil).2
theorem gdict_wt (M : Int) : ∀ (t : Nat) (f : List Int → Int), wt (gdict W L h M t) f = SS W L h M t fun p => f (nodeK p)
  | 0, f => by
    rw [gdict0]
    unfold wt SS
    show _ = ((((firsts W L h).filter (isG W)).map fun p => (p, (1 : Int))).map fun q => q.2 * f (nodeK q.1)).sum
    rw [List.map_map, List.map_map]
    rfl
  | t + 1, f => by
    show wt ((gdict W L h M t).foldl (gone' W L h M) []) f = _
    rw [(gone_fold (gdict W L h M t) [] List.nodup_nil).1, gdict_wt M t, SS_succ]
    show 0 + _ = _
    rw [Int.zero_add]
    rfl
theorem gdict_sum (M : Int) (t : Nat) : ((gdict W L h M t).map (·.2)).sum = SS W L h M t fun _ => 1 := by
  have e := gdict_wt (W := W) (L := L) (h := h) M t fun _ => 1
  unfold wt at e
  rw [← e]
  exact congrArg List.sum (List.map_congr_left fun p _ => (Int.mul_one _).symm)
def KIn (W : Eye) (L : List Cell) (d : PD) : Prop := ∀ e ∈ d, ∃ p, e.1 = nodeK p ∧ NdIn W L p
theorem pstore_in {d : PD} {p : Int × Int} {v : Int} (k : KIn W L d) (i : NdIn W L p) : KIn W L (pstore (nodeK p) v d) := fun e he => by
  rcases pstore_mem he with z | ⟨q, hq, z⟩
  · exact ⟨p, z, i⟩
  · obtain ⟨r, h1, h2⟩ := k q hq
    exact ⟨r, by rw [← z, h1], h2⟩
theorem gput_in {s : Int} {a : PD} {p : Int × Int} (k : KIn W L a) (i : NdIn W L p) : KIn W L (gput W s a p) := by
  unfold gput
  split
  · exact pstore_in k i
  · exact k
theorem foldl_in {α : Type} {f : PD → α → PD} : ∀ (l : List α) (a : PD), KIn W L a → (∀ a x, x ∈ l → KIn W L a → KIn W L (f a x)) → KIn W L (l.foldl f a)
  | [], _, k, _ => k
  | x :: l, a, k, hf => foldl_in l _ (hf a x List.mem_cons_self k) fun a y hy => hf a y (List.mem_cons_of_mem _ hy)
theorem gone_in (w : EyeOk W) (g : Good L) (o : Goes W L h) {M : Int} {a : PD} {e : List Int × Int} {p : Int × Int} (k : KIn W L a) (he : e.1 = nodeK p) (i : NdIn W L p) : KIn W L (gone' W L h M a e) := by
  unfold gone'
  rw [he, unK_nodeK]
  exact foldl_in _ a k fun a q hq k => gput_in k (behind_in w g o i q hq)
theorem gdict_in (w : EyeOk W) (g : Good L) (o : Goes W L h) (M : Int) : ∀ t, KIn W L (gdict W L h M t)
  | 0 => by
    rw [gdict0]
    intro e he
    obtain ⟨p, hp, rfl⟩ := List.mem_map.mp he
    exact ⟨p, rfl, firsts_in w o p (List.mem_filter.mp hp).1⟩
  | t + 1 => by
    refine foldl_in _ [] (fun e he => by cases he) fun a e he k => ?_
    obtain ⟨p, e1, i⟩ := gdict_in w g o M t e he
    exact gone_in w g o k e1 i
theorem kin_len (g : Good L) (w : EyeOk W) {d : PD} (hn : keysN d) (k : KIn W L d) : d.length ≤ 48 := by
  have n2 := g.n2
  have m6 := w.m6
  have := nodup_le (m := (rng L.length).flatMap fun c => (rng W.ms.length).map fun s => [c, s]) hn fun x hx => by
    obtain ⟨e, he, rfl⟩ := List.mem_map.mp hx
    obtain ⟨p, e1, i⟩ := k e he
    show e.1 ∈ _
    rw [e1]
    exact List.mem_flatMap.mpr ⟨p.1, mem_rng.mpr ⟨i.c0, i.c1⟩, List.mem_map.mpr ⟨p.2, mem_rng.mpr ⟨i.s0, i.s1⟩, rfl⟩⟩
  rw [List.length_map] at this
  have key : ∀ l : List Int, (l.flatMap fun c => (rng W.ms.length).map fun s => [c, s]).length = l.length * W.ms.length := by
    intro l
    induction l with
    | nil => simp
    | cons c l ih => rw [List.flatMap_cons, List.length_append, ih, List.length_map, rng_length, List.length_cons, Nat.succ_mul]; omega
  rw [key, rng_length] at this
  exact Nat.le_trans this (Nat.le_trans (Nat.mul_le_mul n2 m6) (by decide))
end SL
namespace SL
open PySem L2 DL
theorem nit (d : List (D × D)) : itN (.dic d) = .ok (itemsD d) := nrfl rfl trivial
theorem items_enc (d : PD) : itemsD (encD d) = d.map fun p => D.tup [.tup (p.1.map D.int), .int p.2] := by
  unfold itemsD
  rw [List.map_map]
  rfl
end SL
namespace SL
open PySem L2 DL
theorem forO_sti {T α β : Type} (enc : α → T) (dn : β → D) (I : Nat → α → Prop) (sp : α → β → α) {f : T → D → O T} : ∀ (xs : List β) (k : Nat) (s : α), I k s → (∀ i s x, x ∈ xs → i < k + xs.length → I i s → f (enc s) (dn x) = .ok (enc (sp s x)) ∧ I (i + 1) (sp s x)) → forO f (xs.map dn) (enc s) = .ok (enc (xs.foldl sp s))
  | [], _, s, hs, _ => rfl
  | x :: xs, k, s, hs, hf => by
    obtain ⟨h1, h2⟩ := hf k s x List.mem_cons_self (by rw [List.length_cons]; omega) hs
    show (f (enc s) (dn x)).bind (fun t' => forO f (xs.map dn) t') = _
    rw [h1, bk, forO_sti enc dn I sp xs (k + 1) (sp s x) h2 fun i s y hy hi => hf i s y (List.mem_cons_of_mem _ hy) (by rw [List.length_cons]; omega)]
    rfl
end SL
namespace SL
open PySem L2 DL
def facN (L : List Cell) : List Nat := (rng L.length).map fun c => (fac L c).toNat
def byN (L : List Cell) : Nat := (facN L).foldl Nat.lcm 1
theorem lcm_dvd_fold : ∀ (l : List Nat) (s : Nat), s ∣ l.foldl Nat.lcm s ∧ ∀ n ∈ l, n ∣ l.foldl Nat.lcm s
  | [], s => ⟨Nat.dvd_refl s, fun _ h => by cases h⟩
  | n :: l, s => by
    obtain ⟨h1, h2⟩ := lcm_dvd_fold l (Nat.lcm s n)
    refine ⟨Nat.dvd_trans (Nat.dvd_lcm_left s n) h1, fun m hm => ?_⟩
    rcases List.mem_cons.mp hm with e | hm
    · rw [e]; exact Nat.dvd_trans (Nat.dvd_lcm_right s n) h1
    · exact h2 m hm
theorem fold_dvd {M : Nat} : ∀ (l : List Nat) (s : Nat), s ∣ M → (∀ n ∈ l, n ∣ M) → l.foldl Nat.lcm s ∣ M
  | [], _, h, _ => h
  | n :: l, s, h, hl => fold_dvd l _ (Nat.lcm_dvd h (hl n List.mem_cons_self)) fun m hm => hl m (List.mem_cons_of_mem _ hm)
variable {W : Eye} {L : List Cell} {h : List Nat}
theorem facN_in (g : Good L) : ∀ n ∈ facN L, 1 ≤ n ∧ n ≤ L.length := fun n hn => by
  obtain ⟨c, hc, rfl⟩ := List.mem_map.mp hn
  have hc := mem_rng.mp hc
  have := fac_pos g hc.1 hc.2
  omega
theorem small_dvd {n : Nat} (h1 : 1 ≤ n) (h2 : n ≤ 8) : n ∣ 840 := by
  have : n = 1 ∨ n = 2 ∨ n = 3 ∨ n = 4 ∨ n = 5 ∨ n = 6 ∨ n = 7 ∨ n = 8 := by omega
  rcases this with rfl | rfl | rfl | rfl | rfl | rfl | rfl | rfl <;> decide
theorem byN_840 (g : Good L) : byN L ∣ 840 := fold_dvd _ _ (Nat.one_dvd _) fun n hn => small_dvd (facN_in g n hn).1 (Nat.le_trans (facN_in g n hn).2 g.n2)
theorem byN_pos (g : Good L) : 1 ≤ byN L ∧ byN L ≤ 840 := ⟨Nat.pos_of_dvd_of_pos (byN_840 g) (by decide), Nat.le_of_dvd (by decide) (byN_840 g)⟩
theorem fac_by (g : Good L) {c : Int} (h0 : 0 ≤ c) (h1 : c < L.length) : fac L c ∣ (byN L : Int) := by
  have hm : (fac L c).toNat ∈ facN L := List.mem_map.mpr ⟨c, mem_rng.mpr ⟨h0, h1⟩, rfl⟩
  have d := (lcm_dvd_fold (facN L) 1).2 _ hm
  have p := fac_pos g h0 h1
  have e : ((fac L c).toNat : Int) = fac L c := by omega
  rw [← e]
  exact Int.natCast_dvd_natCast.mpr d
theorem lcm_int (m n : Nat) : ((m : Int) * (n : Int)) / (Int.gcd (m : Int) (n : Int) : Int) = ((Nat.lcm m n : Nat) : Int) := by
  show ((m : Int) * (n : Int)) / ((Nat.gcd m n : Nat) : Int) = ((m * n / Nat.gcd m n : Nat) : Int)
  rw [Int.natCast_ediv, Int.natCast_mul]
theorem common_ok : ∀ (l : List Nat) (s : Nat) {f : D → D → O D}, (∀ n ∈ l, 1 ≤ n ∧ n ≤ 8) → (∀ m n : Nat, 1 ≤ n → n ≤ 8 → f (.int m) (.int n) = .ok (.int (Nat.lcm m n))) → forO f (l.map fun n : Nat => D.int n) (.int s) = .ok (.int ((l.foldl Nat.lcm s : Nat) : Int))
  | [], _, _, _, _ => rfl
  | n :: l, s, f, hl, hf => by
    have := hl n List.mem_cons_self
    show (f (.int s) (.int n)).bind _ = _
    rw [hf s n this.1 this.2, bk]
    exact common_ok l _ (fun m hm => hl m (List.mem_cons_of_mem _ hm)) hf
theorem common_multiple_ok (g : Good L) : f_common_multiple (.lst ((facN L).map fun n : Nat => D.int n)) = .ok (.int (byN L)) := by
  have n2 := g.n2
  unfold f_common_multiple
  simp only [bk, itl]
  refine Eq.trans (congrArg (fun o => O.bind o _) (common_ok (facN L) 1 (fun n hn => ⟨(facN_in g n hn).1, Nat.le_trans (facN_in g n hn).2 n2⟩) (fun m n h1 h2 => ?_))) ?_
  · have gp : (0 : Int) < (Int.gcd (m : Int) (n : Int) : Int) := gcd_pos (by omega)
    have gl : (Int.gcd (m : Int) (n : Int) : Int) ≤ n := gcd_le (by omega)
    simp only [bk, ck, ap2, b_mul_r (i := (m : Int)) (j := (n : Int)) (by omega) (by omega), shared_factor_i, b_fdiv_x gp (show (Int.gcd (m : Int) (n : Int) : Int) < 2 ^ 700 by omega), lcm_int]
  · rfl
theorem facs_ok (g : Good L) : mapO (fun v_cell => f_factor_of (folD L) v_cell) ((rng L.length).map D.int) = .ok ((facN L).map fun n : Nat => D.int n) := by
  have n2 := g.n2
  rw [mapO_ok (fun d => match d with | .int c => .int (fac L c) | _ => .non) (fun d hd => ?hd) (by rw [List.length_map, rng_length]; omega)]
  case hd =>
    obtain ⟨c, hc, rfl⟩ := List.mem_map.mp hd
    have hc := mem_rng.mp hc
    exact factor_of_i hc.1 (cz_of g hc.1 hc.2).1
  congr 1
  unfold facN
  rw [List.map_map, List.map_map]
  refine List.map_congr_left fun c hc => ?_
  have hc := mem_rng.mp hc
  have := fac_pos g hc.1 hc.2
  show D.int (fac L c) = D.int ((fac L c).toNat : Int)
  congr 1
  omega
theorem in_good (W : Eye) (s : Int) : c_in (.int s) (tupI W.gs) = .ok (decide (s ∈ W.gs)) := by
  show op2 (ints? (W.gs.map D.int)) (fun is => O.ok (decide (s ∈ is))) = _
  rw [ints?_map, op2k]
theorem dkey_nd (p : Int × Int) : dkey (ndD p) = some (kk (nodeK p)) := dkey_ints (nodeK p)
theorem store_nd (p : Int × Int) (v : Int) (d : PD) : dstore (kk (nodeK p)) (ndD p) (.int v) (encD d) = encD (pstore (nodeK p) v d) := dstore_enc (nodeK p) v d
theorem get_nd (p : Int × Int) (d : PD) : ndGet (.dic (encD d)) [ndD p, .int 0] = .ok (.int ((plook (nodeK p) d).getD 0)) := get_enc (nodeK p) d
theorem pstore_len (k : List Int) (v : Int) (d : PD) : (pstore k v d).length ≤ d.length + 1 := by
  unfold pstore
  split
  · have e := congrArg List.length (keys_pput (k := k) (v := v) (d := d))
    rw [List.length_map, List.length_map] at e
    omega
  · rw [List.length_append]; exact Nat.le_refl _
structure KI2 (W : Eye) (L : List Cell) (d : PD) : Prop where
  nd : keysN d
  kn : KIn W L d
theorem gput_k {s : Int} {a : PD} {p : Int × Int} (k : KI2 W L a) (i : NdIn W L p) : KI2 W L (gput W s a p) := by
  refine ⟨?_, gput_in k.kn i⟩
  unfold gput
  split
  · exact (wt_store (f := fun _ => 0) k.nd).2
  · exact k.nd
theorem ix_n0 (p : Int × Int) : ix (ndD p) (.int 0) = .ok (.int p.1) := ix_t2_0 _ _
theorem ix_n1 (p : Int × Int) : ix (ndD p) (.int 1) = .ok (.int p.2) := ix_t2_1 _ _
theorem by_fac (g : Good L) {c : Int} (h0 : 0 ≤ c) (h1 : c < L.length) : 0 ≤ (byN L : Int) / fac L c ∧ (byN L : Int) / fac L c ≤ 840 := by
  have p := (fac_pos g h0 h1).1
  have b := byN_pos g
  refine ⟨Int.ediv_nonneg (by omega) (by omega), ?_⟩
  exact Int.le_trans (Int.ediv_le_self _ (by omega)) (by omega)
end SL
namespace SL
open PySem L2 DL
instance decSpot : DecidableEq Spot := fun a b => if h : a.p = b.p ∧ a.q = b.q ∧ a.s = b.s then .isTrue (by
    obtain ⟨p, q, s⟩ := a
    obtain ⟨p', q', s'⟩ := b
    obtain ⟨h1, h2, h3⟩ := h
    simp only at h1 h2 h3
    rw [h1, h2, h3]) else .isFalse fun e => h (by rw [e]; exact ⟨rfl, rfl, rfl⟩)
structure OnQ (Q : Int) (L : List Cell) (x : Spot) : Prop where
  on : On L x
  dq : x.q ∣ Q
def trail (L : List Cell) : Nat → Spot → List Spot
  | 0, _ => []
  | n + 1, x => x :: trail L n (stp L x)
theorem trail_succ (L : List Cell) : ∀ n x, trail L (n + 1) x = trail L n x ++ [far L n x]
  | 0, _ => rfl
  | n + 1, x => by
    show x :: trail L (n + 1) (stp L x) = x :: (trail L n (stp L x) ++ [far L n (stp L x)])
    rw [trail_succ L n (stp L x)]
theorem trail_take (L : List Cell) : ∀ n N x, n ≤ N → trail L n x = (trail L N x).take n
  | 0, _, _, _ => by simp [trail]
  | n + 1, 0, _, h => by omega
  | n + 1, N + 1, x, h => by
    show x :: trail L n (stp L x) = x :: (trail L N (stp L x)).take n
    rw [trail_take L n N (stp L x) (by omega)]
structure Rnd (L : List Cell) (x : Spot) (N : Nat) : Prop where
  le : N ≤ 482
  nd : (trail L N x).Nodup
  ag : far L N x ∈ trail L N x
theorem Rnd.fresh {L : List Cell} {x : Spot} {N n : Nat} (r : Rnd L x N) (h : n < N) : far L n x ∉ trail L n x := by
  have k : (trail L (n + 1) x).Nodup := by rw [trail_take L (n + 1) N x h]; exact r.nd.sublist (List.take_sublist _ _)
  rw [trail_succ] at k
  exact fun z => (List.nodup_append.mp k).2.2 _ z _ (List.mem_singleton.mpr rfl) rfl
structure Ky (key : Spot → D) (kk : Spot → NestedKey) : Prop where
  dk : ∀ a, dkey (key a) = some (kk a)
  inj : ∀ a b, kk a = kk b → a = b
def Spot.key (x : Spot) : D := .tup [.int x.p, .int x.q, .str x.s]
def Spot.kk (x : Spot) : NestedKey := .tup [.num x.p, .num x.q, .text x.s]
def Spot.lk (x : Spot) : D := .tup [.tup [.int x.p, .int x.q], .str x.s]
end SL
namespace SL
open PySem L2 DL
theorem ratio_eq_r (p q p' q' : Int) : Ratio_eq (ratD p q) (ratD p' q') = .ok (.bl (decide (p = p' ∧ q = q'))) := by
  unfold Ratio_eq
  simp only [bk, ck, ap1, is_fraction_r, asBk, Bool.not_true, ite0, as_ratio_r, fld_top, fld_bottom, c_eq_i, trk]
  by_cases z : p = p'
  · rw [decide_eq_true z, ite1]
    by_cases z2 : q = q'
    · rw [decide_eq_true z2, decide_eq_true ⟨z, z2⟩, trk]
    · rw [decide_eq_false z2, decide_eq_false fun h => z2 h.2, trk]
  · rw [decide_eq_false z, ite0, decide_eq_false fun h => z h.1, trk]
end SL
namespace SL
open PySem L2 DL
theorem b_fdiv_y {i j : Int} {n : Nat} (h : 0 < j) (h2 : j.natAbs < 2 ^ n) (hn : n ≤ 8000) : b_fdiv (.int i) (.int j) = .ok (.int (i / j)) := by
  refine if_pos ⟨h, ?_⟩
  have := (Nat.log2_lt (n := j.natAbs) (k := n) (by omega)).mpr h2
  omega
theorem lg_lt {i : Int} {n : Nat} (h : i.natAbs < 2 ^ n) (hn : 0 < n) : i.natAbs.log2 < n := by
  by_cases z : i.natAbs = 0
  · rw [z]; exact hn
  · exact (Nat.log2_lt z).mpr h
theorem b_mul_y {i j : Int} {n m : Nat} (hi : i.natAbs < 2 ^ n) (hj : j.natAbs < 2 ^ m) (hn : 0 < n) (hm : 0 < m) (h : n + m ≤ 900000) : b_mul (.int i) (.int j) = .ok (.int (i * j)) := by
  refine if_pos (decide_eq_true (.inr ?_))
  have a := lg_lt hi hn
  have b := lg_lt hj hm
  show i.natAbs.log2 + j.natAbs.log2 < 1000000
  omega
theorem Ratio_init_y {a b : Int} {n : Nat} (h : 0 < b) (h2 : b.natAbs < 2 ^ n) (hn : n ≤ 8000) : Ratio_init (.int a) (.int b) = .ok (lowF a b) := by
  unfold Ratio_init
  have g1 := gcd_pos (a := a) h
  have g2 := gcd_le (a := a) h
  have g3 : ((Int.gcd a b : Int)).natAbs < 2 ^ n := Nat.lt_of_le_of_lt (by omega) h2
  simp only [bk, ck, ap1, ap2, is_integer_i, asBk, Bool.not_true, ite0, c_lt_i, decide_eq_false (show ¬ b < 1 by omega), shared_factor_i, b_fdiv_y g1 g3 hn]
  rfl
theorem mk_ratio_y {a b : Int} {n : Nat} (h : 0 < b) (h2 : b.natAbs < 2 ^ n) (hn : n ≤ 8000) : ((l2 Ratio_init) ([D.int a, D.int b] ++ [])).bind (fun fs => O.ok (D.obj 0 fs)) = .ok (mkR a b) := by
  rw [List.append_nil, ap2, Ratio_init_y h h2 hn]; rfl
theorem pow_y {b : Nat} (h1 : 1 ≤ b) (h2 : b ≤ 1024) (t : Nat) : 0 < (b : Int) ^ t ∧ ((b : Int) ^ t).natAbs < 2 ^ (10 * t + 1) := by
  have e : ((b : Int) ^ t) = ((b ^ t : Nat) : Int) := by rw [Int.natCast_pow]
  have h3 : 0 < b ^ t := Nat.pow_pos (by omega)
  have h4 : b ^ t ≤ 1024 ^ t := Nat.pow_le_pow_left h2 t
  have h5 : (1024 : Nat) ^ t = 2 ^ (10 * t) := by rw [Nat.pow_mul]
  have h6 : (2 : Nat) ^ (10 * t + 1) = 2 ^ (10 * t) * 2 := Nat.pow_succ ..
  have h7 : 0 < 2 ^ (10 * t) := Nat.pow_pos (by omega)
  rw [e, Int.natAbs_natCast]
  exact ⟨by omega, by omega⟩
section
variable {W : Eye} {L : List Cell} {h : List Nat}
theorem staying_okY (w : EyeOk W) (g : Good L) (o : Goes W L h) {t : Nat} (ht : t ≤ 200) : f_staying_length (folD L) (tx h) (watD W) (.int t) = .ok (mkR (SS W L h (byN L) t fun _ => 1) ((byN L : Int) ^ t)) := by
  have n2 := g.n2
  have hl := o.hu.len
  have b := byN_pos g
  obtain ⟨pw0, pw1⟩ := pow_y b.1 (show byN L ≤ 1024 by omega) t
  unfold f_staying_length
  simp only [bk, ck, ap1, ap2, ap3, ap4, check_asked_ok w g o, is_between_i, decide_eq_true (show (0 : Int) ≤ (t : Int) by omega), decide_eq_true (show (t : Int) ≤ 200 by omega), Bool.and_self, asBk, Bool.not_true, ite0, len_fold L (show L.length ≤ 1000 by omega), rg1_i (show -(2 ^ 62) ≤ (L.length : Int) by omega) (show (L.length : Int) < 2 ^ 62 by omega), Int.toNat_natCast, rangeD_rng L.length, facs_ok g, common_multiple_ok g, first_nodes_ok w g o, itl, rg1_i (show -(2 ^ 62) ≤ (t : Int) by omega) (show (t : Int) < 2 ^ 62 by omega), fld_gd]
  have hfl : (firsts W L h).length ≤ 8 := by unfold firsts; rw [List.length_map, rng_length]; omega
  refine Eq.trans (congrArg (fun o => O.bind o _) (forO_sti encD ndD (fun i a => a.length ≤ i) (gput1 W) (firsts W L h) 0 [] (Nat.zero_le _) (fun i a p hp hi ha => ?first))) ?_
  case first =>
    simp only [ix_n1, bk, in_good]
    unfold gput1 isG
    by_cases z : p.2 ∈ W.gs
    · rw [decide_eq_true z, ite1, if_pos rfl, dkey_nd, op2k, sized_ok (by rw [List.length_map]; omega), store_nd]
      exact ⟨rfl, Nat.le_trans (pstore_len _ _ _) (by omega)⟩
    · rw [decide_eq_false z, ite0, if_neg (by decide)]
      exact ⟨rfl, by omega⟩
  simp only [bk]
  refine Eq.trans (congrArg (fun o => O.bind o _) (forO_turns (fun k => ((D.dic (encD (gdict W L h (byN L) k)), D.int ((byN L : Int) ^ k)) : D × D)) (rangeD 0 t) 0 (fun k d _ _ => ?turn))) ?_
  case turn =>
    have kd : KI2 W L (gdict W L h (byN L) k) := ⟨gdict_keys _ _, gdict_in w g o _ _⟩
    simp only [bk, nit, items_enc]
    refine Eq.trans (congrArg (fun o => O.bind o _) (forO_st encD (fun e : List Int × Int => D.tup [.tup (e.1.map D.int), .int e.2]) (KI2 W L) (gone' W L h (byN L)) (gdict W L h (byN L) k) [] ⟨List.nodup_nil, fun _ h => by cases h⟩ (fun a e he ka => ?item)).1) ?_
    case item =>
      obtain ⟨p, e1, i⟩ := kd.kn e he
      have e2 : D.tup (e.1.map D.int) = ndD p := by rw [e1]; rfl
      have hp := fac_pos g i.c0 i.c1
      have hb := by_fac g i.c0 i.c1
      have eg : gone' W L h (byN L) a e = (behindN W L h p).foldl (gput W (e.2 * ((byN L : Int) / fac L p.1))) a := by
        unfold gone'
        rw [e1, unK_nodeK]
      have ef : f_factor_of (folD L) (.int p.1) = .ok (.int (fac L p.1)) := factor_of_i i.c0 (cz_of g i.c0 i.c1).1
      refine ⟨?_, ⟨?_, gone_in w g o ka.kn e1 i⟩⟩
      · rw [e2, eg]
        simp only [u2t, ix_n0, bk, ck, ap2, ap4, ef, b_fdiv_x (show 0 < fac L p.1 by omega) (show fac L p.1 < 2 ^ 700 by omega), b_mul_r (i := e.2) (j := (byN L : Int) / fac L p.1) (by omega) (by omega), nodes_behind_ok w g o i.c0 i.c1 i.s0 i.s1, itl]
        refine Eq.trans (congrArg (fun o => O.bind o _) (forO_st encD ndD (KI2 W L) (gput W (e.2 * ((byN L : Int) / fac L p.1))) (behindN W L h p) a ka (fun c q hq kc => ?inner)).1) ?_
        case inner =>
          have hlen := kin_len g w kc.nd kc.kn
          refine ⟨?_, gput_k kc (behind_in w g o i q hq)⟩
          simp only [ix_n1, bk, in_good]
          unfold gput isG
          by_cases z : q.2 ∈ W.gs
          · rw [decide_eq_true z, ite1, if_pos rfl, get_nd, bk, b_add_i, atomO_int, bk, dkey_nd, op2k, sized_ok (by rw [List.length_map]; omega), bk, store_nd]
          · rw [decide_eq_false z, ite0, if_neg (by decide), bk]
        rfl
      · rw [eg]
        have key : ∀ (l : List (Int × Int)) (c : PD), keysN c → keysN (l.foldl (gput W (e.2 * ((byN L : Int) / fac L p.1))) c) := fun l c hc => (gput_fold (f := fun _ => 0) l c hc).2
        exact key _ _ ka.nd
    simp only [bk, b_mul_r (i := (byN L : Int) ^ k) (j := (byN L : Int)) (by omega) (by omega)]
    rw [← Int.pow_succ]
    rfl
  simp only [bk, ck, Nat.zero_add, rangeD_length, sum_enc, gdict_sum]
  exact mk_ratio_y pw0 pw1 (by omega)
end
theorem cmp_order {p q p' q' : Int} {n : Nat} (h1 : p.natAbs < 2 ^ n) (h2 : q.natAbs < 2 ^ n) (h3 : p'.natAbs < 2 ^ n) (h4 : q'.natAbs < 2 ^ n) (n0 : 0 < n) (hn : n ≤ 8000) (le : p' * q ≤ p * q') : ∃ r : Int, mt_compared [ratD p q, ratD p' q'] = .ok (.int r) ∧ 0 ≤ r := by
  have e : mt_compared [ratD p q, ratD p' q'] = Ratio_compared (ratD p q) (ratD p' q') := nrfl rfl trivial
  rw [e]
  unfold Ratio_compared f_order_of
  simp only [bk, ck, ap1, ap2, is_fraction_r, as_ratio_r, asBk, Bool.not_true, ite0, fld_top, fld_bottom, b_mul_y h1 h4 n0 n0 (show n + n ≤ 900000 by omega), b_mul_y h3 h2 n0 n0 (show n + n ≤ 900000 by omega), c_eq_i, c_lt_i]
  by_cases z : p * q' = p' * q
  · rw [decide_eq_true z, ite1]
    exact ⟨0, rfl, by omega⟩
  · rw [decide_eq_false z, ite0, decide_eq_false (show ¬ p * q' < p' * q by omega), ite0]
    exact ⟨1, rfl, by omega⟩
end SL
namespace SL.K39
open PySem L2 DL SL
theorem draw_ok {w : Int} (h : 0 < w) (h2 : w < 2 ^ 64) {g : List D} (hb : Bag g) : ∃ r g', f_law_draw (.int w) g = .ok (.int r, g') ∧ 0 ≤ r ∧ r < w ∧ Bag g' := by
  obtain ⟨a, b, c, rfl⟩ := hb
  have ht : 0 ≤ a % 30011 + 12347 ∧ a % 30011 + 12347 < 2 ^ 64 := by omega
  unfold f_law_draw
  simp only [mbind, mitea, mconsa, mupa, mret, bagx, bk, ck, ix_l3_0, ix_l3_1, ix_l3_2, b_add_i, ixN3_2, op2k, set3_2, c_gt_i, bi_int_i, ixN3_0, set3_0, ixN3_1, set3_1,
    b_mul_l (i := 39373) (by decide) (by decide), b_mod_i (j := 30011) (by decide), b_mul_r (i := a) (j := a % 30011 + 12347) (by omega) ht.2, b_mod_i (j := 2147483563) (by decide)]
  by_cases z : 0 < b
  · simp only [decide_eq_true z, bif1, mbind, mconsa, mupa, mret, bagx, bk, ck, ix_l3_0, ix_l3_1, ix_l3_2, bi_int_i, b_mod_i h, b_fdiv_i h h2, ixN3_1, op2k, set3_1]
    exact ⟨_, _, rfl, Int.emod_nonneg _ (by omega), Int.emod_lt_of_pos _ h, _, _, _, rfl⟩
  · simp only [decide_eq_false z, bif0, mbind, mconsa, mupa, mret, bagx, bk, ck, ix_l3_0, ix_l3_1, ix_l3_2, bi_int_i, b_fdiv_i (j := 733) (by decide) (by decide), b_mod_i h]
    exact ⟨_, _, rfl, Int.emod_nonneg _ (by omega), Int.emod_lt_of_pos _ h, _, _, _, rfl⟩
theorem pick_ok {ds : List D} (h : 0 < ds.length) (h2 : ds.length < 1000) {g : List D} (hb : Bag g) : ∃ d g', f_law_pick (.lst ds) g = .ok (d, g') ∧ d ∈ ds ∧ Bag g' := by
  obtain ⟨r, g', e, h0, h1, b⟩ := draw_ok (w := ds.length) (by omega) (by omega) hb
  unfold f_law_pick
  have hl : r.toNat < ds.length := by omega
  simp only [mbind, mupa, mret, bk, ck, ownLen_l, mp1, e, ix_l h0 (List.getElem?_eq_getElem hl)]
  exact ⟨_, _, rfl, List.getElem_mem hl, b⟩
theorem pickT_ok {l : List Nat} (h : 0 < l.length) (h2 : l.length < 1000) {g : List D} (hb : Bag g) : ∃ c g', f_law_pick (tx l) g = .ok (tx [c], g') ∧ c ∈ l ∧ Bag g' := by
  obtain ⟨r, g', e, h0, h1, b⟩ := draw_ok (w := l.length) (by omega) (by omega) hb
  unfold f_law_pick
  have hl : r.toNat < l.length := by omega
  simp only [mbind, mupa, mret, bk, ck, olen_tx (show l.length ≤ 1000000 by omega), mp1, e, ix_tx h0 (show l.length ≤ 1000000 by omega) (List.getElem?_eq_getElem hl)]
  exact ⟨_, _, rfl, List.getElem_mem hl, b⟩
theorem pk {α : Type} {m : O (D × List D)} {enc : α → D} {P : α → List D → Prop} (h : ∃ r, m = .ok r ∧ ∃ x g', r = (enc x, g') ∧ P x g') : ∃ x g', m = .ok (enc x, g') ∧ P x g' := by
  obtain ⟨_, e, x, g', rfl, p⟩ := h
  exact ⟨x, g', e, p⟩
theorem doughN_ok {m : Int} (h2 : 2 ≤ m) (h8 : m ≤ 8) {g : List D} (hb : Bag g) : ∃ L g', f_law_dough (.int m) g = .ok (cellsD L, g') ∧ Good L ∧ (L.length : Int) ≤ m ∧ Bag g' := by
  refine pk (enc := cellsD) (P := fun L g' => Good L ∧ (L.length : Int) ≤ m ∧ Bag g') ?_
  unfold f_law_dough
  obtain ⟨r, g1, e1, h0, h1, b1⟩ := draw_ok (w := m - 1) (by omega) (by omega) hb
  simp only [mbind, mupa, bk, ck, b_sub_i, mp1, e1, b_add_i, rg1_i (i := 2 + r) (by omega) (by omega)]
  refine forM_accK (α := Cell) (enc := celD) (P := fun c => 0 ≤ c.1 ∧ c.1 ≤ c.2.1 ∧ c.2.1 < 2 + r) b1 (by rw [rangeD_length]; omega) (fun acc d g hb hl => ?_) (fun L g2 e3 p2 b2 => ?_)
  · obtain ⟨z, g5, e5, z0, z1, b5⟩ := draw_ok (w := 6) (by omega) (by omega) hb
    obtain ⟨x, g3, e3, x0, x1, b3⟩ := draw_ok (w := 2 + r) (by omega) (by omega) b5
    obtain ⟨y, g4, e4, y0, y1, b4⟩ := draw_ok (w := 2 + r) (by omega) (by omega) b3
    obtain ⟨t, g6, e6, t0, t1, b6⟩ := draw_ok (w := 2) (by omega) (by omega) b4
    simp only [mbind, mitea, mconsa, mtra, mupa, mret, bk, ck, mp1, e3, e4, e5, c_eq_i, bi_min_i, bi_max_i]
    by_cases hz : z = 0
    · have hz1 : ¬ z = 1 := by omega
      simp only [decide_eq_true hz, decide_eq_false hz1, bif1, bif0, mbind, mupa, bk, ck, b_sub_i, mret, e6, c_eq_i, mconsa, mtra, mp1, sizedMk hl]
      refine ⟨(0, 2 + r - 1, decide (t = 1)), g6, rfl, ?_, b6⟩
      simp only
      omega
    · by_cases hz1 : z = 1
      · simp only [decide_eq_false hz, decide_eq_true hz1, bif1, bif0, mbind, mupa, bk, ck, b_sub_i, mret, e6, c_eq_i, mconsa, mtra, mp1, sizedMk hl]
        refine ⟨(if y < x then y else x, if y < x then y else x, decide (t = 1)), g6, rfl, ?_, b6⟩
        simp only
        split <;> omega
      · simp only [decide_eq_false hz, decide_eq_false hz1, bif1, bif0, mbind, mupa, bk, ck, b_sub_i, mret, e6, c_eq_i, mconsa, mtra, mp1, sizedMk hl]
        refine ⟨(if y < x then y else x, if y > x then y else x, decide (t = 1)), g6, rfl, ?_, b6⟩
        simp only
        split <;> split <;> omega
  · simp only [bk, ck, bi_tuple_l, mupa]
    rw [rangeD_length] at e3
    exact ⟨_, rfl, L, g2, rfl, ⟨by omega, by omega, fun c hc => by have := p2 c hc; omega⟩, by omega, b2⟩
theorem forM_rgK {T β : Type} (I : Nat → T → Prop) {f : T → D → M T} {n : Nat} {t : T} {g : List D} {K : T × List D → O β} {Q : β → Prop} (hb : Bag g) (h0 : I 0 t) (hf : ∀ i t g, i < n → I i t → Bag g → ∃ t' g', f t (.int (0 + (i : Int))) g = .ok (t', g') ∧ I (i + 1) t' ∧ Bag g')
    (hk : ∀ t' g', I n t' → Bag g' → ∃ r, K (t', g') = .ok r ∧ Q r) : ∃ r, (forM f (rangeD 0 n) t g).bind K = .ok r ∧ Q r := by
  have key : ∀ (m k : Nat) (t : T) (g : List D), k + m = n → I k t → Bag g → ∃ t' g', forM f ((List.range' k m).map fun (i : Nat) => D.int (0 + (i : Int))) t g = .ok (t', g') ∧ I n t' ∧ Bag g' := by
    intro m
    induction m with
    | zero => intro k t g hk i b; exact ⟨t, g, rfl, by rw [← hk]; exact i, b⟩
    | succ m ih =>
      intro k t g hk i b
      obtain ⟨t1, g1, e1, i1, b1⟩ := hf k t g (by omega) i b
      obtain ⟨t2, g2, e2, i2, b2⟩ := ih (k + 1) t1 g1 (by omega) i1 b1
      refine ⟨t2, g2, ?_, i2, b2⟩
      rw [List.range'_succ, List.map_cons, forM_cons, mbind, e1, bk]
      exact e2
  obtain ⟨t', g', e, i, b⟩ := key n 0 t g (by omega) h0 hb
  unfold rangeD
  rw [List.range_eq_range', e, bk]
  exact hk t' g' i b
theorem mapB {α : Type} {P : α → Prop} {enc : α → D} {f : D → M D} (hf : ∀ d g, Bag g → ∃ x g', f d g = .ok (enc x, g') ∧ P x ∧ Bag g') :
    ∀ (ds g : List D), Bag g → ∃ (L : List α) (g' : List D), lcM (fun d => (f d).bind fun x => M.ret (some x)) ds g = .ok (L.map enc, g') ∧ L.length = ds.length ∧ (∀ x ∈ L, P x) ∧ Bag g'
  | [], g, hb => ⟨[], g, rfl, rfl, fun _ h => absurd h (by simp), hb⟩
  | d :: ds, g, hb => by
    obtain ⟨x, g1, e1, p1, b1⟩ := hf d g hb
    obtain ⟨L, g2, e2, e3, p2, b2⟩ := mapB hf ds g1 b1
    refine ⟨x :: L, g2, ?_, by rw [List.length_cons, List.length_cons, e3], fun y hy => ?_, b2⟩
    · unfold lcM
      rw [mbind, mbind, e1, bk, mret, bk, mbind, e2, bk, mret]
      rfl
    · rcases List.mem_cons.mp hy with h | h
      · rw [h]; exact p1
      · exact p2 y h
theorem mapBK {α β : Type} {P : α → Prop} {enc : α → D} {f : D → M D} {K : List D × List D → O β} {Q : β → Prop} {ds g : List D} (hb : Bag g) (hl : ds.length ≤ 1000000) (hf : ∀ d g, Bag g → ∃ x g', f d g = .ok (enc x, g') ∧ P x ∧ Bag g')
    (hk : ∀ (L : List α) (g' : List D), L.length = ds.length → (∀ x ∈ L, P x) → Bag g' → ∃ r, K (L.map enc, g') = .ok r ∧ Q r) : ∃ r, (mapM f ds g).bind K = .ok r ∧ Q r := by
  obtain ⟨L, g', e, h1, h2, b⟩ := mapB hf ds g hb
  unfold mapM
  rw [sizedMk hl, e, bk]
  exact hk L g' h1 h2 b
theorem filB {t : D → M Bool} (ht : ∀ d g, Bag g → ∃ b g', t d g = .ok (b, g') ∧ Bag g') : ∀ (js : List Int) (g : List D), Bag g → ∃ (is : List Int) (g' : List D), lcM (fun d => M.ite (t d) ((M.up (O.ok d)).bind fun x => M.ret (some x)) (M.ret none)) (js.map D.int) g = .ok (is.map D.int, g') ∧ is.Sublist js ∧ Bag g'
  | [], g, hb => ⟨[], g, rfl, .slnil, hb⟩
  | j :: js, g, hb => by
    obtain ⟨b, g1, e1, b1⟩ := ht (.int j) g hb
    obtain ⟨is, g2, e2, s2, b2⟩ := filB ht js g1 b1
    cases b with
    | true =>
      refine ⟨j :: is, g2, ?_, s2.cons₂ _, b2⟩
      rw [List.map_cons]
      unfold lcM
      rw [mbind, mitea, e1, bk, bif1, mbind, mupa, bk, bk, mret, bk, mbind, e2, bk, mret]
      rfl
    | false =>
      refine ⟨is, g2, ?_, s2.cons _, b2⟩
      rw [List.map_cons]
      unfold lcM
      rw [mbind, mitea, e1, bk, bif0, mret, bk, mbind, e2, bk, mret]
      rfl
theorem filBK {β : Type} {t : D → M Bool} {K : List D × List D → O β} {Q : β → Prop} {js : List Int} {g : List D} (hb : Bag g) (hl : js.length ≤ 1000000) (ht : ∀ d g, Bag g → ∃ b g', t d g = .ok (b, g') ∧ Bag g')
    (hk : ∀ (is : List Int) (g' : List D), is.Sublist js → Bag g' → ∃ r, K (is.map D.int, g') = .ok r ∧ Q r) : ∃ r, (filM t (fun d => M.up (O.ok d)) (js.map D.int) g).bind K = .ok r ∧ Q r := by
  obtain ⟨is, g', e, s, b⟩ := filB ht js g hb
  unfold filM
  rw [sizedMk (by rw [List.length_map]; exact hl), e, bk]
  exact hk is g' s b
def abc : List Nat := (List.range 26).map (· + 97)
theorem str_abc : D.str "abcdefghijklmnopqrstuvwxyz" = tx abc := by
  show D.str "abcdefghijklmnopqrstuvwxyz" = D.str (st abc)
  congr 1
theorem str_no : D.str "" = tx [] := by
  show D.str "" = D.str (st [])
  congr 1
theorem abc_sm : ∀ c ∈ abc, sml c := by decide
theorem abc_up : abc.Pairwise (· < ·) := by decide
theorem abc_len : abc.length = 26 := rfl
def SgI (n : Nat) (i : Nat) (t : D × D) : Prop := ∃ R F : List Nat, t = (tx R, tx F) ∧ F.length = i ∧ n ≤ R.length + i ∧ R.length ≤ 26 ∧ (F ++ R).Pairwise (· < ·) ∧ ∀ c ∈ F ++ R, sml c
theorem signs_ok {n : Nat} (h8 : n ≤ 8) {g : List D} (hb : Bag g) : ∃ l g', f_law_signs (.int n) g = .ok (tx l, g') ∧ (l.length = n ∧ (∀ c ∈ l, sml c) ∧ l.Pairwise (· < ·)) ∧ Bag g' := by
  refine pk (enc := tx) (P := fun l g' => (l.length = n ∧ (∀ c ∈ l, sml c) ∧ l.Pairwise (· < ·)) ∧ Bag g') ?_
  unfold f_law_signs
  simp only [mbind, mupa, bk, ck, rg1_i (i := (n : Int)) (by omega) (by omega), Int.toNat_natCast, str_abc, str_no]
  refine forM_rgK (SgI n) hb ⟨abc, [], rfl, rfl, by rw [abc_len]; omega, by rw [abc_len]; omega, abc_up, abc_sm⟩ (fun i t g hi ht b => ?_) (fun t g' ht b => ?_)
  · obtain ⟨R, F, rfl, f1, r1, r2, up, sm⟩ := ht
    obtain ⟨a, g1, e1, a0, a1, b1⟩ := draw_ok (w := (R.length : Int) - n + (0 + (i : Int)) + 1) (by omega) (by omega) b
    have ha : a.toNat < R.length := by omega
    have ec := drop_tx (l := R) (a.toNat + 1) (by omega)
    have ea : ((a.toNat + 1 : Nat) : Int) = a + 1 := by omega
    rw [ea] at ec
    have es : (F ++ [R[a.toNat]] ++ R.drop (a.toNat + 1)).Sublist (F ++ R) := by
      rw [List.append_assoc, List.singleton_append, List.getElem_cons_drop]
      exact List.Sublist.append_left (List.drop_sublist _ _) _
    simp only [mbind, mupa, mret, bk, ck, olen_tx (show R.length ≤ 1000000 by omega), b_sub_i, b_add_i, mp1, e1, ix_tx a0 (show R.length ≤ 1000000 by omega) (List.getElem?_eq_getElem ha), aik, ec,
      add_tx (a := F) (b := [R[a.toNat]]) (by rw [List.length_singleton]; omega)]
    refine ⟨_, g1, rfl, ⟨R.drop (a.toNat + 1), F ++ [R[a.toNat]], rfl, by rw [List.length_append, List.length_singleton, f1], by rw [List.length_drop]; omega, by rw [List.length_drop]; omega, up.sublist es, fun c hc => sm c (es.subset hc)⟩, b1⟩
  · obtain ⟨R, F, rfl, f1, r1, r2, up, sm⟩ := ht
    simp only [mupa, bk]
    exact ⟨_, rfl, F, g', rfl, ⟨f1, fun c hc => sm c (List.mem_append_left _ hc), (List.pairwise_append.mp up).1⟩, b⟩
theorem eye_ok {ls : List Nat} (h1 : 1 ≤ ls.length) (h8 : ls.length ≤ 8) (sm : ∀ c ∈ ls, sml c) (up : ls.Pairwise (· < ·)) {m : Int} (k1 : 1 ≤ m) (k6 : m ≤ 6) {g : List D} (hb : Bag g) : ∃ W g', f_law_eye (tx ls) (.int m) g = .ok (eyeD W, g') ∧ (EyeOk W ∧ W.ls = ls) ∧ Bag g' := by
  refine pk (enc := eyeD) (P := fun W g' => (EyeOk W ∧ W.ls = ls) ∧ Bag g') ?_
  unfold f_law_eye
  obtain ⟨r, g1, e1, r0, r1, b1⟩ := draw_ok (w := m) (by omega) (by omega) hb
  simp only [mbind, mconsa, mupa, mret, bk, ck, mp1, e1, b_add_i, rg1_i (i := 1 + r) (by omega) (by omega), O.bind_assoc]
  refine mapBK (α := List Int) (enc := tupI) (P := fun q => q.length = ls.length ∧ ∀ s ∈ q, 0 ≤ s ∧ s < 1 + r) b1 (by rw [rangeD_length]; omega) (fun d g hb => ?_) (fun ms g2 e2 p2 b2 => ?_)
  · refine pk (enc := tupI) (P := fun q g' => (q.length = ls.length ∧ ∀ s ∈ q, 0 ≤ s ∧ s < 1 + r) ∧ Bag g') ?_
    simp only [mbind, mconsa, mupa, mret, bk, ck, it_tx, O.bind_assoc]
    refine mapBK (α := Int) (enc := D.int) (P := fun s => 0 ≤ s ∧ s < 1 + r) hb (by rw [List.length_map]; omega) (fun d g hb => ?_) (fun q g2 e2 p2 b2 => ?_)
    · obtain ⟨a, g3, e3, a0, a1, b3⟩ := draw_ok (w := 1 + r) (by omega) (by omega) hb
      simp only [mbind, mupa, bk, ck, mp1, e3]
      exact ⟨a, g3, rfl, ⟨a0, a1⟩, b3⟩
    · simp only [bk, ck, bi_tuple_l]
      rw [List.length_map] at e2
      exact ⟨_, rfl, q, g2, rfl, ⟨e2, p2⟩, b2⟩
  · rw [rangeD_length] at e2
    have er : rangeD 0 (1 + r).toNat = (rng (1 + r).toNat).map D.int := rangeD_rng _
    simp only [bk, ck, bi_tuple_l, er, O.bind_assoc]
    refine filBK b2 (by rw [rng_length]; omega) (fun d g hb => ?_) (fun is g3 s3 b3 => ?_)
    · obtain ⟨a, g3, e3, a0, a1, b3⟩ := draw_ok (w := 3) (by omega) (by omega) hb
      simp only [mbind, mupa, bk, ck, mp1, e3, c_gt_i]
      exact ⟨_, g3, rfl, b3⟩
    · simp only [bk, ck, bi_tuple_l]
      have hml : (ms.length : Int) = 1 + r := by omega
      refine ⟨_, rfl, ⟨ls, ms, is⟩, g3, rfl, ⟨⟨h1, h8, sm, up, by show 1 ≤ ms.length; omega, by show ms.length ≤ 6; omega, fun q hq => (p2 q hq).1, fun q hq s hs => ?_, fun s hs => ?_, ?_⟩, rfl⟩, b3⟩
      · have := (p2 q hq).2 s hs
        show 0 ≤ s ∧ s < (ms.length : Int)
        omega
      · have := mem_rng.mp (s3.subset hs)
        show 0 ≤ s ∧ s < (ms.length : Int)
        omega
      · exact (rise_rng _).sublist s3
end SL.K39
namespace SL.K39
open PySem L2 DL SL
theorem flat_ones (l : List Nat) : (l.map fun c => [c]).flatten = l := by
  induction l with
  | nil => rfl
  | cons c l ih => rw [List.map_cons, List.flatten_cons, ih]; rfl
theorem sum_ones (l : List Nat) : ((l.map fun c => [c]).map List.length).sum = l.length := by
  induction l with
  | nil => rfl
  | cons c l ih => rw [List.map_cons, List.map_cons, List.sum_cons, ih, List.length_cons]; simp; omega
theorem join_ones {l : List Nat} (h : l.length ≤ 1000000) : t_join (.str "") (.lst (l.map fun c => tx [c])) = .ok (tx l) := by
  have := join_tx (ls := l.map fun c => [c]) (by rw [sum_ones]; exact h)
  rw [List.map_map, flat_ones] at this
  exact this
theorem x0 (W : Eye) : ix (eyeD W) (.int 0) = .ok (tx W.ls) := ix_t3_0 _ _ _
theorem x1 (W : Eye) : ix (eyeD W) (.int 1) = .ok (movD W) := ix_t3_1 _ _ _
theorem x2 (W : Eye) : ix (eyeD W) (.int 2) = .ok (tupI W.gs) := ix_t3_2 _ _ _
theorem scene_ok {g : List D} (hb : Bag g) : ∃ L h W g', f_law_scene (.int 8) (.int 6) g = .ok (.lst [cellsD L, tx h, eyeD W], g') ∧ Good L ∧ L.length ≤ 8 ∧ EyeOk W ∧ Goes W L h ∧ Bag g' := by
  suffices hh : ∃ r, f_law_scene (.int 8) (.int 6) g = .ok r ∧ ∃ L h W g', r = (.lst [cellsD L, tx h, eyeD W], g') ∧ Good L ∧ L.length ≤ 8 ∧ EyeOk W ∧ Goes W L h ∧ Bag g' by
    obtain ⟨_, e, L, h, W, g', rfl, q⟩ := hh
    exact ⟨L, h, W, g', e, q⟩
  obtain ⟨L, g1, e1, gd, h4, b1⟩ := doughN_ok (m := 8) (by decide) (by decide) hb
  obtain ⟨d, g2, e2, d2, b2⟩ := pick_ok (ds := [.int 1, .int 2, .int 2, .int 2, .int 3, .int 3, .int 4, .int 8]) (by decide) (by decide) b1
  obtain ⟨n, rfl, n0, n8⟩ : ∃ n : Nat, d = .int n ∧ 1 ≤ n ∧ n ≤ 8 := by
    simp only [List.mem_cons, List.not_mem_nil, or_false] at d2
    rcases d2 with rfl | rfl | rfl | rfl | rfl | rfl | rfl | rfl
    · exact ⟨1, rfl, by decide, by decide⟩
    · exact ⟨2, rfl, by decide, by decide⟩
    · exact ⟨2, rfl, by decide, by decide⟩
    · exact ⟨2, rfl, by decide, by decide⟩
    · exact ⟨3, rfl, by decide, by decide⟩
    · exact ⟨3, rfl, by decide, by decide⟩
    · exact ⟨4, rfl, by decide, by decide⟩
    · exact ⟨8, rfl, by decide, by decide⟩
  obtain ⟨l, g3, e3, ⟨ln, sm, up⟩, b3⟩ := signs_ok n8 b2
  obtain ⟨W, g4, e4, ⟨w, wl⟩, b4⟩ := eye_ok (by omega) (by omega) sm up (m := 6) (by decide) (by decide) b3
  unfold f_law_scene
  have ei : itD (cellsD L) = .ok (L.map celD) := itk _
  simp only [mbind, mconsa, mupa, mret, bk, ck, mp1, mp2, e1, e2, e3, e4, ei, O.bind_assoc]
  refine mapBK (α := Nat) (enc := fun c => tx [c]) (P := fun c => c ∈ l) b4 (by rw [List.length_map]; omega) (fun d g hb => ?_) (fun h g5 e5 p5 b5 => ?_)
  · obtain ⟨c, g6, e6, p6, b6⟩ := pickT_ok (l := l) (by omega) (by omega) hb
    simp only [mbind, mupa, bk, ck, mp1, e6]
    exact ⟨c, g6, rfl, p6, b6⟩
  · rw [List.length_map] at e5
    simp only [bk, ck, join_ones (show h.length ≤ 1000000 by omega)]
    exact ⟨_, rfl, L, h, W, g5, rfl, gd, by omega, w, ⟨⟨e5, fun c hc => sm c (p5 c hc)⟩, fun c hc => by rw [wl]; exact p5 c hc⟩, b5⟩
theorem cut_last (ds : List D) (h : 1 ≤ ds.length) : cut (.tup ds) none (some (-1)) = .ok (.tup ds.dropLast) := by
  show O.ok (D.tup (cutD ds none (some (-1)))) = _
  unfold cutD
  have e : HT.sIx ds.length ds.length (some (-1)) = ds.length - 1 := by
    show (if (-1 : Int) < 0 then ((-1 : Int) + (ds.length : Int)).toNat else min (-1 : Int).toNat ds.length) = _
    rw [if_pos (by decide)]
    omega
  rw [HT.sIx_none, e, List.drop_zero, Nat.sub_zero, List.dropLast_eq_take]
theorem mulX_one (i : Int) {n : Nat} (h1 : 1 ≤ n) (h2 : n ≤ 1000) : b_mulX (.tup [.int i]) (.int n) = .ok (tupI (List.replicate n i)) := by
  show (if (n : Int) = 1 ∧ 1 ≤ [D.int i].length ∧ [D.int i].length ≤ 1000 then O.ok (D.tup [D.int i]) else b_mul (.tup [.int i]) (.int n)) = _
  by_cases z : (n : Int) = 1
  · have hn : n = 1 := by omega
    subst hn
    rw [if_pos ⟨z, Nat.le_refl 1, show 1 ≤ 1000 by decide⟩]
    rfl
  · rw [if_neg fun q => z q.1]
    show (if 1 ≤ [D.int i].length ∧ 2 ≤ (n : Int) ∧ (n : Int) ≤ 1000 ∧ [D.int i].length ≤ 1000 then O.ok (D.tup (List.replicate (n : Int).toNat [D.int i]).flatten) else O.bad) = _
    rw [if_pos ⟨Nat.le_refl 1, by omega, by omega, show 1 ≤ 1000 by decide⟩, Int.toNat_natCast]
    unfold tupI
    rw [List.map_replicate]
    congr 2
    clear z h1 h2
    induction n with
    | zero => rfl
    | succ n ih => rw [List.replicate_succ, List.flatten_cons, ih, List.replicate_succ]; rfl
theorem add_tups {xs ys : List D} (h : xs.length + ys.length ≤ 1000000) : b_add (.tup xs) (.tup ys) = .ok (.tup (xs ++ ys)) := if_pos h
theorem trap_ok {W : Eye} (w : EyeOk W) {g : List D} (hb : Bag g) : ∃ W' g', f_law_trap (eyeD W) g = .ok (eyeD W', g') ∧ (EyeOk W' ∧ W'.ls = W.ls) ∧ Bag g' := by
  refine pk (enc := eyeD) (P := fun W' g' => (EyeOk W' ∧ W'.ls = W.ls) ∧ Bag g') ?_
  have k1 := w.m1
  have k6 := w.m6
  have l1 := w.l1
  have l8 := w.l8
  have elen : ownLen lens [movD W] = .ok (.int W.ms.length) := by unfold movD; rw [ownLen_t, List.length_map]
  have el2 : ownLen lens [tx W.ls] = .ok (.int W.ls.length) := olen_tx (show W.ls.length ≤ 1000000 by omega)
  have ec : cut (movD W) none (some (-1)) = .ok (.tup (W.ms.dropLast.map tupI)) := by
    unfold movD
    rw [cut_last _ (by rw [List.length_map]; exact k1), List.map_dropLast]
  have hd : W.ms.dropLast.length = W.ms.length - 1 := List.length_dropLast
  have eg : rgL (.int 0) (.int ((W.ms.length : Int) - 1)) = .ok ((rng (W.ms.length - 1)).map D.int) := by
    have e : (W.ms.length : Int) - 1 = ((W.ms.length - 1 : Nat) : Int) := by omega
    rw [e, ← rgD_rng]
    exact if_pos ⟨by omega, by omega, by omega⟩
  unfold f_law_trap
  simp only [mbind, mitea, mconsa, mupa, mret, bk, ck, x1, elen, c_eq_i]
  by_cases z : (W.ms.length : Int) = 1
  · simp only [decide_eq_true z, bif1, mret, bk, mupa]
    exact ⟨_, rfl, W, g, rfl, ⟨w, rfl⟩, hb⟩
  · obtain ⟨r, g1, e1, r0, r1, b1⟩ := draw_ok (w := 2) (by decide) (by decide) hb
    simp only [decide_eq_false z, bif0, mret, bk, ck, mupa, mbind, mp1, e1, c_eq_i]
    by_cases z2 : r = 0
    · simp only [decide_eq_true z2, bif1, mupa, bk]
      exact ⟨_, rfl, W, g1, rfl, ⟨w, rfl⟩, b1⟩
    · have ea : b_add (.tup (W.ms.dropLast.map tupI)) (.tup [tupI (List.replicate W.ls.length ((W.ms.length : Int) - 1))]) = .ok (.tup ((W.ms.dropLast ++ [List.replicate W.ls.length ((W.ms.length : Int) - 1)]).map tupI)) := by
        rw [add_tups (by rw [List.length_map, List.length_singleton]; omega), List.map_append]
        rfl
      simp only [decide_eq_false z2, bif0, mupa, bk, ck, x0, x1, b_neg_i, aik, ec, b_sub_i, el2, mulX_one ((W.ms.length : Int) - 1) l1 (show W.ls.length ≤ 1000 by omega), ea, eg]
      have hml : (W.ms.dropLast ++ [List.replicate W.ls.length ((W.ms.length : Int) - 1)]).length = W.ms.length := by rw [List.length_append, List.length_singleton]; omega
      refine ⟨_, rfl, ⟨W.ls, W.ms.dropLast ++ [List.replicate W.ls.length ((W.ms.length : Int) - 1)], rng (W.ms.length - 1)⟩, g1, rfl, ⟨⟨l1, l8, w.sm, w.up, by show 1 ≤ List.length _; rw [hml]; exact k1, by show List.length _ ≤ 6; rw [hml]; exact k6, fun q hq => ?_, fun q hq s hs => ?_, fun s hs => ?_, rise_rng _⟩, rfl⟩, b1⟩
      · rcases List.mem_append.mp hq with hq | hq
        · exact w.ml q (List.dropLast_subset _ hq)
        · rw [List.mem_singleton.mp hq]; exact List.length_replicate
      · show 0 ≤ s ∧ s < ((List.length _ : Nat) : Int)
        rw [hml]
        rcases List.mem_append.mp hq with hq | hq
        · exact w.mr q (List.dropLast_subset _ hq) s hs
        · rw [List.mem_singleton.mp hq] at hs
          have := List.eq_of_mem_replicate hs
          omega
      · show 0 ≤ s ∧ s < ((List.length _ : Nat) : Int)
        rw [hml]
        have := mem_rng.mp hs
        omega
theorem purse_ok {is : List Int} {k : Int} (h0 : 0 ≤ k) (h1 : k < 100) (hl : is.length ≤ 63) : ∃ g, f_law_purse (.lst (is.map D.int)) (.int k) = .ok g ∧ Bag g := by
  unfold f_law_purse
  obtain ⟨hd, e1⟩ : ∃ hd : Int, O.ite (c_lt (.int k) (.int (is.map D.int).length)) (((O.cons (ix (.lst (is.map D.int)) (.int k)) (O.ok [])).bind bi_int).bind fun v_law_held_3 => O.ok v_law_held_3) (O.ok (D.int (7 * k + 2))) = .ok (.int hd) := by
    simp only [c_lt_i]
    by_cases z : k < (is.map D.int).length
    · have hk : k.toNat < is.length := by rw [List.length_map] at z; omega
      refine ⟨is[k.toNat], ?_⟩
      rw [decide_eq_true z, ite1, ix_l (d := .int is[k.toNat]) h0 (by rw [List.getElem?_map, List.getElem?_eq_getElem hk]; rfl), ck, bk, bi_int_i, bk]
    · exact ⟨_, by rw [decide_eq_false z, ite0]⟩
  have e2 : ∃ js : List Int, cut (.lst (is.map D.int)) none (some 5) = .ok (.lst (js.map D.int)) := by
    refine ⟨is.take 5, ?_⟩
    show O.ok (D.lst (cutD (is.map D.int) none (some 5))) = _
    unfold cutD
    rw [HT.sIx_none, show (some (5 : Int)) = some ((5 : Nat) : Int) from rfl, HT.sIx_nat, List.drop_zero, ← List.map_take, Nat.sub_zero, List.length_map]
    congr 3
    rcases Nat.le_total 5 is.length with h | h
    · rw [Nat.min_eq_left h]
    · rw [Nat.min_eq_right h, List.take_of_length_le (Nat.le_refl _), List.take_of_length_le h]
  obtain ⟨js, e2⟩ := e2
  simp only [bk, ck, ownLen_l, b_mul_l (i := 7) (by decide) (by decide), b_add_i, e1, aik, e2, itl]
  refine forO_intK (fun s t => ⟨_, by simp only [bk, ck, b_mul_r (j := 39373) (by decide) (by decide), bi_int_i, b_mod_i (j := 2147483399) (by decide), b_add_i, b_mod_i (j := 2147483563) (by decide)]; rfl⟩) fun u => ?_
  have hp : b_pow (.int 10) (.int 18) = .ok (.int (10 ^ 18)) := by kernel_rfl
  have e4 : ∀ x : Int, ∃ t : Int, O.ite (O.ok (decide ((10 : Int) ^ 18 ≤ x))) (O.ok (.int x)) (O.ok (D.int 0)) = .ok (.int t) := fun x => by
    by_cases z2 : (10 : Int) ^ 18 ≤ x
    · exact ⟨_, by rw [decide_eq_true z2, ite1]⟩
    · exact ⟨_, by rw [decide_eq_false z2, ite0]⟩
  obtain ⟨t, e4⟩ := e4 (if hd < 0 then -hd else hd)
  simp only [bk, ck, hp, c_ge_i, bi_abs_i, e4, bi_int_i, b_mul_r (j := 48271) (by decide) (by decide), b_mod_i (j := 2147483399) (by decide), b_add_i, b_mod_i (j := 2147483563) (by decide)]
  exact ⟨_, rfl, _, _, _, rfl⟩
end SL.K39
namespace SL.K39
open PySem L2 DL SL
theorem led_ok {W : Eye} (w : EyeOk W) {s : Int} {c : Nat} (h0 : 0 ≤ s) (h1 : s < W.ms.length) (hc : c ∈ W.ls) : f_law_led (eyeD W) (.int s) (tx [c]) = .ok (.int (led W s c)) := by
  unfold f_law_led
  simp only [bk, x0, x1]
  exact led_ix w h0 h1 hc
def encV (v : Int × Int → D) (l : List (Int × Int)) : List (D × D) := l.map fun p => (ndD p, v p)
theorem nk_nd (p : Int × Int) : nkD (ndD p) = some (kk (nodeK p)) := (dkey_eq (dkey_nd p)).1
theorem look_nd (v : Int × Int → D) (p : Int × Int) : ∀ l : List (Int × Int), dlook (kk (nodeK p)) (encV v l) = if p ∈ l then some (v p) else none
  | [] => rfl
  | q :: l => by
    show (if nkD (ndD q) = some (kk (nodeK p)) then some (v q) else dlook (kk (nodeK p)) (encV v l)) = _
    rw [nk_nd]
    by_cases z : q = p
    · subst z
      rw [if_pos rfl, if_pos List.mem_cons_self]
    · rw [if_neg (fun e => z (nodeK_inj (kk_inj.mp (by injection e)))), look_nd v p l]
      by_cases y : p ∈ l
      · rw [if_pos y, if_pos (List.mem_cons_of_mem _ y)]
      · rw [if_neg y, if_neg (fun e => by rcases List.mem_cons.mp e with e | e; exact z e.symm; exact y e)]
def putF (v : Int × Int → D) (s : List (D × D)) (p : Int × Int) : List (D × D) := dstore (kk (nodeK p)) (ndD p) (v p) s
theorem put_new (v : Int × Int → D) {p : Int × Int} {l : List (Int × Int)} (h : p ∉ l) : putF v (encV v l) p = encV v (l ++ [p]) := by
  unfold putF dstore
  rw [look_nd, if_neg h]
  show encV v l ++ [(ndD p, v p)] = _
  unfold encV
  rw [List.map_append]
  rfl
theorem put_fold (v : Int × Int → D) : ∀ (l acc : List (Int × Int)), (acc ++ l).Nodup → l.foldl (putF v) (encV v acc) = encV v (acc ++ l)
  | [], acc, _ => by rw [List.append_nil]; rfl
  | p :: l, acc, h => by
    have hp : p ∉ acc := fun z => (List.nodup_append.mp h).2.2 p z p List.mem_cons_self rfl
    rw [List.foldl_cons, put_new v hp, put_fold v l (acc ++ [p]) (by rw [List.append_assoc]; exact h), List.append_assoc]
    rfl
theorem put_len (v : Int × Int → D) (s : List (D × D)) (p : Int × Int) : (putF v s p).length ≤ s.length + 1 := by
  have dp : ∀ (k : NestedKey) (u : D) (s : List (D × D)), (dput k u s).length = s.length := fun k u s => by
    induction s with
    | nil => rfl
    | cons x s ih => show (dput k u s).length + 1 = _; rw [ih]; rfl
  unfold putF dstore
  split
  · rw [dp]; omega
  · rw [List.length_append, List.length_singleton]; omega
theorem ix_nd (v : Int × Int → D) {p : Int × Int} {l : List (Int × Int)} (h : p ∈ l) : ixX (.dic (encV v l)) (ndD p) = .ok (v p) := by
  show op2 (dkey (ndD p)) (fun k => op2 (dlook k (encV v l)) O.ok) = _
  rw [dkey_nd, op2k, look_nd, if_pos h, op2k]
theorem dict_nd (v : Int × Int → D) : ∀ (l acc : List (Int × Int)), dictO (l.map fun p => D.tup [ndD p, v p]) (encV v acc) = .ok (l.foldl (putF v) (encV v acc)) := by
  have key : ∀ (l : List (Int × Int)) (s : List (D × D)), dictO (l.map fun p => D.tup [ndD p, v p]) s = .ok (l.foldl (putF v) s) := by
    intro l
    induction l with
    | nil => intro s; rfl
    | cons p l ih =>
      intro s
      show op2 (dkey (ndD p)) (fun k => dictO (l.map fun p => D.tup [ndD p, v p]) (dstore k (ndD p) (v p) s)) = _
      rw [dkey_nd, op2k]
      exact ih _
  exact fun l acc => key l _
theorem keys_nd (v : Int × Int → D) (l : List (Int × Int)) : itX (.dic (encV v l)) = .ok (l.map ndD) := by
  show O.ok ((encV v l).map (·.1)) = _
  unfold encV
  rw [List.map_map]
  rfl
def grid (W : Eye) (L : List Cell) : List (Int × Int) := (rng L.length).flatMap fun k => (rng W.ms.length).map fun s => (k, s)
theorem mem_gr {W : Eye} {L : List Cell} {p : Int × Int} : p ∈ grid W L ↔ NdIn W L p := by
  unfold grid
  constructor
  · intro h
    obtain ⟨k, hk, h⟩ := List.mem_flatMap.mp h
    obtain ⟨s, hs, rfl⟩ := List.mem_map.mp h
    have a := mem_rng.mp hk
    have b := mem_rng.mp hs
    exact ⟨a.1, a.2, b.1, b.2⟩
  · intro h
    exact List.mem_flatMap.mpr ⟨p.1, mem_rng.mpr ⟨h.c0, h.c1⟩, List.mem_map.mpr ⟨p.2, mem_rng.mpr ⟨h.s0, h.s1⟩, rfl⟩⟩
theorem rng_nd (n : Nat) : (rng n).Nodup := by
  unfold rng
  refine List.pairwise_map.mpr (List.pairwise_lt_range.imp fun {a b} q => ?_)
  show (a : Int) ≠ (b : Int)
  omega
theorem grid_nd (W : Eye) (L : List Cell) : (grid W L).Nodup := by
  unfold grid
  refine List.pairwise_flatMap.mpr ⟨fun k _ => ?_, (rng_nd L.length).imp fun {a b} q x hx y hy e => ?_⟩
  · refine List.pairwise_map.mpr ((rng_nd W.ms.length).imp fun {a b} q e => q ?_)
    injection e
  · obtain ⟨s, _, rfl⟩ := List.mem_map.mp hx
    obtain ⟨t, _, rfl⟩ := List.mem_map.mp hy
    injection e with e1 _
    exact q e1
theorem grid_len {W : Eye} (w : EyeOk W) {L : List Cell} (g : Good L) : (grid W L).length ≤ 48 := by
  have m6 := w.m6
  have n2 := g.n2
  have key : ∀ l : List Int, (l.flatMap fun k => (rng W.ms.length).map fun s => (k, s)).length = l.length * W.ms.length := fun l => by
    induction l with
    | nil => simp
    | cons a l ih => rw [List.flatMap_cons, List.length_append, ih, List.length_map, rng_length, List.length_cons, Nat.succ_mul]; omega
  unfold grid
  rw [key, rng_length]
  exact Nat.le_trans (Nat.mul_le_mul n2 m6) (by decide)
section
variable {W : Eye} {L : List Cell} {h : List Nat} (w : EyeOk W) (g : Good L) (o : Goes W L h)
def grV (W : Eye) (L : List Cell) (h : List Nat) (p : Int × Int) : D := .lst ((behindN W L h p).map ndD)
include w g o
theorem graph_ok : f_law_graph (cellsD L) (tx h) (eyeD W) = .ok (.dic (encV (grV W L h) (grid W L))) := by
  have n2 := g.n2
  have m6 := w.m6
  have hl := o.hu.len
  have elen : ownLen lens [cellsD L] = .ok (.int L.length) := by unfold cellsD; rw [ownLen_t, List.length_map]
  have em : ownLen lens [movD W] = .ok (.int W.ms.length) := by unfold movD; rw [ownLen_t, List.length_map]
  have x1' : ixX (eyeD W) (.int 1) = .ok (movD W) := x1 W
  have rgL_k : ∀ {a b : Int}, 0 ≤ a → a ≤ b → b ≤ 1000 → rgL (.int a) (.int b) = .ok (rgD a b) := fun h0 h1 h2 => if_pos ⟨h0, h1, by omega⟩
  unfold f_law_graph
  simp only [bk, ck, elen, rg1_i (show -(2 ^ 62) ≤ (L.length : Int) by omega) (show (L.length : Int) < 2 ^ 62 by omega), Int.toNat_natCast, rangeD_rng L.length]
  refine Eq.trans (congrArg (fun o => O.bind o _) (forO_sti (fun s : List (D × D) => s) D.int (fun i s => s.length ≤ i * 6) (fun s k => ((rng W.ms.length).map fun t => (k, t)).foldl (putF (grV W L h)) s) (rng L.length) 0 [] (by simp) (fun i s k hk hi hs => ?item))) ?_
  case item =>
    rw [rng_length] at hi
    have hk := mem_rng.mp hk
    obtain ⟨ec, c0, c1, c2⟩ := cz_of g hk.1 hk.2
    have ek : ixX (cellsD L) (.int k) = .ok (celD (cz L k)) := ix_cell hk.1 ec
    have ea : ixX (celD (cz L k)) (.int 0) = .ok (.int (cz L k).1) := ix_t3_0 (.int (cz L k).1) (.int (cz L k).2.1) (.bl (cz L k).2.2)
    have eb : ixX (celD (cz L k)) (.int 1) = .ok (.int (cz L k).2.1) := ix_t3_1 (.int (cz L k).1) (.int (cz L k).2.1) (.bl (cz L k).2.2)
    simp only [bk, ck, ek, ea, eb, b_add_i, rgL_k c0 (show (cz L k).1 ≤ (cz L k).2.1 + 1 by omega) (show (cz L k).2.1 + 1 ≤ 1000 by omega), rgD_runI, x1', em, rg1_i (show -(2 ^ 62) ≤ (W.ms.length : Int) by omega) (show (W.ms.length : Int) < 2 ^ 62 by omega), Int.toNat_natCast, rangeD_rng W.ms.length]
    have m1 : ((rng W.ms.length).foldl (fun s t => putF (grV W L h) s (k, t)) s) = ((rng W.ms.length).map fun t => (k, t)).foldl (putF (grV W L h)) s := by rw [List.foldl_map]
    have ln : ∀ (l : List (Int × Int)) (s : List (D × D)), (l.foldl (putF (grV W L h)) s).length ≤ s.length + l.length := fun l => by
      induction l with
      | nil => intro s; exact Nat.le_refl _
      | cons p l ih =>
        intro s
        rw [List.foldl_cons, List.length_cons]
        have := ih (putF (grV W L h) s p)
        have := put_len (grV W L h) s p
        omega
    refine ⟨?_, ?_⟩
    · refine Eq.trans (congrArg (fun o => O.bind o _) (forO_sti (fun s : List (D × D) => s) D.int (fun j s => s.length ≤ i * 6 + j) (fun s t => putF (grV W L h) s (k, t)) (rng W.ms.length) 0 s (by omega) (fun j s t ht hj hs => ?inner))) ?_
      case inner =>
        rw [rng_length] at hj
        have ht := mem_rng.mp ht
        have it : itX (D.lst ((runI (cz L k)).map D.int)) = .ok ((runI (cz L k)).map D.int) := rfl
        have hr : (runI (cz L k)).length ≤ 8 := by rw [runI_len]; omega
        have mp : mapO (fun v_law_far => ((O.cons (O.ok v_law_far) (O.cons ((O.cons (O.ok (eyeD W)) (O.cons (O.ok (D.int t)) (O.cons ((O.ok (tx h)).bind fun x => (O.ok v_law_far).bind fun y => ixX x y) (O.ok [])))).bind (l3 f_law_led)) (O.ok []))).bind fun ds => O.ok (D.tup ds))) ((runI (cz L k)).map D.int) = .ok ((behindN W L h (k, t)).map ndD) := by
          rw [mapO_ok (fun d => match d with | .int m => ndD (m, led W t (hat h m)) | _ => .non) (fun d hd => ?hd) (by rw [List.length_map]; omega)]
          case hd =>
            obtain ⟨m, hm, rfl⟩ := List.mem_map.mp hd
            have hm := mem_runI.mp hm
            have hc := o.rd _ (hat_inZ (show 0 ≤ m by omega) (show m < h.length by omega))
            have ei : ixX (tx h) (.int m) = .ok (tx [hat h m]) := ix_hat (show h.length ≤ 8 by omega) (by omega) (by omega)
            simp only [bk, ck, ei, ap3, led_ok w ht.1 ht.2 hc]
            rfl
          unfold behindN
          rw [List.map_map, List.map_map]
          rfl
        have ed : dkey (D.tup [D.int k, D.int t]) = some (kk (nodeK (k, t))) := dkey_nd (k, t)
        have pl := put_len (grV W L h) s (k, t)
        refine ⟨?_, by omega⟩
        simp only [bk, ck] at mp
        simp only [it, bk, ck, mp, ed, op2k, sized_ok (show s.length + 1 ≤ 1000000 by omega)]
        rfl
      rw [bk, m1]
    · have := ln ((rng W.ms.length).map fun t => (k, t)) s
      rw [List.length_map, rng_length] at this
      omega
  have fl : (rng L.length).foldl (fun s k => ((rng W.ms.length).map fun t => (k, t)).foldl (putF (grV W L h)) s) [] = encV (grV W L h) (grid W L) := by
    have e := put_fold (grV W L h) (grid W L) [] (by rw [List.nil_append]; exact grid_nd W L)
    rw [List.nil_append] at e
    rw [← e]
    unfold grid
    rw [List.foldl_flatMap]
    rfl
  rw [bk, fl]
omit w g o
def wF (W : Eye) (L : List Cell) (h : List Nat) : Nat → Int × Int → Int
  | 0, p => if isG W p = true then 1 else 0
  | t + 1, p => (if isG W p = true then 840 / fac L p.1 else 0) * ((behindN W L h p).map (wF W L h t)).sum
def gF (W : Eye) (L : List Cell) (h : List Nat) : Nat → Int × Int → Int
  | 0, _ => 1
  | t + 1, p => 840 / fac L p.1 * sumB W L h (gF W L h t) p
theorem sum_filter {α : Type} (P : α → Bool) (f : α → Int) : ∀ l : List α, (l.map fun a => if P a = true then f a else 0).sum = ((l.filter P).map f).sum
  | [] => rfl
  | a :: l => by
    rw [List.map_cons, List.sum_cons, sum_filter P f l]
    cases z : P a with
    | true => rw [if_pos rfl, List.filter_cons_of_pos z, List.map_cons, List.sum_cons]
    | false => rw [if_neg (by decide), List.filter_cons_of_neg (by rw [z]; decide), Int.zero_add]
theorem wF_eq : ∀ (t : Nat) (p : Int × Int), wF W L h t p = if isG W p = true then gF W L h t p else 0
  | 0, _ => rfl
  | t + 1, p => by
    have e : ((behindN W L h p).map (wF W L h t)).sum = sumB W L h (gF W L h t) p := by
      unfold sumB goodB
      rw [← sum_filter]
      exact congrArg List.sum (List.map_congr_left fun q _ => wF_eq t q)
    show (if isG W p = true then 840 / fac L p.1 else 0) * ((behindN W L h p).map (wF W L h t)).sum = if isG W p = true then 840 / fac L p.1 * sumB W L h (gF W L h t) p else 0
    rw [e]
    cases isG W p with
    | true => rw [if_pos rfl, if_pos rfl]
    | false => rw [if_neg (by decide), if_neg (by decide), Int.zero_mul]
theorem SS_g : ∀ t k : Nat, SS W L h 840 t (gF W L h k) = SS W L h 840 0 (gF W L h (t + k))
  | 0, k => by rw [Nat.zero_add]
  | t + 1, k => by
    rw [SS_succ, show t + 1 + k = t + (k + 1) by omega, ← SS_g t (k + 1)]
    rfl
theorem SS_wF (t : Nat) : ((firsts W L h).map (wF W L h t)).sum = SS W L h 840 t fun _ => 1 := by
  have e1 : (SS W L h 840 t fun _ => 1) = SS W L h 840 0 (gF W L h t) := by
    have := SS_g (W := W) (L := L) (h := h) t 0
    rw [Nat.add_zero] at this
    exact this
  rw [e1]
  have e2 : SS W L h 840 0 (gF W L h t) = (((firsts W L h).filter (isG W)).map (gF W L h t)).sum := by
    show ((((firsts W L h).filter (isG W)).map fun p => (p, (1 : Int))).map fun q => q.2 * gF W L h t q.1).sum = _
    rw [List.map_map]
    exact congrArg List.sum (List.map_congr_left fun q _ => Int.one_mul _)
  rw [e2, ← sum_filter]
  exact congrArg List.sum (List.map_congr_left fun q _ => wF_eq t q)
def woV (W : Eye) (L : List Cell) (h : List Nat) (t : Nat) (p : Int × Int) : D := .int (wF W L h t p)
theorem sum_ints39 (l : List (Int × Int)) (f : Int × Int → Int) : bi_sum [.lst (l.map fun q => D.int (f q))] = .ok (.int (l.map f).sum) := by
  have e : (l.map fun q => D.int (f q)) = (l.map f).map D.int := by rw [List.map_map]; rfl
  show op2 (ints? _) _ = _
  rw [e, ints?_map, op2k]
include w g o
theorem firsts_ok : f_law_firsts (tx h) (eyeD W) = .ok (.lst ((firsts W L h).map ndD)) := by
  have n2 := g.n2
  have hl := o.hu.len
  have k1 := w.m1
  unfold f_law_firsts
  simp only [bk, ck, olen_tx (show h.length ≤ 1000000 by omega), rg1_i (show -(2 ^ 62) ≤ (h.length : Int) by omega) (show (h.length : Int) < 2 ^ 62 by omega), Int.toNat_natCast, rangeD_rng h.length]
  rw [mapO_ok (fun d => match d with | .int m => ndD (m, led W 0 (hat h m)) | _ => .non) (fun d hd => ?hd) (by rw [List.length_map, rng_length]; omega)]
  case hd =>
    obtain ⟨m, hm, rfl⟩ := List.mem_map.mp hd
    have hm := mem_rng.mp hm
    have hc := o.rd _ (hat_inZ hm.1 hm.2)
    simp only [bk, ck, ix_hat (show h.length ≤ 8 by omega) hm.1 hm.2, ap3, led_ok w (show (0 : Int) ≤ 0 by omega) (show (0 : Int) < W.ms.length by omega) hc]
    rfl
  rw [bk, hl]
  unfold firsts
  rw [List.map_map, List.map_map]
  rfl
theorem due_ok {t : Nat} (ht : t ≤ 200) : f_law_due (cellsD L) (tx h) (eyeD W) (.int t) = .ok (.lst [.int (SS W L h 840 t fun _ => 1), .int (840 ^ t)]) := by
  have n2 := g.n2
  have hl := o.hu.len
  have gl := grid_len w g
  have x2' : ixX (eyeD W) (.int 2) = .ok (tupI W.gs) := x2 W
  have n1 : ∀ p : Int × Int, ixX (ndD p) (.int 1) = .ok (.int p.2) := fun p => ix_n1 p
  have n0 : ∀ p : Int × Int, ixX (ndD p) (.int 0) = .ok (.int p.1) := fun p => ix_n0 p
  have bi : ∀ b : Bool, bi_int [.bl b] = .ok (.int (if b = true then 1 else 0)) := fun b => rfl
  have tu : ∀ ds : List D, O.ok (D.tup ds) = O.ok (D.tup ds) := fun _ => rfl
  unfold f_law_due
  simp only [bk, ck, ap3, graph_ok w g o, keys_nd]
  -- the worth of the last turn
  rw [mapO_ok (fun d => match d with | .tup [.int a, .int b] => .tup [ndD (a, b), woV W L h 0 (a, b)] | _ => .non) (fun d hd => ?hd) (by rw [List.length_map]; omega)]
  case hd =>
    obtain ⟨p, hp, rfl⟩ := List.mem_map.mp hd
    simp only [n1, bk, ck, x2', in_good, trk, bi]
    rfl
  have e0 : ((grid W L).map ndD).map (fun d => match d with | .tup [.int a, .int b] => D.tup [ndD (a, b), woV W L h 0 (a, b)] | _ => .non) = (grid W L).map fun p => D.tup [ndD p, woV W L h 0 p] := by
    rw [List.map_map]
    exact List.map_congr_left fun p _ => rfl
  have ed : bi_dict [.lst ((grid W L).map fun p => D.tup [ndD p, woV W L h 0 p])] = .ok (.dic (encV (woV W L h 0) (grid W L))) := by
    show (if ((grid W L).map fun p => D.tup [ndD p, woV W L h 0 p]).length ≤ 1000000 then _ else _) = _
    rw [if_pos (by rw [List.length_map]; omega)]
    have q1 := dict_nd (woV W L h 0) (grid W L) []
    have q2 := put_fold (woV W L h 0) (grid W L) [] (by rw [List.nil_append]; exact grid_nd W L)
    rw [List.nil_append] at q2
    rw [q2] at q1
    have q1 : dictO ((grid W L).map fun p => D.tup [ndD p, woV W L h 0 p]) [] = _ := q1
    rw [q1, bk]
  simp only [bk, ck, e0, ed, rg1_i (show -(2 ^ 62) ≤ (t : Int) by omega) (show (t : Int) < 2 ^ 62 by omega), Int.toNat_natCast]
  refine Eq.trans (congrArg (fun o => O.bind o _) (forO_turns (fun k => ((D.int (840 ^ k), D.dic (encV (woV W L h k) (grid W L))) : D × D)) (rangeD 0 t) 0 (fun k d _ hk => ?turn))) ?_
  case turn =>
    simp only [bk, ck, b_mul_r (i := (840 : Int) ^ k) (j := 840) (by decide) (by decide)]
    refine Eq.trans (congrArg (fun o => O.bind o _) (forO_sti (fun s : List (D × D) => s) ndD (fun i s => s.length ≤ i) (putF (woV W L h (k + 1))) (grid W L) 0 [] (Nat.zero_le _) (fun i s p hp hi hs => ?item))) ?_
    case item =>
      have n := mem_gr.mp hp
      obtain ⟨ec, c0, c1, c2⟩ := cz_of g n.c0 n.c1
      have hf := fac_pos g n.c0 n.c1
      have ef : (cz L p.1).2.1 - (cz L p.1).1 + 1 = fac L p.1 := rfl
      have ek : ixX (cellsD L) (.int p.1) = .ok (celD (cz L p.1)) := ix_cell n.c0 ec
      have eu : ∀ f : D → D → D → O (List (D × D)), un3 (celD (cz L p.1)) f = f (.int (cz L p.1).1) (.int (cz L p.1).2.1) (.bl (cz L p.1).2.2) := fun f => rfl
      have hq0 : 0 ≤ 840 / fac L p.1 := Int.ediv_nonneg (by decide) (by omega)
      have hq1 : 840 / fac L p.1 ≤ 840 := Int.ediv_le_self _ (by decide)
      have eg : ixX (.dic (encV (grV W L h) (grid W L))) (ndD p) = .ok (.lst ((behindN W L h p).map ndD)) := ix_nd _ hp
      have ei : ∀ ds : List D, itX (.lst ds) = .ok ds := fun _ => rfl
      have bl8 : (behindN W L h p).length ≤ 8 := by unfold behindN; rw [List.length_map, runI_len]; omega
      have em : mapO (fun v_law_far => ixX (.dic (encV (woV W L h k) (grid W L))) v_law_far) ((behindN W L h p).map ndD) = .ok ((behindN W L h p).map fun q => D.int (wF W L h k q)) := by
        rw [mapO_ok (fun d => match d with | .tup [.int a, .int b] => .int (wF W L h k (a, b)) | _ => .non) (fun d hd => ?hd) (by rw [List.length_map]; omega)]
        case hd =>
          obtain ⟨q, hq, rfl⟩ := List.mem_map.mp hd
          exact ix_nd _ (mem_gr.mpr (behind_in w g o n q hq))
        rw [List.map_map]
        rfl
      have pl := put_len (woV W L h (k + 1)) s p
      refine ⟨?_, by omega⟩
      simp only [n0, n1, bk, ck, ek, eu, x2', in_good, b_sub_i, b_add_i, ef, b_fdiv_x (show 0 < fac L p.1 by omega) (show fac L p.1 < 2 ^ 700 by omega), eg, ei, em, sum_ints39, dkey_nd, op2k, sized_ok (show s.length + 1 ≤ 1000000 by omega)]
      by_cases z : p.2 ∈ W.gs
      · have zg : isG W p = true := decide_eq_true z
        rw [decide_eq_true z, ite1]
        simp only [bk, b_mul_l (i := 840 / fac L p.1) (j := ((behindN W L h p).map (wF W L h k)).sum) (by omega) (by omega)]
        unfold putF woV wF
        rw [if_pos zg]
      · have zg : isG W p = false := decide_eq_false z
        rw [decide_eq_false z, ite0]
        simp only [bk, b_mul_l (i := 0) (j := ((behindN W L h p).map (wF W L h k)).sum) (by omega) (by omega)]
        unfold putF woV wF
        rw [if_neg (by rw [zg]; decide)]
    have fl := put_fold (woV W L h (k + 1)) (grid W L) [] (by rw [List.nil_append]; exact grid_nd W L)
    rw [List.nil_append] at fl
    have fl : (grid W L).foldl (putF (woV W L h (k + 1))) [] = _ := fl
    rw [fl]
    simp only [bk]
    rw [← Int.pow_succ]
  have fi : ∀ p ∈ firsts W L h, p ∈ grid W L := fun p hp => mem_gr.mpr (firsts_in w o p hp)
  have fl8 : (firsts W L h).length ≤ 8 := by unfold firsts; rw [List.length_map, rng_length]; omega
  have ei : ∀ ds : List D, itX (.lst ds) = .ok ds := fun _ => rfl
  have em : mapO (fun v_law_pair => ixX (.dic (encV (woV W L h t) (grid W L))) v_law_pair) ((firsts W L h).map ndD) = .ok ((firsts W L h).map fun q => D.int (wF W L h t q)) := by
    rw [mapO_ok (fun d => match d with | .tup [.int a, .int b] => .int (wF W L h t (a, b)) | _ => .non) (fun d hd => ?hd) (by rw [List.length_map]; omega)]
    case hd =>
      obtain ⟨q, hq, rfl⟩ := List.mem_map.mp hd
      exact ix_nd _ (fi q hq)
    rw [List.map_map]
    rfl
  simp only [bk, ck, ap2, Nat.zero_add, rangeD_length, firsts_ok w g o, ei, em, sum_ints39, SS_wF]
end
end SL.K39
namespace SL.K39
open PySem L2 DL SL
section
variable {W : Eye} {L : List Cell} {h : List Nat} (w : EyeOk W) (g : Good L) (o : Goes W L h)
include w g o
theorem pl_pos {M : Int} (hM : 0 ≤ M) : ∀ t, ∀ q ∈ pl W L h M t, 0 ≤ q.2
  | 0, q, hq => by
    obtain ⟨p, _, rfl⟩ := List.mem_map.mp (show q ∈ ((firsts W L h).filter (isG W)).map fun p => (p, (1 : Int)) from hq)
    show (0 : Int) ≤ 1
    decide
  | t + 1, q, hq => by
    obtain ⟨r, hr, hq⟩ := List.mem_flatMap.mp (show q ∈ (pl W L h M t).flatMap fun q => (goodB W L h q.1).map fun p => (p, q.2 * (M / fac L q.1.1)) from hq)
    obtain ⟨p, _, rfl⟩ := List.mem_map.mp hq
    have n := pl_in w g o M t r hr
    have hf := fac_pos g n.c0 n.c1
    exact Int.mul_nonneg (pl_pos hM t r hr) (Int.ediv_nonneg hM (by omega))
theorem SS_mono {M : Int} (hM : 0 ≤ M) {t : Nat} {f f' : Int × Int → Int} (e : ∀ p, NdIn W L p → f p ≤ f' p) : SS W L h M t f ≤ SS W L h M t f' := by
  have key : ∀ l : List Tri, (∀ q ∈ l, q ∈ pl W L h M t) → (l.map fun q => q.2 * f q.1).sum ≤ (l.map fun q => q.2 * f' q.1).sum := by
    intro l
    induction l with
    | nil => intro _; exact Int.le_refl _
    | cons q l ih =>
      intro hl
      have h1 := ih fun x hx => hl x (List.mem_cons_of_mem _ hx)
      have hq := hl q List.mem_cons_self
      have h2 := Int.mul_le_mul_of_nonneg_left (e q.1 (pl_in w g o M t q hq)) (pl_pos w g o hM t q hq)
      rw [List.map_cons, List.sum_cons, List.map_cons, List.sum_cons]
      omega
  exact key _ fun _ h => h
theorem good_one (p : Int × Int) (i : NdIn W L p) : 0 ≤ sumB W L h (fun _ => 1) p ∧ sumB W L h (fun _ => 1) p ≤ fac L p.1 := by
  have e : sumB W L h (fun _ => 1) p = ((goodB W L h p).length : Int) := by
    unfold sumB
    have key : ∀ l : List (Int × Int), (l.map fun _ => (1 : Int)).sum = (l.length : Int) := fun l => by
      induction l with
      | nil => rfl
      | cons a l ih => rw [List.map_cons, List.sum_cons, ih, List.length_cons]; omega
    exact key _
  have hf := fac_pos g i.c0 i.c1
  have hl : (goodB W L h p).length ≤ (behindN W L h p).length := List.length_filter_le _ _
  have hb : (behindN W L h p).length = (fac L p.1).toNat := by
    unfold behindN
    rw [List.length_map, runI_len]
    have : (cz L p.1).2.1 - (cz L p.1).1 + 1 = fac L p.1 := rfl
    omega
  rw [e]
  omega
theorem SS_step {M : Int} (hM : 0 ≤ M) (hd : ∀ c : Int, 0 ≤ c → c < L.length → fac L c ∣ M) (t : Nat) : SS W L h M (t + 1) (fun _ => 1) ≤ M * SS W L h M t (fun _ => 1) := by
  rw [SS_succ, ← SS_mul]
  refine SS_mono w g o hM fun p i => ?_
  have hf := fac_pos g i.c0 i.c1
  have g1 := good_one w g o p i
  have q0 : 0 ≤ M / fac L p.1 := Int.ediv_nonneg hM (by omega)
  have := Int.mul_le_mul_of_nonneg_left g1.2 q0
  rw [Int.ediv_mul_cancel (hd p.1 i.c0 i.c1)] at this
  rw [Int.mul_one]
  exact this
theorem SS_nonneg {M : Int} (hM : 0 ≤ M) (t : Nat) : 0 ≤ SS W L h M t (fun _ => 1) := by
  have := SS_mono w g o hM (t := t) (f := fun _ => 0) (f' := fun _ => 1) fun _ _ => by decide
  have e : SS W L h M t (fun _ => 0) = 0 := by
    have := SS_mul (W := W) (L := L) (h := h) 0 M t (fun _ => 1)
    simp only [Int.zero_mul] at this
    exact this
  omega
theorem SS_first {M : Int} : SS W L h M 0 (fun _ => 1) ≤ L.length := by
  have e : SS W L h M 0 (fun _ => 1) = (((firsts W L h).filter (isG W)).length : Int) := by
    show ((((firsts W L h).filter (isG W)).map fun p => (p, (1 : Int))).map fun q => q.2 * 1).sum = _
    rw [List.map_map]
    have key : ∀ l : List (Int × Int), (l.map ((fun q : Tri => q.2 * 1) ∘ fun p => (p, (1 : Int)))).sum = (l.length : Int) := fun l => by
      induction l with
      | nil => rfl
      | cons a l ih =>
        rw [List.map_cons, List.sum_cons, ih, List.length_cons]
        show (1 : Int) * 1 + _ = _
        omega
    exact key _
  have hl : ((firsts W L h).filter (isG W)).length ≤ (firsts W L h).length := List.length_filter_le _ _
  have hf : (firsts W L h).length = L.length := by unfold firsts; rw [List.length_map, rng_length]
  rw [e]
  omega
theorem SS_le {M : Int} (hM : 0 ≤ M) (hd : ∀ c : Int, 0 ≤ c → c < L.length → fac L c ∣ M) : ∀ t : Nat, SS W L h M t (fun _ => 1) ≤ L.length * M ^ t
  | 0 => by rw [Int.pow_zero, Int.mul_one]; exact SS_first w g o
  | t + 1 => by
    have h1 := SS_step w g o hM hd t
    have h2 := Int.mul_le_mul_of_nonneg_left (SS_le hM hd t) hM
    rw [Int.pow_succ, ← Int.mul_assoc, Int.mul_comm _ M]
    exact Int.le_trans h1 h2
theorem SS_full (ga : ∀ s : Int, 0 ≤ s → s < W.ms.length → s ∈ W.gs) {M : Int} (hd : ∀ c : Int, 0 ≤ c → c < L.length → fac L c ∣ M) : ∀ t : Nat, SS W L h M t (fun _ => 1) = L.length * M ^ t
  | 0 => by
    have e : SS W L h M 0 (fun _ => 1) = (((firsts W L h).filter (isG W)).length : Int) := by
      show ((((firsts W L h).filter (isG W)).map fun p => (p, (1 : Int))).map fun q => q.2 * 1).sum = _
      rw [List.map_map]
      have key : ∀ l : List (Int × Int), (l.map ((fun q : Tri => q.2 * 1) ∘ fun p => (p, (1 : Int)))).sum = (l.length : Int) := fun l => by
        induction l with
        | nil => rfl
        | cons a l ih =>
          rw [List.map_cons, List.sum_cons, ih, List.length_cons]
          show (1 : Int) * 1 + _ = _
          omega
      exact key _
    have ef : (firsts W L h).filter (isG W) = firsts W L h := List.filter_eq_self.mpr fun p hp => by
      have i := firsts_in w o p hp
      exact decide_eq_true (ga p.2 i.s0 i.s1)
    have hf : (firsts W L h).length = L.length := by unfold firsts; rw [List.length_map, rng_length]
    rw [e, ef, hf, Int.pow_zero, Int.mul_one]
  | t + 1 => by
    have e : SS W L h M (t + 1) (fun _ => 1) = M * SS W L h M t (fun _ => 1) := by
      rw [SS_succ, ← SS_mul]
      refine SS_congr w g o fun p i => ?_
      have hf := fac_pos g i.c0 i.c1
      have eg : goodB W L h p = behindN W L h p := List.filter_eq_self.mpr fun q hq => by
        have j := behind_in w g o i q hq
        exact decide_eq_true (ga q.2 j.s0 j.s1)
      have key : ∀ l : List (Int × Int), (l.map fun _ => (1 : Int)).sum = (l.length : Int) := fun l => by
        induction l with
        | nil => rfl
        | cons a l ih => rw [List.map_cons, List.sum_cons, ih, List.length_cons]; omega
      have hb : ((behindN W L h p).length : Int) = fac L p.1 := by
        unfold behindN
        rw [List.length_map, runI_len]
        have : (cz L p.1).2.1 - (cz L p.1).1 + 1 = fac L p.1 := rfl
        omega
      have es : sumB W L h (fun _ => 1) p = fac L p.1 := by
        unfold sumB
        rw [eg, key, hb]
      rw [es, Int.ediv_mul_cancel (hd p.1 i.c0 i.c1), Int.mul_one]
    rw [e, SS_full ga hd t, Int.pow_succ, ← Int.mul_assoc, Int.mul_comm M, Int.mul_assoc, Int.mul_comm M, ← Int.mul_assoc]
end
theorem SS_none {W : Eye} {L : List Cell} {h : List Nat} (gn : W.gs = []) (M : Int) (t : Nat) (f : Int × Int → Int) : SS W L h M t f = 0 := by
  have e : ∀ t, pl W L h M t = [] := by
    intro t
    induction t with
    | zero =>
      show ((firsts W L h).filter (isG W)).map _ = []
      have : (firsts W L h).filter (isG W) = [] := List.filter_eq_nil_iff.mpr fun p _ => by
        unfold isG
        rw [gn]
        simp
      rw [this]
      rfl
    | succ t ih =>
      show (pl W L h M t).flatMap _ = []
      rw [ih]
      rfl
  unfold SS
  rw [e]
  rfl
theorem perm4 (a b c d : D) : perm [3, 2, 1, 0] [a, b, c, d] = [d, c, b, a] := nrfl rfl trivial
theorem isr (p q : Int) : isiC 0 (ratD p q) = .ok true := nrfl rfl trivial
theorem own0n_r (p q : Int) : ownNe eqs0 (ratD p q) (ratD p q) = .ok false := by
  have e : ownNe eqs0 (ratD p q) (ratD p q) = ((Ratio_eq (ratD p q) (ratD p q)).bind asB).bind fun b => .ok (!b) := nrfl rfl trivial
  rw [e, ratio_eq_r, bk, asBk, bk, decide_eq_true ⟨rfl, rfl⟩]
  rfl
theorem own0n_i (s t : Int) : ownNe eqs0 (.int s) (.int t) = .ok (!decide (s = t)) := nrfl rfl trivial
theorem own0_ri (p i : Int) : ownEq eqs0 (ratD p 1) (.int i) = .ok (decide (p = i)) := by
  have e : ownEq eqs0 (ratD p 1) (.int i) = (Ratio_eq (ratD p 1) (.int i)).bind asB := nrfl rfl trivial
  rw [e]
  unfold Ratio_eq
  simp only [bk, ck, ap1, is_fraction_i, asBk, Bool.not_true, ite0, as_ratio_i, fld_top, fld_bottom, c_eq_i, trk]
  by_cases z : p = i
  · rw [decide_eq_true z, ite1]; rfl
  · rw [decide_eq_false z, ite0]; rfl
structure Told (W : Eye) (L : List Cell) (h : List Nat) (t : Nat) (p q : Int) : Prop where
  e : f_staying_length (folD L) (tx h) (watD W) (.int t) = .ok (ratD p q)
  m : mkR (SS W L h (byN L) t fun _ => 1) ((byN L : Int) ^ t) = ratD p q
  q0 : 0 < q
  pb : p.natAbs < 2 ^ (10 * t + 5)
  qb : q.natAbs < 2 ^ (10 * t + 5)
  cr : p * (byN L : Int) ^ t = (SS W L h (byN L) t fun _ => 1) * q
section
variable {W : Eye} {L : List Cell} {h : List Nat} (w : EyeOk W) (g : Good L) (o : Goes W L h)
include w g o
theorem told_ok {t : Nat} (ht : t ≤ 200) : ∃ p q, Told W L h t p q := by
  have b := byN_pos g
  have n2 := g.n2
  obtain ⟨pw0, pw1⟩ := pow_y b.1 (show byN L ≤ 1024 by omega) t
  obtain ⟨p, q, k, em, gp, ea, eb, q0, ql⟩ := mkR_val (a := SS W L h (byN L) t fun _ => 1) pw0
  have s0 := SS_nonneg w g o (M := (byN L : Int)) (by omega) t
  have s1 := SS_le w g o (M := (byN L : Int)) (by omega) (fun c a b => fac_by g a b) t
  have p0 : 0 ≤ p := by
    rcases Int.lt_or_le p 0 with z | z
    · have := Int.mul_neg_of_neg_of_pos z gp
      omega
    · exact z
  have pk : p ≤ p * k := by
    have := Int.mul_le_mul_of_nonneg_left (show 1 ≤ k by omega) p0
    omega
  have n8 : (L.length : Int) * (byN L : Int) ^ t ≤ 8 * (byN L : Int) ^ t := Int.mul_le_mul_of_nonneg_right (by omega) (by omega)
  have e16 : (2 : Nat) ^ (10 * t + 5) = 2 ^ (10 * t + 1) * 16 := by rw [show 10 * t + 5 = (10 * t + 1) + 4 by omega, Nat.pow_add]
  refine ⟨p, q, ⟨by rw [staying_okY w g o ht, em], em, q0, by rw [e16]; omega, by rw [e16]; omega, ?_⟩⟩
  rw [ea, eb, ← Int.mul_assoc]
  rw [Int.mul_right_comm]
end
theorem nat_bd {x y z : Int} {n : Nat} (h0 : 0 ≤ x) (h1 : x ≤ y) (h2 : y ≤ 8 * z) (h3 : 0 < z) (h4 : z.natAbs < n) : x.natAbs < n * 16 := by omega
theorem right_ok {gg : List D} (hb : Bag gg) : ∃ g', f_law_right gg = .ok (.bl true, g') ∧ Bag g' := by
  obtain ⟨r1, k1, a1, r10, r11, c1⟩ := draw_ok (w := 12) (by decide) (by decide) hb
  obtain ⟨r2, k2, a2, r20, r21, c2⟩ := draw_ok (w := 201) (by decide) (by decide) c1
  obtain ⟨d, k3, a3, hd, c3⟩ := pick_ok (ds := [.int r1, .int r2, .int 199, .int 200]) (by simp) (by simp) c2
  obtain ⟨t, rfl, ht⟩ : ∃ t : Nat, d = .int (t : Int) ∧ t ≤ 200 := by
    simp only [List.mem_cons, List.not_mem_nil, or_false] at hd
    rcases hd with rfl | rfl | rfl | rfl
    · obtain ⟨n, rfl⟩ := Int.eq_ofNat_of_zero_le r10
      exact ⟨n, rfl, by omega⟩
    · obtain ⟨n, rfl⟩ := Int.eq_ofNat_of_zero_le r20
      exact ⟨n, rfl, by omega⟩
    · exact ⟨199, rfl, by decide⟩
    · exact ⟨200, rfl, by decide⟩
  obtain ⟨L, h, W0, g1, e1, gd, h8, w0, o0, b1⟩ := scene_ok c3
  obtain ⟨W, g2, e2, ⟨w, wl⟩, b2⟩ := trap_ok w0 b1
  have o : Goes W L h := ⟨o0.hu, fun c hc => by rw [wl]; exact o0.rd c hc⟩
  have n1 := gd.n1
  have m6 := w.m6
  have by' := byN_pos gd
  obtain ⟨p, q, T⟩ := told_ok w gd o ht
  obtain ⟨pw0, pw1⟩ := pow_y by'.1 (show byN L ≤ 1024 by omega) t
  obtain ⟨t0, t1⟩ := pow_y (b := 840) (by omega) (by omega) t
  have d8 : ((byN L : Nat) : Int) ∣ 840 := Int.natCast_dvd_natCast.mpr (byN_840 gd)
  have sw := SS_swap w gd o (M := (byN L : Int)) (N := 840) (fun c a b => fac_by gd a b) (fun c a b => Int.dvd_trans (fac_by gd a b) d8) t fun _ => 1
  have hd8 : ∀ c : Int, 0 ≤ c → c < L.length → fac L c ∣ 840 := fun c a b => Int.dvd_trans (fac_by gd a b) d8
  -- p * 840^t = SS840 * q
  have e5 : p * 840 ^ t = (SS W L h 840 t fun _ => 1) * q := by
    refine Int.eq_of_mul_eq_mul_right (a := (byN L : Int) ^ t) (by omega) ?_
    have z := T.cr
    calc p * 840 ^ t * (byN L : Int) ^ t = p * (byN L : Int) ^ t * 840 ^ t := by rw [Int.mul_right_comm]
      _ = (SS W L h (byN L) t fun _ => 1) * q * 840 ^ t := by rw [z]
      _ = (SS W L h (byN L) t fun _ => 1) * 840 ^ t * q := by rw [Int.mul_right_comm]
      _ = (SS W L h 840 t fun _ => 1) * (byN L : Int) ^ t * q := by rw [sw]
      _ = (SS W L h 840 t fun _ => 1) * q * (byN L : Int) ^ t := by rw [Int.mul_right_comm]
  have sb0 := SS_nonneg w gd o (M := 840) (by decide) t
  have sb1 := SS_le w gd o (M := 840) (by decide) hd8 t
  have e16 : (2 : Nat) ^ (10 * t + 5) = 2 ^ (10 * t + 1) * 16 := by rw [show 10 * t + 5 = (10 * t + 1) + 4 by omega, Nat.pow_add]
  have t1' : ((840 : Int) ^ t).natAbs < 2 ^ (10 * t + 1) := t1
  have t0' : (0 : Int) < 840 ^ t := t0
  have n88 : (L.length : Int) * 840 ^ t ≤ 8 * 840 ^ t := Int.mul_le_mul_of_nonneg_right (by omega) (Int.le_of_lt t0')
  have sb : (SS W L h 840 t fun _ => 1).natAbs < 2 ^ (10 * t + 5) := by rw [e16]; exact nat_bd sb0 sb1 n88 t0' t1'
  have mu1 := b_mul_y (i := p) (j := (840 : Int) ^ t) T.pb t1' (by omega) (by omega) (by omega)
  have mu2 := b_mul_y (i := SS W L h 840 t fun _ => 1) (j := q) sb T.qb (by omega) (by omega) (by omega)
  -- one turn less
  have less : (t : Int) > 0 → ∃ r : Int, ((f_staying_length (folD L) (tx h) (watD W) (.int ((t : Int) - 1))).bind fun x => mt_compared [x, ratD p q]) = .ok (.int r) ∧ 0 ≤ r := by
    intro hpos
    obtain ⟨s, rfl⟩ : ∃ s, t = s + 1 := ⟨t - 1, by omega⟩
    obtain ⟨p', q', T'⟩ := told_ok w gd o (t := s) (by omega)
    have es : (((s + 1 : Nat) : Int) - 1) = (s : Int) := by omega
    rw [es, T'.e, bk]
    have up : (2 : Nat) ^ (10 * s + 5) ≤ 2 ^ (10 * (s + 1) + 5) := Nat.pow_le_pow_right (by decide) (by omega)
    refine cmp_order (n := 10 * (s + 1) + 5) (Nat.lt_of_lt_of_le T'.pb up) (Nat.lt_of_lt_of_le T'.qb up) T.pb T.qb (by omega) (by omega) ?_
    -- p * q' ≤ p' * q
    obtain ⟨v0, _⟩ := pow_y by'.1 (show byN L ≤ 1024 by omega) s
    have st := SS_step w gd o (M := (byN L : Int)) (by omega) (fun c a b => fac_by gd a b) s
    have z := T.cr
    have z' := T'.cr
    refine Int.le_of_mul_le_mul_right (a := (byN L : Int) ^ (s + 1) * (byN L : Int) ^ s) ?_ (Int.mul_pos pw0 v0)
    have l1 : p * q' * ((byN L : Int) ^ (s + 1) * (byN L : Int) ^ s) = (SS W L h (byN L) (s + 1) fun _ => 1) * (q * (q' * (byN L : Int) ^ s)) := by
      calc p * q' * ((byN L : Int) ^ (s + 1) * (byN L : Int) ^ s) = (p * (byN L : Int) ^ (s + 1)) * (q' * (byN L : Int) ^ s) := by rw [Int.mul_assoc, Int.mul_left_comm q', ← Int.mul_assoc]
        _ = _ := by rw [z, Int.mul_assoc]
    have l2 : p' * q * ((byN L : Int) ^ (s + 1) * (byN L : Int) ^ s) = ((byN L : Int) * (SS W L h (byN L) s fun _ => 1)) * (q * (q' * (byN L : Int) ^ s)) := by
      calc p' * q * ((byN L : Int) ^ (s + 1) * (byN L : Int) ^ s) = (p' * (byN L : Int) ^ s) * (q * (byN L : Int) ^ (s + 1)) := by rw [Int.mul_comm ((byN L : Int) ^ (s + 1)), Int.mul_assoc, Int.mul_left_comm q, ← Int.mul_assoc]
        _ = (SS W L h (byN L) s fun _ => 1) * q' * (q * ((byN L : Int) ^ s * (byN L : Int))) := by rw [z', Int.pow_succ]
        _ = _ := by
          rw [Int.mul_comm (byN L : Int) (SS W L h (byN L) s fun _ => 1), Int.mul_assoc, Int.mul_assoc]
          refine congrArg (fun x => (SS W L h (byN L) s fun _ => 1) * x) ?_
          rw [← Int.mul_assoc q, ← Int.mul_assoc q', ← Int.mul_assoc q', Int.mul_comm _ (byN L : Int), Int.mul_comm q' q, Int.mul_assoc q]
    rw [l1, l2]
    exact Int.mul_le_mul_of_nonneg_right st (Int.mul_nonneg (by have := T.q0; omega) (Int.mul_nonneg (by have := T'.q0; omega) (by omega)))
  -- all stands good, none good
  have wf : EyeOk ⟨W.ls, W.ms, rng W.ms.length⟩ := { w with
    gr := fun s hs => mem_rng.mp hs
    gu := by
      show (rng W.ms.length).Pairwise (· < ·)
      unfold rng
      refine List.pairwise_map.mpr (List.pairwise_lt_range.imp fun {a b} q => ?_)
      show (a : Int) < (b : Int)
      omega }
  have wn : EyeOk ⟨W.ls, W.ms, []⟩ := { w with
    gr := fun s hs => by cases hs
    gu := List.Pairwise.nil }
  have of' : Goes ⟨W.ls, W.ms, rng W.ms.length⟩ L h := ⟨o.hu, o.rd⟩
  have on' : Goes ⟨W.ls, W.ms, []⟩ L h := ⟨o.hu, o.rd⟩
  have ef : f_staying_length (folD L) (tx h) (watD ⟨W.ls, W.ms, rng W.ms.length⟩) (.int t) = .ok (ratD L.length 1) := by
    rw [staying_okY wf gd of' ht, SS_full wf gd of' (fun s a b => mem_rng.mpr ⟨a, b⟩) (fun c a b => fac_by gd a b) t, ← mkR_one]
    exact congrArg O.ok (mkR_eq pw0 (by decide) (by rw [Int.mul_one]))
  have en : f_staying_length (folD L) (tx h) (watD ⟨W.ls, W.ms, []⟩) (.int t) = .ok (ratD 0 1) := by
    rw [staying_okY wn gd on' ht, SS_none rfl, ← mkR_one]
    exact congrArg O.ok (mkR_eq pw0 (by decide) (by rw [Int.zero_mul, Int.zero_mul]))
  have elen : ownLen lens [cellsD L] = .ok (.int L.length) := by unfold cellsD; rw [ownLen_t, List.length_map]
  have em : ownLen lens [movD W] = .ok (.int W.ms.length) := by unfold movD; rw [ownLen_t, List.length_map]
  have erg : rgL (.int 0) (.int (W.ms.length : Int)) = .ok ((rng W.ms.length).map D.int) := by
    have e : rgL (.int 0) (.int (W.ms.length : Int)) = .ok (rgD 0 (W.ms.length : Int)) := if_pos ⟨by omega, by omega, by omega⟩
    rw [e]
    show O.ok (rangeD 0 ((W.ms.length : Int) - 0).toNat) = _
    rw [Int.sub_zero, Int.toNat_natCast, rangeD_rng]
  have mf := mk_watch wf
  have mn := mk_watch wn
  have ux : ∀ f : D → D → D → O (D × List D), un3 (.lst [cellsD L, tx h, eyeD W0]) f = f (cellsD L) (tx h) (eyeD W0) := fun f => rfl
  have ux2 : ∀ (a b : D) (f : D → D → O (D × List D)), un2 (.lst [a, b]) f = f a b := fun a b f => rfl
  unfold f_law_right
  simp only [mbind, mitea, mconsa, mupa, mret, bk, ck, mp1, mp2, a1, a2, a3, e1, ux, e2, mk_fold gd, x0, x1, x2, mk_watch w, ap3, ap4, due_ok w gd o ht, ux2, T.e, perm4, isr, trk, asBk, Bool.not_true, ite0, own0n_r, fld_bottom, fld_top, c_lt_i, decide_eq_false (show ¬ q < 1 by have := T.q0; omega), bif0, mu1, mu2, own0n_i, decide_eq_true e5, c_gt_i, b_sub_i, elen, em, erg]
  have eless : ((O.ok (decide (0 < (t : Int)))).ite (((f_staying_length (folD L) (tx h) (watD W) (.int ((t : Int) - 1))).bind fun x => mt_compared [x, ratD p q]).bind fun x => c_lt x (.int 0)) (O.ok false)) = .ok false := by
    by_cases z : 0 < (t : Int)
    · obtain ⟨r, er, r0⟩ := less z
      rw [decide_eq_true z, ite1, er, bk, c_lt_i, decide_eq_false (show ¬ r < 0 by omega)]
    · rw [decide_eq_false z, ite0]
  have mf' : ((l3 Watch_init ([tx W.ls, movD W, D.tup (List.map D.int (rng W.ms.length))] ++ [])).bind fun fs => O.ok (D.obj 4 fs)) = .ok (watD ⟨W.ls, W.ms, rng W.ms.length⟩) := mf
  have mn' : ((l3 Watch_init ([tx W.ls, movD W, D.tup []] ++ [])).bind fun fs => O.ok (D.obj 4 fs)) = .ok (watD ⟨W.ls, W.ms, []⟩) := mn
  rw [eless]
  simp only [bk, bif0, mbind, mupa, mf', mn', ef, en, own0_ri, trk, asBk, ite1, decide_eq_true (rfl : (L.length : Int) = L.length), decide_eq_true (rfl : (0 : Int) = 0)]
  exact ⟨g2, rfl, b2⟩
end SL.K39
namespace SL.K39
open PySem L2 DL SL
def law_tail (v_law_script : D) : O D :=
  ((O.cons (((((O.cons (O.ok (D.int 2)) (O.cons ((O.cons ((O.cons (O.ok v_law_script) (O.ok [])).bind (ownLen lens)) (O.cons (O.ok (D.int 3)) (O.ok []))).bind bi_min) (O.ok []))).bind bi_max).bind rg1).bind (mapO (fun v_law_k => (((O.cons (O.ok v_law_script) (O.cons (O.ok v_law_k) (O.ok []))).bind (l2 f_law_purse)).bind fun gs => ((m0 f_law_right) [] gs).bind fun r => O.ok r.1)))).bind fun ds => O.ok (D.lst ds)) (O.ok [])).bind bi_all)
theorem tail_ok (is : List Int) (h : is.length ≤ 63) : law_tail (.lst (is.map D.int)) = .ok (.bl true) := by
  unfold law_tail
  have e1 : ∃ n : Int, bi_max [.int 2, .int (if 3 < (((is.map D.int).length : Nat) : Int) then 3 else ((is.map D.int).length : Nat))] = .ok (.int n) ∧ 0 ≤ n ∧ n ≤ 3 := by
    refine ⟨_, rfl, ?_, ?_⟩ <;> split <;> split <;> omega
  obtain ⟨n, e1, n0, n1⟩ := e1
  simp only [bk, ck, ownLen_l, bi_min_i, e1, rg1_i (show -(2 ^ 62) ≤ n by omega) (show n < 2 ^ 62 by omega)]
  rw [mapO_ok (fun _ => .bl true) (fun d hd => ?hd) (by rw [rangeD_length]; omega)]
  case hd =>
    obtain ⟨i, hi⟩ := List.getElem?_of_mem hd
    obtain ⟨h1, rfl⟩ := rangeD_get hi
    obtain ⟨g, e2, b⟩ := purse_ok (is := is) (k := 0 + (i : Int)) (by omega) (by omega) h
    obtain ⟨g', e3, _⟩ := right_ok b
    simp only [bk, ck, ap2, e2, mp0, e3]
  have e : (rangeD 0 n.toNat).map (fun _ => D.bl true) = (List.replicate n.toNat true).map D.bl := by
    rw [List.map_const', rangeD_length, List.map_replicate]
  rw [e]
  simp only [bk, ck]
  show op2 (bls? _) _ = _
  rw [bls?_map, op2k]
  simp
theorem law_eq (s : D) : f_law s = law_tail s := by kernel_rfl
theorem main (is : List Int) (h : is.length ≤ 63) : l1 f_law [D.lst (is.map D.int)] = .ok (.bl true) := by
  rw [ap1, law_eq]
  exact tail_ok is h
end SL.K39
namespace SL.K39
open PySem L2 DL SL
variable [TabL]
def topS (i : Nat) : Stmt := PySem.Challenge.pw_doughfolds_k39_whole_staying_lengths_of.main.body.getD i (.Pass ⟨0, 0, 0, 0⟩)
abbrev s_Fold_len : Stmt := inClass (topS 29) 4
theorem sc_Fold_len : FnScope ["self"] ["self"] (defScope s_Fold_len) := ⟨rfl, rfl, rfl, by decide +kernel, rfl, by decide +kernel, by decide +kernel⟩
theorem ok_Fold_len {C : Kc} {mg : Str → Option Value} {base : Heap} {f : Addr} {fd : FuncData} (Fn : Fun C.K "__len__" "Fold.__len__" s_Fold_len f fd) (T : Tx C mg)  : FnOk C.P C.w C.K mg base CX0 1 f fd ["self"] (spF C (l1 Fold_len)) := by
  refine fx Fn sc_Fold_len (fun _ _ h => l1_len h) (fun ds cdv A outer s H E hr => ar1 (S := fun ds => ⟨DL.start ["self"] ds, none⟩) (fun v_self => ?_) ds)
  exact k_retA (p_callB (T.bl "len") bb_len s_len (a_cons (p_fld (cs := [1, 5]) T.fl (p_var (j := 0) rfl)) a_nil))
abbrev s_Watch_len : Stmt := inClass (topS 37) 3
theorem sc_Watch_len : FnScope ["self"] ["self"] (defScope s_Watch_len) := ⟨rfl, rfl, rfl, by decide +kernel, rfl, by decide +kernel, by decide +kernel⟩
theorem ok_Watch_len {C : Kc} {mg : Str → Option Value} {base : Heap} {f : Addr} {fd : FuncData} (Fn : Fun C.K "__len__" "Watch.__len__" s_Watch_len f fd) (T : Tx C mg)  : FnOk C.P C.w C.K mg base CX0 1 f fd ["self"] (spF C (l1 Watch_len)) := by
  refine fx Fn sc_Watch_len (fun _ _ h => l1_len h) (fun ds cdv A outer s H E hr => ar1 (S := fun ds => ⟨DL.start ["self"] ds, none⟩) (fun v_self => ?_) ds)
  exact k_retA (p_callB (T.bl "len") bb_len s_len (a_cons (p_fld (cs := [4]) T.fl (p_var (j := 0) rfl)) a_nil))
abbrev s_f_law_purse : Stmt := topS 59
theorem sc_f_law_purse : FnScope ["_law_script", "_law_k", "_law_held", "_law_seed", "_law_each"] ["_law_script", "_law_k"] (defScope s_f_law_purse) := ⟨rfl, rfl, rfl, by decide +kernel, rfl, by decide +kernel, by decide +kernel⟩
theorem ok_f_law_purse {C : Kc} {mg : Str → Option Value} {base : Heap} {f : Addr} {fd : FuncData} (Fn : Fun C.K "_law_purse" "_law_purse" s_f_law_purse f fd) (T : Tx C mg) (t_Fold_len : C.has 1 = true → Met C.P C.w C mg base 1 1 "__len__" (spF C (l1 Fold_len))) (t_Watch_len : C.has 4 = true → Met C.P C.w C mg base 1 4 "__len__" (spF C (l1 Watch_len))) : FnOk C.P C.w C.K mg base CX0 3 f fd ["_law_script", "_law_k"] (spFN C (l2 f_law_purse)) := by
  refine fxN Fn sc_f_law_purse (fun _ _ h => l2_len h) (fun ds cdv A outer s H E hr => ar2 (S := fun ds => ⟨DL.start ["_law_script", "_law_k", "_law_held", "_law_seed", "_law_each"] ds, none⟩) (fun v_law_script v_law_k => ?_) ds)
  first | refine k_par2 (i := 2) (j := 3) (v_e (p_op s_add (p_op s_mul p_int (p_var (j := 1) rfl)) p_int)) (v_e (p_op s_add p_int (p_var (j := 1) rfl))) (fun v_law_held_1 v_law_seed_2 => ?_) | refine k_parT2 (i := 2) (j := 3) (v_e (p_op s_add (p_op s_mul p_int (p_var (j := 1) rfl)) p_int)) (v_e (p_op s_add p_int (p_var (j := 1) rfl))) (fun v_law_held_1 v_law_seed_2 => ?_)
  refine k_ifj (T := D) (fun j4 => (⟨[some (.imm v_law_script), some (.imm v_law_k), some (.imm j4), some (.imm v_law_seed_2), none], none⟩ : DL.ST)) (t_cmp s_lt (p_var (j := 1) rfl) (p_callB (T.bl "len") bb_len (s_olen (lenF_lens t_Fold_len t_Watch_len)) (a_cons (p_var (j := 0) rfl) a_nil))) ?_ ?_ (fun j4 => ?_)
  · refine k_set (j := 2) (p_callTy (T.bl "int") bb_int s_int (a_cons (p_ix (p_var (j := 0) rfl) (p_var (j := 1) rfl)) a_nil)) (fun v_law_held_3 => ?_)
    exact k_nilJ ⟨by repeat (first | exact DL.WkL.nil | refine DL.WkL.keep ?_ | refine DL.WkL.drop ?_), rfl⟩
  · exact k_nilJ ⟨by repeat (first | exact DL.WkL.nil | refine DL.WkL.keep ?_ | refine DL.WkL.drop ?_), rfl⟩
  refine k_for1 (T := D) (j := 4) (fun (s5 : D) => (⟨[some (.imm v_law_script), some (.imm v_law_k), some (.imm j4), some (.imm s5), none], none⟩ : DL.ST)) (i_val (p_slice (p_var (j := 0) rfl) x_none (x_some p_int))) ⟨by repeat (first | exact DL.WkL.nil | refine DL.WkL.keep ?_ | refine DL.WkL.drop ?_), rfl⟩ (fun s5 v_law_each_6 => ?_) (fun s5 => ?_)
  · refine k_set (j := 3) (p_op s_mod (p_callTy (T.bl "int") bb_int s_int (a_cons (p_op s_add (p_op s_add (p_op s_mul (p_var (j := 3) rfl) p_int) (p_op s_mod (p_callTy (T.bl "int") bb_int s_int (a_cons (p_var (j := 4) rfl) a_nil)) p_int)) p_int) a_nil)) p_int) (fun v_law_seed_7 => ?_)
    exact k_nilB ⟨by repeat (first | exact DL.WkL.nil | refine DL.WkL.keep ?_ | refine DL.WkL.drop ?_), rfl⟩
  refine k_set (j := 3) (p_op s_mod (p_callTy (T.bl "int") bb_int s_int (a_cons (p_op s_add (p_op s_mul (p_var (j := 3) rfl) p_int) (p_op s_mod (p_callTy (T.bl "int") bb_int s_int (a_cons (p_var (j := 2) rfl) a_nil)) p_int)) a_nil)) p_int) (fun v_law_seed_8 => ?_)
  exact k_retN (o_lst (a_cons (p_var (j := 3) rfl) (a_cons (p_ifx (t_cmp s_ge (p_callB (T.bl "abs") bb_abs s_abs (a_cons (p_var (j := 2) rfl) a_nil)) (p_op s_pow p_int p_int)) (p_callB (T.bl "abs") bb_abs s_abs (a_cons (p_var (j := 2) rfl) a_nil)) p_int) (a_cons p_int a_nil))))
abbrev s_f_law_draw : Stmt := topS 60
theorem sc_f_law_draw : FnScope ["_law_purse_here", "_law_many", "_law_seed", "_law_digit"] ["_law_purse_here", "_law_many"] (defScope s_f_law_draw) := ⟨rfl, rfl, rfl, by decide +kernel, rfl, by decide +kernel, by decide +kernel⟩
theorem ok_f_law_draw {C : Kc} {mg : Str → Option Value} {base : Heap} {f : Addr} {fd : FuncData} (Fn : Fun C.K "_law_draw" "_law_draw" s_f_law_draw f fd) (T : Tx C mg)  : FnOk C.P C.w C.K mg base CX0 1 f fd ["_law_purse_here", "_law_many"] (spFB C (m1 f_law_draw)) := by
  refine fxB Fn sc_f_law_draw (fun _ _ _ h => congrArg (· + 1) (m1_len h)) (fun b cdv A outer s H E hr => am1 (S := fun ds => DL.startB ["_law_purse_here", "_law_many", "_law_seed", "_law_digit"] ds) (fun v_law_many => ?_))
  refine m_bagSet (j := 0) (me_op s_add (e_bagIx (j := 0) rfl (fun g => p_int)) (e_up fun g => p_int)) rfl (fun g => p_int) ?_
  refine m_set (j := 2) (me_callTy (T.bl "int") bb_int s_int (ma_cons (e_bagIx (j := 0) rfl (fun g => p_int)) (a_up fun g => a_nil))) (fun v_law_seed_1 => ?_)
  refine m_bagSet (j := 0) (me_op s_mod (me_callTy (T.bl "int") bb_int s_int (ma_cons (me_op s_add (e_up fun g => (p_op s_mul (p_var (j := 2) rfl) (p_op s_add (p_op s_mod (p_callTy (T.bl "int") bb_int s_int (a_cons (p_var (j := 2) rfl) a_nil)) p_int) p_int))) (me_op s_mul (e_up fun g => p_int) (e_bagIx (j := 0) rfl (fun g => p_int)))) (a_up fun g => a_nil))) (e_up fun g => p_int)) rfl (fun g => p_int) ?_
  refine m_ifr (mt_cmp s_gt (e_bagIx (j := 0) rfl (fun g => p_int)) (e_up fun g => p_int)) ?_ ?_
  · refine m_set (j := 3) (me_op s_mod (me_callTy (T.bl "int") bb_int s_int (ma_cons (e_bagIx (j := 0) rfl (fun g => p_int)) (a_up fun g => a_nil))) (e_up fun g => (p_var (j := 1) rfl))) (fun v_law_digit_2 => ?_)
    refine m_bagSet (j := 0) (me_op s_fdiv (e_bagIx (j := 0) rfl (fun g => p_int)) (e_up fun g => (p_var (j := 1) rfl))) rfl (fun g => p_int) ?_
    exact m_retA (e_up fun g => (p_var (j := 3) rfl))
  exact m_retA (me_op s_mod (me_op s_fdiv (me_callTy (T.bl "int") bb_int s_int (ma_cons (e_bagIx (j := 0) rfl (fun g => p_int)) (a_up fun g => a_nil))) (e_up fun g => p_int)) (e_up fun g => (p_var (j := 1) rfl)))
abbrev s_f_law_pick : Stmt := topS 61
theorem sc_f_law_pick : FnScope ["_law_purse_here", "_law_some"] ["_law_purse_here", "_law_some"] (defScope s_f_law_pick) := ⟨rfl, rfl, rfl, by decide +kernel, rfl, by decide +kernel, by decide +kernel⟩
theorem ok_f_law_pick {C : Kc} {mg : Str → Option Value} {base : Heap} {f : Addr} {fd : FuncData} (Fn : Fun C.K "_law_pick" "_law_pick" s_f_law_pick f fd) (T : Tx C mg) (t_Fold_len : C.has 1 = true → Met C.P C.w C mg base 1 1 "__len__" (spF C (l1 Fold_len))) (t_Watch_len : C.has 4 = true → Met C.P C.w C mg base 1 4 "__len__" (spF C (l1 Watch_len))) (c_law_draw : Cal C.P C.w C mg base 1 "_law_draw" (spFB C (m1 f_law_draw))) : FnOk C.P C.w C.K mg base CX0 3 f fd ["_law_purse_here", "_law_some"] (spFB C (m1 f_law_pick)) := by
  refine fxB Fn sc_f_law_pick (fun _ _ _ h => congrArg (· + 1) (m1_len h)) (fun b cdv A outer s H E hr => am1 (S := fun ds => DL.startB ["_law_purse_here", "_law_some"] ds) (fun v_law_some => ?_))
  exact m_retA (me_ix (e_up fun g => (p_var (j := 1) rfl)) (me_bag (j := 0) c_law_draw rfl (a_up fun g => (a_cons (p_callB (T.bl "len") bb_len (s_olen (lenF_lens t_Fold_len t_Watch_len)) (a_cons (p_var (j := 1) rfl) a_nil)) a_nil))))
abbrev s_f_law_dough : Stmt := topS 62
theorem sc_f_law_dough : FnScope ["_law_purse_here", "_law_most", "_law_size", "_law_found", "_law_k", "_law_which", "_law_far", "_law_near", "_law_first", "_law_last"] ["_law_purse_here", "_law_most"] (defScope s_f_law_dough) := ⟨rfl, rfl, rfl, by decide +kernel, rfl, by decide +kernel, by decide +kernel⟩
theorem ok_f_law_dough {C : Kc} {mg : Str → Option Value} {base : Heap} {f : Addr} {fd : FuncData} (Fn : Fun C.K "_law_dough" "_law_dough" s_f_law_dough f fd) (T : Tx C mg) (c_law_draw : Cal C.P C.w C mg base 1 "_law_draw" (spFB C (m1 f_law_draw))) : FnOk C.P C.w C.K mg base CX0 2 f fd ["_law_purse_here", "_law_most"] (spFB C (m1 f_law_dough)) := by
  refine fxB Fn sc_f_law_dough (fun _ _ _ h => congrArg (· + 1) (m1_len h)) (fun b cdv A outer s H E hr => am1 (S := fun ds => DL.startB ["_law_purse_here", "_law_most", "_law_size", "_law_found", "_law_k", "_law_which", "_law_far", "_law_near", "_law_first", "_law_last"] ds) (fun v_law_most => ?_))
  first | refine m_par2 (i := 2) (j := 3) (vm_e (me_op s_add (e_up fun g => p_int) (me_bag (j := 0) c_law_draw rfl (a_up fun g => (a_cons (p_op s_sub (p_var (j := 1) rfl) p_int) a_nil))))) (vm_o (o_up fun g => (o_lst a_nil))) (fun v_law_size_1 v_law_found_2 => ?_) | refine m_parT2 (i := 2) (j := 3) (vm_e (me_op s_add (e_up fun g => p_int) (me_bag (j := 0) c_law_draw rfl (a_up fun g => (a_cons (p_op s_sub (p_var (j := 1) rfl) p_int) a_nil))))) (vm_o (o_up fun g => (o_lst a_nil))) (fun v_law_size_1 v_law_found_2 => ?_)
  refine m_for1 (T := List D) (j := 4) (fun (s3 : List D) => [some .bag, some (.imm v_law_most), some (.imm v_law_size_1), some (.own (.lst s3)), none, none, none, none, none, none]) (i_up fun g => (i_range1 (T.bl "range") (p_var (j := 2) rfl))) (by repeat (first | exact DL.WkL.nil | refine DL.WkL.keep ?_ | refine DL.WkL.drop ?_)) (fun s3 v_law_k_4 => ?_) (fun s3 => ?_)
  · first | refine m_par3 (i := 5) (j := 6) (l := 7) (vm_e (me_bag (j := 0) c_law_draw rfl (a_up fun g => (a_cons p_int a_nil)))) (vm_e (me_bag (j := 0) c_law_draw rfl (a_up fun g => (a_cons (p_var (j := 2) rfl) a_nil)))) (vm_e (me_bag (j := 0) c_law_draw rfl (a_up fun g => (a_cons (p_var (j := 2) rfl) a_nil)))) (fun v_law_which_5 v_law_far_6 v_law_near_7 => ?_) | refine m_parT3 (i := 5) (j := 6) (l := 7) (vm_e (me_bag (j := 0) c_law_draw rfl (a_up fun g => (a_cons p_int a_nil)))) (vm_e (me_bag (j := 0) c_law_draw rfl (a_up fun g => (a_cons (p_var (j := 2) rfl) a_nil)))) (vm_e (me_bag (j := 0) c_law_draw rfl (a_up fun g => (a_cons (p_var (j := 2) rfl) a_nil)))) (fun v_law_which_5 v_law_far_6 v_law_near_7 => ?_)
    first | refine m_par2 (i := 8) (j := 9) (vm_e (e_up fun g => (p_callB (T.bl "min") bb_min s_min (a_cons (p_var (j := 6) rfl) (a_cons (p_var (j := 7) rfl) a_nil))))) (vm_e (e_up fun g => (p_callB (T.bl "max") bb_max s_max (a_cons (p_var (j := 6) rfl) (a_cons (p_var (j := 7) rfl) a_nil))))) (fun v_law_first_8 v_law_last_9 => ?_) | refine m_parT2 (i := 8) (j := 9) (vm_e (e_up fun g => (p_callB (T.bl "min") bb_min s_min (a_cons (p_var (j := 6) rfl) (a_cons (p_var (j := 7) rfl) a_nil))))) (vm_e (e_up fun g => (p_callB (T.bl "max") bb_max s_max (a_cons (p_var (j := 6) rfl) (a_cons (p_var (j := 7) rfl) a_nil))))) (fun v_law_first_8 v_law_last_9 => ?_)
    refine m_ifj (T := D × D) (fun j12 => [some .bag, some (.imm v_law_most), some (.imm v_law_size_1), some (.own (.lst s3)), some (.imm v_law_k_4), some (.imm v_law_which_5), some (.imm v_law_far_6), some (.imm v_law_near_7), some (.imm j12.1), some (.imm j12.2)]) (t_up fun g => (t_cmp s_eq (p_var (j := 5) rfl) p_int)) ?_ ?_ (fun j12 => ?_)
    · first | refine m_par2 (i := 8) (j := 9) (vm_e (e_up fun g => p_int)) (vm_e (e_up fun g => (p_op s_sub (p_var (j := 2) rfl) p_int))) (fun v_law_first_10 v_law_last_11 => ?_) | refine m_parT2 (i := 8) (j := 9) (vm_e (e_up fun g => p_int)) (vm_e (e_up fun g => (p_op s_sub (p_var (j := 2) rfl) p_int))) (fun v_law_first_10 v_law_last_11 => ?_)
      exact m_nilJ (by repeat (first | exact DL.WkL.nil | refine DL.WkL.keep ?_ | refine DL.WkL.drop ?_))
    · exact m_nilJ (by repeat (first | exact DL.WkL.nil | refine DL.WkL.keep ?_ | refine DL.WkL.drop ?_))
    refine m_ifj (T := D) (fun j14 => [some .bag, some (.imm v_law_most), some (.imm v_law_size_1), some (.own (.lst s3)), some (.imm v_law_k_4), some (.imm v_law_which_5), some (.imm v_law_far_6), some (.imm v_law_near_7), some (.imm j12.1), some (.imm j14)]) (t_up fun g => (t_cmp s_eq (p_var (j := 5) rfl) p_int)) ?_ ?_ (fun j14 => ?_)
    · refine m_set (j := 9) (e_up fun g => (p_var (j := 8) rfl)) (fun v_law_last_13 => ?_)
      exact m_nilJ (by repeat (first | exact DL.WkL.nil | refine DL.WkL.keep ?_ | refine DL.WkL.drop ?_))
    · exact m_nilJ (by repeat (first | exact DL.WkL.nil | refine DL.WkL.keep ?_ | refine DL.WkL.drop ?_))
    refine m_append (j := 3) (me_tup (ma_cons (e_up fun g => (p_var (j := 8) rfl)) (ma_cons (e_up fun g => (p_var (j := 9) rfl)) (ma_cons (me_cmp s_eq (me_bag (j := 0) c_law_draw rfl (a_up fun g => (a_cons p_int a_nil))) (e_up fun g => p_int)) (a_up fun g => a_nil))))) rfl (fun a15 => ?_)
    exact m_nilB (by repeat (first | exact DL.WkL.nil | refine DL.WkL.keep ?_ | refine DL.WkL.drop ?_))
  refine m_fz (j := 3) rfl ?_
  exact m_retA (e_up fun g => (p_callTy (T.bl "tuple") bb_tuple s_tuple (a_cons (p_var (j := 3) rfl) a_nil)))
abbrev s_f_law_signs : Stmt := topS 63
theorem sc_f_law_signs : FnScope ["_law_purse_here", "_law_many", "_law_left", "_law_found", "_law_turn", "_law_at"] ["_law_purse_here", "_law_many"] (defScope s_f_law_signs) := ⟨rfl, rfl, rfl, by decide +kernel, rfl, by decide +kernel, by decide +kernel⟩
theorem ok_f_law_signs {C : Kc} {mg : Str → Option Value} {base : Heap} {f : Addr} {fd : FuncData} (Fn : Fun C.K "_law_signs" "_law_signs" s_f_law_signs f fd) (T : Tx C mg) (t_Fold_len : C.has 1 = true → Met C.P C.w C mg base 1 1 "__len__" (spF C (l1 Fold_len))) (t_Watch_len : C.has 4 = true → Met C.P C.w C mg base 1 4 "__len__" (spF C (l1 Watch_len))) (c_law_draw : Cal C.P C.w C mg base 1 "_law_draw" (spFB C (m1 f_law_draw))) : FnOk C.P C.w C.K mg base CX0 3 f fd ["_law_purse_here", "_law_many"] (spFB C (m1 f_law_signs)) := by
  refine fxB Fn sc_f_law_signs (fun _ _ _ h => congrArg (· + 1) (m1_len h)) (fun b cdv A outer s H E hr => am1 (S := fun ds => DL.startB ["_law_purse_here", "_law_many", "_law_left", "_law_found", "_law_turn", "_law_at"] ds) (fun v_law_many => ?_))
  first | refine m_par2 (i := 2) (j := 3) (vm_e (e_up fun g => p_str)) (vm_e (e_up fun g => p_str)) (fun v_law_left_1 v_law_found_2 => ?_) | refine m_parT2 (i := 2) (j := 3) (vm_e (e_up fun g => p_str)) (vm_e (e_up fun g => p_str)) (fun v_law_left_1 v_law_found_2 => ?_)
  refine m_for1 (T := D × D) (j := 4) (fun (s3 : D × D) => [some .bag, some (.imm v_law_many), some (.imm s3.1), some (.imm s3.2), none, none]) (i_up fun g => (i_range1 (T.bl "range") (p_var (j := 1) rfl))) (by repeat (first | exact DL.WkL.nil | refine DL.WkL.keep ?_ | refine DL.WkL.drop ?_)) (fun s3 v_law_turn_4 => ?_) (fun s3 => ?_)
  · refine m_set (j := 5) (me_bag (j := 0) c_law_draw rfl (a_up fun g => (a_cons (p_op s_add (p_op s_add (p_op s_sub (p_callB (T.bl "len") bb_len (s_olen (lenF_lens t_Fold_len t_Watch_len)) (a_cons (p_var (j := 2) rfl) a_nil)) (p_var (j := 1) rfl)) (p_var (j := 4) rfl)) p_int) a_nil))) (fun v_law_at_5 => ?_)
    first | refine m_par2 (i := 3) (j := 2) (vm_e (e_up fun g => (p_op s_add (p_var (j := 3) rfl) (p_ix (p_var (j := 2) rfl) (p_var (j := 5) rfl))))) (vm_e (e_up fun g => (p_slice (p_var (j := 2) rfl) (x_some (p_op s_add (p_var (j := 5) rfl) p_int)) x_none))) (fun v_law_found_6 v_law_left_7 => ?_) | refine m_parT2 (i := 3) (j := 2) (vm_e (e_up fun g => (p_op s_add (p_var (j := 3) rfl) (p_ix (p_var (j := 2) rfl) (p_var (j := 5) rfl))))) (vm_e (e_up fun g => (p_slice (p_var (j := 2) rfl) (x_some (p_op s_add (p_var (j := 5) rfl) p_int)) x_none))) (fun v_law_found_6 v_law_left_7 => ?_)
    exact m_nilB (by repeat (first | exact DL.WkL.nil | refine DL.WkL.keep ?_ | refine DL.WkL.drop ?_))
  exact m_retA (e_up fun g => (p_var (j := 3) rfl))
abbrev s_f_law_eye : Stmt := topS 64
theorem sc_f_law_eye : FnScope ["_law_purse_here", "_law_signs_here", "_law_most", "_law_many", "_law_lines", "_law_k", "_law_sign"] ["_law_purse_here", "_law_signs_here", "_law_most"] (defScope s_f_law_eye) := ⟨rfl, rfl, rfl, by decide +kernel, rfl, by decide +kernel, by decide +kernel⟩
theorem ok_f_law_eye {C : Kc} {mg : Str → Option Value} {base : Heap} {f : Addr} {fd : FuncData} (Fn : Fun C.K "_law_eye" "_law_eye" s_f_law_eye f fd) (T : Tx C mg) (c_law_draw : Cal C.P C.w C mg base 1 "_law_draw" (spFB C (m1 f_law_draw))) : FnOk C.P C.w C.K mg base CX0 2 f fd ["_law_purse_here", "_law_signs_here", "_law_most"] (spFB C (m2 f_law_eye)) := by
  refine fxB Fn sc_f_law_eye (fun _ _ _ h => congrArg (· + 1) (m2_len h)) (fun b cdv A outer s H E hr => am2 (S := fun ds => DL.startB ["_law_purse_here", "_law_signs_here", "_law_most", "_law_many", "_law_lines", "_law_k", "_law_sign"] ds) (fun v_law_signs_here v_law_most => ?_))
  refine m_set (j := 3) (me_op s_add (e_up fun g => p_int) (me_bag (j := 0) c_law_draw rfl (a_up fun g => (a_cons (p_var (j := 2) rfl) a_nil)))) (fun v_law_many_1 => ?_)
  refine m_set (j := 4) (me_callTy (T.bl "tuple") bb_tuple s_tuple (ma_cons (me_do (mo_lc (fun _ => blkOk_by (own := [("_law_k", 5)]) (by first | rfl | decide +kernel)) (lm_map (j := 5) (own := [("_law_k", 5)]) (i_up fun g => (i_range1 (T.bl "range") (p_var (j := 3) rfl))) (fun v_law_k => (me_callTy (T.bl "tuple") bb_tuple s_tuple (ma_cons (me_do (mo_lc (fun _ => blkOk_by (own := [("_law_sign", 6)]) (by first | rfl | decide +kernel)) (lm_map (j := 6) (own := [("_law_sign", 6)]) (i_up fun g => (i_val (p_var (j := 1) rfl))) (fun v_law_sign => (me_bag (j := 0) c_law_draw rfl (a_up fun g => (a_cons (p_var (j := 3) rfl) a_nil))))))) (a_up fun g => a_nil))))))) (a_up fun g => a_nil))) (fun v_law_lines_2 => ?_)
  exact m_retA (me_tup (ma_cons (e_up fun g => (p_var (j := 1) rfl)) (ma_cons (e_up fun g => (p_var (j := 4) rfl)) (ma_cons (me_callTy (T.bl "tuple") bb_tuple s_tuple (ma_cons (me_do (mo_lc (fun _ => blkOk_by (own := [("_law_k", 5)]) (by first | rfl | decide +kernel)) (lm_fil (j := 5) (own := [("_law_k", 5)]) (i_up fun g => (i_range1 (T.bl "range") (p_var (j := 3) rfl))) (fun v_law_k => (mt_cmp s_gt (me_bag (j := 0) c_law_draw rfl (a_up fun g => (a_cons p_int a_nil))) (e_up fun g => p_int))) (fun v_law_k => (e_up fun g => (p_var (j := 5) rfl)))))) (a_up fun g => a_nil))) (a_up fun g => a_nil)))))
abbrev s_f_law_scene : Stmt := topS 65
theorem sc_f_law_scene : FnScope ["_law_purse_here", "_law_most", "_law_stands", "_law_dough_here", "_law_signs_here", "_law_eye_here", "_law_k"] ["_law_purse_here", "_law_most", "_law_stands"] (defScope s_f_law_scene) := ⟨rfl, rfl, rfl, by decide +kernel, rfl, by decide +kernel, by decide +kernel⟩
theorem ok_f_law_scene {C : Kc} {mg : Str → Option Value} {base : Heap} {f : Addr} {fd : FuncData} (Fn : Fun C.K "_law_scene" "_law_scene" s_f_law_scene f fd) (T : Tx C mg) (c_law_dough : Cal C.P C.w C mg base 2 "_law_dough" (spFB C (m1 f_law_dough))) (c_law_pick : Cal C.P C.w C mg base 3 "_law_pick" (spFB C (m1 f_law_pick))) (c_law_signs : Cal C.P C.w C mg base 3 "_law_signs" (spFB C (m1 f_law_signs))) (c_law_eye : Cal C.P C.w C mg base 2 "_law_eye" (spFB C (m2 f_law_eye))) : FnOk C.P C.w C.K mg base CX0 4 f fd ["_law_purse_here", "_law_most", "_law_stands"] (spFB C (m2 f_law_scene)) := by
  refine fxB Fn sc_f_law_scene (fun _ _ _ h => congrArg (· + 1) (m2_len h)) (fun b cdv A outer s H E hr => am2 (S := fun ds => DL.startB ["_law_purse_here", "_law_most", "_law_stands", "_law_dough_here", "_law_signs_here", "_law_eye_here", "_law_k"] ds) (fun v_law_most v_law_stands => ?_))
  first | refine m_par2 (i := 3) (j := 4) (vm_e (me_bag (j := 0) c_law_dough rfl (a_up fun g => (a_cons (p_var (j := 1) rfl) a_nil)))) (vm_e (me_bag (j := 0) c_law_signs rfl (ma_cons (me_bag (j := 0) c_law_pick rfl (a_up fun g => (a_cons (p_lst (a_cons p_int (a_cons p_int (a_cons p_int (a_cons p_int (a_cons p_int (a_cons p_int (a_cons p_int (a_cons p_int a_nil))))))))) a_nil))) (a_up fun g => a_nil)))) (fun v_law_dough_here_1 v_law_signs_here_2 => ?_) | refine m_parT2 (i := 3) (j := 4) (vm_e (me_bag (j := 0) c_law_dough rfl (a_up fun g => (a_cons (p_var (j := 1) rfl) a_nil)))) (vm_e (me_bag (j := 0) c_law_signs rfl (ma_cons (me_bag (j := 0) c_law_pick rfl (a_up fun g => (a_cons (p_lst (a_cons p_int (a_cons p_int (a_cons p_int (a_cons p_int (a_cons p_int (a_cons p_int (a_cons p_int (a_cons p_int a_nil))))))))) a_nil))) (a_up fun g => a_nil)))) (fun v_law_dough_here_1 v_law_signs_here_2 => ?_)
  refine m_set (j := 5) (me_bag (j := 0) c_law_eye rfl (a_up fun g => (a_cons (p_var (j := 4) rfl) (a_cons (p_var (j := 2) rfl) a_nil)))) (fun v_law_eye_here_3 => ?_)
  exact m_retA (me_lst (ma_cons (e_up fun g => (p_var (j := 3) rfl)) (ma_cons (me_join (e_up fun g => p_str) (me_do (mo_lc (fun _ => blkOk_by (own := [("_law_k", 6)]) (by first | rfl | decide +kernel)) (lm_map (j := 6) (own := [("_law_k", 6)]) (i_up fun g => (i_val (p_var (j := 3) rfl))) (fun v_law_k => (me_bag (j := 0) c_law_pick rfl (a_up fun g => (a_cons (p_var (j := 4) rfl) a_nil)))))))) (a_up fun g => (a_cons (p_var (j := 5) rfl) a_nil)))))
abbrev s_f_law_trap : Stmt := topS 66
theorem sc_f_law_trap : FnScope ["_law_purse_here", "_law_eye_here", "_law_many"] ["_law_purse_here", "_law_eye_here"] (defScope s_f_law_trap) := ⟨rfl, rfl, rfl, by decide +kernel, rfl, by decide +kernel, by decide +kernel⟩
theorem ok_f_law_trap {C : Kc} {mg : Str → Option Value} {base : Heap} {f : Addr} {fd : FuncData} (Fn : Fun C.K "_law_trap" "_law_trap" s_f_law_trap f fd) (T : Tx C mg) (t_Fold_len : C.has 1 = true → Met C.P C.w C mg base 1 1 "__len__" (spF C (l1 Fold_len))) (t_Watch_len : C.has 4 = true → Met C.P C.w C mg base 1 4 "__len__" (spF C (l1 Watch_len))) (c_law_draw : Cal C.P C.w C mg base 1 "_law_draw" (spFB C (m1 f_law_draw))) : FnOk C.P C.w C.K mg base CX0 3 f fd ["_law_purse_here", "_law_eye_here"] (spFB C (m1 f_law_trap)) := by
  refine fxB Fn sc_f_law_trap (fun _ _ _ h => congrArg (· + 1) (m1_len h)) (fun b cdv A outer s H E hr => am1 (S := fun ds => DL.startB ["_law_purse_here", "_law_eye_here", "_law_many"] ds) (fun v_law_eye_here => ?_))
  refine m_set (j := 2) (e_up fun g => (p_callB (T.bl "len") bb_len (s_olen (lenF_lens t_Fold_len t_Watch_len)) (a_cons (p_ix (p_var (j := 1) rfl) p_int) a_nil))) (fun v_law_many_1 => ?_)
  refine m_ifr (mt_w (mw_or (t_up fun g => (t_cmp s_eq (p_var (j := 2) rfl) p_int)) (mw_or1 (mt_cmp s_eq (me_bag (j := 0) c_law_draw rfl (a_up fun g => (a_cons p_int a_nil))) (e_up fun g => p_int))))) ?_ ?_
  · exact m_retA (e_up fun g => (p_var (j := 1) rfl))
  exact m_retA (e_up fun g => (p_tup (a_cons (p_ix (p_var (j := 1) rfl) p_int) (a_cons (p_op s_add (p_slice (p_ix (p_var (j := 1) rfl) p_int) x_none (x_some (p_un s_neg p_int))) (p_tup (a_cons (p_op s_mulX (p_tup (a_cons (p_op s_sub (p_var (j := 2) rfl) p_int) a_nil)) (p_callB (T.bl "len") bb_len (s_olen (lenF_lens t_Fold_len t_Watch_len)) (a_cons (p_ix (p_var (j := 1) rfl) p_int) a_nil))) a_nil))) (a_cons (p_tupRg1 (T.bl "tuple") (T.bl "range") (p_op s_sub (p_var (j := 2) rfl) p_int)) a_nil)))))
abbrev s_f_is_integer : Stmt := topS 2
theorem sc_f_is_integer : FnScope ["value"] ["value"] (defScope s_f_is_integer) := ⟨rfl, rfl, rfl, by decide +kernel, rfl, by decide +kernel, by decide +kernel⟩
theorem ok_f_is_integer {C : Kc} {mg : Str → Option Value} {base : Heap} {f : Addr} {fd : FuncData} (Fn : Fun C.K "is_integer" "is_integer" s_f_is_integer f fd) (T : Tx C mg)  : FnOk C.P C.w C.K mg base CX0 1 f fd ["value"] (spF C (l1 f_is_integer)) := by
  refine fx Fn sc_f_is_integer (fun _ _ h => l1_len h) (fun ds cdv A outer s H E hr => ar1 (S := fun ds => ⟨DL.start ["value"] ds, none⟩) (fun v_value => ?_) ds)
  exact k_retA (p_and (x_isiB T (p_var (j := 0) rfl) bb_int) (p_one (p_not (x_isiB T (p_var (j := 0) rfl) bb_bool))))
abbrev s_f_is_between : Stmt := topS 3
theorem sc_f_is_between : FnScope ["value", "least", "most"] ["value", "least", "most"] (defScope s_f_is_between) := ⟨rfl, rfl, rfl, by decide +kernel, rfl, by decide +kernel, by decide +kernel⟩
theorem ok_f_is_between {C : Kc} {mg : Str → Option Value} {base : Heap} {f : Addr} {fd : FuncData} (Fn : Fun C.K "is_between" "is_between" s_f_is_between f fd) (T : Tx C mg) (c_is_integer : Cal C.P C.w C mg base 1 "is_integer" (spF C (l1 f_is_integer))) : FnOk C.P C.w C.K mg base CX0 2 f fd ["value", "least", "most"] (spF C (l3 f_is_between)) := by
  refine fx Fn sc_f_is_between (fun _ _ h => l3_len h) (fun ds cdv A outer s H E hr => ar3 (S := fun ds => ⟨DL.start ["value", "least", "most"] ds, none⟩) (fun v_value v_least v_most => ?_) ds)
  exact k_retA (p_and (p_call c_is_integer (a_cons (p_var (j := 0) rfl) a_nil)) (p_one (p_chain s_le s_le (p_var (j := 1) rfl) (p_var (j := 0) rfl) (p_var (j := 2) rfl))))
abbrev s_f_is_cell : Stmt := topS 25
theorem sc_f_is_cell : FnScope ["many", "value"] ["many", "value"] (defScope s_f_is_cell) := ⟨rfl, rfl, rfl, by decide +kernel, rfl, by decide +kernel, by decide +kernel⟩
theorem ok_f_is_cell {C : Kc} {mg : Str → Option Value} {base : Heap} {f : Addr} {fd : FuncData} (Fn : Fun C.K "is_cell" "is_cell" s_f_is_cell f fd) (T : Tx C mg) (c_is_between : Cal C.P C.w C mg base 2 "is_between" (spF C (l3 f_is_between))) : FnOk C.P C.w C.K mg base CX0 3 f fd ["many", "value"] (spF C (l2 f_is_cell)) := by
  refine fx Fn sc_f_is_cell (fun _ _ h => l2_len h) (fun ds cdv A outer s H E hr => ar2 (S := fun ds => ⟨DL.start ["many", "value"] ds, none⟩) (fun v_many v_value => ?_) ds)
  refine k_ifr (t_w (w_or (t_not (t_val (x_isiB T (p_var (j := 1) rfl) bb_tuple))) (w_or (t_cmp s_ne (p_callB (T.bl "len") bb_len s_len (a_cons (p_var (j := 1) rfl) a_nil)) p_int) (w_or1 (t_not (t_val (x_isiB T (p_ix (p_var (j := 1) rfl) p_int) bb_bool))))))) ?_ ?_
  · exact k_retA p_bl
  exact k_retA (p_and (p_call c_is_between (a_cons (p_ix (p_var (j := 1) rfl) p_int) (a_cons p_int (a_cons (p_op s_sub (p_var (j := 0) rfl) p_int) a_nil)))) (p_one (p_call c_is_between (a_cons (p_ix (p_var (j := 1) rfl) p_int) (a_cons (p_ix (p_var (j := 1) rfl) p_int) (a_cons (p_op s_sub (p_var (j := 0) rfl) p_int) a_nil))))))
abbrev s_f_check_cells : Stmt := topS 26
theorem sc_f_check_cells : FnScope ["cells", "index", "cell"] ["cells"] (defScope s_f_check_cells) := ⟨rfl, rfl, rfl, by decide +kernel, rfl, by decide +kernel, by decide +kernel⟩
theorem ok_f_check_cells {C : Kc} {mg : Str → Option Value} {base : Heap} {f : Addr} {fd : FuncData} (Fn : Fun C.K "check_cells" "check_cells" s_f_check_cells f fd) (T : Tx C mg) (g_MOST_CELLS : ∃ t, mg "MOST_CELLS" = some (.int 8 t)) (c_is_cell : Cal C.P C.w C mg base 3 "is_cell" (spF C (l2 f_is_cell))) : FnOk C.P C.w C.K mg base CX0 4 f fd ["cells"] (spF C (l1 f_check_cells)) := by
  refine fx Fn sc_f_check_cells (fun _ _ h => l1_len h) (fun ds cdv A outer s H E hr => ar1 (S := fun ds => ⟨DL.start ["cells", "index", "cell"] ds, none⟩) (fun v_cells => ?_) ds)
  refine k_ifr (t_w (w_or (t_not (t_val (x_isiB T (p_var (j := 0) rfl) bb_tuple))) (w_or1 (t_not (t_chain s_le s_le p_int (p_callB (T.bl "len") bb_len s_len (a_cons (p_var (j := 0) rfl) a_nil)) (x_MOST_CELLS g_MOST_CELLS)))))) ?_ ?_
  · exact k_raise
  refine k_for2 (T := Unit) (i := 1) (j := 2) (fun (s1 : Unit) => (⟨[some (.imm v_cells), none, none], none⟩ : DL.ST)) (i_enumT (T.bl "enumerate") (p_var (j := 0) rfl)) ⟨by repeat (first | exact DL.WkL.nil | refine DL.WkL.keep ?_ | refine DL.WkL.drop ?_), rfl⟩ (fun s1 v_index_2 v_cell_3 => ?_) (fun s1 => ?_)
  · refine k_ifr (t_not (t_val (p_call c_is_cell (a_cons (p_callB (T.bl "len") bb_len s_len (a_cons (p_var (j := 0) rfl) a_nil)) (a_cons (p_var (j := 2) rfl) a_nil))))) ?_ ?_
    · exact k_raise
    exact k_nilB ⟨by repeat (first | exact DL.WkL.nil | refine DL.WkL.keep ?_ | refine DL.WkL.drop ?_), rfl⟩
  exact k_nilF
abbrev s_Fold_init : Stmt := inClass (topS 29) 0
theorem sc_Fold_init : FnScope ["self", "cells"] ["self", "cells"] (defScope s_Fold_init) := ⟨rfl, rfl, rfl, by decide +kernel, rfl, by decide +kernel, by decide +kernel⟩
theorem ok_Fold_init {C : Kc} {mg : Str → Option Value} {base : Heap} {f : Addr} {fd : FuncData} (Fn : Fun C.K "__init__" "Fold.__init__" s_Fold_init f fd) (T : Tx C mg) (c_check_cells : Cal C.P C.w C mg base 4 "check_cells" (spF C (l1 f_check_cells))) (h_Fold : C.has 1 = true) : FnOk C.P C.w C.K mg base CX0 5 f fd ["self", "cells"] (spI C 1 fun ds fs => l1 Fold_init ds = .ok fs) := by
  refine fxI Fn sc_Fold_init (fun _ _ h => congrArg (· + 1) (l1_len h)) (fun ds b cdv A outer s H E hr => ar1 (S := fun ds => ⟨DL.startB ["self", "cells"] ds, some (b, .ins 1 [])⟩) (fun v_cells => ?_) ds)
  refine k_expr (p_call c_check_cells (a_cons (p_var (j := 1) rfl) a_nil)) ?_
  refine k_fld (j := 0) ((T.fl (cs := [1]) (f := "cells")) 1 (by decide) h_Fold) (p_var (j := 1) rfl) rfl rfl (fun f1 => ?_)
  exact k_nilI rfl
abbrev s_f_are_small : Stmt := topS 4
theorem sc_f_are_small : FnScope ["value", "least", "most", "sign"] ["value", "least", "most"] (defScope s_f_are_small) := ⟨rfl, rfl, rfl, by decide +kernel, rfl, by decide +kernel, by decide +kernel⟩
theorem ok_f_are_small {C : Kc} {mg : Str → Option Value} {base : Heap} {f : Addr} {fd : FuncData} (Fn : Fun C.K "are_small" "are_small" s_f_are_small f fd) (T : Tx C mg)  : FnOk C.P C.w C.K mg base CX0 1 f fd ["value", "least", "most"] (spF C (l3 f_are_small)) := by
  refine fx Fn sc_f_are_small (fun _ _ h => l3_len h) (fun ds cdv A outer s H E hr => ar3 (S := fun ds => ⟨DL.start ["value", "least", "most", "sign"] ds, none⟩) (fun v_value v_least v_most => ?_) ds)
  refine k_ifr (t_w (w_or (t_not (t_val (x_isiB T (p_var (j := 0) rfl) bb_str))) (w_or1 (t_not (t_chain s_le s_le (p_var (j := 1) rfl) (p_callB (T.bl "len") bb_len s_len (a_cons (p_var (j := 0) rfl) a_nil)) (p_var (j := 2) rfl)))))) ?_ ?_
  · exact k_retA p_bl
  exact k_retA (p_callB (T.bl "all") bb_all s_all (a_cons (p_do (o_lc (fun _ => blkOk_by (own := [("sign", 3)]) (by first | rfl | decide +kernel)) (lc_map (j := 3) (own := [("sign", 3)]) (i_val (p_var (j := 0) rfl)) (fun v_sign => (p_chain s_le s_le p_str (p_var (j := 3) rfl) p_str))))) a_nil))
abbrev s_f_is_in_order : Stmt := topS 5
theorem sc_f_is_in_order : FnScope ["value", "at"] ["value"] (defScope s_f_is_in_order) := ⟨rfl, rfl, rfl, by decide +kernel, rfl, by decide +kernel, by decide +kernel⟩
theorem ok_f_is_in_order {C : Kc} {mg : Str → Option Value} {base : Heap} {f : Addr} {fd : FuncData} (Fn : Fun C.K "is_in_order" "is_in_order" s_f_is_in_order f fd) (T : Tx C mg)  : FnOk C.P C.w C.K mg base CX0 1 f fd ["value"] (spF C (l1 f_is_in_order)) := by
  refine fx Fn sc_f_is_in_order (fun _ _ h => l1_len h) (fun ds cdv A outer s H E hr => ar1 (S := fun ds => ⟨DL.start ["value", "at"] ds, none⟩) (fun v_value => ?_) ds)
  exact k_retA (p_callB (T.bl "all") bb_all s_all (a_cons (p_do (o_lc (fun _ => blkOk_by (own := [("at", 1)]) (by first | rfl | decide +kernel)) (lc_map (j := 1) (own := [("at", 1)]) (i_range2 (T.bl "range") p_int (p_callB (T.bl "len") bb_len s_len (a_cons (p_var (j := 0) rfl) a_nil))) (fun v_at => (p_cmp s_lt (p_ix (p_var (j := 0) rfl) (p_op s_sub (p_var (j := 1) rfl) p_int)) (p_ix (p_var (j := 0) rfl) (p_var (j := 1) rfl))))))) a_nil))
abbrev s_f_check_moves : Stmt := topS 35
theorem sc_f_check_moves : FnScope ["letters", "moves", "index", "line", "stand"] ["letters", "moves"] (defScope s_f_check_moves) := ⟨rfl, rfl, rfl, by decide +kernel, rfl, by decide +kernel, by decide +kernel⟩
theorem ok_f_check_moves {C : Kc} {mg : Str → Option Value} {base : Heap} {f : Addr} {fd : FuncData} (Fn : Fun C.K "check_moves" "check_moves" s_f_check_moves f fd) (T : Tx C mg) (g_MOST_STANDS : ∃ t, mg "MOST_STANDS" = some (.int 6 t)) (c_is_between : Cal C.P C.w C mg base 2 "is_between" (spF C (l3 f_is_between))) : FnOk C.P C.w C.K mg base CX0 3 f fd ["letters", "moves"] (spF C (l2 f_check_moves)) := by
  refine fx Fn sc_f_check_moves (fun _ _ h => l2_len h) (fun ds cdv A outer s H E hr => ar2 (S := fun ds => ⟨DL.start ["letters", "moves", "index", "line", "stand"] ds, none⟩) (fun v_letters v_moves => ?_) ds)
  refine k_ifr (t_w (w_or (t_not (t_val (x_isiB T (p_var (j := 1) rfl) bb_tuple))) (w_or1 (t_not (t_chain s_le s_le p_int (p_callB (T.bl "len") bb_len s_len (a_cons (p_var (j := 1) rfl) a_nil)) (x_MOST_STANDS g_MOST_STANDS)))))) ?_ ?_
  · exact k_raise
  refine k_for2 (T := Unit) (i := 2) (j := 3) (fun (s1 : Unit) => (⟨[some (.imm v_letters), some (.imm v_moves), none, none, none], none⟩ : DL.ST)) (i_enumT (T.bl "enumerate") (p_var (j := 1) rfl)) ⟨by repeat (first | exact DL.WkL.nil | refine DL.WkL.keep ?_ | refine DL.WkL.drop ?_), rfl⟩ (fun s1 v_index_2 v_line_3 => ?_) (fun s1 => ?_)
  · refine k_ifr (t_w (w_or (t_not (t_val (x_isiB T (p_var (j := 3) rfl) bb_tuple))) (w_or1 (t_cmp s_ne (p_callB (T.bl "len") bb_len s_len (a_cons (p_var (j := 3) rfl) a_nil)) (p_callB (T.bl "len") bb_len s_len (a_cons (p_var (j := 0) rfl) a_nil)))))) ?_ ?_
    · exact k_raise
    refine k_ifr (t_not (t_val (p_callB (T.bl "all") bb_all s_all (a_cons (p_do (o_lc (fun _ => blkOk_by (own := [("stand", 4)]) (by first | rfl | decide +kernel)) (lc_map (j := 4) (own := [("stand", 4)]) (i_val (p_var (j := 3) rfl)) (fun v_stand => (p_call c_is_between (a_cons (p_var (j := 4) rfl) (a_cons p_int (a_cons (p_op s_sub (p_callB (T.bl "len") bb_len s_len (a_cons (p_var (j := 1) rfl) a_nil)) p_int) a_nil)))))))) a_nil)))) ?_ ?_
    · exact k_raise
    exact k_nilB ⟨by repeat (first | exact DL.WkL.nil | refine DL.WkL.keep ?_ | refine DL.WkL.drop ?_), rfl⟩
  exact k_nilF
abbrev s_f_are_good : Stmt := topS 36
theorem sc_f_are_good : FnScope ["many", "good", "stand"] ["many", "good"] (defScope s_f_are_good) := ⟨rfl, rfl, rfl, by decide +kernel, rfl, by decide +kernel, by decide +kernel⟩
theorem ok_f_are_good {C : Kc} {mg : Str → Option Value} {base : Heap} {f : Addr} {fd : FuncData} (Fn : Fun C.K "are_good" "are_good" s_f_are_good f fd) (T : Tx C mg) (c_is_between : Cal C.P C.w C mg base 2 "is_between" (spF C (l3 f_is_between))) (c_is_in_order : Cal C.P C.w C mg base 1 "is_in_order" (spF C (l1 f_is_in_order))) : FnOk C.P C.w C.K mg base CX0 3 f fd ["many", "good"] (spF C (l2 f_are_good)) := by
  refine fx Fn sc_f_are_good (fun _ _ h => l2_len h) (fun ds cdv A outer s H E hr => ar2 (S := fun ds => ⟨DL.start ["many", "good", "stand"] ds, none⟩) (fun v_many v_good => ?_) ds)
  refine k_ifr (t_w (w_or (t_not (t_val (x_isiB T (p_var (j := 1) rfl) bb_tuple))) (w_or1 (t_not (t_val (p_callB (T.bl "all") bb_all s_all (a_cons (p_do (o_lc (fun _ => blkOk_by (own := [("stand", 2)]) (by first | rfl | decide +kernel)) (lc_map (j := 2) (own := [("stand", 2)]) (i_val (p_var (j := 1) rfl)) (fun v_stand => (p_call c_is_between (a_cons (p_var (j := 2) rfl) (a_cons p_int (a_cons (p_op s_sub (p_var (j := 0) rfl) p_int) a_nil)))))))) a_nil))))))) ?_ ?_
  · exact k_retA p_bl
  exact k_retA (p_call c_is_in_order (a_cons (p_var (j := 1) rfl) a_nil))
abbrev s_Watch_init : Stmt := inClass (topS 37) 0
theorem sc_Watch_init : FnScope ["self", "letters", "moves", "good"] ["self", "letters", "moves", "good"] (defScope s_Watch_init) := ⟨rfl, rfl, rfl, by decide +kernel, rfl, by decide +kernel, by decide +kernel⟩
theorem ok_Watch_init {C : Kc} {mg : Str → Option Value} {base : Heap} {f : Addr} {fd : FuncData} (Fn : Fun C.K "__init__" "Watch.__init__" s_Watch_init f fd) (T : Tx C mg) (g_MOST_CELLS : ∃ t, mg "MOST_CELLS" = some (.int 8 t)) (c_are_small : Cal C.P C.w C mg base 1 "are_small" (spF C (l3 f_are_small))) (c_is_in_order : Cal C.P C.w C mg base 1 "is_in_order" (spF C (l1 f_is_in_order))) (c_check_moves : Cal C.P C.w C mg base 3 "check_moves" (spF C (l2 f_check_moves))) (t_Fold_len : C.has 1 = true → Met C.P C.w C mg base 1 1 "__len__" (spF C (l1 Fold_len))) (t_Watch_len : C.has 4 = true → Met C.P C.w C mg base 1 4 "__len__" (spF C (l1 Watch_len))) (c_are_good : Cal C.P C.w C mg base 3 "are_good" (spF C (l2 f_are_good))) (h_Watch : C.has 4 = true) : FnOk C.P C.w C.K mg base CX0 4 f fd ["self", "letters", "moves", "good"] (spI C 4 fun ds fs => l3 Watch_init ds = .ok fs) := by
  refine fxI Fn sc_Watch_init (fun _ _ h => congrArg (· + 1) (l3_len h)) (fun ds b cdv A outer s H E hr => ar3 (S := fun ds => ⟨DL.startB ["self", "letters", "moves", "good"] ds, some (b, .ins 4 [])⟩) (fun v_letters v_moves v_good => ?_) ds)
  refine k_ifr (t_w (w_or (t_not (t_val (p_call c_are_small (a_cons (p_var (j := 1) rfl) (a_cons p_int (a_cons (x_MOST_CELLS g_MOST_CELLS) a_nil)))))) (w_or1 (t_not (t_val (p_call c_is_in_order (a_cons (p_var (j := 1) rfl) a_nil))))))) ?_ ?_
  · exact k_raise
  refine k_expr (p_call c_check_moves (a_cons (p_var (j := 1) rfl) (a_cons (p_var (j := 2) rfl) a_nil))) ?_
  refine k_ifr (t_not (t_val (p_call c_are_good (a_cons (p_callB (T.bl "len") bb_len (s_olen (lenF_lens t_Fold_len t_Watch_len)) (a_cons (p_var (j := 2) rfl) a_nil)) (a_cons (p_var (j := 3) rfl) a_nil))))) ?_ ?_
  · exact k_raise
  refine k_fld (j := 0) ((T.fl (cs := [4]) (f := "letters")) 4 (by decide) h_Watch) (p_var (j := 1) rfl) rfl rfl (fun f1 => ?_)
  refine k_fld (j := 0) ((T.fl (cs := [4]) (f := "moves")) 4 (by decide) h_Watch) (p_var (j := 2) rfl) rfl rfl (fun f2 => ?_)
  refine k_fld (j := 0) ((T.fl (cs := [4]) (f := "good")) 4 (by decide) h_Watch) (p_var (j := 3) rfl) rfl rfl (fun f3 => ?_)
  exact k_nilI rfl
abbrev s_f_law_led : Stmt := topS 67
theorem sc_f_law_led : FnScope ["_law_eye_here", "_law_stand", "_law_sign"] ["_law_eye_here", "_law_stand", "_law_sign"] (defScope s_f_law_led) := ⟨rfl, rfl, rfl, by decide +kernel, rfl, by decide +kernel, by decide +kernel⟩
theorem ok_f_law_led {C : Kc} {mg : Str → Option Value} {base : Heap} {f : Addr} {fd : FuncData} (Fn : Fun C.K "_law_led" "_law_led" s_f_law_led f fd) (T : Tx C mg)  : FnOk C.P C.w C.K mg base CX0 1 f fd ["_law_eye_here", "_law_stand", "_law_sign"] (spF C (l3 f_law_led)) := by
  refine fx Fn sc_f_law_led (fun _ _ h => l3_len h) (fun ds cdv A outer s H E hr => ar3 (S := fun ds => ⟨DL.start ["_law_eye_here", "_law_stand", "_law_sign"] ds, none⟩) (fun v_law_eye_here v_law_stand v_law_sign => ?_) ds)
  exact k_retA (p_ix (p_ix (p_ix (p_var (j := 0) rfl) p_int) (p_var (j := 1) rfl)) (p_sindex (p_ix (p_var (j := 0) rfl) p_int) (p_var (j := 2) rfl)))
abbrev s_f_law_graph : Stmt := topS 68
theorem sc_f_law_graph : FnScope ["_law_dough_here", "_law_paint", "_law_eye_here", "_law_found", "_law_k", "_law_run", "_law_stand", "_law_far"] ["_law_dough_here", "_law_paint", "_law_eye_here"] (defScope s_f_law_graph) := ⟨rfl, rfl, rfl, by decide +kernel, rfl, by decide +kernel, by decide +kernel⟩
theorem ok_f_law_graph {C : Kc} {mg : Str → Option Value} {base : Heap} {f : Addr} {fd : FuncData} (Fn : Fun C.K "_law_graph" "_law_graph" s_f_law_graph f fd) (T : Tx C mg) (t_Fold_len : C.has 1 = true → Met C.P C.w C mg base 1 1 "__len__" (spF C (l1 Fold_len))) (t_Watch_len : C.has 4 = true → Met C.P C.w C mg base 1 4 "__len__" (spF C (l1 Watch_len))) (c_law_led : Cal C.P C.w C mg base 1 "_law_led" (spF C (l3 f_law_led))) : FnOk C.P C.w C.K mg base CX0 3 f fd ["_law_dough_here", "_law_paint", "_law_eye_here"] (spF C (l3 f_law_graph)) := by
  refine fx Fn sc_f_law_graph (fun _ _ h => l3_len h) (fun ds cdv A outer s H E hr => ar3 (S := fun ds => ⟨DL.start ["_law_dough_here", "_law_paint", "_law_eye_here", "_law_found", "_law_k", "_law_run", "_law_stand", "_law_far"] ds, none⟩) (fun v_law_dough_here v_law_paint v_law_eye_here => ?_) ds)
  refine k_setN (j := 3) (fun v_law_found_1 => ?_)
  refine k_for1 (T := List (D × D)) (j := 4) (fun (s2 : List (D × D)) => (⟨[some (.imm v_law_dough_here), some (.imm v_law_paint), some (.imm v_law_eye_here), some (.own (.dic s2)), none, none, none, none], none⟩ : DL.ST)) (i_range1 (T.bl "range") (p_callB (T.bl "len") bb_len (s_olen (lenF_lens t_Fold_len t_Watch_len)) (a_cons (p_var (j := 0) rfl) a_nil))) ⟨by repeat (first | exact DL.WkL.nil | refine DL.WkL.keep ?_ | refine DL.WkL.drop ?_), rfl⟩ (fun s2 v_law_k_3 => ?_) (fun s2 => ?_)
  · refine k_set (j := 5) (p_do (o_listRg T (p_ixX (p_ixX (p_var (j := 0) rfl) (p_var (j := 4) rfl)) p_int) (p_op s_add (p_ixX (p_ixX (p_var (j := 0) rfl) (p_var (j := 4) rfl)) p_int) p_int))) (fun v_law_run_4 => ?_)
    refine k_for1 (T := List (D × D)) (j := 6) (fun (s5 : List (D × D)) => (⟨[some (.imm v_law_dough_here), some (.imm v_law_paint), some (.imm v_law_eye_here), some (.own (.dic s5)), some (.imm v_law_k_3), some (.imm v_law_run_4), none, none], none⟩ : DL.ST)) (i_range1 (T.bl "range") (p_callB (T.bl "len") bb_len (s_olen (lenF_lens t_Fold_len t_Watch_len)) (a_cons (p_ixX (p_var (j := 2) rfl) p_int) a_nil))) ⟨by repeat (first | exact DL.WkL.nil | refine DL.WkL.keep ?_ | refine DL.WkL.drop ?_), rfl⟩ (fun s5 v_law_stand_6 => ?_) (fun s5 => ?_)
    · refine k_ndSet (j := 3) (p_do (o_lc (fun _ => blkOk_by (own := [("_law_far", 7)]) (by first | rfl | decide +kernel)) (lc_map (j := 7) (own := [("_law_far", 7)]) (i_valX (p_var (j := 5) rfl)) (fun v_law_far => (p_tup (a_cons (p_var (j := 7) rfl) (a_cons (p_call c_law_led (a_cons (p_var (j := 2) rfl) (a_cons (p_var (j := 6) rfl) (a_cons (p_ixX (p_var (j := 1) rfl) (p_var (j := 7) rfl)) a_nil)))) a_nil))))))) rfl (p_tup (a_cons (p_var (j := 4) rfl) (a_cons (p_var (j := 6) rfl) a_nil))) (fun a7 k8 kd9 => ?_)
      exact k_nilB ⟨by repeat (first | exact DL.WkL.nil | refine DL.WkL.keep ?_ | refine DL.WkL.drop ?_), rfl⟩
    exact k_nilB ⟨by repeat (first | exact DL.WkL.nil | refine DL.WkL.keep ?_ | refine DL.WkL.drop ?_), rfl⟩
  refine k_fz (j := 3) rfl ?_
  exact k_retA (p_var (j := 3) rfl)
abbrev s_f_law_firsts : Stmt := topS 69
theorem sc_f_law_firsts : FnScope ["_law_paint", "_law_eye_here", "_law_k"] ["_law_paint", "_law_eye_here"] (defScope s_f_law_firsts) := ⟨rfl, rfl, rfl, by decide +kernel, rfl, by decide +kernel, by decide +kernel⟩
theorem ok_f_law_firsts {C : Kc} {mg : Str → Option Value} {base : Heap} {f : Addr} {fd : FuncData} (Fn : Fun C.K "_law_firsts" "_law_firsts" s_f_law_firsts f fd) (T : Tx C mg) (t_Fold_len : C.has 1 = true → Met C.P C.w C mg base 1 1 "__len__" (spF C (l1 Fold_len))) (t_Watch_len : C.has 4 = true → Met C.P C.w C mg base 1 4 "__len__" (spF C (l1 Watch_len))) (c_law_led : Cal C.P C.w C mg base 1 "_law_led" (spF C (l3 f_law_led))) : FnOk C.P C.w C.K mg base CX0 3 f fd ["_law_paint", "_law_eye_here"] (spF C (l2 f_law_firsts)) := by
  refine fx Fn sc_f_law_firsts (fun _ _ h => l2_len h) (fun ds cdv A outer s H E hr => ar2 (S := fun ds => ⟨DL.start ["_law_paint", "_law_eye_here", "_law_k"] ds, none⟩) (fun v_law_paint v_law_eye_here => ?_) ds)
  exact k_retA (p_do (o_lc (fun _ => blkOk_by (own := [("_law_k", 2)]) (by first | rfl | decide +kernel)) (lc_map (j := 2) (own := [("_law_k", 2)]) (i_range1 (T.bl "range") (p_callB (T.bl "len") bb_len (s_olen (lenF_lens t_Fold_len t_Watch_len)) (a_cons (p_var (j := 0) rfl) a_nil))) (fun v_law_k => (p_tup (a_cons (p_var (j := 2) rfl) (a_cons (p_call c_law_led (a_cons (p_var (j := 1) rfl) (a_cons p_int (a_cons (p_ix (p_var (j := 0) rfl) (p_var (j := 2) rfl)) a_nil)))) a_nil)))))))
abbrev s_f_law_due : Stmt := topS 70
theorem sc_f_law_due : FnScope ["_law_dough_here", "_law_paint", "_law_eye_here", "_law_number", "_law_graph_here", "_law_whole", "_law_worth", "_law_turn", "_law_later", "_law_pair", "_law_first", "_law_last", "_law_over", "_law_part", "_law_far"] ["_law_dough_here", "_law_paint", "_law_eye_here", "_law_number"] (defScope s_f_law_due) := ⟨rfl, rfl, rfl, by decide +kernel, rfl, by decide +kernel, by decide +kernel⟩
theorem ok_f_law_due {C : Kc} {mg : Str → Option Value} {base : Heap} {f : Addr} {fd : FuncData} (Fn : Fun C.K "_law_due" "_law_due" s_f_law_due f fd) (T : Tx C mg) (c_law_graph : Cal C.P C.w C mg base 3 "_law_graph" (spF C (l3 f_law_graph))) (c_law_firsts : Cal C.P C.w C mg base 3 "_law_firsts" (spF C (l2 f_law_firsts))) : FnOk C.P C.w C.K mg base CX0 4 f fd ["_law_dough_here", "_law_paint", "_law_eye_here", "_law_number"] (spF C (l4 f_law_due)) := by
  refine fx Fn sc_f_law_due (fun _ _ h => l4_len h) (fun ds cdv A outer s H E hr => ar4 (S := fun ds => ⟨DL.start ["_law_dough_here", "_law_paint", "_law_eye_here", "_law_number", "_law_graph_here", "_law_whole", "_law_worth", "_law_turn", "_law_later", "_law_pair", "_law_first", "_law_last", "_law_over", "_law_part", "_law_far"] ds, none⟩) (fun v_law_dough_here v_law_paint v_law_eye_here v_law_number => ?_) ds)
  first | refine k_par2 (i := 4) (j := 5) (v_e (p_call c_law_graph (a_cons (p_var (j := 0) rfl) (a_cons (p_var (j := 1) rfl) (a_cons (p_var (j := 2) rfl) a_nil))))) (v_e p_int) (fun v_law_graph_here_1 v_law_whole_2 => ?_) | refine k_parT2 (i := 4) (j := 5) (v_e (p_call c_law_graph (a_cons (p_var (j := 0) rfl) (a_cons (p_var (j := 1) rfl) (a_cons (p_var (j := 2) rfl) a_nil))))) (v_e p_int) (fun v_law_graph_here_1 v_law_whole_2 => ?_)
  refine k_set (j := 6) (p_callTy (T.bl "dict") bb_dict s_dict (a_cons (p_do (o_lc (fun _ => blkOk_by (own := [("_law_pair", 9)]) (by first | rfl | decide +kernel)) (lc_map (j := 9) (own := [("_law_pair", 9)]) (i_valX (p_var (j := 4) rfl)) (fun v_law_pair => (p_tup (a_cons (p_var (j := 9) rfl) (a_cons (p_callTy (T.bl "int") bb_int s_int (a_cons (p_cmp s_in (p_ixX (p_var (j := 9) rfl) p_int) (p_ixX (p_var (j := 2) rfl) p_int)) a_nil)) a_nil))))))) a_nil)) (fun v_law_worth_3 => ?_)
  refine k_for1 (T := D × D) (j := 7) (fun (s4 : D × D) => (⟨[some (.imm v_law_dough_here), some (.imm v_law_paint), some (.imm v_law_eye_here), some (.imm v_law_number), some (.imm v_law_graph_here_1), some (.imm s4.1), some (.imm s4.2), none, none, none, none, none, none, none, none], none⟩ : DL.ST)) (i_range1 (T.bl "range") (p_var (j := 3) rfl)) ⟨by repeat (first | exact DL.WkL.nil | refine DL.WkL.keep ?_ | refine DL.WkL.drop ?_), rfl⟩ (fun s4 v_law_turn_5 => ?_) (fun s4 => ?_)
  · first | refine k_par2 (i := 8) (j := 5) v_n (v_e (p_op s_mul (p_var (j := 5) rfl) p_int)) (fun v_law_later_6 v_law_whole_7 => ?_) | refine k_parT2 (i := 8) (j := 5) v_n (v_e (p_op s_mul (p_var (j := 5) rfl) p_int)) (fun v_law_later_6 v_law_whole_7 => ?_)
    refine k_for1 (T := List (D × D)) (j := 9) (fun (s8 : List (D × D)) => (⟨[some (.imm v_law_dough_here), some (.imm v_law_paint), some (.imm v_law_eye_here), some (.imm v_law_number), some (.imm v_law_graph_here_1), some (.imm v_law_whole_7), some (.imm s4.2), some (.imm v_law_turn_5), some (.own (.dic s8)), none, none, none, none, none, none], none⟩ : DL.ST)) (i_valX (p_var (j := 4) rfl)) ⟨by repeat (first | exact DL.WkL.nil | refine DL.WkL.keep ?_ | refine DL.WkL.drop ?_), rfl⟩ (fun s8 v_law_pair_9 => ?_) (fun s8 => ?_)
    · refine k_asg3 (i := 10) (j := 11) (l := 12) (p_ixX (p_var (j := 0) rfl) (p_ixX (p_var (j := 9) rfl) p_int)) (fun v_law_first_10 v_law_last_11 v_law_over_12 => ?_)
      refine k_set (j := 13) (p_ifx (t_cmp s_in (p_ixX (p_var (j := 9) rfl) p_int) (p_ixX (p_var (j := 2) rfl) p_int)) (p_op s_fdiv p_int (p_op s_add (p_op s_sub (p_var (j := 11) rfl) (p_var (j := 10) rfl)) p_int)) p_int) (fun v_law_part_13 => ?_)
      refine k_ndSet (j := 8) (p_op s_mul (p_var (j := 13) rfl) (p_callB (T.bl "sum") bb_sum s_sum (a_cons (p_do (o_lc (fun _ => blkOk_by (own := [("_law_far", 14)]) (by first | rfl | decide +kernel)) (lc_map (j := 14) (own := [("_law_far", 14)]) (i_valX (p_ixX (p_var (j := 4) rfl) (p_var (j := 9) rfl))) (fun v_law_far => (p_ixX (p_var (j := 6) rfl) (p_var (j := 14) rfl)))))) a_nil))) rfl (p_var (j := 9) rfl) (fun a14 k15 kd16 => ?_)
      exact k_nilB ⟨by repeat (first | exact DL.WkL.nil | refine DL.WkL.keep ?_ | refine DL.WkL.drop ?_), rfl⟩
    refine k_fz (j := 8) rfl ?_
    refine k_set (j := 6) (p_var (j := 8) rfl) (fun v_law_worth_17 => ?_)
    exact k_nilB ⟨by repeat (first | exact DL.WkL.nil | refine DL.WkL.keep ?_ | refine DL.WkL.drop ?_), rfl⟩
  exact k_retA (p_lst (a_cons (p_callB (T.bl "sum") bb_sum s_sum (a_cons (p_do (o_lc (fun _ => blkOk_by (own := [("_law_pair", 9)]) (by first | rfl | decide +kernel)) (lc_map (j := 9) (own := [("_law_pair", 9)]) (i_valX (p_call c_law_firsts (a_cons (p_var (j := 1) rfl) (a_cons (p_var (j := 2) rfl) a_nil)))) (fun v_law_pair => (p_ixX (p_var (j := 6) rfl) (p_var (j := 9) rfl)))))) a_nil)) (a_cons (p_var (j := 5) rfl) a_nil)))
abbrev s_f_check_fold : Stmt := topS 32
theorem sc_f_check_fold : FnScope ["fold"] ["fold"] (defScope s_f_check_fold) := ⟨rfl, rfl, rfl, by decide +kernel, rfl, by decide +kernel, by decide +kernel⟩
theorem ok_f_check_fold {C : Kc} {mg : Str → Option Value} {base : Heap} {f : Addr} {fd : FuncData} (Fn : Fun C.K "check_fold" "check_fold" s_f_check_fold f fd) (T : Tx C mg) (h_Fold : C.has 1 = true) : FnOk C.P C.w C.K mg base CX0 1 f fd ["fold"] (spF C (l1 f_check_fold)) := by
  refine fx Fn sc_f_check_fold (fun _ _ h => l1_len h) (fun ds cdv A outer s H E hr => ar1 (S := fun ds => ⟨DL.start ["fold"] ds, none⟩) (fun v_fold => ?_) ds)
  refine k_ifr (t_not (t_val (x_isiC T h_Fold (p_var (j := 0) rfl)))) ?_ ?_
  · exact k_raise
  exact k_nilF
abbrev s_f_check_colours : Stmt := topS 40
theorem sc_f_check_colours : FnScope ["fold", "colours"] ["fold", "colours"] (defScope s_f_check_colours) := ⟨rfl, rfl, rfl, by decide +kernel, rfl, by decide +kernel, by decide +kernel⟩
theorem ok_f_check_colours {C : Kc} {mg : Str → Option Value} {base : Heap} {f : Addr} {fd : FuncData} (Fn : Fun C.K "check_colours" "check_colours" s_f_check_colours f fd) (T : Tx C mg) (t_Fold_len : C.has 1 = true → Met C.P C.w C mg base 1 1 "__len__" (spF C (l1 Fold_len))) (t_Watch_len : C.has 4 = true → Met C.P C.w C mg base 1 4 "__len__" (spF C (l1 Watch_len))) (c_are_small : Cal C.P C.w C mg base 1 "are_small" (spF C (l3 f_are_small))) : FnOk C.P C.w C.K mg base CX0 3 f fd ["fold", "colours"] (spF C (l2 f_check_colours)) := by
  refine fx Fn sc_f_check_colours (fun _ _ h => l2_len h) (fun ds cdv A outer s H E hr => ar2 (S := fun ds => ⟨DL.start ["fold", "colours"] ds, none⟩) (fun v_fold v_colours => ?_) ds)
  refine k_ifr (t_not (t_val (p_call c_are_small (a_cons (p_var (j := 1) rfl) (a_cons (p_callB (T.bl "len") bb_len (s_olen (lenF_lens t_Fold_len t_Watch_len)) (a_cons (p_var (j := 0) rfl) a_nil)) (a_cons (p_callB (T.bl "len") bb_len (s_olen (lenF_lens t_Fold_len t_Watch_len)) (a_cons (p_var (j := 0) rfl) a_nil)) a_nil)))))) ?_ ?_
  · exact k_raise
  exact k_nilF
abbrev s_f_goes_with : Stmt := topS 41
theorem sc_f_goes_with : FnScope ["watch", "colours", "sign"] ["watch", "colours"] (defScope s_f_goes_with) := ⟨rfl, rfl, rfl, by decide +kernel, rfl, by decide +kernel, by decide +kernel⟩
theorem ok_f_goes_with {C : Kc} {mg : Str → Option Value} {base : Heap} {f : Addr} {fd : FuncData} (Fn : Fun C.K "goes_with" "goes_with" s_f_goes_with f fd) (T : Tx C mg)  : FnOk C.P C.w C.K mg base CX0 1 f fd ["watch", "colours"] (spF C (l2 f_goes_with)) := by
  refine fx Fn sc_f_goes_with (fun _ _ h => l2_len h) (fun ds cdv A outer s H E hr => ar2 (S := fun ds => ⟨DL.start ["watch", "colours", "sign"] ds, none⟩) (fun v_watch v_colours => ?_) ds)
  exact k_retA (p_callB (T.bl "all") bb_all s_all (a_cons (p_do (o_lc (fun _ => blkOk_by (own := [("sign", 2)]) (by first | rfl | decide +kernel)) (lc_map (j := 2) (own := [("sign", 2)]) (i_val (p_var (j := 1) rfl)) (fun v_sign => (p_cmp s_in (p_var (j := 2) rfl) (p_fld (cs := [4]) T.fl (p_var (j := 0) rfl))))))) a_nil))
abbrev s_f_check_watch : Stmt := topS 42
theorem sc_f_check_watch : FnScope ["colours", "watch"] ["colours", "watch"] (defScope s_f_check_watch) := ⟨rfl, rfl, rfl, by decide +kernel, rfl, by decide +kernel, by decide +kernel⟩
theorem ok_f_check_watch {C : Kc} {mg : Str → Option Value} {base : Heap} {f : Addr} {fd : FuncData} (Fn : Fun C.K "check_watch" "check_watch" s_f_check_watch f fd) (T : Tx C mg) (h_Watch : C.has 4 = true) (c_goes_with : Cal C.P C.w C mg base 1 "goes_with" (spF C (l2 f_goes_with))) : FnOk C.P C.w C.K mg base CX0 2 f fd ["colours", "watch"] (spF C (l2 f_check_watch)) := by
  refine fx Fn sc_f_check_watch (fun _ _ h => l2_len h) (fun ds cdv A outer s H E hr => ar2 (S := fun ds => ⟨DL.start ["colours", "watch"] ds, none⟩) (fun v_colours v_watch => ?_) ds)
  refine k_ifr (t_not (t_val (x_isiC T h_Watch (p_var (j := 1) rfl)))) ?_ ?_
  · exact k_raise
  refine k_ifr (t_not (t_val (p_call c_goes_with (a_cons (p_var (j := 1) rfl) (a_cons (p_var (j := 0) rfl) a_nil))))) ?_ ?_
  · exact k_raise
  exact k_nilF
abbrev s_f_check_asked : Stmt := topS 46
theorem sc_f_check_asked : FnScope ["fold", "colours", "watch"] ["fold", "colours", "watch"] (defScope s_f_check_asked) := ⟨rfl, rfl, rfl, by decide +kernel, rfl, by decide +kernel, by decide +kernel⟩
theorem ok_f_check_asked {C : Kc} {mg : Str → Option Value} {base : Heap} {f : Addr} {fd : FuncData} (Fn : Fun C.K "check_asked" "check_asked" s_f_check_asked f fd) (T : Tx C mg) (c_check_fold : Cal C.P C.w C mg base 1 "check_fold" (spF C (l1 f_check_fold))) (c_check_colours : Cal C.P C.w C mg base 3 "check_colours" (spF C (l2 f_check_colours))) (c_check_watch : Cal C.P C.w C mg base 2 "check_watch" (spF C (l2 f_check_watch))) : FnOk C.P C.w C.K mg base CX0 4 f fd ["fold", "colours", "watch"] (spF C (l3 f_check_asked)) := by
  refine fx Fn sc_f_check_asked (fun _ _ h => l3_len h) (fun ds cdv A outer s H E hr => ar3 (S := fun ds => ⟨DL.start ["fold", "colours", "watch"] ds, none⟩) (fun v_fold v_colours v_watch => ?_) ds)
  refine k_expr (p_call c_check_fold (a_cons (p_var (j := 0) rfl) a_nil)) ?_
  refine k_expr (p_call c_check_colours (a_cons (p_var (j := 0) rfl) (a_cons (p_var (j := 1) rfl) a_nil))) ?_
  refine k_expr (p_call c_check_watch (a_cons (p_var (j := 1) rfl) (a_cons (p_var (j := 2) rfl) a_nil))) ?_
  exact k_nilF
abbrev s_f_factor_of : Stmt := topS 31
theorem sc_f_factor_of : FnScope ["fold", "cell"] ["fold", "cell"] (defScope s_f_factor_of) := ⟨rfl, rfl, rfl, by decide +kernel, rfl, by decide +kernel, by decide +kernel⟩
theorem ok_f_factor_of {C : Kc} {mg : Str → Option Value} {base : Heap} {f : Addr} {fd : FuncData} (Fn : Fun C.K "factor_of" "factor_of" s_f_factor_of f fd) (T : Tx C mg)  : FnOk C.P C.w C.K mg base CX0 1 f fd ["fold", "cell"] (spF C (l2 f_factor_of)) := by
  refine fx Fn sc_f_factor_of (fun _ _ h => l2_len h) (fun ds cdv A outer s H E hr => ar2 (S := fun ds => ⟨DL.start ["fold", "cell"] ds, none⟩) (fun v_fold v_cell => ?_) ds)
  exact k_retA (p_op s_add (p_op s_sub (p_ix (p_ix (p_fld (cs := [1, 5]) T.fl (p_var (j := 0) rfl)) (p_var (j := 1) rfl)) p_int) (p_ix (p_ix (p_fld (cs := [1, 5]) T.fl (p_var (j := 0) rfl)) (p_var (j := 1) rfl)) p_int)) p_int)
abbrev s_f_shared_factor : Stmt := topS 49
theorem sc_f_shared_factor : FnScope ["one", "two", "high", "low"] ["one", "two"] (defScope s_f_shared_factor) := ⟨rfl, rfl, rfl, by decide +kernel, rfl, by decide +kernel, by decide +kernel⟩
theorem ok_f_shared_factor {C : Kc} {mg : Str → Option Value} {base : Heap} {f : Addr} {fd : FuncData} (Fn : Fun C.K "shared_factor" "shared_factor" s_f_shared_factor f fd) (T : Tx C mg)  : FnOk C.P C.w C.K mg base CX0 1 f fd ["one", "two"] (spF C (l2 f_shared_factor)) := by
  refine fx Fn sc_f_shared_factor (fun _ _ h => l2_len h) (fun ds cdv A outer s H E hr => ar2 (S := fun ds => ⟨DL.start ["one", "two", "high", "low"] ds, none⟩) (fun v_one v_two => ?_) ds)
  first | refine k_par2 (i := 2) (j := 3) (v_e (p_callB (T.bl "abs") bb_abs s_abs (a_cons (p_var (j := 0) rfl) a_nil))) (v_e (p_callB (T.bl "abs") bb_abs s_abs (a_cons (p_var (j := 1) rfl) a_nil))) (fun v_high_1 v_low_2 => ?_) | refine k_parT2 (i := 2) (j := 3) (v_e (p_callB (T.bl "abs") bb_abs s_abs (a_cons (p_var (j := 0) rfl) a_nil))) (v_e (p_callB (T.bl "abs") bb_abs s_abs (a_cons (p_var (j := 1) rfl) a_nil))) (fun v_high_1 v_low_2 => ?_)
  refine k_while (T := D × D) (fun (s3 : D × D) => (⟨[some (.imm v_one), some (.imm v_two), some (.imm s3.1), some (.imm s3.2)], none⟩ : DL.ST)) (natOf (v_two) + 1) ⟨by repeat (first | exact DL.WkL.nil | refine DL.WkL.keep ?_ | refine DL.WkL.drop ?_), rfl⟩ (fun s3 => (t_cmp s_gt (p_var (j := 3) rfl) p_int)) (fun s3 => ?_) (fun s3 => ?_)
  · first | refine k_par2 (i := 2) (j := 3) (v_e (p_var (j := 3) rfl)) (v_e (p_op s_mod (p_var (j := 2) rfl) (p_var (j := 3) rfl))) (fun v_high_4 v_low_5 => ?_) | refine k_parT2 (i := 2) (j := 3) (v_e (p_var (j := 3) rfl)) (v_e (p_op s_mod (p_var (j := 2) rfl) (p_var (j := 3) rfl))) (fun v_high_4 v_low_5 => ?_)
    exact k_nilB ⟨by repeat (first | exact DL.WkL.nil | refine DL.WkL.keep ?_ | refine DL.WkL.drop ?_), rfl⟩
  exact k_retA (p_var (j := 2) rfl)
abbrev s_f_common_multiple : Stmt := topS 56
theorem sc_f_common_multiple : FnScope ["numbers", "found", "number"] ["numbers"] (defScope s_f_common_multiple) := ⟨rfl, rfl, rfl, by decide +kernel, rfl, by decide +kernel, by decide +kernel⟩
theorem ok_f_common_multiple {C : Kc} {mg : Str → Option Value} {base : Heap} {f : Addr} {fd : FuncData} (Fn : Fun C.K "common_multiple" "common_multiple" s_f_common_multiple f fd) (T : Tx C mg) (c_shared_factor : Cal C.P C.w C mg base 1 "shared_factor" (spF C (l2 f_shared_factor))) : FnOk C.P C.w C.K mg base CX0 2 f fd ["numbers"] (spF C (l1 f_common_multiple)) := by
  refine fx Fn sc_f_common_multiple (fun _ _ h => l1_len h) (fun ds cdv A outer s H E hr => ar1 (S := fun ds => ⟨DL.start ["numbers", "found", "number"] ds, none⟩) (fun v_numbers => ?_) ds)
  refine k_set (j := 1) p_int (fun v_found_1 => ?_)
  refine k_for1 (T := D) (j := 2) (fun (s2 : D) => (⟨[some (.imm v_numbers), some (.imm s2), none], none⟩ : DL.ST)) (i_val (p_var (j := 0) rfl)) ⟨by repeat (first | exact DL.WkL.nil | refine DL.WkL.keep ?_ | refine DL.WkL.drop ?_), rfl⟩ (fun s2 v_number_3 => ?_) (fun s2 => ?_)
  · refine k_set (j := 1) (p_op s_fdiv (p_op s_mul (p_var (j := 1) rfl) (p_var (j := 2) rfl)) (p_call c_shared_factor (a_cons (p_var (j := 1) rfl) (a_cons (p_var (j := 2) rfl) a_nil)))) (fun v_found_4 => ?_)
    exact k_nilB ⟨by repeat (first | exact DL.WkL.nil | refine DL.WkL.keep ?_ | refine DL.WkL.drop ?_), rfl⟩
  exact k_retA (p_var (j := 1) rfl)
abbrev s_f_stand_behind : Stmt := topS 39
theorem sc_f_stand_behind : FnScope ["watch", "stand", "sign"] ["watch", "stand", "sign"] (defScope s_f_stand_behind) := ⟨rfl, rfl, rfl, by decide +kernel, rfl, by decide +kernel, by decide +kernel⟩
theorem ok_f_stand_behind {C : Kc} {mg : Str → Option Value} {base : Heap} {f : Addr} {fd : FuncData} (Fn : Fun C.K "stand_behind" "stand_behind" s_f_stand_behind f fd) (T : Tx C mg)  : FnOk C.P C.w C.K mg base CX0 1 f fd ["watch", "stand", "sign"] (spF C (l3 f_stand_behind)) := by
  refine fx Fn sc_f_stand_behind (fun _ _ h => l3_len h) (fun ds cdv A outer s H E hr => ar3 (S := fun ds => ⟨DL.start ["watch", "stand", "sign"] ds, none⟩) (fun v_watch v_stand v_sign => ?_) ds)
  exact k_retA (p_ix (p_ix (p_fld (cs := [4]) T.fl (p_var (j := 0) rfl)) (p_var (j := 1) rfl)) (p_sindex (p_fld (cs := [4]) T.fl (p_var (j := 0) rfl)) (p_var (j := 2) rfl)))
abbrev s_f_first_nodes : Stmt := topS 44
theorem sc_f_first_nodes : FnScope ["fold", "colours", "watch", "cell"] ["fold", "colours", "watch"] (defScope s_f_first_nodes) := ⟨rfl, rfl, rfl, by decide +kernel, rfl, by decide +kernel, by decide +kernel⟩
theorem ok_f_first_nodes {C : Kc} {mg : Str → Option Value} {base : Heap} {f : Addr} {fd : FuncData} (Fn : Fun C.K "first_nodes" "first_nodes" s_f_first_nodes f fd) (T : Tx C mg) (t_Fold_len : C.has 1 = true → Met C.P C.w C mg base 1 1 "__len__" (spF C (l1 Fold_len))) (t_Watch_len : C.has 4 = true → Met C.P C.w C mg base 1 4 "__len__" (spF C (l1 Watch_len))) (c_stand_behind : Cal C.P C.w C mg base 1 "stand_behind" (spF C (l3 f_stand_behind))) : FnOk C.P C.w C.K mg base CX0 3 f fd ["fold", "colours", "watch"] (spF C (l3 f_first_nodes)) := by
  refine fx Fn sc_f_first_nodes (fun _ _ h => l3_len h) (fun ds cdv A outer s H E hr => ar3 (S := fun ds => ⟨DL.start ["fold", "colours", "watch", "cell"] ds, none⟩) (fun v_fold v_colours v_watch => ?_) ds)
  exact k_retA (p_do (o_lc (fun _ => blkOk_by (own := [("cell", 3)]) (by first | rfl | decide +kernel)) (lc_map (j := 3) (own := [("cell", 3)]) (i_range1 (T.bl "range") (p_callB (T.bl "len") bb_len (s_olen (lenF_lens t_Fold_len t_Watch_len)) (a_cons (p_var (j := 0) rfl) a_nil))) (fun v_cell => (p_tup (a_cons (p_var (j := 3) rfl) (a_cons (p_call c_stand_behind (a_cons (p_var (j := 2) rfl) (a_cons p_int (a_cons (p_ix (p_var (j := 1) rfl) (p_var (j := 3) rfl)) a_nil)))) a_nil)))))))
abbrev s_f_run_of : Stmt := topS 30
theorem sc_f_run_of : FnScope ["fold", "cell"] ["fold", "cell"] (defScope s_f_run_of) := ⟨rfl, rfl, rfl, by decide +kernel, rfl, by decide +kernel, by decide +kernel⟩
theorem ok_f_run_of {C : Kc} {mg : Str → Option Value} {base : Heap} {f : Addr} {fd : FuncData} (Fn : Fun C.K "run_of" "run_of" s_f_run_of f fd) (T : Tx C mg)  : FnOk C.P C.w C.K mg base CX0 1 f fd ["fold", "cell"] (spFN C (l2 f_run_of)) := by
  refine fxN Fn sc_f_run_of (fun _ _ h => l2_len h) (fun ds cdv A outer s H E hr => ar2 (S := fun ds => ⟨DL.start ["fold", "cell"] ds, none⟩) (fun v_fold v_cell => ?_) ds)
  exact k_retN (o_listRg T (p_ix (p_ix (p_fld (cs := [1, 5]) T.fl (p_var (j := 0) rfl)) (p_var (j := 1) rfl)) p_int) (p_op s_add (p_ix (p_ix (p_fld (cs := [1, 5]) T.fl (p_var (j := 0) rfl)) (p_var (j := 1) rfl)) p_int) p_int))
abbrev s_f_nodes_behind : Stmt := topS 45
theorem sc_f_nodes_behind : FnScope ["fold", "colours", "watch", "node", "cell"] ["fold", "colours", "watch", "node"] (defScope s_f_nodes_behind) := ⟨rfl, rfl, rfl, by decide +kernel, rfl, by decide +kernel, by decide +kernel⟩
theorem ok_f_nodes_behind {C : Kc} {mg : Str → Option Value} {base : Heap} {f : Addr} {fd : FuncData} (Fn : Fun C.K "nodes_behind" "nodes_behind" s_f_nodes_behind f fd) (T : Tx C mg) (c_run_of : Cal C.P C.w C mg base 1 "run_of" (spFN C (l2 f_run_of))) (c_stand_behind : Cal C.P C.w C mg base 1 "stand_behind" (spF C (l3 f_stand_behind))) : FnOk C.P C.w C.K mg base CX0 2 f fd ["fold", "colours", "watch", "node"] (spF C (l4 f_nodes_behind)) := by
  refine fx Fn sc_f_nodes_behind (fun _ _ h => l4_len h) (fun ds cdv A outer s H E hr => ar4 (S := fun ds => ⟨DL.start ["fold", "colours", "watch", "node", "cell"] ds, none⟩) (fun v_fold v_colours v_watch v_node => ?_) ds)
  exact k_retA (p_do (o_lc (fun _ => blkOk_by (own := [("cell", 4)]) (by first | rfl | decide +kernel)) (lc_map (j := 4) (own := [("cell", 4)]) (i_val (p_do (o_call c_run_of (a_cons (p_var (j := 0) rfl) (a_cons (p_ix (p_var (j := 3) rfl) p_int) a_nil))))) (fun v_cell => (p_tup (a_cons (p_var (j := 4) rfl) (a_cons (p_call c_stand_behind (a_cons (p_var (j := 2) rfl) (a_cons (p_ix (p_var (j := 3) rfl) p_int) (a_cons (p_ix (p_var (j := 1) rfl) (p_var (j := 4) rfl)) a_nil)))) a_nil)))))))
abbrev s_Ratio_init : Stmt := inClass (topS 54) 0
theorem sc_Ratio_init : FnScope ["self", "top", "bottom", "factor"] ["self", "top", "bottom"] (defScope s_Ratio_init) := ⟨rfl, rfl, rfl, by decide +kernel, rfl, by decide +kernel, by decide +kernel⟩
theorem ok_Ratio_init {C : Kc} {mg : Str → Option Value} {base : Heap} {f : Addr} {fd : FuncData} {dvs : List V} {kws : List (Str × V)} (Fn : FunD C.K "__init__" "Ratio.__init__" (defArgs s_Ratio_init) (defBody s_Ratio_init) (defScope s_Ratio_init) dvs kws f fd) (T : Tx C mg) (c_is_integer : Cal C.P C.w C mg base 1 "is_integer" (spF C (l1 f_is_integer))) (c_shared_factor : Cal C.P C.w C mg base 1 "shared_factor" (spF C (l2 f_shared_factor))) (h_Ratio : C.has 0 = true) : FnOk C.P C.w C.K mg base CX0 2 f fd ["self", "top", "bottom"] (spI C 0 fun ds fs => l2 Ratio_init ds = .ok fs) := by
  refine fxID Fn sc_Ratio_init (fun _ _ h => congrArg (· + 1) (l2_len h)) (fun ds b cdv A outer s H E hr => ar2 (S := fun ds => ⟨DL.startB ["self", "top", "bottom", "factor"] ds, some (b, .ins 0 [])⟩) (fun v_top v_bottom => ?_) ds)
  refine k_ifr (t_not (t_val (p_call c_is_integer (a_cons (p_var (j := 1) rfl) a_nil)))) ?_ ?_
  · exact k_raise
  refine k_ifr (t_w (w_or (t_not (t_val (p_call c_is_integer (a_cons (p_var (j := 2) rfl) a_nil)))) (w_or1 (t_cmp s_lt (p_var (j := 2) rfl) p_int)))) ?_ ?_
  · exact k_raise
  refine k_set (j := 3) (p_call c_shared_factor (a_cons (p_var (j := 1) rfl) (a_cons (p_var (j := 2) rfl) a_nil))) (fun v_factor_1 => ?_)
  refine k_fld (j := 0) ((T.fl (cs := [0]) (f := "top")) 0 (by decide) h_Ratio) (p_op s_fdiv (p_var (j := 1) rfl) (p_var (j := 3) rfl)) rfl rfl (fun f2 => ?_)
  refine k_fld (j := 0) ((T.fl (cs := [0]) (f := "bottom")) 0 (by decide) h_Ratio) (p_op s_fdiv (p_var (j := 2) rfl) (p_var (j := 3) rfl)) rfl rfl (fun f3 => ?_)
  exact k_nilI rfl
abbrev s_f_staying_length : Stmt := topS 57
theorem sc_f_staying_length : FnScope ["fold", "colours", "watch", "turns", "by", "here", "whole", "node", "turn", "later", "amount", "share", "beyond", "cell"] ["fold", "colours", "watch", "turns"] (defScope s_f_staying_length) := ⟨rfl, rfl, rfl, by decide +kernel, rfl, by decide +kernel, by decide +kernel⟩
theorem ok_f_staying_length {C : Kc} {mg : Str → Option Value} {base : Heap} {f : Addr} {fd : FuncData} (Fn : Fun C.K "staying_length" "staying_length" s_f_staying_length f fd) (T : Tx C mg) (c_check_asked : Cal C.P C.w C mg base 4 "check_asked" (spF C (l3 f_check_asked))) (g_MOST_ROW : ∃ t, mg "MOST_ROW" = some (.int 200 t)) (c_is_between : Cal C.P C.w C mg base 2 "is_between" (spF C (l3 f_is_between))) (t_Fold_len : C.has 1 = true → Met C.P C.w C mg base 1 1 "__len__" (spF C (l1 Fold_len))) (t_Watch_len : C.has 4 = true → Met C.P C.w C mg base 1 4 "__len__" (spF C (l1 Watch_len))) (c_factor_of : Cal C.P C.w C mg base 1 "factor_of" (spF C (l2 f_factor_of))) (c_common_multiple : Cal C.P C.w C mg base 2 "common_multiple" (spF C (l1 f_common_multiple))) (c_first_nodes : Cal C.P C.w C mg base 3 "first_nodes" (spF C (l3 f_first_nodes))) (c_nodes_behind : Cal C.P C.w C mg base 2 "nodes_behind" (spF C (l4 f_nodes_behind))) (m_Ratio_2 : Mak C.P C.w C mg base 2 "Ratio" 0 (fun ds fs => l2 Ratio_init ds = .ok fs) []) : FnOk C.P C.w C.K mg base CX0 5 f fd ["fold", "colours", "watch", "turns"] (spF C (l4 f_staying_length)) := by
  refine fx Fn sc_f_staying_length (fun _ _ h => l4_len h) (fun ds cdv A outer s H E hr => ar4 (S := fun ds => ⟨DL.start ["fold", "colours", "watch", "turns", "by", "here", "whole", "node", "turn", "later", "amount", "share", "beyond", "cell"] ds, none⟩) (fun v_fold v_colours v_watch v_turns => ?_) ds)
  refine k_expr (p_call c_check_asked (a_cons (p_var (j := 0) rfl) (a_cons (p_var (j := 1) rfl) (a_cons (p_var (j := 2) rfl) a_nil)))) ?_
  refine k_ifr (t_not (t_val (p_call c_is_between (a_cons (p_var (j := 3) rfl) (a_cons p_int (a_cons (x_MOST_ROW g_MOST_ROW) a_nil)))))) ?_ ?_
  · exact k_raise
  refine k_set (j := 4) (p_call c_common_multiple (a_cons (p_do (o_lc (fun _ => blkOk_by (own := [("cell", 13)]) (by first | rfl | decide +kernel)) (lc_map (j := 13) (own := [("cell", 13)]) (i_range1 (T.bl "range") (p_callB (T.bl "len") bb_len (s_olen (lenF_lens t_Fold_len t_Watch_len)) (a_cons (p_var (j := 0) rfl) a_nil))) (fun v_cell => (p_call c_factor_of (a_cons (p_var (j := 0) rfl) (a_cons (p_var (j := 13) rfl) a_nil))))))) a_nil)) (fun v_by_1 => ?_)
  first | refine k_par2 (i := 5) (j := 6) v_n (v_e p_int) (fun v_here_2 v_whole_3 => ?_) | refine k_parT2 (i := 5) (j := 6) v_n (v_e p_int) (fun v_here_2 v_whole_3 => ?_)
  refine k_for1 (T := List (D × D)) (j := 7) (fun (s4 : List (D × D)) => (⟨[some (.imm v_fold), some (.imm v_colours), some (.imm v_watch), some (.imm v_turns), some (.imm v_by_1), some (.own (.dic s4)), some (.imm v_whole_3), none, none, none, none, none, none, none], none⟩ : DL.ST)) (i_val (p_call c_first_nodes (a_cons (p_var (j := 0) rfl) (a_cons (p_var (j := 1) rfl) (a_cons (p_var (j := 2) rfl) a_nil))))) ⟨by repeat (first | exact DL.WkL.nil | refine DL.WkL.keep ?_ | refine DL.WkL.drop ?_), rfl⟩ (fun s4 v_node_5 => ?_) (fun s4 => ?_)
  · refine k_ifj (T := List (D × D)) (fun j9 => (⟨[some (.imm v_fold), some (.imm v_colours), some (.imm v_watch), some (.imm v_turns), some (.imm v_by_1), some (.own (.dic j9)), some (.imm v_whole_3), some (.imm v_node_5), none, none, none, none, none, none], none⟩ : DL.ST)) (t_cmp s_in (p_ix (p_var (j := 7) rfl) p_int) (p_fld (cs := [4]) T.fl (p_var (j := 2) rfl))) ?_ ?_ (fun j9 => ?_)
    · refine k_ndSet (j := 5) p_int rfl (p_var (j := 7) rfl) (fun a6 k7 kd8 => ?_)
      exact k_nilJ ⟨by repeat (first | exact DL.WkL.nil | refine DL.WkL.keep ?_ | refine DL.WkL.drop ?_), rfl⟩
    · exact k_nilJ ⟨by repeat (first | exact DL.WkL.nil | refine DL.WkL.keep ?_ | refine DL.WkL.drop ?_), rfl⟩
    exact k_nilB ⟨by repeat (first | exact DL.WkL.nil | refine DL.WkL.keep ?_ | refine DL.WkL.drop ?_), rfl⟩
  refine k_fz (j := 5) rfl ?_
  refine k_for1 (T := D × D) (j := 8) (fun (s10 : D × D) => (⟨[some (.imm v_fold), some (.imm v_colours), some (.imm v_watch), some (.imm v_turns), some (.imm v_by_1), some (.imm s10.1), some (.imm s10.2), none, none, none, none, none, none, none], none⟩ : DL.ST)) (i_range1 (T.bl "range") (p_var (j := 3) rfl)) ⟨by repeat (first | exact DL.WkL.nil | refine DL.WkL.keep ?_ | refine DL.WkL.drop ?_), rfl⟩ (fun s10 v_turn_11 => ?_) (fun s10 => ?_)
  · refine k_setN (j := 9) (fun v_later_12 => ?_)
    refine k_for2 (T := List (D × D)) (i := 7) (j := 10) (fun (s13 : List (D × D)) => (⟨[some (.imm v_fold), some (.imm v_colours), some (.imm v_watch), some (.imm v_turns), some (.imm v_by_1), some (.imm s10.1), some (.imm s10.2), none, some (.imm v_turn_11), some (.own (.dic s13)), none, none, none, none], none⟩ : DL.ST)) (i_items (p_var (j := 5) rfl)) ⟨by repeat (first | exact DL.WkL.nil | refine DL.WkL.keep ?_ | refine DL.WkL.drop ?_), rfl⟩ (fun s13 v_node_14 v_amount_15 => ?_) (fun s13 => ?_)
    · refine k_set (j := 11) (p_op s_mul (p_var (j := 10) rfl) (p_op s_fdiv (p_var (j := 4) rfl) (p_call c_factor_of (a_cons (p_var (j := 0) rfl) (a_cons (p_ix (p_var (j := 7) rfl) p_int) a_nil))))) (fun v_share_16 => ?_)
      refine k_for1 (T := List (D × D)) (j := 12) (fun (s17 : List (D × D)) => (⟨[some (.imm v_fold), some (.imm v_colours), some (.imm v_watch), some (.imm v_turns), some (.imm v_by_1), some (.imm s10.1), some (.imm s10.2), some (.imm v_node_14), some (.imm v_turn_11), some (.own (.dic s17)), some (.imm v_amount_15), some (.imm v_share_16), none, none], none⟩ : DL.ST)) (i_val (p_call c_nodes_behind (a_cons (p_var (j := 0) rfl) (a_cons (p_var (j := 1) rfl) (a_cons (p_var (j := 2) rfl) (a_cons (p_var (j := 7) rfl) a_nil)))))) ⟨by repeat (first | exact DL.WkL.nil | refine DL.WkL.keep ?_ | refine DL.WkL.drop ?_), rfl⟩ (fun s17 v_beyond_18 => ?_) (fun s17 => ?_)
      · refine k_ifj (T := List (D × D)) (fun j22 => (⟨[some (.imm v_fold), some (.imm v_colours), some (.imm v_watch), some (.imm v_turns), some (.imm v_by_1), some (.imm s10.1), some (.imm s10.2), some (.imm v_node_14), some (.imm v_turn_11), some (.own (.dic j22)), some (.imm v_amount_15), some (.imm v_share_16), some (.imm v_beyond_18), none], none⟩ : DL.ST)) (t_cmp s_in (p_ix (p_var (j := 12) rfl) p_int) (p_fld (cs := [4]) T.fl (p_var (j := 2) rfl))) ?_ ?_ (fun j22 => ?_)
        · refine k_ndSet (j := 9) (p_bor (p_op s_add (p_get (p_var (j := 9) rfl) (a_cons (p_var (j := 12) rfl) (a_cons p_int a_nil))) (p_var (j := 11) rfl))) rfl (p_var (j := 12) rfl) (fun a19 k20 kd21 => ?_)
          exact k_nilJ ⟨by repeat (first | exact DL.WkL.nil | refine DL.WkL.keep ?_ | refine DL.WkL.drop ?_), rfl⟩
        · exact k_nilJ ⟨by repeat (first | exact DL.WkL.nil | refine DL.WkL.keep ?_ | refine DL.WkL.drop ?_), rfl⟩
        exact k_nilB ⟨by repeat (first | exact DL.WkL.nil | refine DL.WkL.keep ?_ | refine DL.WkL.drop ?_), rfl⟩
      exact k_nilB ⟨by repeat (first | exact DL.WkL.nil | refine DL.WkL.keep ?_ | refine DL.WkL.drop ?_), rfl⟩
    refine k_fz (j := 9) rfl ?_
    first | refine k_par2 (i := 5) (j := 6) (v_e (p_var (j := 9) rfl)) (v_e (p_op s_mul (p_var (j := 6) rfl) (p_var (j := 4) rfl))) (fun v_here_23 v_whole_24 => ?_) | refine k_parT2 (i := 5) (j := 6) (v_e (p_var (j := 9) rfl)) (v_e (p_op s_mul (p_var (j := 6) rfl) (p_var (j := 4) rfl))) (fun v_here_23 v_whole_24 => ?_)
    exact k_nilB ⟨by repeat (first | exact DL.WkL.nil | refine DL.WkL.keep ?_ | refine DL.WkL.drop ?_), rfl⟩
  exact k_retA (p_make m_Ratio_2 (a_cons (p_sumV (T.bl "sum") (p_var (j := 5) rfl)) (a_cons (p_var (j := 6) rfl) a_nil)))
abbrev s_f_is_fraction : Stmt := topS 50
theorem sc_f_is_fraction : FnScope ["value"] ["value"] (defScope s_f_is_fraction) := ⟨rfl, rfl, rfl, by decide +kernel, rfl, by decide +kernel, by decide +kernel⟩
theorem ok_f_is_fraction {C : Kc} {mg : Str → Option Value} {base : Heap} {f : Addr} {fd : FuncData} (Fn : Fun C.K "is_fraction" "is_fraction" s_f_is_fraction f fd) (T : Tx C mg) (c_is_integer : Cal C.P C.w C mg base 1 "is_integer" (spF C (l1 f_is_integer))) (h_Ratio : C.has 0 = true) : FnOk C.P C.w C.K mg base CX0 2 f fd ["value"] (spF C (l1 f_is_fraction)) := by
  refine fx Fn sc_f_is_fraction (fun _ _ h => l1_len h) (fun ds cdv A outer s H E hr => ar1 (S := fun ds => ⟨DL.start ["value"] ds, none⟩) (fun v_value => ?_) ds)
  exact k_retA (p_or (p_call c_is_integer (a_cons (p_var (j := 0) rfl) a_nil)) (p_one (x_isiC T h_Ratio (p_var (j := 0) rfl))))
abbrev s_f_as_ratio : Stmt := topS 51
theorem sc_f_as_ratio : FnScope ["value"] ["value"] (defScope s_f_as_ratio) := ⟨rfl, rfl, rfl, by decide +kernel, rfl, by decide +kernel, by decide +kernel⟩
theorem ok_f_as_ratio {C : Kc} {mg : Str → Option Value} {base : Heap} {f : Addr} {fd : FuncData} (Fn : Fun C.K "as_ratio" "as_ratio" s_f_as_ratio f fd) (T : Tx C mg) (h_Ratio : C.has 0 = true) (m_Ratio_1 : Mak C.P C.w C mg base 2 "Ratio" 0 (fun ds fs => l2 Ratio_init ds = .ok fs) [.int 1]) : FnOk C.P C.w C.K mg base CX0 4 f fd ["value"] (spF C (l1 f_as_ratio)) := by
  refine fx Fn sc_f_as_ratio (fun _ _ h => l1_len h) (fun ds cdv A outer s H E hr => ar1 (S := fun ds => ⟨DL.start ["value"] ds, none⟩) (fun v_value => ?_) ds)
  exact k_retA (p_ifx (t_val (x_isiC T h_Ratio (p_var (j := 0) rfl))) (p_var (j := 0) rfl) (p_make m_Ratio_1 (a_cons (p_var (j := 0) rfl) a_nil)))
abbrev s_Ratio_eq : Stmt := inClass (topS 54) 10
theorem sc_Ratio_eq : FnScope ["self", "other", "by"] ["self", "other"] (defScope s_Ratio_eq) := ⟨rfl, rfl, rfl, by decide +kernel, rfl, by decide +kernel, by decide +kernel⟩
theorem ok_Ratio_eq {C : Kc} {mg : Str → Option Value} {base : Heap} {f : Addr} {fd : FuncData} (Fn : Fun C.K "__eq__" "Ratio.__eq__" s_Ratio_eq f fd) (T : Tx C mg) (c_is_fraction : Cal C.P C.w C mg base 2 "is_fraction" (spF C (l1 f_is_fraction))) (c_as_ratio : Cal C.P C.w C mg base 4 "as_ratio" (spF C (l1 f_as_ratio))) : FnOk C.P C.w C.K mg base CX0 5 f fd ["self", "other"] (spF C (l2 Ratio_eq)) := by
  refine fx Fn sc_Ratio_eq (fun _ _ h => l2_len h) (fun ds cdv A outer s H E hr => ar2 (S := fun ds => ⟨DL.start ["self", "other", "by"] ds, none⟩) (fun v_self v_other => ?_) ds)
  refine k_ifr (t_not (t_val (p_call c_is_fraction (a_cons (p_var (j := 1) rfl) a_nil)))) ?_ ?_
  · exact k_retA p_bl
  refine k_set (j := 2) (p_call c_as_ratio (a_cons (p_var (j := 1) rfl) a_nil)) (fun v_by_1 => ?_)
  exact k_retA (p_and (p_cmp s_eq (p_fld (cs := [0]) T.fl (p_var (j := 0) rfl)) (p_fld (cs := [0]) T.fl (p_var (j := 2) rfl))) (p_one (p_cmp s_eq (p_fld (cs := [0]) T.fl (p_var (j := 0) rfl)) (p_fld (cs := [0]) T.fl (p_var (j := 2) rfl)))))
abbrev s_f_order_of : Stmt := topS 52
theorem sc_f_order_of : FnScope ["one", "two", "here", "there", "left", "right"] ["one", "two"] (defScope s_f_order_of) := ⟨rfl, rfl, rfl, by decide +kernel, rfl, by decide +kernel, by decide +kernel⟩
theorem ok_f_order_of {C : Kc} {mg : Str → Option Value} {base : Heap} {f : Addr} {fd : FuncData} (Fn : Fun C.K "order_of" "order_of" s_f_order_of f fd) (T : Tx C mg) (c_as_ratio : Cal C.P C.w C mg base 4 "as_ratio" (spF C (l1 f_as_ratio))) : FnOk C.P C.w C.K mg base CX0 5 f fd ["one", "two"] (spF C (l2 f_order_of)) := by
  refine fx Fn sc_f_order_of (fun _ _ h => l2_len h) (fun ds cdv A outer s H E hr => ar2 (S := fun ds => ⟨DL.start ["one", "two", "here", "there", "left", "right"] ds, none⟩) (fun v_one v_two => ?_) ds)
  first | refine k_par2 (i := 2) (j := 3) (v_e (p_call c_as_ratio (a_cons (p_var (j := 0) rfl) a_nil))) (v_e (p_call c_as_ratio (a_cons (p_var (j := 1) rfl) a_nil))) (fun v_here_1 v_there_2 => ?_) | refine k_parT2 (i := 2) (j := 3) (v_e (p_call c_as_ratio (a_cons (p_var (j := 0) rfl) a_nil))) (v_e (p_call c_as_ratio (a_cons (p_var (j := 1) rfl) a_nil))) (fun v_here_1 v_there_2 => ?_)
  first | refine k_par2 (i := 4) (j := 5) (v_e (p_op s_mul (p_fld (cs := [0]) T.fl (p_var (j := 2) rfl)) (p_fld (cs := [0]) T.fl (p_var (j := 3) rfl)))) (v_e (p_op s_mul (p_fld (cs := [0]) T.fl (p_var (j := 3) rfl)) (p_fld (cs := [0]) T.fl (p_var (j := 2) rfl)))) (fun v_left_3 v_right_4 => ?_) | refine k_parT2 (i := 4) (j := 5) (v_e (p_op s_mul (p_fld (cs := [0]) T.fl (p_var (j := 2) rfl)) (p_fld (cs := [0]) T.fl (p_var (j := 3) rfl)))) (v_e (p_op s_mul (p_fld (cs := [0]) T.fl (p_var (j := 3) rfl)) (p_fld (cs := [0]) T.fl (p_var (j := 2) rfl)))) (fun v_left_3 v_right_4 => ?_)
  refine k_ifr (t_cmp s_eq (p_var (j := 4) rfl) (p_var (j := 5) rfl)) ?_ ?_
  · exact k_retA p_int
  exact k_retA (p_ifx (t_cmp s_lt (p_var (j := 4) rfl) (p_var (j := 5) rfl)) (p_un s_neg p_int) p_int)
abbrev s_Ratio_compared : Stmt := inClass (topS 54) 2
theorem sc_Ratio_compared : FnScope ["self", "value"] ["self", "value"] (defScope s_Ratio_compared) := ⟨rfl, rfl, rfl, by decide +kernel, rfl, by decide +kernel, by decide +kernel⟩
theorem ok_Ratio_compared {C : Kc} {mg : Str → Option Value} {base : Heap} {f : Addr} {fd : FuncData} (Fn : Fun C.K "compared" "Ratio.compared" s_Ratio_compared f fd) (T : Tx C mg) (c_is_fraction : Cal C.P C.w C mg base 2 "is_fraction" (spF C (l1 f_is_fraction))) (c_order_of : Cal C.P C.w C mg base 5 "order_of" (spF C (l2 f_order_of))) : FnOk C.P C.w C.K mg base CX0 6 f fd ["self", "value"] (spF C (l2 Ratio_compared)) := by
  refine fx Fn sc_Ratio_compared (fun _ _ h => l2_len h) (fun ds cdv A outer s H E hr => ar2 (S := fun ds => ⟨DL.start ["self", "value"] ds, none⟩) (fun v_self v_value => ?_) ds)
  refine k_ifr (t_not (t_val (p_call c_is_fraction (a_cons (p_var (j := 1) rfl) a_nil)))) ?_ ?_
  · exact k_raise
  exact k_retA (p_call c_order_of (a_cons (p_var (j := 0) rfl) (a_cons (p_var (j := 1) rfl) a_nil)))
abbrev s_f_law_right : Stmt := topS 71
theorem sc_f_law_right : FnScope ["_law_purse_here", "_law_number", "_law_dough_here", "_law_paint", "_law_eye_here", "_law_mine", "_law_seer", "_law_due_here", "_law_whole", "_law_told", "_law_again", "_law_full", "_law_none"] ["_law_purse_here"] (defScope s_f_law_right) := ⟨rfl, rfl, rfl, by decide +kernel, rfl, by decide +kernel, by decide +kernel⟩
theorem ok_f_law_right {C : Kc} {mg : Str → Option Value} {base : Heap} {f : Addr} {fd : FuncData} (Fn : Fun C.K "_law_right" "_law_right" s_f_law_right f fd) (T : Tx C mg) (c_law_draw : Cal C.P C.w C mg base 1 "_law_draw" (spFB C (m1 f_law_draw))) (c_law_pick : Cal C.P C.w C mg base 3 "_law_pick" (spFB C (m1 f_law_pick))) (c_law_scene : Cal C.P C.w C mg base 4 "_law_scene" (spFB C (m2 f_law_scene))) (c_law_trap : Cal C.P C.w C mg base 3 "_law_trap" (spFB C (m1 f_law_trap))) (m_Fold_1 : Mak C.P C.w C mg base 5 "Fold" 1 (fun ds fs => l1 Fold_init ds = .ok fs) []) (m_Watch_3 : Mak C.P C.w C mg base 4 "Watch" 4 (fun ds fs => l3 Watch_init ds = .ok fs) []) (c_law_due : Cal C.P C.w C mg base 4 "_law_due" (spF C (l4 f_law_due))) (c_staying_length : Cal C.P C.w C mg base 5 "staying_length" (spF C (l4 f_staying_length))) (ck_staying_length_turns_watch_colours_fold : CalK C.P C.w C mg base 5 "staying_length" (spF C (l4 f_staying_length)) ["turns", "watch", "colours", "fold"] [3, 2, 1, 0]) (h_Ratio : C.has 0 = true) (t_Ratio_eq : C.has 0 = true → Met C.P C.w C mg base 5 0 "__eq__" (spF C (l2 Ratio_eq))) (t_Ratio_compared : C.has 0 = true → Met C.P C.w C mg base 6 0 "compared" (spF C (l2 Ratio_compared))) (t_Raisin_compared : C.has 2 = true → Met C.P C.w C mg base 7 2 "compared" (spF C (l2 Raisin_compared))) (t_Fold_len : C.has 1 = true → Met C.P C.w C mg base 1 1 "__len__" (spF C (l1 Fold_len))) (t_Watch_len : C.has 4 = true → Met C.P C.w C mg base 1 4 "__len__" (spF C (l1 Watch_len))) : FnOk C.P C.w C.K mg base CX0 8 f fd ["_law_purse_here"] (spFB C (m0 f_law_right)) := by
  refine fxB Fn sc_f_law_right (fun _ _ _ h => congrArg (· + 1) (m0_len h)) (fun b cdv A outer s H E hr => am0 (S := fun ds => DL.startB ["_law_purse_here", "_law_number", "_law_dough_here", "_law_paint", "_law_eye_here", "_law_mine", "_law_seer", "_law_due_here", "_law_whole", "_law_told", "_law_again", "_law_full", "_law_none"] ds) (?_))
  refine m_set (j := 1) (me_bag (j := 0) c_law_pick rfl (ma_cons (me_lst (ma_cons (me_bag (j := 0) c_law_draw rfl (a_up fun g => (a_cons p_int a_nil))) (ma_cons (me_bag (j := 0) c_law_draw rfl (a_up fun g => (a_cons p_int a_nil))) (a_up fun g => (a_cons p_int (a_cons p_int a_nil)))))) (a_up fun g => a_nil))) (fun v_law_number_1 => ?_)
  refine m_asg3 (i := 2) (j := 3) (l := 4) (me_bag (j := 0) c_law_scene rfl (a_up fun g => (a_cons p_int (a_cons p_int a_nil)))) (fun v_law_dough_here_2 v_law_paint_3 v_law_eye_here_4 => ?_)
  refine m_set (j := 4) (me_bag (j := 0) c_law_trap rfl (a_up fun g => (a_cons (p_var (j := 4) rfl) a_nil))) (fun v_law_eye_here_5 => ?_)
  first | refine m_par2 (i := 5) (j := 6) (vm_e (e_up fun g => (p_make m_Fold_1 (a_cons (p_var (j := 2) rfl) a_nil)))) (vm_e (e_up fun g => (p_make m_Watch_3 (a_cons (p_ix (p_var (j := 4) rfl) p_int) (a_cons (p_ix (p_var (j := 4) rfl) p_int) (a_cons (p_ix (p_var (j := 4) rfl) p_int) a_nil)))))) (fun v_law_mine_6 v_law_seer_7 => ?_) | refine m_parT2 (i := 5) (j := 6) (vm_e (e_up fun g => (p_make m_Fold_1 (a_cons (p_var (j := 2) rfl) a_nil)))) (vm_e (e_up fun g => (p_make m_Watch_3 (a_cons (p_ix (p_var (j := 4) rfl) p_int) (a_cons (p_ix (p_var (j := 4) rfl) p_int) (a_cons (p_ix (p_var (j := 4) rfl) p_int) a_nil)))))) (fun v_law_mine_6 v_law_seer_7 => ?_)
  refine m_asg2 (i := 7) (j := 8) (e_up fun g => (p_call c_law_due (a_cons (p_var (j := 2) rfl) (a_cons (p_var (j := 3) rfl) (a_cons (p_var (j := 4) rfl) (a_cons (p_var (j := 1) rfl) a_nil)))))) (fun v_law_due_here_8 v_law_whole_9 => ?_)
  refine m_set (j := 9) (e_up fun g => (p_call c_staying_length (a_cons (p_var (j := 5) rfl) (a_cons (p_var (j := 3) rfl) (a_cons (p_var (j := 6) rfl) (a_cons (p_var (j := 1) rfl) a_nil)))))) (fun v_law_told_10 => ?_)
  refine m_set (j := 10) (e_up fun g => (p_callK ck_staying_length_turns_watch_colours_fold (kw_cons (p_var (j := 1) rfl) (kw_cons (p_var (j := 6) rfl) (kw_cons (p_var (j := 3) rfl) (kw_cons (p_var (j := 5) rfl) kw_nil)))))) (fun v_law_again_11 => ?_)
  refine m_ifr (t_up fun g => (t_w (w_or (t_not (t_val (x_isiC T h_Ratio (p_var (j := 9) rfl)))) (w_or (t_cmp (s_one T (eqF_eqs0 t_Ratio_eq)) (p_var (j := 9) rfl) (p_var (j := 10) rfl)) (w_or1 (t_cmp s_lt (p_fld (cs := [0]) T.fl (p_var (j := 9) rfl)) p_int)))))) ?_ ?_
  · exact m_retA (e_up fun g => p_bl)
  refine m_ifr (t_up fun g => (t_cmp (s_one T (eqF_eqs0 t_Ratio_eq)) (p_op s_mul (p_fld (cs := [0]) T.fl (p_var (j := 9) rfl)) (p_var (j := 8) rfl)) (p_op s_mul (p_var (j := 7) rfl) (p_fld (cs := [0]) T.fl (p_var (j := 9) rfl))))) ?_ ?_
  · exact m_retA (e_up fun g => p_bl)
  refine m_ifr (t_up fun g => (t_w (w_and (t_cmp s_gt (p_var (j := 1) rfl) p_int) (w_and1 (t_cmp s_lt (q_meth (pl := fun _ => _) (mtH_compared t_Ratio_compared t_Raisin_compared) (p_call c_staying_length (a_cons (p_var (j := 5) rfl) (a_cons (p_var (j := 3) rfl) (a_cons (p_var (j := 6) rfl) (a_cons (p_op s_sub (p_var (j := 1) rfl) p_int) a_nil))))) (a_cons (p_var (j := 9) rfl) a_nil)) p_int))))) ?_ ?_
  · exact m_retA (e_up fun g => p_bl)
  first | refine m_par2 (i := 11) (j := 12) (vm_e (e_up fun g => (p_make m_Watch_3 (a_cons (p_ix (p_var (j := 4) rfl) p_int) (a_cons (p_ix (p_var (j := 4) rfl) p_int) (a_cons (p_tupRg1 (T.bl "tuple") (T.bl "range") (p_callB (T.bl "len") bb_len (s_olen (lenF_lens t_Fold_len t_Watch_len)) (a_cons (p_ix (p_var (j := 4) rfl) p_int) a_nil))) a_nil)))))) (vm_e (e_up fun g => (p_make m_Watch_3 (a_cons (p_ix (p_var (j := 4) rfl) p_int) (a_cons (p_ix (p_var (j := 4) rfl) p_int) (a_cons (p_tup a_nil) a_nil)))))) (fun v_law_full_12 v_law_none_13 => ?_) | refine m_parT2 (i := 11) (j := 12) (vm_e (e_up fun g => (p_make m_Watch_3 (a_cons (p_ix (p_var (j := 4) rfl) p_int) (a_cons (p_ix (p_var (j := 4) rfl) p_int) (a_cons (p_tupRg1 (T.bl "tuple") (T.bl "range") (p_callB (T.bl "len") bb_len (s_olen (lenF_lens t_Fold_len t_Watch_len)) (a_cons (p_ix (p_var (j := 4) rfl) p_int) a_nil))) a_nil)))))) (vm_e (e_up fun g => (p_make m_Watch_3 (a_cons (p_ix (p_var (j := 4) rfl) p_int) (a_cons (p_ix (p_var (j := 4) rfl) p_int) (a_cons (p_tup a_nil) a_nil)))))) (fun v_law_full_12 v_law_none_13 => ?_)
  exact m_retA (e_up fun g => (p_and (p_cmp (s_oeq T (eqF_eqs0 t_Ratio_eq)) (p_call c_staying_length (a_cons (p_var (j := 5) rfl) (a_cons (p_var (j := 3) rfl) (a_cons (p_var (j := 11) rfl) (a_cons (p_var (j := 1) rfl) a_nil))))) (p_callB (T.bl "len") bb_len (s_olen (lenF_lens t_Fold_len t_Watch_len)) (a_cons (p_var (j := 2) rfl) a_nil))) (p_one (p_cmp (s_oeq T (eqF_eqs0 t_Ratio_eq)) (p_call c_staying_length (a_cons (p_var (j := 5) rfl) (a_cons (p_var (j := 3) rfl) (a_cons (p_var (j := 12) rfl) (a_cons (p_var (j := 1) rfl) a_nil))))) p_int))))
abbrev s_f_law : Stmt := topS 72
theorem sc_f_law : FnScope ["_law_script", "_law_k"] ["_law_script"] (defScope s_f_law) := ⟨rfl, rfl, rfl, by decide +kernel, rfl, by decide +kernel, by decide +kernel⟩
theorem ok_f_law {C : Kc} {mg : Str → Option Value} {base : Heap} {f : Addr} {fd : FuncData} (Fn : Fun C.K "law" "law" s_f_law f fd) (T : Tx C mg) (t_Fold_len : C.has 1 = true → Met C.P C.w C mg base 1 1 "__len__" (spF C (l1 Fold_len))) (t_Watch_len : C.has 4 = true → Met C.P C.w C mg base 1 4 "__len__" (spF C (l1 Watch_len))) (c_law_purse : Cal C.P C.w C mg base 3 "_law_purse" (spFN C (l2 f_law_purse))) (c_law_right : Cal C.P C.w C mg base 8 "_law_right" (spFB C (m0 f_law_right))) : FnOk C.P C.w C.K mg base CX0 9 f fd ["_law_script"] (spF C (l1 f_law)) := by
  refine fx Fn sc_f_law (fun _ _ h => l1_len h) (fun ds cdv A outer s H E hr => ar1 (S := fun ds => ⟨DL.start ["_law_script", "_law_k"] ds, none⟩) (fun v_law_script => ?_) ds)
  exact k_retA (p_callB (T.bl "all") bb_all s_all (a_cons (p_do (o_lc (fun _ => blkOk_by (own := [("_law_k", 1)]) (by first | rfl | decide +kernel)) (lc_map (j := 1) (own := [("_law_k", 1)]) (i_range1 (T.bl "range") (p_callB (T.bl "max") bb_max s_max (a_cons p_int (a_cons (p_callB (T.bl "min") bb_min s_min (a_cons (p_callB (T.bl "len") bb_len (s_olen (lenF_lens t_Fold_len t_Watch_len)) (a_cons (p_var (j := 0) rfl) a_nil)) (a_cons p_int a_nil))) a_nil)))) (fun v_law_k => (p_callNew c_law_right (o_call c_law_purse (a_cons (p_var (j := 0) rfl) (a_cons (p_var (j := 1) rfl) a_nil)))))))) a_nil))
end SL.K39
namespace SL.K39
open PySem L2 DL SL
theorem all_mk {l : PySem.W.OpenLaw} {w : World} {K : PySem.W.Frag} {mg : Str → Option Value} {fa : Addr} {c_Ratio c_Fold c_Watch fA_Fold_len fA_Watch_len fA_law_purse fA_law_draw fA_law_pick fA_law_dough fA_law_signs fA_law_eye fA_law_scene fA_law_trap fA_is_integer fA_is_between fA_is_cell fA_check_cells fA_Fold_init fA_are_small fA_is_in_order fA_check_moves fA_are_good fA_Watch_init fA_law_led fA_law_graph fA_law_firsts fA_law_due fA_check_fold fA_check_colours fA_goes_with fA_check_watch fA_check_asked fA_factor_of fA_shared_factor fA_common_multiple fA_stand_behind fA_first_nodes fA_run_of fA_nodes_behind fA_Ratio_init fA_staying_length fA_is_fraction fA_as_ratio fA_Ratio_eq fA_order_of fA_Ratio_compared fA_law_right fA_law : Addr} {fd_Fold_len fd_Watch_len fd_law_purse fd_law_draw fd_law_pick fd_law_dough fd_law_signs fd_law_eye fd_law_scene fd_law_trap fd_is_integer fd_is_between fd_is_cell fd_check_cells fd_Fold_init fd_are_small fd_is_in_order fd_check_moves fd_are_good fd_Watch_init fd_law_led fd_law_graph fd_law_firsts fd_law_due fd_check_fold fd_check_colours fd_goes_with fd_check_watch fd_check_asked fd_factor_of fd_shared_factor fd_common_multiple fd_stand_behind fd_first_nodes fd_run_of fd_nodes_behind fd_Ratio_init fd_staying_length fd_is_fraction fd_as_ratio fd_Ratio_eq fd_order_of fd_Ratio_compared fd_law_right fd_law : FuncData} (hfa : mg "law" = some (.ref fa))
    (gc_Ratio : mg "Ratio" = some (.ref c_Ratio))
    (ins_Ratio : InsF K c_Ratio)
    (gc_Fold : mg "Fold" = some (.ref c_Fold))
    (ins_Fold : InsF K c_Fold)
    (gc_Watch : mg "Watch" = some (.ref c_Watch))
    (ins_Watch : InsF K c_Watch)
    (FD_Fold_len : FunD K "__len__" "Fold.__len__" (defArgs s_Fold_len) (defBody s_Fold_len) (defScope s_Fold_len) [] [] fA_Fold_len fd_Fold_len)
    (me_Fold_len : Meth K c_Fold "__len__" fA_Fold_len)
    (FD_Watch_len : FunD K "__len__" "Watch.__len__" (defArgs s_Watch_len) (defBody s_Watch_len) (defScope s_Watch_len) [] [] fA_Watch_len fd_Watch_len)
    (me_Watch_len : Meth K c_Watch "__len__" fA_Watch_len)
    (FD_law_purse : FunD K "_law_purse" "_law_purse" (defArgs s_f_law_purse) (defBody s_f_law_purse) (defScope s_f_law_purse) [] [] fA_law_purse fd_law_purse)
    (g_law_purse : mg "_law_purse" = some (.ref fA_law_purse))
    (FD_law_draw : FunD K "_law_draw" "_law_draw" (defArgs s_f_law_draw) (defBody s_f_law_draw) (defScope s_f_law_draw) [] [] fA_law_draw fd_law_draw)
    (g_law_draw : mg "_law_draw" = some (.ref fA_law_draw))
    (FD_law_pick : FunD K "_law_pick" "_law_pick" (defArgs s_f_law_pick) (defBody s_f_law_pick) (defScope s_f_law_pick) [] [] fA_law_pick fd_law_pick)
    (g_law_pick : mg "_law_pick" = some (.ref fA_law_pick))
    (FD_law_dough : FunD K "_law_dough" "_law_dough" (defArgs s_f_law_dough) (defBody s_f_law_dough) (defScope s_f_law_dough) [] [] fA_law_dough fd_law_dough)
    (g_law_dough : mg "_law_dough" = some (.ref fA_law_dough))
    (FD_law_signs : FunD K "_law_signs" "_law_signs" (defArgs s_f_law_signs) (defBody s_f_law_signs) (defScope s_f_law_signs) [] [] fA_law_signs fd_law_signs)
    (g_law_signs : mg "_law_signs" = some (.ref fA_law_signs))
    (FD_law_eye : FunD K "_law_eye" "_law_eye" (defArgs s_f_law_eye) (defBody s_f_law_eye) (defScope s_f_law_eye) [] [] fA_law_eye fd_law_eye)
    (g_law_eye : mg "_law_eye" = some (.ref fA_law_eye))
    (FD_law_scene : FunD K "_law_scene" "_law_scene" (defArgs s_f_law_scene) (defBody s_f_law_scene) (defScope s_f_law_scene) [] [] fA_law_scene fd_law_scene)
    (g_law_scene : mg "_law_scene" = some (.ref fA_law_scene))
    (FD_law_trap : FunD K "_law_trap" "_law_trap" (defArgs s_f_law_trap) (defBody s_f_law_trap) (defScope s_f_law_trap) [] [] fA_law_trap fd_law_trap)
    (g_law_trap : mg "_law_trap" = some (.ref fA_law_trap))
    (FD_is_integer : FunD K "is_integer" "is_integer" (defArgs s_f_is_integer) (defBody s_f_is_integer) (defScope s_f_is_integer) [] [] fA_is_integer fd_is_integer)
    (g_is_integer : mg "is_integer" = some (.ref fA_is_integer))
    (FD_is_between : FunD K "is_between" "is_between" (defArgs s_f_is_between) (defBody s_f_is_between) (defScope s_f_is_between) [] [] fA_is_between fd_is_between)
    (g_is_between : mg "is_between" = some (.ref fA_is_between))
    (FD_is_cell : FunD K "is_cell" "is_cell" (defArgs s_f_is_cell) (defBody s_f_is_cell) (defScope s_f_is_cell) [] [] fA_is_cell fd_is_cell)
    (g_is_cell : mg "is_cell" = some (.ref fA_is_cell))
    (FD_check_cells : FunD K "check_cells" "check_cells" (defArgs s_f_check_cells) (defBody s_f_check_cells) (defScope s_f_check_cells) [] [] fA_check_cells fd_check_cells)
    (g_check_cells : mg "check_cells" = some (.ref fA_check_cells))
    (FD_Fold_init : FunD K "__init__" "Fold.__init__" (defArgs s_Fold_init) (defBody s_Fold_init) (defScope s_Fold_init) [] [] fA_Fold_init fd_Fold_init)
    (me_Fold_init : Meth K c_Fold "__init__" fA_Fold_init)
    (M_Fold : Mk K c_Fold fA_Fold_init)
    (FD_are_small : FunD K "are_small" "are_small" (defArgs s_f_are_small) (defBody s_f_are_small) (defScope s_f_are_small) [] [] fA_are_small fd_are_small)
    (g_are_small : mg "are_small" = some (.ref fA_are_small))
    (FD_is_in_order : FunD K "is_in_order" "is_in_order" (defArgs s_f_is_in_order) (defBody s_f_is_in_order) (defScope s_f_is_in_order) [] [] fA_is_in_order fd_is_in_order)
    (g_is_in_order : mg "is_in_order" = some (.ref fA_is_in_order))
    (FD_check_moves : FunD K "check_moves" "check_moves" (defArgs s_f_check_moves) (defBody s_f_check_moves) (defScope s_f_check_moves) [] [] fA_check_moves fd_check_moves)
    (g_check_moves : mg "check_moves" = some (.ref fA_check_moves))
    (FD_are_good : FunD K "are_good" "are_good" (defArgs s_f_are_good) (defBody s_f_are_good) (defScope s_f_are_good) [] [] fA_are_good fd_are_good)
    (g_are_good : mg "are_good" = some (.ref fA_are_good))
    (FD_Watch_init : FunD K "__init__" "Watch.__init__" (defArgs s_Watch_init) (defBody s_Watch_init) (defScope s_Watch_init) [] [] fA_Watch_init fd_Watch_init)
    (me_Watch_init : Meth K c_Watch "__init__" fA_Watch_init)
    (M_Watch : Mk K c_Watch fA_Watch_init)
    (FD_law_led : FunD K "_law_led" "_law_led" (defArgs s_f_law_led) (defBody s_f_law_led) (defScope s_f_law_led) [] [] fA_law_led fd_law_led)
    (g_law_led : mg "_law_led" = some (.ref fA_law_led))
    (FD_law_graph : FunD K "_law_graph" "_law_graph" (defArgs s_f_law_graph) (defBody s_f_law_graph) (defScope s_f_law_graph) [] [] fA_law_graph fd_law_graph)
    (g_law_graph : mg "_law_graph" = some (.ref fA_law_graph))
    (FD_law_firsts : FunD K "_law_firsts" "_law_firsts" (defArgs s_f_law_firsts) (defBody s_f_law_firsts) (defScope s_f_law_firsts) [] [] fA_law_firsts fd_law_firsts)
    (g_law_firsts : mg "_law_firsts" = some (.ref fA_law_firsts))
    (FD_law_due : FunD K "_law_due" "_law_due" (defArgs s_f_law_due) (defBody s_f_law_due) (defScope s_f_law_due) [] [] fA_law_due fd_law_due)
    (g_law_due : mg "_law_due" = some (.ref fA_law_due))
    (FD_check_fold : FunD K "check_fold" "check_fold" (defArgs s_f_check_fold) (defBody s_f_check_fold) (defScope s_f_check_fold) [] [] fA_check_fold fd_check_fold)
    (g_check_fold : mg "check_fold" = some (.ref fA_check_fold))
    (FD_check_colours : FunD K "check_colours" "check_colours" (defArgs s_f_check_colours) (defBody s_f_check_colours) (defScope s_f_check_colours) [] [] fA_check_colours fd_check_colours)
    (g_check_colours : mg "check_colours" = some (.ref fA_check_colours))
    (FD_goes_with : FunD K "goes_with" "goes_with" (defArgs s_f_goes_with) (defBody s_f_goes_with) (defScope s_f_goes_with) [] [] fA_goes_with fd_goes_with)
    (g_goes_with : mg "goes_with" = some (.ref fA_goes_with))
    (FD_check_watch : FunD K "check_watch" "check_watch" (defArgs s_f_check_watch) (defBody s_f_check_watch) (defScope s_f_check_watch) [] [] fA_check_watch fd_check_watch)
    (g_check_watch : mg "check_watch" = some (.ref fA_check_watch))
    (FD_check_asked : FunD K "check_asked" "check_asked" (defArgs s_f_check_asked) (defBody s_f_check_asked) (defScope s_f_check_asked) [] [] fA_check_asked fd_check_asked)
    (g_check_asked : mg "check_asked" = some (.ref fA_check_asked))
    (FD_factor_of : FunD K "factor_of" "factor_of" (defArgs s_f_factor_of) (defBody s_f_factor_of) (defScope s_f_factor_of) [] [] fA_factor_of fd_factor_of)
    (g_factor_of : mg "factor_of" = some (.ref fA_factor_of))
    (FD_shared_factor : FunD K "shared_factor" "shared_factor" (defArgs s_f_shared_factor) (defBody s_f_shared_factor) (defScope s_f_shared_factor) [] [] fA_shared_factor fd_shared_factor)
    (g_shared_factor : mg "shared_factor" = some (.ref fA_shared_factor))
    (FD_common_multiple : FunD K "common_multiple" "common_multiple" (defArgs s_f_common_multiple) (defBody s_f_common_multiple) (defScope s_f_common_multiple) [] [] fA_common_multiple fd_common_multiple)
    (g_common_multiple : mg "common_multiple" = some (.ref fA_common_multiple))
    (FD_stand_behind : FunD K "stand_behind" "stand_behind" (defArgs s_f_stand_behind) (defBody s_f_stand_behind) (defScope s_f_stand_behind) [] [] fA_stand_behind fd_stand_behind)
    (g_stand_behind : mg "stand_behind" = some (.ref fA_stand_behind))
    (FD_first_nodes : FunD K "first_nodes" "first_nodes" (defArgs s_f_first_nodes) (defBody s_f_first_nodes) (defScope s_f_first_nodes) [] [] fA_first_nodes fd_first_nodes)
    (g_first_nodes : mg "first_nodes" = some (.ref fA_first_nodes))
    (FD_run_of : FunD K "run_of" "run_of" (defArgs s_f_run_of) (defBody s_f_run_of) (defScope s_f_run_of) [] [] fA_run_of fd_run_of)
    (g_run_of : mg "run_of" = some (.ref fA_run_of))
    (FD_nodes_behind : FunD K "nodes_behind" "nodes_behind" (defArgs s_f_nodes_behind) (defBody s_f_nodes_behind) (defScope s_f_nodes_behind) [] [] fA_nodes_behind fd_nodes_behind)
    (g_nodes_behind : mg "nodes_behind" = some (.ref fA_nodes_behind))
    (FD_Ratio_init : FunD K "__init__" "Ratio.__init__" (defArgs s_Ratio_init) (defBody s_Ratio_init) (defScope s_Ratio_init) [V.int 1] [] fA_Ratio_init fd_Ratio_init)
    (me_Ratio_init : Meth K c_Ratio "__init__" fA_Ratio_init)
    (M_Ratio : Mk K c_Ratio fA_Ratio_init)
    (FD_staying_length : FunD K "staying_length" "staying_length" (defArgs s_f_staying_length) (defBody s_f_staying_length) (defScope s_f_staying_length) [] [] fA_staying_length fd_staying_length)
    (g_staying_length : mg "staying_length" = some (.ref fA_staying_length))
    (FD_is_fraction : FunD K "is_fraction" "is_fraction" (defArgs s_f_is_fraction) (defBody s_f_is_fraction) (defScope s_f_is_fraction) [] [] fA_is_fraction fd_is_fraction)
    (g_is_fraction : mg "is_fraction" = some (.ref fA_is_fraction))
    (FD_as_ratio : FunD K "as_ratio" "as_ratio" (defArgs s_f_as_ratio) (defBody s_f_as_ratio) (defScope s_f_as_ratio) [] [] fA_as_ratio fd_as_ratio)
    (g_as_ratio : mg "as_ratio" = some (.ref fA_as_ratio))
    (FD_Ratio_eq : FunD K "__eq__" "Ratio.__eq__" (defArgs s_Ratio_eq) (defBody s_Ratio_eq) (defScope s_Ratio_eq) [] [] fA_Ratio_eq fd_Ratio_eq)
    (me_Ratio_eq : Meth K c_Ratio "__eq__" fA_Ratio_eq)
    (FD_order_of : FunD K "order_of" "order_of" (defArgs s_f_order_of) (defBody s_f_order_of) (defScope s_f_order_of) [] [] fA_order_of fd_order_of)
    (g_order_of : mg "order_of" = some (.ref fA_order_of))
    (FD_Ratio_compared : FunD K "compared" "Ratio.compared" (defArgs s_Ratio_compared) (defBody s_Ratio_compared) (defScope s_Ratio_compared) [] [] fA_Ratio_compared fd_Ratio_compared)
    (me_Ratio_compared : Meth K c_Ratio "compared" fA_Ratio_compared)
    (FD_law_right : FunD K "_law_right" "_law_right" (defArgs s_f_law_right) (defBody s_f_law_right) (defScope s_f_law_right) [] [] fA_law_right fd_law_right)
    (g_law_right : mg "_law_right" = some (.ref fA_law_right))
    (FD_law : FunD K "law" "law" (defArgs s_f_law) (defBody s_f_law) (defScope s_f_law) [] [] fA_law fd_law)
    (g_law : mg "law" = some (.ref fA_law))
    (zz_isinstance : mg "isinstance" = none)
    (zz_len : mg "len" = none)
    (zz_int : mg "int" = none)
    (zz_bool : mg "bool" = none)
    (zz_str : mg "str" = none)
    (zz_tuple : mg "tuple" = none)
    (zz_list : mg "list" = none)
    (zz_range : mg "range" = none)
    (zz_enumerate : mg "enumerate" = none)
    (zz_abs : mg "abs" = none)
    (zz_max : mg "max" = none)
    (zz_min : mg "min" = none)
    (zz_all : mg "all" = none)
    (zz_any : mg "any" = none)
    (zz_sum : mg "sum" = none)
    (zz_repr : mg "repr" = none)
    (zz_sorted : mg "sorted" = none)
    (zz_set : mg "set" = none)
    (zz_dict : mg "dict" = none)
    (zz_zip : mg "zip" = none)
    (n_Ratio_top : PySem.W.findIn K (.ref c_Ratio) "top" = some none)
    (n_Ratio_bottom : PySem.W.findIn K (.ref c_Ratio) "bottom" = some none)
    (n_Fold_cells : PySem.W.findIn K (.ref c_Fold) "cells" = some none)
    (n_Watch_letters : PySem.W.findIn K (.ref c_Watch) "letters" = some none)
    (n_Watch_moves : PySem.W.findIn K (.ref c_Watch) "moves" = some none)
    (n_Watch_good : PySem.W.findIn K (.ref c_Watch) "good" = some none)
    (kO_Ratio_int : PySem.W.kitOne K (.ref c_Ratio) (.type "int") = some false)
    (kO_Ratio_bool : PySem.W.kitOne K (.ref c_Ratio) (.type "bool") = some false)
    (kO_Ratio_str : PySem.W.kitOne K (.ref c_Ratio) (.type "str") = some false)
    (kO_Ratio_tuple : PySem.W.kitOne K (.ref c_Ratio) (.type "tuple") = some false)
    (kB_Ratio_NoneType : PySem.W.kitOne K (.type "NoneType") (.ref c_Ratio) = some false)
    (kB_Ratio_bool : PySem.W.kitOne K (.type "bool") (.ref c_Ratio) = some false)
    (kB_Ratio_int : PySem.W.kitOne K (.type "int") (.ref c_Ratio) = some false)
    (kB_Ratio_str : PySem.W.kitOne K (.type "str") (.ref c_Ratio) = some false)
    (kB_Ratio_tuple : PySem.W.kitOne K (.type "tuple") (.ref c_Ratio) = some false)
    (kB_Ratio_list : PySem.W.kitOne K (.type "list") (.ref c_Ratio) = some false)
    (kB_Ratio_dict : PySem.W.kitOne K (.type "dict") (.ref c_Ratio) = some false)
    (nT_Ratio_NoneType : PySem.W.notFirst K c_Ratio (.type "NoneType") = true)
    (nT_Ratio_bool : PySem.W.notFirst K c_Ratio (.type "bool") = true)
    (nT_Ratio_int : PySem.W.notFirst K c_Ratio (.type "int") = true)
    (nT_Ratio_str : PySem.W.notFirst K c_Ratio (.type "str") = true)
    (nT_Ratio_tuple : PySem.W.notFirst K c_Ratio (.type "tuple") = true)
    (nT_Ratio_list : PySem.W.notFirst K c_Ratio (.type "list") = true)
    (nT_Ratio_dict : PySem.W.notFirst K c_Ratio (.type "dict") = true)
    (ne_Ratio : PySem.W.findIn K (.ref c_Ratio) "__ne__" = some (some (.builtin "object.__ne__")))
    (nf_Ratio_Ratio : PySem.W.notFirst K c_Ratio (.ref c_Ratio) = true)
    (nf_Ratio_Fold : PySem.W.notFirst K c_Ratio (.ref c_Fold) = true)
    (kC_Ratio_Fold : PySem.W.kitOne K (.ref c_Ratio) (.ref c_Fold) = some false)
    (nf_Ratio_Watch : PySem.W.notFirst K c_Ratio (.ref c_Watch) = true)
    (kC_Ratio_Watch : PySem.W.kitOne K (.ref c_Ratio) (.ref c_Watch) = some false)
    (kO_Fold_int : PySem.W.kitOne K (.ref c_Fold) (.type "int") = some false)
    (kO_Fold_bool : PySem.W.kitOne K (.ref c_Fold) (.type "bool") = some false)
    (kO_Fold_str : PySem.W.kitOne K (.ref c_Fold) (.type "str") = some false)
    (kO_Fold_tuple : PySem.W.kitOne K (.ref c_Fold) (.type "tuple") = some false)
    (kB_Fold_NoneType : PySem.W.kitOne K (.type "NoneType") (.ref c_Fold) = some false)
    (kB_Fold_bool : PySem.W.kitOne K (.type "bool") (.ref c_Fold) = some false)
    (kB_Fold_int : PySem.W.kitOne K (.type "int") (.ref c_Fold) = some false)
    (kB_Fold_str : PySem.W.kitOne K (.type "str") (.ref c_Fold) = some false)
    (kB_Fold_tuple : PySem.W.kitOne K (.type "tuple") (.ref c_Fold) = some false)
    (kB_Fold_list : PySem.W.kitOne K (.type "list") (.ref c_Fold) = some false)
    (kB_Fold_dict : PySem.W.kitOne K (.type "dict") (.ref c_Fold) = some false)
    (nT_Fold_NoneType : PySem.W.notFirst K c_Fold (.type "NoneType") = true)
    (nT_Fold_bool : PySem.W.notFirst K c_Fold (.type "bool") = true)
    (nT_Fold_int : PySem.W.notFirst K c_Fold (.type "int") = true)
    (nT_Fold_str : PySem.W.notFirst K c_Fold (.type "str") = true)
    (nT_Fold_tuple : PySem.W.notFirst K c_Fold (.type "tuple") = true)
    (nT_Fold_list : PySem.W.notFirst K c_Fold (.type "list") = true)
    (nT_Fold_dict : PySem.W.notFirst K c_Fold (.type "dict") = true)
    (ne_Fold : PySem.W.findIn K (.ref c_Fold) "__ne__" = some (some (.builtin "object.__ne__")))
    (nf_Fold_Ratio : PySem.W.notFirst K c_Fold (.ref c_Ratio) = true)
    (kC_Fold_Ratio : PySem.W.kitOne K (.ref c_Fold) (.ref c_Ratio) = some false)
    (nf_Fold_Fold : PySem.W.notFirst K c_Fold (.ref c_Fold) = true)
    (nf_Fold_Watch : PySem.W.notFirst K c_Fold (.ref c_Watch) = true)
    (kC_Fold_Watch : PySem.W.kitOne K (.ref c_Fold) (.ref c_Watch) = some false)
    (kO_Watch_int : PySem.W.kitOne K (.ref c_Watch) (.type "int") = some false)
    (kO_Watch_bool : PySem.W.kitOne K (.ref c_Watch) (.type "bool") = some false)
    (kO_Watch_str : PySem.W.kitOne K (.ref c_Watch) (.type "str") = some false)
    (kO_Watch_tuple : PySem.W.kitOne K (.ref c_Watch) (.type "tuple") = some false)
    (kB_Watch_NoneType : PySem.W.kitOne K (.type "NoneType") (.ref c_Watch) = some false)
    (kB_Watch_bool : PySem.W.kitOne K (.type "bool") (.ref c_Watch) = some false)
    (kB_Watch_int : PySem.W.kitOne K (.type "int") (.ref c_Watch) = some false)
    (kB_Watch_str : PySem.W.kitOne K (.type "str") (.ref c_Watch) = some false)
    (kB_Watch_tuple : PySem.W.kitOne K (.type "tuple") (.ref c_Watch) = some false)
    (kB_Watch_list : PySem.W.kitOne K (.type "list") (.ref c_Watch) = some false)
    (kB_Watch_dict : PySem.W.kitOne K (.type "dict") (.ref c_Watch) = some false)
    (nT_Watch_NoneType : PySem.W.notFirst K c_Watch (.type "NoneType") = true)
    (nT_Watch_bool : PySem.W.notFirst K c_Watch (.type "bool") = true)
    (nT_Watch_int : PySem.W.notFirst K c_Watch (.type "int") = true)
    (nT_Watch_str : PySem.W.notFirst K c_Watch (.type "str") = true)
    (nT_Watch_tuple : PySem.W.notFirst K c_Watch (.type "tuple") = true)
    (nT_Watch_list : PySem.W.notFirst K c_Watch (.type "list") = true)
    (nT_Watch_dict : PySem.W.notFirst K c_Watch (.type "dict") = true)
    (ne_Watch : PySem.W.findIn K (.ref c_Watch) "__ne__" = some (some (.builtin "object.__ne__")))
    (nf_Watch_Ratio : PySem.W.notFirst K c_Watch (.ref c_Ratio) = true)
    (kC_Watch_Ratio : PySem.W.kitOne K (.ref c_Watch) (.ref c_Ratio) = some false)
    (nf_Watch_Fold : PySem.W.notFirst K c_Watch (.ref c_Fold) = true)
    (kC_Watch_Fold : PySem.W.kitOne K (.ref c_Watch) (.ref c_Fold) = some false)
    (nf_Watch_Watch : PySem.W.notFirst K c_Watch (.ref c_Watch) = true)
    (sf : PySem.W.selfFirst K c_Ratio = true)
    (ic : PySem.W.subIn K (.type "int") (.ref c_Ratio) = some false)
    (ci : PySem.W.subIn K (.ref c_Ratio) (.type "int") = some false)
    (opA : ∃ fo ro, PySem.W.findIn K (.type "int") (PySem.dunder Operator.Add.info.2) = some fo ∧ PySem.W.findIn K (.type "int") (dunderR Operator.Add.info.2) = some ro ∧ ((fo.isSome && !isSeqSlot fo) || (ro.isSome && !isSeqSlot ro)) = true)
    (opS : ∃ fo ro, PySem.W.findIn K (.type "int") (PySem.dunder Operator.Sub.info.2) = some fo ∧ PySem.W.findIn K (.type "int") (dunderR Operator.Sub.info.2) = some ro ∧ ((fo.isSome && !isSeqSlot fo) || (ro.isSome && !isSeqSlot ro)) = true)
    (opM : ∃ fo ro, PySem.W.findIn K (.type "int") (PySem.dunder Operator.Mult.info.2) = some fo ∧ PySem.W.findIn K (.type "int") (dunderR Operator.Mult.info.2) = some ro ∧ ((fo.isSome && !isSeqSlot fo) || (ro.isSome && !isSeqSlot ro)) = true)
    (g_MOST_CELLS : ∃ t, mg "MOST_CELLS" = some (.int 8 t))
    (g_MOST_STANDS : ∃ t, mg "MOST_STANDS" = some (.int 6 t))
    (g_MOST_ROW : ∃ t, mg "MOST_ROW" = some (.int 200 t))
    : ∃ fd : FuncData, (∀ (s : Shared) (v : Value), BindsTo s fd ⟨[v], []⟩ [("_law_script", v)]) ∧ ∀ base : Heap, K.In base → base.Ns mainGlobals mg → FnOk l.prog w K mg base CX0 9 fa fd ["_law_script"] (spLaw K) := by
  have e := hfa.symm.trans g_law
  cases e
  have cl_Ratio := ins_Ratio.cl
  have cl_Fold := ins_Fold.cl
  have cl_Watch := ins_Watch.cl
  have F_Fold_len := EX.fun_ofD FD_Fold_len
  have b_Fold_len := F_Fold_len.binds (ps := ["self"]) fun _ _ _ _ _ _ us hl => match us, hl with | [_], _ => rfl
  have F_Watch_len := EX.fun_ofD FD_Watch_len
  have b_Watch_len := F_Watch_len.binds (ps := ["self"]) fun _ _ _ _ _ _ us hl => match us, hl with | [_], _ => rfl
  have F_law_purse := EX.fun_ofD FD_law_purse
  have b_law_purse := F_law_purse.binds (ps := ["_law_script", "_law_k"]) fun _ _ _ _ _ _ us hl => match us, hl with | [_, _], _ => rfl
  have F_law_draw := EX.fun_ofD FD_law_draw
  have b_law_draw := F_law_draw.binds (ps := ["_law_purse_here", "_law_many"]) fun _ _ _ _ _ _ us hl => match us, hl with | [_, _], _ => rfl
  have F_law_pick := EX.fun_ofD FD_law_pick
  have b_law_pick := F_law_pick.binds (ps := ["_law_purse_here", "_law_some"]) fun _ _ _ _ _ _ us hl => match us, hl with | [_, _], _ => rfl
  have F_law_dough := EX.fun_ofD FD_law_dough
  have b_law_dough := F_law_dough.binds (ps := ["_law_purse_here", "_law_most"]) fun _ _ _ _ _ _ us hl => match us, hl with | [_, _], _ => rfl
  have F_law_signs := EX.fun_ofD FD_law_signs
  have b_law_signs := F_law_signs.binds (ps := ["_law_purse_here", "_law_many"]) fun _ _ _ _ _ _ us hl => match us, hl with | [_, _], _ => rfl
  have F_law_eye := EX.fun_ofD FD_law_eye
  have b_law_eye := F_law_eye.binds (ps := ["_law_purse_here", "_law_signs_here", "_law_most"]) fun _ _ _ _ _ _ us hl => match us, hl with | [_, _, _], _ => rfl
  have F_law_scene := EX.fun_ofD FD_law_scene
  have b_law_scene := F_law_scene.binds (ps := ["_law_purse_here", "_law_most", "_law_stands"]) fun _ _ _ _ _ _ us hl => match us, hl with | [_, _, _], _ => rfl
  have F_law_trap := EX.fun_ofD FD_law_trap
  have b_law_trap := F_law_trap.binds (ps := ["_law_purse_here", "_law_eye_here"]) fun _ _ _ _ _ _ us hl => match us, hl with | [_, _], _ => rfl
  have F_is_integer := EX.fun_ofD FD_is_integer
  have b_is_integer := F_is_integer.binds (ps := ["value"]) fun _ _ _ _ _ _ us hl => match us, hl with | [_], _ => rfl
  have F_is_between := EX.fun_ofD FD_is_between
  have b_is_between := F_is_between.binds (ps := ["value", "least", "most"]) fun _ _ _ _ _ _ us hl => match us, hl with | [_, _, _], _ => rfl
  have F_is_cell := EX.fun_ofD FD_is_cell
  have b_is_cell := F_is_cell.binds (ps := ["many", "value"]) fun _ _ _ _ _ _ us hl => match us, hl with | [_, _], _ => rfl
  have F_check_cells := EX.fun_ofD FD_check_cells
  have b_check_cells := F_check_cells.binds (ps := ["cells"]) fun _ _ _ _ _ _ us hl => match us, hl with | [_], _ => rfl
  have F_Fold_init := EX.fun_ofD FD_Fold_init
  have b_Fold_init := F_Fold_init.binds (ps := ["self", "cells"]) fun _ _ _ _ _ _ us hl => match us, hl with | [_, _], _ => rfl
  have F_are_small := EX.fun_ofD FD_are_small
  have b_are_small := F_are_small.binds (ps := ["value", "least", "most"]) fun _ _ _ _ _ _ us hl => match us, hl with | [_, _, _], _ => rfl
  have F_is_in_order := EX.fun_ofD FD_is_in_order
  have b_is_in_order := F_is_in_order.binds (ps := ["value"]) fun _ _ _ _ _ _ us hl => match us, hl with | [_], _ => rfl
  have F_check_moves := EX.fun_ofD FD_check_moves
  have b_check_moves := F_check_moves.binds (ps := ["letters", "moves"]) fun _ _ _ _ _ _ us hl => match us, hl with | [_, _], _ => rfl
  have F_are_good := EX.fun_ofD FD_are_good
  have b_are_good := F_are_good.binds (ps := ["many", "good"]) fun _ _ _ _ _ _ us hl => match us, hl with | [_, _], _ => rfl
  have F_Watch_init := EX.fun_ofD FD_Watch_init
  have b_Watch_init := F_Watch_init.binds (ps := ["self", "letters", "moves", "good"]) fun _ _ _ _ _ _ us hl => match us, hl with | [_, _, _, _], _ => rfl
  have F_law_led := EX.fun_ofD FD_law_led
  have b_law_led := F_law_led.binds (ps := ["_law_eye_here", "_law_stand", "_law_sign"]) fun _ _ _ _ _ _ us hl => match us, hl with | [_, _, _], _ => rfl
  have F_law_graph := EX.fun_ofD FD_law_graph
  have b_law_graph := F_law_graph.binds (ps := ["_law_dough_here", "_law_paint", "_law_eye_here"]) fun _ _ _ _ _ _ us hl => match us, hl with | [_, _, _], _ => rfl
  have F_law_firsts := EX.fun_ofD FD_law_firsts
  have b_law_firsts := F_law_firsts.binds (ps := ["_law_paint", "_law_eye_here"]) fun _ _ _ _ _ _ us hl => match us, hl with | [_, _], _ => rfl
  have F_law_due := EX.fun_ofD FD_law_due
  have b_law_due := F_law_due.binds (ps := ["_law_dough_here", "_law_paint", "_law_eye_here", "_law_number"]) fun _ _ _ _ _ _ us hl => match us, hl with | [_, _, _, _], _ => rfl
  have F_check_fold := EX.fun_ofD FD_check_fold
  have b_check_fold := F_check_fold.binds (ps := ["fold"]) fun _ _ _ _ _ _ us hl => match us, hl with | [_], _ => rfl
  have F_check_colours := EX.fun_ofD FD_check_colours
  have b_check_colours := F_check_colours.binds (ps := ["fold", "colours"]) fun _ _ _ _ _ _ us hl => match us, hl with | [_, _], _ => rfl
  have F_goes_with := EX.fun_ofD FD_goes_with
  have b_goes_with := F_goes_with.binds (ps := ["watch", "colours"]) fun _ _ _ _ _ _ us hl => match us, hl with | [_, _], _ => rfl
  have F_check_watch := EX.fun_ofD FD_check_watch
  have b_check_watch := F_check_watch.binds (ps := ["colours", "watch"]) fun _ _ _ _ _ _ us hl => match us, hl with | [_, _], _ => rfl
  have F_check_asked := EX.fun_ofD FD_check_asked
  have b_check_asked := F_check_asked.binds (ps := ["fold", "colours", "watch"]) fun _ _ _ _ _ _ us hl => match us, hl with | [_, _, _], _ => rfl
  have F_factor_of := EX.fun_ofD FD_factor_of
  have b_factor_of := F_factor_of.binds (ps := ["fold", "cell"]) fun _ _ _ _ _ _ us hl => match us, hl with | [_, _], _ => rfl
  have F_shared_factor := EX.fun_ofD FD_shared_factor
  have b_shared_factor := F_shared_factor.binds (ps := ["one", "two"]) fun _ _ _ _ _ _ us hl => match us, hl with | [_, _], _ => rfl
  have F_common_multiple := EX.fun_ofD FD_common_multiple
  have b_common_multiple := F_common_multiple.binds (ps := ["numbers"]) fun _ _ _ _ _ _ us hl => match us, hl with | [_], _ => rfl
  have F_stand_behind := EX.fun_ofD FD_stand_behind
  have b_stand_behind := F_stand_behind.binds (ps := ["watch", "stand", "sign"]) fun _ _ _ _ _ _ us hl => match us, hl with | [_, _, _], _ => rfl
  have F_first_nodes := EX.fun_ofD FD_first_nodes
  have b_first_nodes := F_first_nodes.binds (ps := ["fold", "colours", "watch"]) fun _ _ _ _ _ _ us hl => match us, hl with | [_, _, _], _ => rfl
  have F_run_of := EX.fun_ofD FD_run_of
  have b_run_of := F_run_of.binds (ps := ["fold", "cell"]) fun _ _ _ _ _ _ us hl => match us, hl with | [_, _], _ => rfl
  have F_nodes_behind := EX.fun_ofD FD_nodes_behind
  have b_nodes_behind := F_nodes_behind.binds (ps := ["fold", "colours", "watch", "node"]) fun _ _ _ _ _ _ us hl => match us, hl with | [_, _, _, _], _ => rfl
  have F_Ratio_init := FD_Ratio_init
  have F_staying_length := EX.fun_ofD FD_staying_length
  have b_staying_length := F_staying_length.binds (ps := ["fold", "colours", "watch", "turns"]) fun _ _ _ _ _ _ us hl => match us, hl with | [_, _, _, _], _ => rfl
  have F_is_fraction := EX.fun_ofD FD_is_fraction
  have b_is_fraction := F_is_fraction.binds (ps := ["value"]) fun _ _ _ _ _ _ us hl => match us, hl with | [_], _ => rfl
  have F_as_ratio := EX.fun_ofD FD_as_ratio
  have b_as_ratio := F_as_ratio.binds (ps := ["value"]) fun _ _ _ _ _ _ us hl => match us, hl with | [_], _ => rfl
  have F_Ratio_eq := EX.fun_ofD FD_Ratio_eq
  have b_Ratio_eq := F_Ratio_eq.binds (ps := ["self", "other"]) fun _ _ _ _ _ _ us hl => match us, hl with | [_, _], _ => rfl
  have F_order_of := EX.fun_ofD FD_order_of
  have b_order_of := F_order_of.binds (ps := ["one", "two"]) fun _ _ _ _ _ _ us hl => match us, hl with | [_, _], _ => rfl
  have F_Ratio_compared := EX.fun_ofD FD_Ratio_compared
  have b_Ratio_compared := F_Ratio_compared.binds (ps := ["self", "value"]) fun _ _ _ _ _ _ us hl => match us, hl with | [_, _], _ => rfl
  have F_law_right := EX.fun_ofD FD_law_right
  have b_law_right := F_law_right.binds (ps := ["_law_purse_here"]) fun _ _ _ _ _ _ us hl => match us, hl with | [_], _ => rfl
  have F_law := EX.fun_ofD FD_law
  have bL := FunD.bindsA (ps := ["_law_script"]) FD_law fun _ _ _ _ _ _ us hl => match us, hl with | [_], _ => rfl
  refine ⟨fd_law, fun s v => bL s [v] rfl, fun base _ _ => ?_⟩
  have Tcn : ∀ c, Kc.has (⟨K, l.prog, w, clF c_Ratio c_Fold 0 0 c_Watch 0 0, hasF true true false false true false false, fun _ => 0⟩ : Kc) c = true → mg (clsName c) = some (.ref (Kc.cl (⟨K, l.prog, w, clF c_Ratio c_Fold 0 0 c_Watch 0 0, hasF true true false false true false false, fun _ => 0⟩ : Kc) c)) := fun c h => by
    rcases c with _ | _ | _ | _ | _ | _ | _ | c
    · exact gc_Ratio
    · exact gc_Fold
    · exact absurd (show false = true from h) Bool.false_ne_true
    · exact absurd (show false = true from h) Bool.false_ne_true
    · exact gc_Watch
    · exact absurd (show false = true from h) Bool.false_ne_true
    · exact absurd (show false = true from h) Bool.false_ne_true
    · exact absurd (show false = true from h) Bool.false_ne_true
  have Tins : ∀ c, Kc.has (⟨K, l.prog, w, clF c_Ratio c_Fold 0 0 c_Watch 0 0, hasF true true false false true false false, fun _ => 0⟩ : Kc) c = true → InsF K (Kc.cl (⟨K, l.prog, w, clF c_Ratio c_Fold 0 0 c_Watch 0 0, hasF true true false false true false false, fun _ => 0⟩ : Kc) c) := fun c h => by
    rcases c with _ | _ | _ | _ | _ | _ | _ | c
    · exact ins_Ratio
    · exact ins_Fold
    · exact absurd (show false = true from h) Bool.false_ne_true
    · exact absurd (show false = true from h) Bool.false_ne_true
    · exact ins_Watch
    · exact absurd (show false = true from h) Bool.false_ne_true
    · exact absurd (show false = true from h) Bool.false_ne_true
    · exact absurd (show false = true from h) Bool.false_ne_true
  have Tna : ∀ c, Kc.has (⟨K, l.prog, w, clF c_Ratio c_Fold 0 0 c_Watch 0 0, hasF true true false false true false false, fun _ => 0⟩ : Kc) c = true → ∀ f ∈ clsFields c, NoAttr K (Kc.cl (⟨K, l.prog, w, clF c_Ratio c_Fold 0 0 c_Watch 0 0, hasF true true false false true false false, fun _ => 0⟩ : Kc) c) f := fun c h => by
    rcases c with _ | _ | _ | _ | _ | _ | _ | c
    · exact fun t ht => by
        simp only [clsFields, List.mem_cons, List.not_mem_nil, or_false] at ht
        rcases ht with rfl | rfl
        · exact n_Ratio_top
        · exact n_Ratio_bottom
    · exact fun t ht => by
        simp only [clsFields, List.mem_cons, List.not_mem_nil, or_false] at ht
        rcases ht with rfl
        · exact n_Fold_cells
    · exact absurd (show false = true from h) Bool.false_ne_true
    · exact absurd (show false = true from h) Bool.false_ne_true
    · exact fun t ht => by
        simp only [clsFields, List.mem_cons, List.not_mem_nil, or_false] at ht
        rcases ht with rfl | rfl | rfl
        · exact n_Watch_letters
        · exact n_Watch_moves
        · exact n_Watch_good
    · exact absurd (show false = true from h) Bool.false_ne_true
    · exact absurd (show false = true from h) Bool.false_ne_true
    · exact absurd (show false = true from h) Bool.false_ne_true
  have TkO : ∀ c, Kc.has (⟨K, l.prog, w, clF c_Ratio c_Fold 0 0 c_Watch 0 0, hasF true true false false true false false, fun _ => 0⟩ : Kc) c = true → ∀ T ∈ isiNames, PySem.W.kitOne K (.ref (Kc.cl (⟨K, l.prog, w, clF c_Ratio c_Fold 0 0 c_Watch 0 0, hasF true true false false true false false, fun _ => 0⟩ : Kc) c)) (.type T) = some false := fun c h => by
    rcases c with _ | _ | _ | _ | _ | _ | _ | c
    · exact fun t ht => by
        simp only [isiNames, List.mem_cons, List.not_mem_nil, or_false] at ht
        rcases ht with rfl | rfl | rfl | rfl
        · exact kO_Ratio_int
        · exact kO_Ratio_bool
        · exact kO_Ratio_str
        · exact kO_Ratio_tuple
    · exact fun t ht => by
        simp only [isiNames, List.mem_cons, List.not_mem_nil, or_false] at ht
        rcases ht with rfl | rfl | rfl | rfl
        · exact kO_Fold_int
        · exact kO_Fold_bool
        · exact kO_Fold_str
        · exact kO_Fold_tuple
    · exact absurd (show false = true from h) Bool.false_ne_true
    · exact absurd (show false = true from h) Bool.false_ne_true
    · exact fun t ht => by
        simp only [isiNames, List.mem_cons, List.not_mem_nil, or_false] at ht
        rcases ht with rfl | rfl | rfl | rfl
        · exact kO_Watch_int
        · exact kO_Watch_bool
        · exact kO_Watch_str
        · exact kO_Watch_tuple
    · exact absurd (show false = true from h) Bool.false_ne_true
    · exact absurd (show false = true from h) Bool.false_ne_true
    · exact absurd (show false = true from h) Bool.false_ne_true
  have TkB : ∀ c, Kc.has (⟨K, l.prog, w, clF c_Ratio c_Fold 0 0 c_Watch 0 0, hasF true true false false true false false, fun _ => 0⟩ : Kc) c = true → ∀ T ∈ tyNames, PySem.W.kitOne K (.type T) (.ref (Kc.cl (⟨K, l.prog, w, clF c_Ratio c_Fold 0 0 c_Watch 0 0, hasF true true false false true false false, fun _ => 0⟩ : Kc) c)) = some false := fun c h => by
    rcases c with _ | _ | _ | _ | _ | _ | _ | c
    · exact fun t ht => by
        simp only [tyNames, List.mem_cons, List.not_mem_nil, or_false] at ht
        rcases ht with rfl | rfl | rfl | rfl | rfl | rfl | rfl
        · exact kB_Ratio_NoneType
        · exact kB_Ratio_bool
        · exact kB_Ratio_int
        · exact kB_Ratio_str
        · exact kB_Ratio_tuple
        · exact kB_Ratio_list
        · exact kB_Ratio_dict
    · exact fun t ht => by
        simp only [tyNames, List.mem_cons, List.not_mem_nil, or_false] at ht
        rcases ht with rfl | rfl | rfl | rfl | rfl | rfl | rfl
        · exact kB_Fold_NoneType
        · exact kB_Fold_bool
        · exact kB_Fold_int
        · exact kB_Fold_str
        · exact kB_Fold_tuple
        · exact kB_Fold_list
        · exact kB_Fold_dict
    · exact absurd (show false = true from h) Bool.false_ne_true
    · exact absurd (show false = true from h) Bool.false_ne_true
    · exact fun t ht => by
        simp only [tyNames, List.mem_cons, List.not_mem_nil, or_false] at ht
        rcases ht with rfl | rfl | rfl | rfl | rfl | rfl | rfl
        · exact kB_Watch_NoneType
        · exact kB_Watch_bool
        · exact kB_Watch_int
        · exact kB_Watch_str
        · exact kB_Watch_tuple
        · exact kB_Watch_list
        · exact kB_Watch_dict
    · exact absurd (show false = true from h) Bool.false_ne_true
    · exact absurd (show false = true from h) Bool.false_ne_true
    · exact absurd (show false = true from h) Bool.false_ne_true
  have TnT : ∀ c, Kc.has (⟨K, l.prog, w, clF c_Ratio c_Fold 0 0 c_Watch 0 0, hasF true true false false true false false, fun _ => 0⟩ : Kc) c = true → ∀ T ∈ tyNames, PySem.W.notFirst K (Kc.cl (⟨K, l.prog, w, clF c_Ratio c_Fold 0 0 c_Watch 0 0, hasF true true false false true false false, fun _ => 0⟩ : Kc) c) (.type T) = true := fun c h => by
    rcases c with _ | _ | _ | _ | _ | _ | _ | c
    · exact fun t ht => by
        simp only [tyNames, List.mem_cons, List.not_mem_nil, or_false] at ht
        rcases ht with rfl | rfl | rfl | rfl | rfl | rfl | rfl
        · exact nT_Ratio_NoneType
        · exact nT_Ratio_bool
        · exact nT_Ratio_int
        · exact nT_Ratio_str
        · exact nT_Ratio_tuple
        · exact nT_Ratio_list
        · exact nT_Ratio_dict
    · exact fun t ht => by
        simp only [tyNames, List.mem_cons, List.not_mem_nil, or_false] at ht
        rcases ht with rfl | rfl | rfl | rfl | rfl | rfl | rfl
        · exact nT_Fold_NoneType
        · exact nT_Fold_bool
        · exact nT_Fold_int
        · exact nT_Fold_str
        · exact nT_Fold_tuple
        · exact nT_Fold_list
        · exact nT_Fold_dict
    · exact absurd (show false = true from h) Bool.false_ne_true
    · exact absurd (show false = true from h) Bool.false_ne_true
    · exact fun t ht => by
        simp only [tyNames, List.mem_cons, List.not_mem_nil, or_false] at ht
        rcases ht with rfl | rfl | rfl | rfl | rfl | rfl | rfl
        · exact nT_Watch_NoneType
        · exact nT_Watch_bool
        · exact nT_Watch_int
        · exact nT_Watch_str
        · exact nT_Watch_tuple
        · exact nT_Watch_list
        · exact nT_Watch_dict
    · exact absurd (show false = true from h) Bool.false_ne_true
    · exact absurd (show false = true from h) Bool.false_ne_true
    · exact absurd (show false = true from h) Bool.false_ne_true
  have Tne : ∀ c, Kc.has (⟨K, l.prog, w, clF c_Ratio c_Fold 0 0 c_Watch 0 0, hasF true true false false true false false, fun _ => 0⟩ : Kc) c = true → PySem.W.findIn K (.ref (Kc.cl (⟨K, l.prog, w, clF c_Ratio c_Fold 0 0 c_Watch 0 0, hasF true true false false true false false, fun _ => 0⟩ : Kc) c)) "__ne__" = some (some (.builtin "object.__ne__")) := fun c h => by
    rcases c with _ | _ | _ | _ | _ | _ | _ | c
    · exact ne_Ratio
    · exact ne_Fold
    · exact absurd (show false = true from h) Bool.false_ne_true
    · exact absurd (show false = true from h) Bool.false_ne_true
    · exact ne_Watch
    · exact absurd (show false = true from h) Bool.false_ne_true
    · exact absurd (show false = true from h) Bool.false_ne_true
    · exact absurd (show false = true from h) Bool.false_ne_true
  have TkC : ∀ c, Kc.has (⟨K, l.prog, w, clF c_Ratio c_Fold 0 0 c_Watch 0 0, hasF true true false false true false false, fun _ => 0⟩ : Kc) c = true → ∀ c', Kc.has (⟨K, l.prog, w, clF c_Ratio c_Fold 0 0 c_Watch 0 0, hasF true true false false true false false, fun _ => 0⟩ : Kc) c' = true → c ≠ c' → PySem.W.kitOne K (.ref (Kc.cl (⟨K, l.prog, w, clF c_Ratio c_Fold 0 0 c_Watch 0 0, hasF true true false false true false false, fun _ => 0⟩ : Kc) c)) (.ref (Kc.cl (⟨K, l.prog, w, clF c_Ratio c_Fold 0 0 c_Watch 0 0, hasF true true false false true false false, fun _ => 0⟩ : Kc) c')) = some false := fun c h => by
    rcases c with _ | _ | _ | _ | _ | _ | _ | c
    · intro c' h' nn
      rcases c' with _ | _ | _ | _ | _ | _ | _ | c'
      · exact absurd rfl nn
      · exact kC_Ratio_Fold
      · exact absurd (show false = true from h') Bool.false_ne_true
      · exact absurd (show false = true from h') Bool.false_ne_true
      · exact kC_Ratio_Watch
      · exact absurd (show false = true from h') Bool.false_ne_true
      · exact absurd (show false = true from h') Bool.false_ne_true
      · exact absurd (show false = true from h') Bool.false_ne_true
    · intro c' h' nn
      rcases c' with _ | _ | _ | _ | _ | _ | _ | c'
      · exact kC_Fold_Ratio
      · exact absurd rfl nn
      · exact absurd (show false = true from h') Bool.false_ne_true
      · exact absurd (show false = true from h') Bool.false_ne_true
      · exact kC_Fold_Watch
      · exact absurd (show false = true from h') Bool.false_ne_true
      · exact absurd (show false = true from h') Bool.false_ne_true
      · exact absurd (show false = true from h') Bool.false_ne_true
    · exact absurd (show false = true from h) Bool.false_ne_true
    · exact absurd (show false = true from h) Bool.false_ne_true
    · intro c' h' nn
      rcases c' with _ | _ | _ | _ | _ | _ | _ | c'
      · exact kC_Watch_Ratio
      · exact kC_Watch_Fold
      · exact absurd (show false = true from h') Bool.false_ne_true
      · exact absurd (show false = true from h') Bool.false_ne_true
      · exact absurd rfl nn
      · exact absurd (show false = true from h') Bool.false_ne_true
      · exact absurd (show false = true from h') Bool.false_ne_true
      · exact absurd (show false = true from h') Bool.false_ne_true
    · exact absurd (show false = true from h) Bool.false_ne_true
    · exact absurd (show false = true from h) Bool.false_ne_true
    · exact absurd (show false = true from h) Bool.false_ne_true
  have Tnf : ∀ c, Kc.has (⟨K, l.prog, w, clF c_Ratio c_Fold 0 0 c_Watch 0 0, hasF true true false false true false false, fun _ => 0⟩ : Kc) c = true → ∀ c', Kc.has (⟨K, l.prog, w, clF c_Ratio c_Fold 0 0 c_Watch 0 0, hasF true true false false true false false, fun _ => 0⟩ : Kc) c' = true → True → PySem.W.notFirst K (Kc.cl (⟨K, l.prog, w, clF c_Ratio c_Fold 0 0 c_Watch 0 0, hasF true true false false true false false, fun _ => 0⟩ : Kc) c) (.ref (Kc.cl (⟨K, l.prog, w, clF c_Ratio c_Fold 0 0 c_Watch 0 0, hasF true true false false true false false, fun _ => 0⟩ : Kc) c')) = true := fun c h => by
    rcases c with _ | _ | _ | _ | _ | _ | _ | c
    · intro c' h' nn
      rcases c' with _ | _ | _ | _ | _ | _ | _ | c'
      · exact nf_Ratio_Ratio
      · exact nf_Ratio_Fold
      · exact absurd (show false = true from h') Bool.false_ne_true
      · exact absurd (show false = true from h') Bool.false_ne_true
      · exact nf_Ratio_Watch
      · exact absurd (show false = true from h') Bool.false_ne_true
      · exact absurd (show false = true from h') Bool.false_ne_true
      · exact absurd (show false = true from h') Bool.false_ne_true
    · intro c' h' nn
      rcases c' with _ | _ | _ | _ | _ | _ | _ | c'
      · exact nf_Fold_Ratio
      · exact nf_Fold_Fold
      · exact absurd (show false = true from h') Bool.false_ne_true
      · exact absurd (show false = true from h') Bool.false_ne_true
      · exact nf_Fold_Watch
      · exact absurd (show false = true from h') Bool.false_ne_true
      · exact absurd (show false = true from h') Bool.false_ne_true
      · exact absurd (show false = true from h') Bool.false_ne_true
    · exact absurd (show false = true from h) Bool.false_ne_true
    · exact absurd (show false = true from h) Bool.false_ne_true
    · intro c' h' nn
      rcases c' with _ | _ | _ | _ | _ | _ | _ | c'
      · exact nf_Watch_Ratio
      · exact nf_Watch_Fold
      · exact absurd (show false = true from h') Bool.false_ne_true
      · exact absurd (show false = true from h') Bool.false_ne_true
      · exact nf_Watch_Watch
      · exact absurd (show false = true from h') Bool.false_ne_true
      · exact absurd (show false = true from h') Bool.false_ne_true
      · exact absurd (show false = true from h') Bool.false_ne_true
    · exact absurd (show false = true from h) Bool.false_ne_true
    · exact absurd (show false = true from h) Bool.false_ne_true
    · exact absurd (show false = true from h) Bool.false_ne_true
  have Tnb : ∀ n ∈ bltNames, mg n = none := fun n hn => by
    simp only [bltNames, List.mem_cons, List.not_mem_nil, or_false] at hn
    rcases hn with rfl | rfl | rfl | rfl | rfl | rfl | rfl | rfl | rfl | rfl | rfl | rfl | rfl | rfl | rfl | rfl | rfl | rfl | rfl | rfl
    · exact zz_isinstance
    · exact zz_len
    · exact zz_int
    · exact zz_bool
    · exact zz_str
    · exact zz_tuple
    · exact zz_list
    · exact zz_range
    · exact zz_enumerate
    · exact zz_abs
    · exact zz_max
    · exact zz_min
    · exact zz_all
    · exact zz_any
    · exact zz_sum
    · exact zz_repr
    · exact zz_sorted
    · exact zz_set
    · exact zz_dict
    · exact zz_zip
  obtain ⟨foA, roA, fA, rA, sA⟩ := opA
  obtain ⟨foS, roS, fS, rS, sS⟩ := opS
  obtain ⟨foM, roM, fM, rM, sM⟩ := opM
  have T : Tx (⟨K, l.prog, w, clF c_Ratio c_Fold 0 0 c_Watch 0 0, hasF true true false false true false false, fun _ => 0⟩ : Kc) mg := ⟨Tnb, Tcn, Tins, Tna, TkO, TkB, fun c c' h h' n => TkC c h c' h' n, fun c c' h h' => Tnf c h c' h' trivial, TnT, Tne, fun _ => ⟨sf, ic, ci⟩, fun _ => ⟨foA, roA, fA, rA, sA⟩, fun _ => ⟨foS, roS, fS, rS, sS⟩, fun _ => ⟨foM, roM, fM, rM, sM⟩⟩
  have h_Ratio : Kc.has (⟨K, l.prog, w, clF c_Ratio c_Fold 0 0 c_Watch 0 0, hasF true true false false true false false, fun _ => 0⟩ : Kc) 0 = true := rfl
  have h_Fold : Kc.has (⟨K, l.prog, w, clF c_Ratio c_Fold 0 0 c_Watch 0 0, hasF true true false false true false false, fun _ => 0⟩ : Kc) 1 = true := rfl
  have h_Watch : Kc.has (⟨K, l.prog, w, clF c_Ratio c_Fold 0 0 c_Watch 0 0, hasF true true false false true false false, fun _ => 0⟩ : Kc) 4 = true := rfl
  have t_Raisin_compared : (⟨K, l.prog, w, clF c_Ratio c_Fold 0 0 c_Watch 0 0, hasF true true false false true false false, fun _ => 0⟩ : Kc).has 2 = true → Met l.prog w (⟨K, l.prog, w, clF c_Ratio c_Fold 0 0 c_Watch 0 0, hasF true true false false true false false, fun _ => 0⟩ : Kc) mg base 7 2 "compared" (spF (⟨K, l.prog, w, clF c_Ratio c_Fold 0 0 c_Watch 0 0, hasF true true false false true false false, fun _ => 0⟩ : Kc) (l2 Raisin_compared)) := fun h => absurd (show false = true from h) Bool.false_ne_true
  have t_Fold_len : (⟨K, l.prog, w, clF c_Ratio c_Fold 0 0 c_Watch 0 0, hasF true true false false true false false, fun _ => 0⟩ : Kc).has 1 = true → Met l.prog w (⟨K, l.prog, w, clF c_Ratio c_Fold 0 0 c_Watch 0 0, hasF true true false false true false false, fun _ => 0⟩ : Kc) mg base 1 1 "__len__" (spF (⟨K, l.prog, w, clF c_Ratio c_Fold 0 0 c_Watch 0 0, hasF true true false false true false false, fun _ => 0⟩ : Kc) (l1 Fold_len)) := fun _ => ⟨_, _, _, (ok_Fold_len (C := (⟨K, l.prog, w, clF c_Ratio c_Fold 0 0 c_Watch 0 0, hasF true true false false true false false, fun _ => 0⟩ : Kc)) (mg := mg) (base := base) F_Fold_len T ), cl_Fold, me_Fold_len, b_Fold_len⟩
  have t_Watch_len : (⟨K, l.prog, w, clF c_Ratio c_Fold 0 0 c_Watch 0 0, hasF true true false false true false false, fun _ => 0⟩ : Kc).has 4 = true → Met l.prog w (⟨K, l.prog, w, clF c_Ratio c_Fold 0 0 c_Watch 0 0, hasF true true false false true false false, fun _ => 0⟩ : Kc) mg base 1 4 "__len__" (spF (⟨K, l.prog, w, clF c_Ratio c_Fold 0 0 c_Watch 0 0, hasF true true false false true false false, fun _ => 0⟩ : Kc) (l1 Watch_len)) := fun _ => ⟨_, _, _, (ok_Watch_len (C := (⟨K, l.prog, w, clF c_Ratio c_Fold 0 0 c_Watch 0 0, hasF true true false false true false false, fun _ => 0⟩ : Kc)) (mg := mg) (base := base) F_Watch_len T ), cl_Watch, me_Watch_len, b_Watch_len⟩
  have c_law_purse := cal_mk (C := (⟨K, l.prog, w, clF c_Ratio c_Fold 0 0 c_Watch 0 0, hasF true true false false true false false, fun _ => 0⟩ : Kc)) (ok_f_law_purse (C := (⟨K, l.prog, w, clF c_Ratio c_Fold 0 0 c_Watch 0 0, hasF true true false false true false false, fun _ => 0⟩ : Kc)) (mg := mg) (base := base) F_law_purse T t_Fold_len t_Watch_len) F_law_purse b_law_purse g_law_purse
  have c_law_draw := cal_mk (C := (⟨K, l.prog, w, clF c_Ratio c_Fold 0 0 c_Watch 0 0, hasF true true false false true false false, fun _ => 0⟩ : Kc)) (ok_f_law_draw (C := (⟨K, l.prog, w, clF c_Ratio c_Fold 0 0 c_Watch 0 0, hasF true true false false true false false, fun _ => 0⟩ : Kc)) (mg := mg) (base := base) F_law_draw T ) F_law_draw b_law_draw g_law_draw
  have c_law_pick := cal_mk (C := (⟨K, l.prog, w, clF c_Ratio c_Fold 0 0 c_Watch 0 0, hasF true true false false true false false, fun _ => 0⟩ : Kc)) (ok_f_law_pick (C := (⟨K, l.prog, w, clF c_Ratio c_Fold 0 0 c_Watch 0 0, hasF true true false false true false false, fun _ => 0⟩ : Kc)) (mg := mg) (base := base) F_law_pick T t_Fold_len t_Watch_len c_law_draw) F_law_pick b_law_pick g_law_pick
  have c_law_dough := cal_mk (C := (⟨K, l.prog, w, clF c_Ratio c_Fold 0 0 c_Watch 0 0, hasF true true false false true false false, fun _ => 0⟩ : Kc)) (ok_f_law_dough (C := (⟨K, l.prog, w, clF c_Ratio c_Fold 0 0 c_Watch 0 0, hasF true true false false true false false, fun _ => 0⟩ : Kc)) (mg := mg) (base := base) F_law_dough T c_law_draw) F_law_dough b_law_dough g_law_dough
  have c_law_signs := cal_mk (C := (⟨K, l.prog, w, clF c_Ratio c_Fold 0 0 c_Watch 0 0, hasF true true false false true false false, fun _ => 0⟩ : Kc)) (ok_f_law_signs (C := (⟨K, l.prog, w, clF c_Ratio c_Fold 0 0 c_Watch 0 0, hasF true true false false true false false, fun _ => 0⟩ : Kc)) (mg := mg) (base := base) F_law_signs T t_Fold_len t_Watch_len c_law_draw) F_law_signs b_law_signs g_law_signs
  have c_law_eye := cal_mk (C := (⟨K, l.prog, w, clF c_Ratio c_Fold 0 0 c_Watch 0 0, hasF true true false false true false false, fun _ => 0⟩ : Kc)) (ok_f_law_eye (C := (⟨K, l.prog, w, clF c_Ratio c_Fold 0 0 c_Watch 0 0, hasF true true false false true false false, fun _ => 0⟩ : Kc)) (mg := mg) (base := base) F_law_eye T c_law_draw) F_law_eye b_law_eye g_law_eye
  have c_law_scene := cal_mk (C := (⟨K, l.prog, w, clF c_Ratio c_Fold 0 0 c_Watch 0 0, hasF true true false false true false false, fun _ => 0⟩ : Kc)) (ok_f_law_scene (C := (⟨K, l.prog, w, clF c_Ratio c_Fold 0 0 c_Watch 0 0, hasF true true false false true false false, fun _ => 0⟩ : Kc)) (mg := mg) (base := base) F_law_scene T c_law_dough c_law_pick c_law_signs c_law_eye) F_law_scene b_law_scene g_law_scene
  have c_law_trap := cal_mk (C := (⟨K, l.prog, w, clF c_Ratio c_Fold 0 0 c_Watch 0 0, hasF true true false false true false false, fun _ => 0⟩ : Kc)) (ok_f_law_trap (C := (⟨K, l.prog, w, clF c_Ratio c_Fold 0 0 c_Watch 0 0, hasF true true false false true false false, fun _ => 0⟩ : Kc)) (mg := mg) (base := base) F_law_trap T t_Fold_len t_Watch_len c_law_draw) F_law_trap b_law_trap g_law_trap
  have c_is_integer := cal_mk (C := (⟨K, l.prog, w, clF c_Ratio c_Fold 0 0 c_Watch 0 0, hasF true true false false true false false, fun _ => 0⟩ : Kc)) (ok_f_is_integer (C := (⟨K, l.prog, w, clF c_Ratio c_Fold 0 0 c_Watch 0 0, hasF true true false false true false false, fun _ => 0⟩ : Kc)) (mg := mg) (base := base) F_is_integer T ) F_is_integer b_is_integer g_is_integer
  have c_is_between := cal_mk (C := (⟨K, l.prog, w, clF c_Ratio c_Fold 0 0 c_Watch 0 0, hasF true true false false true false false, fun _ => 0⟩ : Kc)) (ok_f_is_between (C := (⟨K, l.prog, w, clF c_Ratio c_Fold 0 0 c_Watch 0 0, hasF true true false false true false false, fun _ => 0⟩ : Kc)) (mg := mg) (base := base) F_is_between T c_is_integer) F_is_between b_is_between g_is_between
  have c_is_cell := cal_mk (C := (⟨K, l.prog, w, clF c_Ratio c_Fold 0 0 c_Watch 0 0, hasF true true false false true false false, fun _ => 0⟩ : Kc)) (ok_f_is_cell (C := (⟨K, l.prog, w, clF c_Ratio c_Fold 0 0 c_Watch 0 0, hasF true true false false true false false, fun _ => 0⟩ : Kc)) (mg := mg) (base := base) F_is_cell T c_is_between) F_is_cell b_is_cell g_is_cell
  have c_check_cells := cal_mk (C := (⟨K, l.prog, w, clF c_Ratio c_Fold 0 0 c_Watch 0 0, hasF true true false false true false false, fun _ => 0⟩ : Kc)) (ok_f_check_cells (C := (⟨K, l.prog, w, clF c_Ratio c_Fold 0 0 c_Watch 0 0, hasF true true false false true false false, fun _ => 0⟩ : Kc)) (mg := mg) (base := base) F_check_cells T g_MOST_CELLS c_is_cell) F_check_cells b_check_cells g_check_cells
  have oI_Fold := (ok_Fold_init (C := (⟨K, l.prog, w, clF c_Ratio c_Fold 0 0 c_Watch 0 0, hasF true true false false true false false, fun _ => 0⟩ : Kc)) (mg := mg) (base := base) F_Fold_init T c_check_cells h_Fold)
  have m_Fold_1 : Mak l.prog w (⟨K, l.prog, w, clF c_Ratio c_Fold 0 0 c_Watch 0 0, hasF true true false false true false false, fun _ => 0⟩ : Kc) mg base 5 "Fold" 1 (fun ds fs => l1 Fold_init ds = .ok fs) [] := ⟨_, _, _, [], [], oI_Fold, gc_Fold, M_Fold, b_Fold_init, .nil, fun _ => .nil, rfl⟩
  have c_are_small := cal_mk (C := (⟨K, l.prog, w, clF c_Ratio c_Fold 0 0 c_Watch 0 0, hasF true true false false true false false, fun _ => 0⟩ : Kc)) (ok_f_are_small (C := (⟨K, l.prog, w, clF c_Ratio c_Fold 0 0 c_Watch 0 0, hasF true true false false true false false, fun _ => 0⟩ : Kc)) (mg := mg) (base := base) F_are_small T ) F_are_small b_are_small g_are_small
  have c_is_in_order := cal_mk (C := (⟨K, l.prog, w, clF c_Ratio c_Fold 0 0 c_Watch 0 0, hasF true true false false true false false, fun _ => 0⟩ : Kc)) (ok_f_is_in_order (C := (⟨K, l.prog, w, clF c_Ratio c_Fold 0 0 c_Watch 0 0, hasF true true false false true false false, fun _ => 0⟩ : Kc)) (mg := mg) (base := base) F_is_in_order T ) F_is_in_order b_is_in_order g_is_in_order
  have c_check_moves := cal_mk (C := (⟨K, l.prog, w, clF c_Ratio c_Fold 0 0 c_Watch 0 0, hasF true true false false true false false, fun _ => 0⟩ : Kc)) (ok_f_check_moves (C := (⟨K, l.prog, w, clF c_Ratio c_Fold 0 0 c_Watch 0 0, hasF true true false false true false false, fun _ => 0⟩ : Kc)) (mg := mg) (base := base) F_check_moves T g_MOST_STANDS c_is_between) F_check_moves b_check_moves g_check_moves
  have c_are_good := cal_mk (C := (⟨K, l.prog, w, clF c_Ratio c_Fold 0 0 c_Watch 0 0, hasF true true false false true false false, fun _ => 0⟩ : Kc)) (ok_f_are_good (C := (⟨K, l.prog, w, clF c_Ratio c_Fold 0 0 c_Watch 0 0, hasF true true false false true false false, fun _ => 0⟩ : Kc)) (mg := mg) (base := base) F_are_good T c_is_between c_is_in_order) F_are_good b_are_good g_are_good
  have oI_Watch := (ok_Watch_init (C := (⟨K, l.prog, w, clF c_Ratio c_Fold 0 0 c_Watch 0 0, hasF true true false false true false false, fun _ => 0⟩ : Kc)) (mg := mg) (base := base) F_Watch_init T g_MOST_CELLS c_are_small c_is_in_order c_check_moves t_Fold_len t_Watch_len c_are_good h_Watch)
  have m_Watch_3 : Mak l.prog w (⟨K, l.prog, w, clF c_Ratio c_Fold 0 0 c_Watch 0 0, hasF true true false false true false false, fun _ => 0⟩ : Kc) mg base 4 "Watch" 4 (fun ds fs => l3 Watch_init ds = .ok fs) [] := ⟨_, _, _, [], [], oI_Watch, gc_Watch, M_Watch, b_Watch_init, .nil, fun _ => .nil, rfl⟩
  have c_law_led := cal_mk (C := (⟨K, l.prog, w, clF c_Ratio c_Fold 0 0 c_Watch 0 0, hasF true true false false true false false, fun _ => 0⟩ : Kc)) (ok_f_law_led (C := (⟨K, l.prog, w, clF c_Ratio c_Fold 0 0 c_Watch 0 0, hasF true true false false true false false, fun _ => 0⟩ : Kc)) (mg := mg) (base := base) F_law_led T ) F_law_led b_law_led g_law_led
  have c_law_graph := cal_mk (C := (⟨K, l.prog, w, clF c_Ratio c_Fold 0 0 c_Watch 0 0, hasF true true false false true false false, fun _ => 0⟩ : Kc)) (ok_f_law_graph (C := (⟨K, l.prog, w, clF c_Ratio c_Fold 0 0 c_Watch 0 0, hasF true true false false true false false, fun _ => 0⟩ : Kc)) (mg := mg) (base := base) F_law_graph T t_Fold_len t_Watch_len c_law_led) F_law_graph b_law_graph g_law_graph
  have c_law_firsts := cal_mk (C := (⟨K, l.prog, w, clF c_Ratio c_Fold 0 0 c_Watch 0 0, hasF true true false false true false false, fun _ => 0⟩ : Kc)) (ok_f_law_firsts (C := (⟨K, l.prog, w, clF c_Ratio c_Fold 0 0 c_Watch 0 0, hasF true true false false true false false, fun _ => 0⟩ : Kc)) (mg := mg) (base := base) F_law_firsts T t_Fold_len t_Watch_len c_law_led) F_law_firsts b_law_firsts g_law_firsts
  have c_law_due := cal_mk (C := (⟨K, l.prog, w, clF c_Ratio c_Fold 0 0 c_Watch 0 0, hasF true true false false true false false, fun _ => 0⟩ : Kc)) (ok_f_law_due (C := (⟨K, l.prog, w, clF c_Ratio c_Fold 0 0 c_Watch 0 0, hasF true true false false true false false, fun _ => 0⟩ : Kc)) (mg := mg) (base := base) F_law_due T c_law_graph c_law_firsts) F_law_due b_law_due g_law_due
  have c_check_fold := cal_mk (C := (⟨K, l.prog, w, clF c_Ratio c_Fold 0 0 c_Watch 0 0, hasF true true false false true false false, fun _ => 0⟩ : Kc)) (ok_f_check_fold (C := (⟨K, l.prog, w, clF c_Ratio c_Fold 0 0 c_Watch 0 0, hasF true true false false true false false, fun _ => 0⟩ : Kc)) (mg := mg) (base := base) F_check_fold T h_Fold) F_check_fold b_check_fold g_check_fold
  have c_check_colours := cal_mk (C := (⟨K, l.prog, w, clF c_Ratio c_Fold 0 0 c_Watch 0 0, hasF true true false false true false false, fun _ => 0⟩ : Kc)) (ok_f_check_colours (C := (⟨K, l.prog, w, clF c_Ratio c_Fold 0 0 c_Watch 0 0, hasF true true false false true false false, fun _ => 0⟩ : Kc)) (mg := mg) (base := base) F_check_colours T t_Fold_len t_Watch_len c_are_small) F_check_colours b_check_colours g_check_colours
  have c_goes_with := cal_mk (C := (⟨K, l.prog, w, clF c_Ratio c_Fold 0 0 c_Watch 0 0, hasF true true false false true false false, fun _ => 0⟩ : Kc)) (ok_f_goes_with (C := (⟨K, l.prog, w, clF c_Ratio c_Fold 0 0 c_Watch 0 0, hasF true true false false true false false, fun _ => 0⟩ : Kc)) (mg := mg) (base := base) F_goes_with T ) F_goes_with b_goes_with g_goes_with
  have c_check_watch := cal_mk (C := (⟨K, l.prog, w, clF c_Ratio c_Fold 0 0 c_Watch 0 0, hasF true true false false true false false, fun _ => 0⟩ : Kc)) (ok_f_check_watch (C := (⟨K, l.prog, w, clF c_Ratio c_Fold 0 0 c_Watch 0 0, hasF true true false false true false false, fun _ => 0⟩ : Kc)) (mg := mg) (base := base) F_check_watch T h_Watch c_goes_with) F_check_watch b_check_watch g_check_watch
  have c_check_asked := cal_mk (C := (⟨K, l.prog, w, clF c_Ratio c_Fold 0 0 c_Watch 0 0, hasF true true false false true false false, fun _ => 0⟩ : Kc)) (ok_f_check_asked (C := (⟨K, l.prog, w, clF c_Ratio c_Fold 0 0 c_Watch 0 0, hasF true true false false true false false, fun _ => 0⟩ : Kc)) (mg := mg) (base := base) F_check_asked T c_check_fold c_check_colours c_check_watch) F_check_asked b_check_asked g_check_asked
  have c_factor_of := cal_mk (C := (⟨K, l.prog, w, clF c_Ratio c_Fold 0 0 c_Watch 0 0, hasF true true false false true false false, fun _ => 0⟩ : Kc)) (ok_f_factor_of (C := (⟨K, l.prog, w, clF c_Ratio c_Fold 0 0 c_Watch 0 0, hasF true true false false true false false, fun _ => 0⟩ : Kc)) (mg := mg) (base := base) F_factor_of T ) F_factor_of b_factor_of g_factor_of
  have c_shared_factor := cal_mk (C := (⟨K, l.prog, w, clF c_Ratio c_Fold 0 0 c_Watch 0 0, hasF true true false false true false false, fun _ => 0⟩ : Kc)) (ok_f_shared_factor (C := (⟨K, l.prog, w, clF c_Ratio c_Fold 0 0 c_Watch 0 0, hasF true true false false true false false, fun _ => 0⟩ : Kc)) (mg := mg) (base := base) F_shared_factor T ) F_shared_factor b_shared_factor g_shared_factor
  have c_common_multiple := cal_mk (C := (⟨K, l.prog, w, clF c_Ratio c_Fold 0 0 c_Watch 0 0, hasF true true false false true false false, fun _ => 0⟩ : Kc)) (ok_f_common_multiple (C := (⟨K, l.prog, w, clF c_Ratio c_Fold 0 0 c_Watch 0 0, hasF true true false false true false false, fun _ => 0⟩ : Kc)) (mg := mg) (base := base) F_common_multiple T c_shared_factor) F_common_multiple b_common_multiple g_common_multiple
  have c_stand_behind := cal_mk (C := (⟨K, l.prog, w, clF c_Ratio c_Fold 0 0 c_Watch 0 0, hasF true true false false true false false, fun _ => 0⟩ : Kc)) (ok_f_stand_behind (C := (⟨K, l.prog, w, clF c_Ratio c_Fold 0 0 c_Watch 0 0, hasF true true false false true false false, fun _ => 0⟩ : Kc)) (mg := mg) (base := base) F_stand_behind T ) F_stand_behind b_stand_behind g_stand_behind
  have c_first_nodes := cal_mk (C := (⟨K, l.prog, w, clF c_Ratio c_Fold 0 0 c_Watch 0 0, hasF true true false false true false false, fun _ => 0⟩ : Kc)) (ok_f_first_nodes (C := (⟨K, l.prog, w, clF c_Ratio c_Fold 0 0 c_Watch 0 0, hasF true true false false true false false, fun _ => 0⟩ : Kc)) (mg := mg) (base := base) F_first_nodes T t_Fold_len t_Watch_len c_stand_behind) F_first_nodes b_first_nodes g_first_nodes
  have c_run_of := cal_mk (C := (⟨K, l.prog, w, clF c_Ratio c_Fold 0 0 c_Watch 0 0, hasF true true false false true false false, fun _ => 0⟩ : Kc)) (ok_f_run_of (C := (⟨K, l.prog, w, clF c_Ratio c_Fold 0 0 c_Watch 0 0, hasF true true false false true false false, fun _ => 0⟩ : Kc)) (mg := mg) (base := base) F_run_of T ) F_run_of b_run_of g_run_of
  have c_nodes_behind := cal_mk (C := (⟨K, l.prog, w, clF c_Ratio c_Fold 0 0 c_Watch 0 0, hasF true true false false true false false, fun _ => 0⟩ : Kc)) (ok_f_nodes_behind (C := (⟨K, l.prog, w, clF c_Ratio c_Fold 0 0 c_Watch 0 0, hasF true true false false true false false, fun _ => 0⟩ : Kc)) (mg := mg) (base := base) F_nodes_behind T c_run_of c_stand_behind) F_nodes_behind b_nodes_behind g_nodes_behind
  have oI_Ratio := (ok_Ratio_init (C := (⟨K, l.prog, w, clF c_Ratio c_Fold 0 0 c_Watch 0 0, hasF true true false false true false false, fun _ => 0⟩ : Kc)) (mg := mg) (base := base) F_Ratio_init T c_is_integer c_shared_factor h_Ratio)
  have m_Ratio_2 : Mak l.prog w (⟨K, l.prog, w, clF c_Ratio c_Fold 0 0 c_Watch 0 0, hasF true true false false true false false, fun _ => 0⟩ : Kc) mg base 2 "Ratio" 0 (fun ds fs => l2 Ratio_init ds = .ok fs) [] := by
    obtain ⟨ds, h1, h2⟩ := F_Ratio_init.binds1 (ps := ["self", "top", "bottom"]) 3 1 (by simp) rfl fun _ _ _ _ _ _ _ us its hl hi => match us, hl, its, hi with | [_, _, _], _, [_], _ => ⟨_, rfl, rfl⟩
    exact ⟨_, _, _, ds, [], oI_Ratio, gc_Ratio, M_Ratio, h2, h1, fun _ => .nil, rfl⟩
  have m_Ratio_1 : Mak l.prog w (⟨K, l.prog, w, clF c_Ratio c_Fold 0 0 c_Watch 0 0, hasF true true false false true false false, fun _ => 0⟩ : Kc) mg base 2 "Ratio" 0 (fun ds fs => l2 Ratio_init ds = .ok fs) [.int 1] := by
    obtain ⟨ds, h1, h2⟩ := F_Ratio_init.binds1 (ps := ["self", "top", "bottom"]) 2 0 (by simp) rfl fun _ _ _ _ _ _ _ us its hl hi => match us, hl, its, hi with | [_, _], _, [_], _ => ⟨_, rfl, rfl⟩
    exact ⟨_, _, _, ds, [V.int 1], oI_Ratio, gc_Ratio, M_Ratio, h2, h1, fun _ => (.cons (.int _) .nil), rfl⟩
  have c_staying_length := cal_mk (C := (⟨K, l.prog, w, clF c_Ratio c_Fold 0 0 c_Watch 0 0, hasF true true false false true false false, fun _ => 0⟩ : Kc)) (ok_f_staying_length (C := (⟨K, l.prog, w, clF c_Ratio c_Fold 0 0 c_Watch 0 0, hasF true true false false true false false, fun _ => 0⟩ : Kc)) (mg := mg) (base := base) F_staying_length T c_check_asked g_MOST_ROW c_is_between t_Fold_len t_Watch_len c_factor_of c_common_multiple c_first_nodes c_nodes_behind m_Ratio_2) F_staying_length b_staying_length g_staying_length
  have ck_staying_length_turns_watch_colours_fold : CalK l.prog w (⟨K, l.prog, w, clF c_Ratio c_Fold 0 0 c_Watch 0 0, hasF true true false false true false false, fun _ => 0⟩ : Kc) mg base 5 "staying_length" (spF (⟨K, l.prog, w, clF c_Ratio c_Fold 0 0 c_Watch 0 0, hasF true true false false true false false, fun _ => 0⟩ : Kc) (l4 f_staying_length)) ["turns", "watch", "colours", "fold"] [3, 2, 1, 0] := ⟨_, _, _, (ok_f_staying_length (C := (⟨K, l.prog, w, clF c_Ratio c_Fold 0 0 c_Watch 0 0, hasF true true false false true false false, fun _ => 0⟩ : Kc)) (mg := mg) (base := base) F_staying_length T c_check_asked g_MOST_ROW c_is_between t_Fold_len t_Watch_len c_factor_of c_common_multiple c_first_nodes c_nodes_behind m_Ratio_2), g_staying_length, F_staying_length.kp, Fun.kbn (C := (⟨K, l.prog, w, clF c_Ratio c_Fold 0 0 c_Watch 0 0, hasF true true false false true false false, fun _ => 0⟩ : Kc)) F_staying_length 0 ["turns", "watch", "colours", "fold"] [3, 2, 1, 0] fun _ _ _ _ _ _ us ws hl hw => match us, hl, ws, hw with | [], _, [_, _, _, _], _ => rfl⟩
  have c_is_fraction := cal_mk (C := (⟨K, l.prog, w, clF c_Ratio c_Fold 0 0 c_Watch 0 0, hasF true true false false true false false, fun _ => 0⟩ : Kc)) (ok_f_is_fraction (C := (⟨K, l.prog, w, clF c_Ratio c_Fold 0 0 c_Watch 0 0, hasF true true false false true false false, fun _ => 0⟩ : Kc)) (mg := mg) (base := base) F_is_fraction T c_is_integer h_Ratio) F_is_fraction b_is_fraction g_is_fraction
  have c_as_ratio := cal_mk (C := (⟨K, l.prog, w, clF c_Ratio c_Fold 0 0 c_Watch 0 0, hasF true true false false true false false, fun _ => 0⟩ : Kc)) (ok_f_as_ratio (C := (⟨K, l.prog, w, clF c_Ratio c_Fold 0 0 c_Watch 0 0, hasF true true false false true false false, fun _ => 0⟩ : Kc)) (mg := mg) (base := base) F_as_ratio T h_Ratio m_Ratio_1) F_as_ratio b_as_ratio g_as_ratio
  have t_Ratio_eq : (⟨K, l.prog, w, clF c_Ratio c_Fold 0 0 c_Watch 0 0, hasF true true false false true false false, fun _ => 0⟩ : Kc).has 0 = true → Met l.prog w (⟨K, l.prog, w, clF c_Ratio c_Fold 0 0 c_Watch 0 0, hasF true true false false true false false, fun _ => 0⟩ : Kc) mg base 5 0 "__eq__" (spF (⟨K, l.prog, w, clF c_Ratio c_Fold 0 0 c_Watch 0 0, hasF true true false false true false false, fun _ => 0⟩ : Kc) (l2 Ratio_eq)) := fun _ => ⟨_, _, _, (ok_Ratio_eq (C := (⟨K, l.prog, w, clF c_Ratio c_Fold 0 0 c_Watch 0 0, hasF true true false false true false false, fun _ => 0⟩ : Kc)) (mg := mg) (base := base) F_Ratio_eq T c_is_fraction c_as_ratio), cl_Ratio, me_Ratio_eq, b_Ratio_eq⟩
  have c_order_of := cal_mk (C := (⟨K, l.prog, w, clF c_Ratio c_Fold 0 0 c_Watch 0 0, hasF true true false false true false false, fun _ => 0⟩ : Kc)) (ok_f_order_of (C := (⟨K, l.prog, w, clF c_Ratio c_Fold 0 0 c_Watch 0 0, hasF true true false false true false false, fun _ => 0⟩ : Kc)) (mg := mg) (base := base) F_order_of T c_as_ratio) F_order_of b_order_of g_order_of
  have t_Ratio_compared : (⟨K, l.prog, w, clF c_Ratio c_Fold 0 0 c_Watch 0 0, hasF true true false false true false false, fun _ => 0⟩ : Kc).has 0 = true → Met l.prog w (⟨K, l.prog, w, clF c_Ratio c_Fold 0 0 c_Watch 0 0, hasF true true false false true false false, fun _ => 0⟩ : Kc) mg base 6 0 "compared" (spF (⟨K, l.prog, w, clF c_Ratio c_Fold 0 0 c_Watch 0 0, hasF true true false false true false false, fun _ => 0⟩ : Kc) (l2 Ratio_compared)) := fun _ => ⟨_, _, _, (ok_Ratio_compared (C := (⟨K, l.prog, w, clF c_Ratio c_Fold 0 0 c_Watch 0 0, hasF true true false false true false false, fun _ => 0⟩ : Kc)) (mg := mg) (base := base) F_Ratio_compared T c_is_fraction c_order_of), cl_Ratio, me_Ratio_compared, b_Ratio_compared⟩
  have c_law_right := cal_mk (C := (⟨K, l.prog, w, clF c_Ratio c_Fold 0 0 c_Watch 0 0, hasF true true false false true false false, fun _ => 0⟩ : Kc)) (ok_f_law_right (C := (⟨K, l.prog, w, clF c_Ratio c_Fold 0 0 c_Watch 0 0, hasF true true false false true false false, fun _ => 0⟩ : Kc)) (mg := mg) (base := base) F_law_right T c_law_draw c_law_pick c_law_scene c_law_trap m_Fold_1 m_Watch_3 c_law_due c_staying_length ck_staying_length_turns_watch_colours_fold h_Ratio t_Ratio_eq t_Ratio_compared t_Raisin_compared t_Fold_len t_Watch_len) F_law_right b_law_right g_law_right
  exact law_of (C := (⟨K, l.prog, w, clF c_Ratio c_Fold 0 0 c_Watch 0 0, hasF true true false false true false false, fun _ => 0⟩ : Kc)) (ok_f_law (C := (⟨K, l.prog, w, clF c_Ratio c_Fold 0 0 c_Watch 0 0, hasF true true false false true false false, fun _ => 0⟩ : Kc)) (mg := mg) (base := base) F_law T t_Fold_len t_Watch_len c_law_purse c_law_right) fun is h => SL.K39.main is h
def r_Fold_len : EX.DR := ⟨fun K => (He.ma K (He.ga K "Fold") "__len__"), "__len__", "Fold.__len__", defArgs s_Fold_len, defBody s_Fold_len, defScope s_Fold_len, []⟩
def r_Watch_len : EX.DR := ⟨fun K => (He.ma K (He.ga K "Watch") "__len__"), "__len__", "Watch.__len__", defArgs s_Watch_len, defBody s_Watch_len, defScope s_Watch_len, []⟩
def r_law_purse : EX.DR := ⟨fun K => (He.ga K "_law_purse"), "_law_purse", "_law_purse", defArgs s_f_law_purse, defBody s_f_law_purse, defScope s_f_law_purse, []⟩
def r_law_draw : EX.DR := ⟨fun K => (He.ga K "_law_draw"), "_law_draw", "_law_draw", defArgs s_f_law_draw, defBody s_f_law_draw, defScope s_f_law_draw, []⟩
def r_law_pick : EX.DR := ⟨fun K => (He.ga K "_law_pick"), "_law_pick", "_law_pick", defArgs s_f_law_pick, defBody s_f_law_pick, defScope s_f_law_pick, []⟩
def r_law_dough : EX.DR := ⟨fun K => (He.ga K "_law_dough"), "_law_dough", "_law_dough", defArgs s_f_law_dough, defBody s_f_law_dough, defScope s_f_law_dough, []⟩
def r_law_signs : EX.DR := ⟨fun K => (He.ga K "_law_signs"), "_law_signs", "_law_signs", defArgs s_f_law_signs, defBody s_f_law_signs, defScope s_f_law_signs, []⟩
def r_law_eye : EX.DR := ⟨fun K => (He.ga K "_law_eye"), "_law_eye", "_law_eye", defArgs s_f_law_eye, defBody s_f_law_eye, defScope s_f_law_eye, []⟩
def r_law_scene : EX.DR := ⟨fun K => (He.ga K "_law_scene"), "_law_scene", "_law_scene", defArgs s_f_law_scene, defBody s_f_law_scene, defScope s_f_law_scene, []⟩
def r_law_trap : EX.DR := ⟨fun K => (He.ga K "_law_trap"), "_law_trap", "_law_trap", defArgs s_f_law_trap, defBody s_f_law_trap, defScope s_f_law_trap, []⟩
def r_is_integer : EX.DR := ⟨fun K => (He.ga K "is_integer"), "is_integer", "is_integer", defArgs s_f_is_integer, defBody s_f_is_integer, defScope s_f_is_integer, []⟩
def r_is_between : EX.DR := ⟨fun K => (He.ga K "is_between"), "is_between", "is_between", defArgs s_f_is_between, defBody s_f_is_between, defScope s_f_is_between, []⟩
def r_is_cell : EX.DR := ⟨fun K => (He.ga K "is_cell"), "is_cell", "is_cell", defArgs s_f_is_cell, defBody s_f_is_cell, defScope s_f_is_cell, []⟩
def r_check_cells : EX.DR := ⟨fun K => (He.ga K "check_cells"), "check_cells", "check_cells", defArgs s_f_check_cells, defBody s_f_check_cells, defScope s_f_check_cells, []⟩
def r_Fold_init : EX.DR := ⟨fun K => (He.ma K (He.ga K "Fold") "__init__"), "__init__", "Fold.__init__", defArgs s_Fold_init, defBody s_Fold_init, defScope s_Fold_init, []⟩
def r_are_small : EX.DR := ⟨fun K => (He.ga K "are_small"), "are_small", "are_small", defArgs s_f_are_small, defBody s_f_are_small, defScope s_f_are_small, []⟩
def r_is_in_order : EX.DR := ⟨fun K => (He.ga K "is_in_order"), "is_in_order", "is_in_order", defArgs s_f_is_in_order, defBody s_f_is_in_order, defScope s_f_is_in_order, []⟩
def r_check_moves : EX.DR := ⟨fun K => (He.ga K "check_moves"), "check_moves", "check_moves", defArgs s_f_check_moves, defBody s_f_check_moves, defScope s_f_check_moves, []⟩
def r_are_good : EX.DR := ⟨fun K => (He.ga K "are_good"), "are_good", "are_good", defArgs s_f_are_good, defBody s_f_are_good, defScope s_f_are_good, []⟩
def r_Watch_init : EX.DR := ⟨fun K => (He.ma K (He.ga K "Watch") "__init__"), "__init__", "Watch.__init__", defArgs s_Watch_init, defBody s_Watch_init, defScope s_Watch_init, []⟩
def r_law_led : EX.DR := ⟨fun K => (He.ga K "_law_led"), "_law_led", "_law_led", defArgs s_f_law_led, defBody s_f_law_led, defScope s_f_law_led, []⟩
def r_law_graph : EX.DR := ⟨fun K => (He.ga K "_law_graph"), "_law_graph", "_law_graph", defArgs s_f_law_graph, defBody s_f_law_graph, defScope s_f_law_graph, []⟩
def r_law_firsts : EX.DR := ⟨fun K => (He.ga K "_law_firsts"), "_law_firsts", "_law_firsts", defArgs s_f_law_firsts, defBody s_f_law_firsts, defScope s_f_law_firsts, []⟩
def r_law_due : EX.DR := ⟨fun K => (He.ga K "_law_due"), "_law_due", "_law_due", defArgs s_f_law_due, defBody s_f_law_due, defScope s_f_law_due, []⟩
def r_check_fold : EX.DR := ⟨fun K => (He.ga K "check_fold"), "check_fold", "check_fold", defArgs s_f_check_fold, defBody s_f_check_fold, defScope s_f_check_fold, []⟩
def r_check_colours : EX.DR := ⟨fun K => (He.ga K "check_colours"), "check_colours", "check_colours", defArgs s_f_check_colours, defBody s_f_check_colours, defScope s_f_check_colours, []⟩
def r_goes_with : EX.DR := ⟨fun K => (He.ga K "goes_with"), "goes_with", "goes_with", defArgs s_f_goes_with, defBody s_f_goes_with, defScope s_f_goes_with, []⟩
def r_check_watch : EX.DR := ⟨fun K => (He.ga K "check_watch"), "check_watch", "check_watch", defArgs s_f_check_watch, defBody s_f_check_watch, defScope s_f_check_watch, []⟩
def r_check_asked : EX.DR := ⟨fun K => (He.ga K "check_asked"), "check_asked", "check_asked", defArgs s_f_check_asked, defBody s_f_check_asked, defScope s_f_check_asked, []⟩
def r_factor_of : EX.DR := ⟨fun K => (He.ga K "factor_of"), "factor_of", "factor_of", defArgs s_f_factor_of, defBody s_f_factor_of, defScope s_f_factor_of, []⟩
def r_shared_factor : EX.DR := ⟨fun K => (He.ga K "shared_factor"), "shared_factor", "shared_factor", defArgs s_f_shared_factor, defBody s_f_shared_factor, defScope s_f_shared_factor, []⟩
def r_common_multiple : EX.DR := ⟨fun K => (He.ga K "common_multiple"), "common_multiple", "common_multiple", defArgs s_f_common_multiple, defBody s_f_common_multiple, defScope s_f_common_multiple, []⟩
def r_stand_behind : EX.DR := ⟨fun K => (He.ga K "stand_behind"), "stand_behind", "stand_behind", defArgs s_f_stand_behind, defBody s_f_stand_behind, defScope s_f_stand_behind, []⟩
def r_first_nodes : EX.DR := ⟨fun K => (He.ga K "first_nodes"), "first_nodes", "first_nodes", defArgs s_f_first_nodes, defBody s_f_first_nodes, defScope s_f_first_nodes, []⟩
def r_run_of : EX.DR := ⟨fun K => (He.ga K "run_of"), "run_of", "run_of", defArgs s_f_run_of, defBody s_f_run_of, defScope s_f_run_of, []⟩
def r_nodes_behind : EX.DR := ⟨fun K => (He.ga K "nodes_behind"), "nodes_behind", "nodes_behind", defArgs s_f_nodes_behind, defBody s_f_nodes_behind, defScope s_f_nodes_behind, []⟩
def r_Ratio_init : EX.DR := ⟨fun K => (He.ma K (He.ga K "Ratio") "__init__"), "__init__", "Ratio.__init__", defArgs s_Ratio_init, defBody s_Ratio_init, defScope s_Ratio_init, [V.int 1]⟩
def r_staying_length : EX.DR := ⟨fun K => (He.ga K "staying_length"), "staying_length", "staying_length", defArgs s_f_staying_length, defBody s_f_staying_length, defScope s_f_staying_length, []⟩
def r_is_fraction : EX.DR := ⟨fun K => (He.ga K "is_fraction"), "is_fraction", "is_fraction", defArgs s_f_is_fraction, defBody s_f_is_fraction, defScope s_f_is_fraction, []⟩
def r_as_ratio : EX.DR := ⟨fun K => (He.ga K "as_ratio"), "as_ratio", "as_ratio", defArgs s_f_as_ratio, defBody s_f_as_ratio, defScope s_f_as_ratio, []⟩
def r_Ratio_eq : EX.DR := ⟨fun K => (He.ma K (He.ga K "Ratio") "__eq__"), "__eq__", "Ratio.__eq__", defArgs s_Ratio_eq, defBody s_Ratio_eq, defScope s_Ratio_eq, []⟩
def r_order_of : EX.DR := ⟨fun K => (He.ga K "order_of"), "order_of", "order_of", defArgs s_f_order_of, defBody s_f_order_of, defScope s_f_order_of, []⟩
def r_Ratio_compared : EX.DR := ⟨fun K => (He.ma K (He.ga K "Ratio") "compared"), "compared", "Ratio.compared", defArgs s_Ratio_compared, defBody s_Ratio_compared, defScope s_Ratio_compared, []⟩
def r_law_right : EX.DR := ⟨fun K => (He.ga K "_law_right"), "_law_right", "_law_right", defArgs s_f_law_right, defBody s_f_law_right, defScope s_f_law_right, []⟩
def r_law : EX.DR := ⟨fun K => (He.ga K "law"), "law", "law", defArgs s_f_law, defBody s_f_law, defScope s_f_law, []⟩
def rs : List EX.DR := [r_Fold_len, r_Watch_len, r_law_purse, r_law_draw, r_law_pick, r_law_dough, r_law_signs, r_law_eye, r_law_scene, r_law_trap, r_is_integer, r_is_between, r_is_cell, r_check_cells, r_Fold_init, r_are_small, r_is_in_order, r_check_moves, r_are_good, r_Watch_init, r_law_led, r_law_graph, r_law_firsts, r_law_due, r_check_fold, r_check_colours, r_goes_with, r_check_watch, r_check_asked, r_factor_of, r_shared_factor, r_common_multiple, r_stand_behind, r_first_nodes, r_run_of, r_nodes_behind, r_Ratio_init, r_staying_length, r_is_fraction, r_as_ratio, r_Ratio_eq, r_order_of, r_Ratio_compared, r_law_right, r_law]
def exs (K : PySem.W.Frag) : List Bool := [EX.getB K,
  He.Fa.ok K (He.Fa.glo "Ratio"),
  He.Fa.ok K (He.Fa.cls "Ratio"),
  EX.insB K (He.ga K "Ratio"),
  He.Fa.ok K (He.Fa.glo "Fold"),
  He.Fa.ok K (He.Fa.cls "Fold"),
  EX.insB K (He.ga K "Fold"),
  He.Fa.ok K (He.Fa.glo "Watch"),
  He.Fa.ok K (He.Fa.cls "Watch"),
  EX.insB K (He.ga K "Watch"),
  He.Fa.ok K (He.Fa.meth "Fold" "__len__"),
  He.Fa.ok K (He.Fa.meth "Watch" "__len__"),
  He.Fa.ok K (He.Fa.glo "_law_purse"),
  He.Fa.ok K (He.Fa.glo "_law_draw"),
  He.Fa.ok K (He.Fa.glo "_law_pick"),
  He.Fa.ok K (He.Fa.glo "_law_dough"),
  He.Fa.ok K (He.Fa.glo "_law_signs"),
  He.Fa.ok K (He.Fa.glo "_law_eye"),
  He.Fa.ok K (He.Fa.glo "_law_scene"),
  He.Fa.ok K (He.Fa.glo "_law_trap"),
  He.Fa.ok K (He.Fa.glo "is_integer"),
  He.Fa.ok K (He.Fa.glo "is_between"),
  He.Fa.ok K (He.Fa.glo "is_cell"),
  He.Fa.ok K (He.Fa.glo "check_cells"),
  He.Fa.ok K (He.Fa.meth "Fold" "__init__"),
  He.Fa.ok K (He.Fa.mkr "Fold"),
  He.Fa.ok K (He.Fa.glo "are_small"),
  He.Fa.ok K (He.Fa.glo "is_in_order"),
  He.Fa.ok K (He.Fa.glo "check_moves"),
  He.Fa.ok K (He.Fa.glo "are_good"),
  He.Fa.ok K (He.Fa.meth "Watch" "__init__"),
  He.Fa.ok K (He.Fa.mkr "Watch"),
  He.Fa.ok K (He.Fa.glo "_law_led"),
  He.Fa.ok K (He.Fa.glo "_law_graph"),
  He.Fa.ok K (He.Fa.glo "_law_firsts"),
  He.Fa.ok K (He.Fa.glo "_law_due"),
  He.Fa.ok K (He.Fa.glo "check_fold"),
  He.Fa.ok K (He.Fa.glo "check_colours"),
  He.Fa.ok K (He.Fa.glo "goes_with"),
  He.Fa.ok K (He.Fa.glo "check_watch"),
  He.Fa.ok K (He.Fa.glo "check_asked"),
  He.Fa.ok K (He.Fa.glo "factor_of"),
  He.Fa.ok K (He.Fa.glo "shared_factor"),
  He.Fa.ok K (He.Fa.glo "common_multiple"),
  He.Fa.ok K (He.Fa.glo "stand_behind"),
  He.Fa.ok K (He.Fa.glo "first_nodes"),
  He.Fa.ok K (He.Fa.glo "run_of"),
  He.Fa.ok K (He.Fa.glo "nodes_behind"),
  He.Fa.ok K (He.Fa.meth "Ratio" "__init__"),
  He.Fa.ok K (He.Fa.mkr "Ratio"),
  He.Fa.ok K (He.Fa.glo "staying_length"),
  He.Fa.ok K (He.Fa.glo "is_fraction"),
  He.Fa.ok K (He.Fa.glo "as_ratio"),
  He.Fa.ok K (He.Fa.meth "Ratio" "__eq__"),
  He.Fa.ok K (He.Fa.glo "order_of"),
  He.Fa.ok K (He.Fa.meth "Ratio" "compared"),
  He.Fa.ok K (He.Fa.glo "_law_right"),
  He.Fa.ok K (He.Fa.glo "law"),
  He.Fa.ok K (He.Fa.free "isinstance"),
  He.Fa.ok K (He.Fa.free "len"),
  He.Fa.ok K (He.Fa.free "int"),
  He.Fa.ok K (He.Fa.free "bool"),
  He.Fa.ok K (He.Fa.free "str"),
  He.Fa.ok K (He.Fa.free "tuple"),
  He.Fa.ok K (He.Fa.free "list"),
  He.Fa.ok K (He.Fa.free "range"),
  He.Fa.ok K (He.Fa.free "enumerate"),
  He.Fa.ok K (He.Fa.free "abs"),
  He.Fa.ok K (He.Fa.free "max"),
  He.Fa.ok K (He.Fa.free "min"),
  He.Fa.ok K (He.Fa.free "all"),
  He.Fa.ok K (He.Fa.free "any"),
  He.Fa.ok K (He.Fa.free "sum"),
  He.Fa.ok K (He.Fa.free "repr"),
  He.Fa.ok K (He.Fa.free "sorted"),
  He.Fa.ok K (He.Fa.free "set"),
  He.Fa.ok K (He.Fa.free "dict"),
  He.Fa.ok K (He.Fa.free "zip"),
  He.Fa.ok K (He.Fa.noat "Ratio" "top"),
  He.Fa.ok K (He.Fa.noat "Ratio" "bottom"),
  He.Fa.ok K (He.Fa.noat "Fold" "cells"),
  He.Fa.ok K (He.Fa.noat "Watch" "letters"),
  He.Fa.ok K (He.Fa.noat "Watch" "moves"),
  He.Fa.ok K (He.Fa.noat "Watch" "good"),
  EX.eqB (PySem.W.kitOne K (.ref (He.ga K "Ratio")) (.type "int")) false,
  EX.eqB (PySem.W.kitOne K (.ref (He.ga K "Ratio")) (.type "bool")) false,
  EX.eqB (PySem.W.kitOne K (.ref (He.ga K "Ratio")) (.type "str")) false,
  EX.eqB (PySem.W.kitOne K (.ref (He.ga K "Ratio")) (.type "tuple")) false,
  EX.eqB (PySem.W.kitOne K (.type "NoneType") (.ref (He.ga K "Ratio"))) false,
  EX.eqB (PySem.W.kitOne K (.type "bool") (.ref (He.ga K "Ratio"))) false,
  EX.eqB (PySem.W.kitOne K (.type "int") (.ref (He.ga K "Ratio"))) false,
  EX.eqB (PySem.W.kitOne K (.type "str") (.ref (He.ga K "Ratio"))) false,
  EX.eqB (PySem.W.kitOne K (.type "tuple") (.ref (He.ga K "Ratio"))) false,
  EX.eqB (PySem.W.kitOne K (.type "list") (.ref (He.ga K "Ratio"))) false,
  EX.eqB (PySem.W.kitOne K (.type "dict") (.ref (He.ga K "Ratio"))) false,
  PySem.W.notFirst K (He.ga K "Ratio") (.type "NoneType"),
  PySem.W.notFirst K (He.ga K "Ratio") (.type "bool"),
  PySem.W.notFirst K (He.ga K "Ratio") (.type "int"),
  PySem.W.notFirst K (He.ga K "Ratio") (.type "str"),
  PySem.W.notFirst K (He.ga K "Ratio") (.type "tuple"),
  PySem.W.notFirst K (He.ga K "Ratio") (.type "list"),
  PySem.W.notFirst K (He.ga K "Ratio") (.type "dict"),
  He.eqO (PySem.W.findIn K (.ref (He.ga K "Ratio")) "__ne__") (some (some (.builtin "object.__ne__"))),
  PySem.W.notFirst K (He.ga K "Ratio") (.ref (He.ga K "Ratio")),
  PySem.W.notFirst K (He.ga K "Ratio") (.ref (He.ga K "Fold")),
  EX.eqB (PySem.W.kitOne K (.ref (He.ga K "Ratio")) (.ref (He.ga K "Fold"))) false,
  PySem.W.notFirst K (He.ga K "Ratio") (.ref (He.ga K "Watch")),
  EX.eqB (PySem.W.kitOne K (.ref (He.ga K "Ratio")) (.ref (He.ga K "Watch"))) false,
  EX.eqB (PySem.W.kitOne K (.ref (He.ga K "Fold")) (.type "int")) false,
  EX.eqB (PySem.W.kitOne K (.ref (He.ga K "Fold")) (.type "bool")) false,
  EX.eqB (PySem.W.kitOne K (.ref (He.ga K "Fold")) (.type "str")) false,
  EX.eqB (PySem.W.kitOne K (.ref (He.ga K "Fold")) (.type "tuple")) false,
  EX.eqB (PySem.W.kitOne K (.type "NoneType") (.ref (He.ga K "Fold"))) false,
  EX.eqB (PySem.W.kitOne K (.type "bool") (.ref (He.ga K "Fold"))) false,
  EX.eqB (PySem.W.kitOne K (.type "int") (.ref (He.ga K "Fold"))) false,
  EX.eqB (PySem.W.kitOne K (.type "str") (.ref (He.ga K "Fold"))) false,
  EX.eqB (PySem.W.kitOne K (.type "tuple") (.ref (He.ga K "Fold"))) false,
  EX.eqB (PySem.W.kitOne K (.type "list") (.ref (He.ga K "Fold"))) false,
  EX.eqB (PySem.W.kitOne K (.type "dict") (.ref (He.ga K "Fold"))) false,
  PySem.W.notFirst K (He.ga K "Fold") (.type "NoneType"),
  PySem.W.notFirst K (He.ga K "Fold") (.type "bool"),
  PySem.W.notFirst K (He.ga K "Fold") (.type "int"),
  PySem.W.notFirst K (He.ga K "Fold") (.type "str"),
  PySem.W.notFirst K (He.ga K "Fold") (.type "tuple"),
  PySem.W.notFirst K (He.ga K "Fold") (.type "list"),
  PySem.W.notFirst K (He.ga K "Fold") (.type "dict"),
  He.eqO (PySem.W.findIn K (.ref (He.ga K "Fold")) "__ne__") (some (some (.builtin "object.__ne__"))),
  PySem.W.notFirst K (He.ga K "Fold") (.ref (He.ga K "Ratio")),
  EX.eqB (PySem.W.kitOne K (.ref (He.ga K "Fold")) (.ref (He.ga K "Ratio"))) false,
  PySem.W.notFirst K (He.ga K "Fold") (.ref (He.ga K "Fold")),
  PySem.W.notFirst K (He.ga K "Fold") (.ref (He.ga K "Watch")),
  EX.eqB (PySem.W.kitOne K (.ref (He.ga K "Fold")) (.ref (He.ga K "Watch"))) false,
  EX.eqB (PySem.W.kitOne K (.ref (He.ga K "Watch")) (.type "int")) false,
  EX.eqB (PySem.W.kitOne K (.ref (He.ga K "Watch")) (.type "bool")) false,
  EX.eqB (PySem.W.kitOne K (.ref (He.ga K "Watch")) (.type "str")) false,
  EX.eqB (PySem.W.kitOne K (.ref (He.ga K "Watch")) (.type "tuple")) false,
  EX.eqB (PySem.W.kitOne K (.type "NoneType") (.ref (He.ga K "Watch"))) false,
  EX.eqB (PySem.W.kitOne K (.type "bool") (.ref (He.ga K "Watch"))) false,
  EX.eqB (PySem.W.kitOne K (.type "int") (.ref (He.ga K "Watch"))) false,
  EX.eqB (PySem.W.kitOne K (.type "str") (.ref (He.ga K "Watch"))) false,
  EX.eqB (PySem.W.kitOne K (.type "tuple") (.ref (He.ga K "Watch"))) false,
  EX.eqB (PySem.W.kitOne K (.type "list") (.ref (He.ga K "Watch"))) false,
  EX.eqB (PySem.W.kitOne K (.type "dict") (.ref (He.ga K "Watch"))) false,
  PySem.W.notFirst K (He.ga K "Watch") (.type "NoneType"),
  PySem.W.notFirst K (He.ga K "Watch") (.type "bool"),
  PySem.W.notFirst K (He.ga K "Watch") (.type "int"),
  PySem.W.notFirst K (He.ga K "Watch") (.type "str"),
  PySem.W.notFirst K (He.ga K "Watch") (.type "tuple"),
  PySem.W.notFirst K (He.ga K "Watch") (.type "list"),
  PySem.W.notFirst K (He.ga K "Watch") (.type "dict"),
  He.eqO (PySem.W.findIn K (.ref (He.ga K "Watch")) "__ne__") (some (some (.builtin "object.__ne__"))),
  PySem.W.notFirst K (He.ga K "Watch") (.ref (He.ga K "Ratio")),
  EX.eqB (PySem.W.kitOne K (.ref (He.ga K "Watch")) (.ref (He.ga K "Ratio"))) false,
  PySem.W.notFirst K (He.ga K "Watch") (.ref (He.ga K "Fold")),
  EX.eqB (PySem.W.kitOne K (.ref (He.ga K "Watch")) (.ref (He.ga K "Fold"))) false,
  PySem.W.notFirst K (He.ga K "Watch") (.ref (He.ga K "Watch")),
  PySem.W.selfFirst K (He.ga K "Ratio"),
  EX.eqB (PySem.W.subIn K (.type "int") (.ref (He.ga K "Ratio"))) false,
  EX.eqB (PySem.W.subIn K (.ref (He.ga K "Ratio")) (.type "int")) false,
  EX.opB K .Add,
  EX.opB K .Sub,
  EX.opB K .Mult,
  He.Fa.ok K (He.Fa.int "MOST_CELLS" 8),
  He.Fa.ok K (He.Fa.int "MOST_STANDS" 6),
  He.Fa.ok K (He.Fa.int "MOST_ROW" 200)]
theorem facts {l : PySem.W.OpenLaw} {w : World} {K : PySem.W.Frag} {hp : Heap} {mg : Str → Option Value} {fa : Addr} (X : K.In hp) (G : hp.Ns mainGlobals mg) (hfa : mg "law" = some (.ref fa)) (c : EX.obsY rs exs K = EX.valY rs)
    : ∃ fd : FuncData, (∀ (s : Shared) (v : Value), BindsTo s fd ⟨[v], []⟩ [("_law_script", v)]) ∧ ∀ base : Heap, K.In base → base.Ns mainGlobals mg → FnOk l.prog w K mg base CX0 9 fa fd ["_law_script"] (spLaw K) := by
  obtain ⟨fd_Fold_len, FD_Fold_len⟩ : ∃ fd, FunD K "__len__" "Fold.__len__" (defArgs s_Fold_len) (defBody s_Fold_len) (defScope s_Fold_len) [] [] (He.ma K (He.ga K "Fold") "__len__") fd := EX.defAt c 0 (d := r_Fold_len) rfl
  obtain ⟨fd_Watch_len, FD_Watch_len⟩ : ∃ fd, FunD K "__len__" "Watch.__len__" (defArgs s_Watch_len) (defBody s_Watch_len) (defScope s_Watch_len) [] [] (He.ma K (He.ga K "Watch") "__len__") fd := EX.defAt c 1 (d := r_Watch_len) rfl
  obtain ⟨fd_law_purse, FD_law_purse⟩ : ∃ fd, FunD K "_law_purse" "_law_purse" (defArgs s_f_law_purse) (defBody s_f_law_purse) (defScope s_f_law_purse) [] [] (He.ga K "_law_purse") fd := EX.defAt c 2 (d := r_law_purse) rfl
  obtain ⟨fd_law_draw, FD_law_draw⟩ : ∃ fd, FunD K "_law_draw" "_law_draw" (defArgs s_f_law_draw) (defBody s_f_law_draw) (defScope s_f_law_draw) [] [] (He.ga K "_law_draw") fd := EX.defAt c 3 (d := r_law_draw) rfl
  obtain ⟨fd_law_pick, FD_law_pick⟩ : ∃ fd, FunD K "_law_pick" "_law_pick" (defArgs s_f_law_pick) (defBody s_f_law_pick) (defScope s_f_law_pick) [] [] (He.ga K "_law_pick") fd := EX.defAt c 4 (d := r_law_pick) rfl
  obtain ⟨fd_law_dough, FD_law_dough⟩ : ∃ fd, FunD K "_law_dough" "_law_dough" (defArgs s_f_law_dough) (defBody s_f_law_dough) (defScope s_f_law_dough) [] [] (He.ga K "_law_dough") fd := EX.defAt c 5 (d := r_law_dough) rfl
  obtain ⟨fd_law_signs, FD_law_signs⟩ : ∃ fd, FunD K "_law_signs" "_law_signs" (defArgs s_f_law_signs) (defBody s_f_law_signs) (defScope s_f_law_signs) [] [] (He.ga K "_law_signs") fd := EX.defAt c 6 (d := r_law_signs) rfl
  obtain ⟨fd_law_eye, FD_law_eye⟩ : ∃ fd, FunD K "_law_eye" "_law_eye" (defArgs s_f_law_eye) (defBody s_f_law_eye) (defScope s_f_law_eye) [] [] (He.ga K "_law_eye") fd := EX.defAt c 7 (d := r_law_eye) rfl
  obtain ⟨fd_law_scene, FD_law_scene⟩ : ∃ fd, FunD K "_law_scene" "_law_scene" (defArgs s_f_law_scene) (defBody s_f_law_scene) (defScope s_f_law_scene) [] [] (He.ga K "_law_scene") fd := EX.defAt c 8 (d := r_law_scene) rfl
  obtain ⟨fd_law_trap, FD_law_trap⟩ : ∃ fd, FunD K "_law_trap" "_law_trap" (defArgs s_f_law_trap) (defBody s_f_law_trap) (defScope s_f_law_trap) [] [] (He.ga K "_law_trap") fd := EX.defAt c 9 (d := r_law_trap) rfl
  obtain ⟨fd_is_integer, FD_is_integer⟩ : ∃ fd, FunD K "is_integer" "is_integer" (defArgs s_f_is_integer) (defBody s_f_is_integer) (defScope s_f_is_integer) [] [] (He.ga K "is_integer") fd := EX.defAt c 10 (d := r_is_integer) rfl
  obtain ⟨fd_is_between, FD_is_between⟩ : ∃ fd, FunD K "is_between" "is_between" (defArgs s_f_is_between) (defBody s_f_is_between) (defScope s_f_is_between) [] [] (He.ga K "is_between") fd := EX.defAt c 11 (d := r_is_between) rfl
  obtain ⟨fd_is_cell, FD_is_cell⟩ : ∃ fd, FunD K "is_cell" "is_cell" (defArgs s_f_is_cell) (defBody s_f_is_cell) (defScope s_f_is_cell) [] [] (He.ga K "is_cell") fd := EX.defAt c 12 (d := r_is_cell) rfl
  obtain ⟨fd_check_cells, FD_check_cells⟩ : ∃ fd, FunD K "check_cells" "check_cells" (defArgs s_f_check_cells) (defBody s_f_check_cells) (defScope s_f_check_cells) [] [] (He.ga K "check_cells") fd := EX.defAt c 13 (d := r_check_cells) rfl
  obtain ⟨fd_Fold_init, FD_Fold_init⟩ : ∃ fd, FunD K "__init__" "Fold.__init__" (defArgs s_Fold_init) (defBody s_Fold_init) (defScope s_Fold_init) [] [] (He.ma K (He.ga K "Fold") "__init__") fd := EX.defAt c 14 (d := r_Fold_init) rfl
  obtain ⟨fd_are_small, FD_are_small⟩ : ∃ fd, FunD K "are_small" "are_small" (defArgs s_f_are_small) (defBody s_f_are_small) (defScope s_f_are_small) [] [] (He.ga K "are_small") fd := EX.defAt c 15 (d := r_are_small) rfl
  obtain ⟨fd_is_in_order, FD_is_in_order⟩ : ∃ fd, FunD K "is_in_order" "is_in_order" (defArgs s_f_is_in_order) (defBody s_f_is_in_order) (defScope s_f_is_in_order) [] [] (He.ga K "is_in_order") fd := EX.defAt c 16 (d := r_is_in_order) rfl
  obtain ⟨fd_check_moves, FD_check_moves⟩ : ∃ fd, FunD K "check_moves" "check_moves" (defArgs s_f_check_moves) (defBody s_f_check_moves) (defScope s_f_check_moves) [] [] (He.ga K "check_moves") fd := EX.defAt c 17 (d := r_check_moves) rfl
  obtain ⟨fd_are_good, FD_are_good⟩ : ∃ fd, FunD K "are_good" "are_good" (defArgs s_f_are_good) (defBody s_f_are_good) (defScope s_f_are_good) [] [] (He.ga K "are_good") fd := EX.defAt c 18 (d := r_are_good) rfl
  obtain ⟨fd_Watch_init, FD_Watch_init⟩ : ∃ fd, FunD K "__init__" "Watch.__init__" (defArgs s_Watch_init) (defBody s_Watch_init) (defScope s_Watch_init) [] [] (He.ma K (He.ga K "Watch") "__init__") fd := EX.defAt c 19 (d := r_Watch_init) rfl
  obtain ⟨fd_law_led, FD_law_led⟩ : ∃ fd, FunD K "_law_led" "_law_led" (defArgs s_f_law_led) (defBody s_f_law_led) (defScope s_f_law_led) [] [] (He.ga K "_law_led") fd := EX.defAt c 20 (d := r_law_led) rfl
  obtain ⟨fd_law_graph, FD_law_graph⟩ : ∃ fd, FunD K "_law_graph" "_law_graph" (defArgs s_f_law_graph) (defBody s_f_law_graph) (defScope s_f_law_graph) [] [] (He.ga K "_law_graph") fd := EX.defAt c 21 (d := r_law_graph) rfl
  obtain ⟨fd_law_firsts, FD_law_firsts⟩ : ∃ fd, FunD K "_law_firsts" "_law_firsts" (defArgs s_f_law_firsts) (defBody s_f_law_firsts) (defScope s_f_law_firsts) [] [] (He.ga K "_law_firsts") fd := EX.defAt c 22 (d := r_law_firsts) rfl
  obtain ⟨fd_law_due, FD_law_due⟩ : ∃ fd, FunD K "_law_due" "_law_due" (defArgs s_f_law_due) (defBody s_f_law_due) (defScope s_f_law_due) [] [] (He.ga K "_law_due") fd := EX.defAt c 23 (d := r_law_due) rfl
  obtain ⟨fd_check_fold, FD_check_fold⟩ : ∃ fd, FunD K "check_fold" "check_fold" (defArgs s_f_check_fold) (defBody s_f_check_fold) (defScope s_f_check_fold) [] [] (He.ga K "check_fold") fd := EX.defAt c 24 (d := r_check_fold) rfl
  obtain ⟨fd_check_colours, FD_check_colours⟩ : ∃ fd, FunD K "check_colours" "check_colours" (defArgs s_f_check_colours) (defBody s_f_check_colours) (defScope s_f_check_colours) [] [] (He.ga K "check_colours") fd := EX.defAt c 25 (d := r_check_colours) rfl
  obtain ⟨fd_goes_with, FD_goes_with⟩ : ∃ fd, FunD K "goes_with" "goes_with" (defArgs s_f_goes_with) (defBody s_f_goes_with) (defScope s_f_goes_with) [] [] (He.ga K "goes_with") fd := EX.defAt c 26 (d := r_goes_with) rfl
  obtain ⟨fd_check_watch, FD_check_watch⟩ : ∃ fd, FunD K "check_watch" "check_watch" (defArgs s_f_check_watch) (defBody s_f_check_watch) (defScope s_f_check_watch) [] [] (He.ga K "check_watch") fd := EX.defAt c 27 (d := r_check_watch) rfl
  obtain ⟨fd_check_asked, FD_check_asked⟩ : ∃ fd, FunD K "check_asked" "check_asked" (defArgs s_f_check_asked) (defBody s_f_check_asked) (defScope s_f_check_asked) [] [] (He.ga K "check_asked") fd := EX.defAt c 28 (d := r_check_asked) rfl
  obtain ⟨fd_factor_of, FD_factor_of⟩ : ∃ fd, FunD K "factor_of" "factor_of" (defArgs s_f_factor_of) (defBody s_f_factor_of) (defScope s_f_factor_of) [] [] (He.ga K "factor_of") fd := EX.defAt c 29 (d := r_factor_of) rfl
  obtain ⟨fd_shared_factor, FD_shared_factor⟩ : ∃ fd, FunD K "shared_factor" "shared_factor" (defArgs s_f_shared_factor) (defBody s_f_shared_factor) (defScope s_f_shared_factor) [] [] (He.ga K "shared_factor") fd := EX.defAt c 30 (d := r_shared_factor) rfl
  obtain ⟨fd_common_multiple, FD_common_multiple⟩ : ∃ fd, FunD K "common_multiple" "common_multiple" (defArgs s_f_common_multiple) (defBody s_f_common_multiple) (defScope s_f_common_multiple) [] [] (He.ga K "common_multiple") fd := EX.defAt c 31 (d := r_common_multiple) rfl
  obtain ⟨fd_stand_behind, FD_stand_behind⟩ : ∃ fd, FunD K "stand_behind" "stand_behind" (defArgs s_f_stand_behind) (defBody s_f_stand_behind) (defScope s_f_stand_behind) [] [] (He.ga K "stand_behind") fd := EX.defAt c 32 (d := r_stand_behind) rfl
  obtain ⟨fd_first_nodes, FD_first_nodes⟩ : ∃ fd, FunD K "first_nodes" "first_nodes" (defArgs s_f_first_nodes) (defBody s_f_first_nodes) (defScope s_f_first_nodes) [] [] (He.ga K "first_nodes") fd := EX.defAt c 33 (d := r_first_nodes) rfl
  obtain ⟨fd_run_of, FD_run_of⟩ : ∃ fd, FunD K "run_of" "run_of" (defArgs s_f_run_of) (defBody s_f_run_of) (defScope s_f_run_of) [] [] (He.ga K "run_of") fd := EX.defAt c 34 (d := r_run_of) rfl
  obtain ⟨fd_nodes_behind, FD_nodes_behind⟩ : ∃ fd, FunD K "nodes_behind" "nodes_behind" (defArgs s_f_nodes_behind) (defBody s_f_nodes_behind) (defScope s_f_nodes_behind) [] [] (He.ga K "nodes_behind") fd := EX.defAt c 35 (d := r_nodes_behind) rfl
  obtain ⟨fd_Ratio_init, FD_Ratio_init⟩ : ∃ fd, FunD K "__init__" "Ratio.__init__" (defArgs s_Ratio_init) (defBody s_Ratio_init) (defScope s_Ratio_init) [V.int 1] [] (He.ma K (He.ga K "Ratio") "__init__") fd := EX.defAt c 36 (d := r_Ratio_init) rfl
  obtain ⟨fd_staying_length, FD_staying_length⟩ : ∃ fd, FunD K "staying_length" "staying_length" (defArgs s_f_staying_length) (defBody s_f_staying_length) (defScope s_f_staying_length) [] [] (He.ga K "staying_length") fd := EX.defAt c 37 (d := r_staying_length) rfl
  obtain ⟨fd_is_fraction, FD_is_fraction⟩ : ∃ fd, FunD K "is_fraction" "is_fraction" (defArgs s_f_is_fraction) (defBody s_f_is_fraction) (defScope s_f_is_fraction) [] [] (He.ga K "is_fraction") fd := EX.defAt c 38 (d := r_is_fraction) rfl
  obtain ⟨fd_as_ratio, FD_as_ratio⟩ : ∃ fd, FunD K "as_ratio" "as_ratio" (defArgs s_f_as_ratio) (defBody s_f_as_ratio) (defScope s_f_as_ratio) [] [] (He.ga K "as_ratio") fd := EX.defAt c 39 (d := r_as_ratio) rfl
  obtain ⟨fd_Ratio_eq, FD_Ratio_eq⟩ : ∃ fd, FunD K "__eq__" "Ratio.__eq__" (defArgs s_Ratio_eq) (defBody s_Ratio_eq) (defScope s_Ratio_eq) [] [] (He.ma K (He.ga K "Ratio") "__eq__") fd := EX.defAt c 40 (d := r_Ratio_eq) rfl
  obtain ⟨fd_order_of, FD_order_of⟩ : ∃ fd, FunD K "order_of" "order_of" (defArgs s_f_order_of) (defBody s_f_order_of) (defScope s_f_order_of) [] [] (He.ga K "order_of") fd := EX.defAt c 41 (d := r_order_of) rfl
  obtain ⟨fd_Ratio_compared, FD_Ratio_compared⟩ : ∃ fd, FunD K "compared" "Ratio.compared" (defArgs s_Ratio_compared) (defBody s_Ratio_compared) (defScope s_Ratio_compared) [] [] (He.ma K (He.ga K "Ratio") "compared") fd := EX.defAt c 42 (d := r_Ratio_compared) rfl
  obtain ⟨fd_law_right, FD_law_right⟩ : ∃ fd, FunD K "_law_right" "_law_right" (defArgs s_f_law_right) (defBody s_f_law_right) (defScope s_f_law_right) [] [] (He.ga K "_law_right") fd := EX.defAt c 43 (d := r_law_right) rfl
  obtain ⟨fd_law, FD_law⟩ : ∃ fd, FunD K "law" "law" (defArgs s_f_law) (defBody s_f_law) (defScope s_f_law) [] [] (He.ga K "law") fd := EX.defAt c 44 (d := r_law) rfl
  exact all_mk (c_Ratio := (He.ga K "Ratio")) (c_Fold := (He.ga K "Fold")) (c_Watch := (He.ga K "Watch")) (fA_Fold_len := (He.ma K (He.ga K "Fold") "__len__")) (fA_Watch_len := (He.ma K (He.ga K "Watch") "__len__")) (fA_law_purse := (He.ga K "_law_purse")) (fA_law_draw := (He.ga K "_law_draw")) (fA_law_pick := (He.ga K "_law_pick")) (fA_law_dough := (He.ga K "_law_dough")) (fA_law_signs := (He.ga K "_law_signs")) (fA_law_eye := (He.ga K "_law_eye")) (fA_law_scene := (He.ga K "_law_scene")) (fA_law_trap := (He.ga K "_law_trap")) (fA_is_integer := (He.ga K "is_integer")) (fA_is_between := (He.ga K "is_between")) (fA_is_cell := (He.ga K "is_cell")) (fA_check_cells := (He.ga K "check_cells")) (fA_Fold_init := (He.ma K (He.ga K "Fold") "__init__")) (fA_are_small := (He.ga K "are_small")) (fA_is_in_order := (He.ga K "is_in_order")) (fA_check_moves := (He.ga K "check_moves")) (fA_are_good := (He.ga K "are_good")) (fA_Watch_init := (He.ma K (He.ga K "Watch") "__init__")) (fA_law_led := (He.ga K "_law_led")) (fA_law_graph := (He.ga K "_law_graph")) (fA_law_firsts := (He.ga K "_law_firsts")) (fA_law_due := (He.ga K "_law_due")) (fA_check_fold := (He.ga K "check_fold")) (fA_check_colours := (He.ga K "check_colours")) (fA_goes_with := (He.ga K "goes_with")) (fA_check_watch := (He.ga K "check_watch")) (fA_check_asked := (He.ga K "check_asked")) (fA_factor_of := (He.ga K "factor_of")) (fA_shared_factor := (He.ga K "shared_factor")) (fA_common_multiple := (He.ga K "common_multiple")) (fA_stand_behind := (He.ga K "stand_behind")) (fA_first_nodes := (He.ga K "first_nodes")) (fA_run_of := (He.ga K "run_of")) (fA_nodes_behind := (He.ga K "nodes_behind")) (fA_Ratio_init := (He.ma K (He.ga K "Ratio") "__init__")) (fA_staying_length := (He.ga K "staying_length")) (fA_is_fraction := (He.ga K "is_fraction")) (fA_as_ratio := (He.ga K "as_ratio")) (fA_Ratio_eq := (He.ma K (He.ga K "Ratio") "__eq__")) (fA_order_of := (He.ga K "order_of")) (fA_Ratio_compared := (He.ma K (He.ga K "Ratio") "compared")) (fA_law_right := (He.ga K "_law_right")) (fA_law := (He.ga K "law")) hfa
    (He.glo_ok X G (EX.fact c 1 rfl))
    (EX.ins_of (EX.fact c 2 rfl) (EX.fact c 3 rfl) (EX.fact c 0 rfl))
    (He.glo_ok X G (EX.fact c 4 rfl))
    (EX.ins_of (EX.fact c 5 rfl) (EX.fact c 6 rfl) (EX.fact c 0 rfl))
    (He.glo_ok X G (EX.fact c 7 rfl))
    (EX.ins_of (EX.fact c 8 rfl) (EX.fact c 9 rfl) (EX.fact c 0 rfl))
    FD_Fold_len
    (EX.meth_of (EX.fact c 10 rfl))
    FD_Watch_len
    (EX.meth_of (EX.fact c 11 rfl))
    FD_law_purse
    (He.glo_ok X G (EX.fact c 12 rfl))
    FD_law_draw
    (He.glo_ok X G (EX.fact c 13 rfl))
    FD_law_pick
    (He.glo_ok X G (EX.fact c 14 rfl))
    FD_law_dough
    (He.glo_ok X G (EX.fact c 15 rfl))
    FD_law_signs
    (He.glo_ok X G (EX.fact c 16 rfl))
    FD_law_eye
    (He.glo_ok X G (EX.fact c 17 rfl))
    FD_law_scene
    (He.glo_ok X G (EX.fact c 18 rfl))
    FD_law_trap
    (He.glo_ok X G (EX.fact c 19 rfl))
    FD_is_integer
    (He.glo_ok X G (EX.fact c 20 rfl))
    FD_is_between
    (He.glo_ok X G (EX.fact c 21 rfl))
    FD_is_cell
    (He.glo_ok X G (EX.fact c 22 rfl))
    FD_check_cells
    (He.glo_ok X G (EX.fact c 23 rfl))
    FD_Fold_init
    (EX.meth_of (EX.fact c 24 rfl))
    (EX.mk_of (EX.fact c 25 rfl))
    FD_are_small
    (He.glo_ok X G (EX.fact c 26 rfl))
    FD_is_in_order
    (He.glo_ok X G (EX.fact c 27 rfl))
    FD_check_moves
    (He.glo_ok X G (EX.fact c 28 rfl))
    FD_are_good
    (He.glo_ok X G (EX.fact c 29 rfl))
    FD_Watch_init
    (EX.meth_of (EX.fact c 30 rfl))
    (EX.mk_of (EX.fact c 31 rfl))
    FD_law_led
    (He.glo_ok X G (EX.fact c 32 rfl))
    FD_law_graph
    (He.glo_ok X G (EX.fact c 33 rfl))
    FD_law_firsts
    (He.glo_ok X G (EX.fact c 34 rfl))
    FD_law_due
    (He.glo_ok X G (EX.fact c 35 rfl))
    FD_check_fold
    (He.glo_ok X G (EX.fact c 36 rfl))
    FD_check_colours
    (He.glo_ok X G (EX.fact c 37 rfl))
    FD_goes_with
    (He.glo_ok X G (EX.fact c 38 rfl))
    FD_check_watch
    (He.glo_ok X G (EX.fact c 39 rfl))
    FD_check_asked
    (He.glo_ok X G (EX.fact c 40 rfl))
    FD_factor_of
    (He.glo_ok X G (EX.fact c 41 rfl))
    FD_shared_factor
    (He.glo_ok X G (EX.fact c 42 rfl))
    FD_common_multiple
    (He.glo_ok X G (EX.fact c 43 rfl))
    FD_stand_behind
    (He.glo_ok X G (EX.fact c 44 rfl))
    FD_first_nodes
    (He.glo_ok X G (EX.fact c 45 rfl))
    FD_run_of
    (He.glo_ok X G (EX.fact c 46 rfl))
    FD_nodes_behind
    (He.glo_ok X G (EX.fact c 47 rfl))
    FD_Ratio_init
    (EX.meth_of (EX.fact c 48 rfl))
    (EX.mk_of (EX.fact c 49 rfl))
    FD_staying_length
    (He.glo_ok X G (EX.fact c 50 rfl))
    FD_is_fraction
    (He.glo_ok X G (EX.fact c 51 rfl))
    FD_as_ratio
    (He.glo_ok X G (EX.fact c 52 rfl))
    FD_Ratio_eq
    (EX.meth_of (EX.fact c 53 rfl))
    FD_order_of
    (He.glo_ok X G (EX.fact c 54 rfl))
    FD_Ratio_compared
    (EX.meth_of (EX.fact c 55 rfl))
    FD_law_right
    (He.glo_ok X G (EX.fact c 56 rfl))
    FD_law
    (He.glo_ok X G (EX.fact c 57 rfl))
    (He.free_ok X G (EX.fact c 58 rfl))
    (He.free_ok X G (EX.fact c 59 rfl))
    (He.free_ok X G (EX.fact c 60 rfl))
    (He.free_ok X G (EX.fact c 61 rfl))
    (He.free_ok X G (EX.fact c 62 rfl))
    (He.free_ok X G (EX.fact c 63 rfl))
    (He.free_ok X G (EX.fact c 64 rfl))
    (He.free_ok X G (EX.fact c 65 rfl))
    (He.free_ok X G (EX.fact c 66 rfl))
    (He.free_ok X G (EX.fact c 67 rfl))
    (He.free_ok X G (EX.fact c 68 rfl))
    (He.free_ok X G (EX.fact c 69 rfl))
    (He.free_ok X G (EX.fact c 70 rfl))
    (He.free_ok X G (EX.fact c 71 rfl))
    (He.free_ok X G (EX.fact c 72 rfl))
    (He.free_ok X G (EX.fact c 73 rfl))
    (He.free_ok X G (EX.fact c 74 rfl))
    (He.free_ok X G (EX.fact c 75 rfl))
    (He.free_ok X G (EX.fact c 76 rfl))
    (He.free_ok X G (EX.fact c 77 rfl))
    (EX.eqO_ok (EX.fact c 78 rfl))
    (EX.eqO_ok (EX.fact c 79 rfl))
    (EX.eqO_ok (EX.fact c 80 rfl))
    (EX.eqO_ok (EX.fact c 81 rfl))
    (EX.eqO_ok (EX.fact c 82 rfl))
    (EX.eqO_ok (EX.fact c 83 rfl))
    (EX.eqB_ok (EX.fact c 84 rfl))
    (EX.eqB_ok (EX.fact c 85 rfl))
    (EX.eqB_ok (EX.fact c 86 rfl))
    (EX.eqB_ok (EX.fact c 87 rfl))
    (EX.eqB_ok (EX.fact c 88 rfl))
    (EX.eqB_ok (EX.fact c 89 rfl))
    (EX.eqB_ok (EX.fact c 90 rfl))
    (EX.eqB_ok (EX.fact c 91 rfl))
    (EX.eqB_ok (EX.fact c 92 rfl))
    (EX.eqB_ok (EX.fact c 93 rfl))
    (EX.eqB_ok (EX.fact c 94 rfl))
    (EX.fact c 95 rfl)
    (EX.fact c 96 rfl)
    (EX.fact c 97 rfl)
    (EX.fact c 98 rfl)
    (EX.fact c 99 rfl)
    (EX.fact c 100 rfl)
    (EX.fact c 101 rfl)
    (EX.eqO_ok (EX.fact c 102 rfl))
    (EX.fact c 103 rfl)
    (EX.fact c 104 rfl)
    (EX.eqB_ok (EX.fact c 105 rfl))
    (EX.fact c 106 rfl)
    (EX.eqB_ok (EX.fact c 107 rfl))
    (EX.eqB_ok (EX.fact c 108 rfl))
    (EX.eqB_ok (EX.fact c 109 rfl))
    (EX.eqB_ok (EX.fact c 110 rfl))
    (EX.eqB_ok (EX.fact c 111 rfl))
    (EX.eqB_ok (EX.fact c 112 rfl))
    (EX.eqB_ok (EX.fact c 113 rfl))
    (EX.eqB_ok (EX.fact c 114 rfl))
    (EX.eqB_ok (EX.fact c 115 rfl))
    (EX.eqB_ok (EX.fact c 116 rfl))
    (EX.eqB_ok (EX.fact c 117 rfl))
    (EX.eqB_ok (EX.fact c 118 rfl))
    (EX.fact c 119 rfl)
    (EX.fact c 120 rfl)
    (EX.fact c 121 rfl)
    (EX.fact c 122 rfl)
    (EX.fact c 123 rfl)
    (EX.fact c 124 rfl)
    (EX.fact c 125 rfl)
    (EX.eqO_ok (EX.fact c 126 rfl))
    (EX.fact c 127 rfl)
    (EX.eqB_ok (EX.fact c 128 rfl))
    (EX.fact c 129 rfl)
    (EX.fact c 130 rfl)
    (EX.eqB_ok (EX.fact c 131 rfl))
    (EX.eqB_ok (EX.fact c 132 rfl))
    (EX.eqB_ok (EX.fact c 133 rfl))
    (EX.eqB_ok (EX.fact c 134 rfl))
    (EX.eqB_ok (EX.fact c 135 rfl))
    (EX.eqB_ok (EX.fact c 136 rfl))
    (EX.eqB_ok (EX.fact c 137 rfl))
    (EX.eqB_ok (EX.fact c 138 rfl))
    (EX.eqB_ok (EX.fact c 139 rfl))
    (EX.eqB_ok (EX.fact c 140 rfl))
    (EX.eqB_ok (EX.fact c 141 rfl))
    (EX.eqB_ok (EX.fact c 142 rfl))
    (EX.fact c 143 rfl)
    (EX.fact c 144 rfl)
    (EX.fact c 145 rfl)
    (EX.fact c 146 rfl)
    (EX.fact c 147 rfl)
    (EX.fact c 148 rfl)
    (EX.fact c 149 rfl)
    (EX.eqO_ok (EX.fact c 150 rfl))
    (EX.fact c 151 rfl)
    (EX.eqB_ok (EX.fact c 152 rfl))
    (EX.fact c 153 rfl)
    (EX.eqB_ok (EX.fact c 154 rfl))
    (EX.fact c 155 rfl)
    (EX.fact c 156 rfl)
    (EX.eqB_ok (EX.fact c 157 rfl))
    (EX.eqB_ok (EX.fact c 158 rfl))
    (EX.opB_ok (EX.fact c 159 rfl))
    (EX.opB_ok (EX.fact c 160 rfl))
    (EX.opB_ok (EX.fact c 161 rfl))
    (He.int_ok X G (EX.fact c 162 rfl))
    (He.int_ok X G (EX.fact c 163 rfl))
    (He.int_ok X G (EX.fact c 164 rfl))
def nm0 : List Str := ["_wall", "is_integer", "is_between", "are_small", "is_in_order", "are_figures", "ShapeError", "InvalidNumber", "InvalidText", "InvalidCells", "InvalidRow", "InvalidColours", "InvalidLetters", "InvalidMoves", "InvalidGood", "NotAFold", "NotAWatch", "QuestionError", "OtherColours", "MOST_CELLS", "MOST_STANDS", "MOST_ROW", "is_cell", "check_cells", "cell_in", "cell_text", "Fold", "run_of", "factor_of", "check_fold"]
def nm1 : List Str := ["check_cell", "check_moves", "are_good", "Watch", "form_of", "stand_behind", "check_colours", "goes_with", "check_watch", "first_nodes", "nodes_behind", "check_asked", "LONGEST", "shared_factor", "is_fraction", "as_ratio", "order_of", "ratio_in", "Ratio", "common_multiple", "staying_length", "_law_purse", "_law_draw", "_law_pick", "_law_dough", "_law_signs", "_law_eye", "_law_scene", "_law_trap", "_law_led"]
def nm2 : List Str := ["_law_graph", "_law_firsts", "_law_due", "_law_right"]
def nms : List Str := nm0 ++ nm1 ++ nm2
abbrev RR : PySem.W.OpenRow := PySem.W.OpenLaw.row PySem.Challenge.rw_doughfolds_k39_whole_staying_lengths_of
theorem run (w : World) : HandSHeadRun.RunEq RR (PySem.W.view RR.prog [72]) (EX.hookY rs exs) (EX.obY rs exs) 60000 nms w := by
  intro os
  kernel_rfl
end SL.K39
open PySem PySem.W PySem.Calls PyProof.Rows in
set_option maxRecDepth 100000 in
set_option maxHeartbeats 0 in
theorem PySem.Challenge.cw_doughfolds_k39_whole_staying_lengths_of_holds : PySem.Challenge.rw_doughfolds_k39_whole_staying_lengths_of.Holds := by
  w_on; o_law
  refine HandSHeadRun.head_any (r := OpenLaw.row PySem.Challenge.rw_doughfolds_k39_whole_staying_lengths_of) (q := view (OpenLaw.row PySem.Challenge.rw_doughfolds_k39_whole_staying_lengths_of).prog [72]) (H := EX.hookY SL.K39.rs SL.K39.exs) (ob := EX.obY SL.K39.rs SL.K39.exs) (M := 60000) (loose := SL.K39.nms) (d := HandSHeadRun.topDef (OpenLaw.row PySem.Challenge.rw_doughfolds_k39_whole_staying_lengths_of).prog 72) (kwd := []) (EX.obY_eq SL.K39.rs SL.K39.exs)
    (by kernel_rfl) (fun s => by kernel_rfl) SL.K39.run (by kernel_rfl) (by kernel_rfl) (by kernel_rfl) (by rfl) (by first | assumption | decide +kernel) (by decide +kernel) ⟨rfl, rfl, rfl, rfl, rfl, by decide +kernel⟩ ?hw ?hc
  case hw => w_witness2
  case hc =>
    refine EX.walkE (l := PySem.Challenge.rw_doughfolds_k39_whole_staying_lengths_of) (k := 9) "_law_script" (by decide) (hn := rfl) (hdf := by kernel_rfl) (F := ?F)
    intro w mg fa hp Y G hmg0
    obtain ⟨K, KX, c⟩ := Y
    have hmg : mg ("law" : PySem.Str) = some (.ref fa) := by
      have e : (HandSHeadRun.topDef (OpenLaw.row PySem.Challenge.rw_doughfolds_k39_whole_staying_lengths_of).prog 72).name = ("law" : PySem.Str) := by kernel_rfl
      rw [← e]
      exact hmg0
    obtain ⟨fd, hb, hF⟩ := SL.K39.facts (l := PySem.Challenge.rw_doughfolds_k39_whole_staying_lengths_of) (w := w) KX G hmg c
    exact ⟨K, fd, KX, hb, hF⟩
#print axioms PySem.Challenge.cw_doughfolds_k39_whole_staying_lengths_of_holds
