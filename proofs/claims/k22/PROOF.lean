import PyProof.Rows.All
import Wide.All
import OpenK.AllK
import Wide.FinOn
import HandS.Defaults
import HandS.HeadEnd
import HandS.HeadHook1
import HandS.HeadHook2
import HandS.Head0
import HandS.Head1
import HandS.Head2
import HandS.Small
import HandS.ForMost
import HandS.EndTab
import HandS.HeadHook4
import HandS.TupLen
import KE.KDictKeyed
import KE.KeyNested
import HandS.Flow
import HandS.Conv
import HandS.IsInst
import HandS.OwnEq
import HandS.MakeKw
import HandS.Lambda
import HandS.Nested
import HandS.HotCalls
import HandS.MakeKwOnly
import HandS.Style
import PyProof.ReprRoads
import KE.KOpsOwn
import OpenK.KOps
import HandS.TupAny
import HandS.TupMul
import HandS.Words
import HandS.FStr
import HandS.TryOnly
import HandS.List
import KE.KCallOwn
import HandS.Iter
import HandS.Text
import KE.GoesEnum
import HandS.DictTup
import HandS.DictComp
import HandS.ReCall
import KE.KDictCopyH
import KE.KDictWalk
import KE.KDictSum
import HandS.Wide
import PyProof.StrOps2
import HandS.SortInts
import HandS.Deep
import HandS.RaiseMore
import KE.KRevSl
import HandS.ClsMeth
import HandS.Replace
import HandS.SetFor
import HandS.Strs
import HandS.Zip
import KE.KEqNest
import HandS.WordsDict
import PyProof.Rows.IntBool
import PyProof.CallStr
import PyProof.AutoSeq1
import KE.KDictZip
import KE.KDictItemsList
import KE.KDictDisplayH
import KE.KOwnCellsLaws
import HandS.More
import HandS.Star
import KE.GoesZip
import KE.GoesMore
import HandS.WordsExc
import HandS.ExcInit
import KE.OsGo
import KE.KExcInit
import HandS.ExcOwn
import HandS.ExcIs
import HandS.ExcField
import KE.KExcIs
import KE.KTryMore
import PyProof.ListStr
import PyProof.TupleOfStr
import PyProof.StrBlock2
import HandS.SuiteRaise
import HandS.RaiseFrom
import KE.KExcMake
import PySem.Challenge.RW_doughfolds_k22_errors_limits_and_samples
set_option Elab.async false
set_option linter.all false
set_option maxRecDepth 100000
set_option maxHeartbeats 4000000
namespace EX
open PySem L2
def clo (g : Addr → Option Obj) : Nat → List Addr → Nat → List Addr → List Addr
  | 0, _, _, acc => acc
  | _ + 1, [], _, acc => acc
  | n + 1, a :: r, seen, acc => match Nat.testBit seen a with
    | true => clo g n r seen acc
    | false => match g a with
      | some o => clo g n (He.refsD o ++ r) (seen ||| (1 <<< a)) (match o.cls with
        | .none => (match Nat.beq a mainGlobals || Nat.beq a cStatics with
          | true => a :: acc
          | false => acc)
        | _ => a :: acc)
      | none => clo g n r (seen ||| (1 <<< a)) acc
def KF (g : Addr → Option Obj) : PySem.W.Frag := He.frG g (clo g 100000 [mainGlobals, cStatics] 0 [])
def stA (K : PySem.W.Frag) (x m : Str) : Addr := match PySem.W.findCls K (.ref (He.ga K x)) (.type "type") m with
  | some (.get _ (.ref p) _ _) => (match PySem.W.recIn K p "staticmethod" with
    | some (.ref f :: _) => f
    | _ => 0)
  | _ => 0
def staB (K : PySem.W.Frag) (x m : Str) : Bool := match PySem.W.findCls K (.ref (He.ga K x)) (.type "type") m with
  | some (.get (.builtin b) (.ref p) .none (.ref c)) => decide (b = "staticmethod.__get__") && (decide (c = He.ga K x) && (match PySem.W.recIn K p "staticmethod" with
    | some (.ref _ :: _) => true
    | _ => false))
  | _ => false
structure DR where
  adr : PySem.W.Frag → Addr
  name : Str
  qual : Str
  params : Arguments
  body : List Stmt
  scope : Scope
  dfl : List V := []
def fnAt (K : PySem.W.Frag) (a : Addr) : He.FnW := match K.lookup a with
  | some ⟨_, _, .func u, _⟩ => some (u.name, u.qualname, u.params, u.body, u.scope, u.globals, u.closure, u.builtins)
  | _ => none
def okAt (K : PySem.W.Frag) (a : Addr) (qual : Str) (dvs : List V) : Bool := PySem.W.keepIn K (.ref a) && (match K.lookup a with
  | some ⟨_, _, .func u, _⟩ => PySem.W.codeIn K u.code qual && He.dflB K u.defaults dvs
  | _ => false)
def DR.val (d : DR) : He.FnW := some (d.name, d.qual, d.params, .stmts d.body, d.scope, mainGlobals, [], builtinsNs)
def obsY (rs : List DR) (exs : PySem.W.Frag → List Bool) (K : PySem.W.Frag) : Bool × List He.FnW := ((exs K).all id && rs.all fun d => okAt K (d.adr K) d.qual d.dfl, rs.map fun d => fnAt K (d.adr K))
def valY (rs : List DR) : Bool × List He.FnW := (true, rs.map DR.val)
def eqB (o : Option Bool) (b : Bool) : Bool := match o with
  | some c => c == b
  | none => false
def insB (K : PySem.W.Frag) (c : Addr) : Bool := He.eqO (PySem.W.findIn K (.ref c) "__class__") (some (some (.builtin "object.__class__"))) && eqB (PySem.W.mroIn K c (.type "object")) true
def getB (K : PySem.W.Frag) : Bool := He.eqO (PySem.W.specialIn K (.builtin "object.__class__") "__get__") (some (some (.builtin "getset_descriptor.__get__"))) && eqB (PySem.W.takesIn K (.builtin "object.__class__")) true
def readB (K : PySem.W.Frag) (c : Addr) : Bool := PySem.W.readsIn K c (.type "type") && He.eqO (PySem.W.specialIn K (.ref c) "__getattribute__") (some (some (.builtin "type.__getattribute__")))
end EX
namespace EXV
open PySem L2 EX
end EXV
namespace ND
open PySem PySem.Spec PyProof.Rows L2
abbrev NEnt := NestedKey × Addr × Value
def NDO (P : Program) (w : World) (a : Addr) (o : Obj) (xs : List NEnt) : HO := .ext fun h => xs.length ≤ 1000000 ∧ (a == sysModules) = false ∧ (xs.map (·.1)).Nodup ∧ ∃ es ep, h.get? a = some o ∧ o.ExactDict ∧ o.data = .dict es ep ∧ es.toList = xs.map (entryOfKey (nestedKind P w))
theorem ndo_mk {P : Program} {w : World} {H : Hp} {h : Heap} {a : Addr} {o : Obj} {xs : List NEnt} (hl : xs.length ≤ 1000000) (hm : (a == sysModules) = false) (hn : (xs.map (·.1)).Nodup) (hd : ∃ es ep, h.get? a = some o ∧ o.ExactDict ∧ o.data = .dict es ep ∧ es.toList = xs.map (entryOfKey (nestedKind P w))) : ObjOk P w H h a (NDO P w a o xs) := by
  obtain ⟨es, ep, h1, h2, h3, h4⟩ := hd
  exact ⟨⟨hl, hm, hn, es, ep, h1, h2, h3, h4⟩, ⟨o, h1⟩, fun g1 g2 ⟨k1, k2, k3, es', ep', k4, k5, k6, k7⟩ q => ⟨k1, k2, k3, es', ep', q _ k4, k5, k6, k7⟩⟩
inductive NkH (K : PySem.W.Frag) (H : Hp) : V → NestedKey → Prop where
  | non : NkH K H .non .none
  | bl (b : Bool) : NkH K H (.bl b) (.num (if b = true then 1 else 0))
  | int (i : Int) : NkH K H (.int i) (.num i)
  | str (x : Str) : NkH K H (.str x) (.text x)
  | nil {a : Addr} : SqT K H a [] → NkH K H (.ref a) (.tup [])
  | cons {a : Addr} {v : V} {vs : List V} {k : NestedKey} {ks : List NestedKey} : SqT K H a (v :: vs) → NkH K H v k → (∀ (i : Nat) v k, vs[i]? = some v → ks[i]? = some k → NkH K H v k) → vs.length = ks.length → NkH K H (.ref a) (.tup (k :: ks))
theorem nall_of {h : Heap} : ∀ {vs : List Value} {ks : List NestedKey}, vs.length = ks.length → (∀ (i : Nat) v k, vs[i]? = some v → ks[i]? = some k → NestedIs h k v) → NestedAll h ks vs
  | [], [], _, _ => .nil
  | [], _ :: _, h, _ => nomatch h
  | _ :: _, [], h, _ => nomatch h
  | v :: vs, k :: ks, hl, h => .cons (h 0 v k rfl rfl) (nall_of (Nat.succ.inj hl) fun i v k a b => h (i + 1) v k (by simpa using a) (by simpa using b))
section
variable {X : Cx} {pins : List (Addr × Obj)} {σ : L2.St} {H : Hp} {s : Shared}
theorem nk_is (I : Inv X pins σ H s) {v : V} {k : NestedKey} (h : NkH X.K H v k) : ∀ {u : Value}, RelV v u → NestedIs s.heap k u := by
  induction h with
  | non => intro u r; cases r; exact .none
  | bl b => intro u r; cases r; exact .bool rfl
  | int i => intro u r; obtain ⟨t, rfl⟩ := r; exact .int i t
  | str x => intro u r; obtain ⟨t, rfl⟩ := r; exact .text x t
  | nil h =>
    intro u r
    cases r
    obtain ⟨its, rv, ⟨o, e, c, n, d⟩, _⟩ := I.tuple h
    cases rv
    exact .tup e c d .nil
  | @cons a v vs k ks h h1 h2 hl ih1 ih2 =>
    intro u r
    cases r
    obtain ⟨its, rv, ⟨o, e, c, n, d⟩, _⟩ := I.tuple h
    cases rv with
    | @cons _ y _ ys r1 r2 =>
      refine .tup e c d ?_
      show NestedAll s.heap (k :: ks) (y :: ys)
      refine .cons (ih1 r1) (nall_of (by rw [← r2.length]; exact hl) fun i u' k' a b => ?_)
      have hi : i < vs.length := by rw [r2.length]; exact (List.getElem?_eq_some_iff.mp a).1
      obtain ⟨w', e1, e2⟩ := Vals.get (i := i) r2 (List.getElem?_eq_getElem hi)
      rw [a] at e1
      cases e1
      exact ih2 i _ _ (List.getElem?_eq_getElem hi) b e2
def KH (K : PySem.W.Frag) (H : Hp) (xs : List NEnt) : Prop := ∀ x ∈ xs, NkH K H (.ref x.2.1) x.1 ∧ x.1.depth ≤ 8
theorem ndo_at (I : Inv X pins σ H s) {a : Addr} {o : Obj} {xs : List NEnt} (h : H a = some (NDO X.prog X.w a o xs)) (hk : KH X.K H xs) : xs.length ≤ 1000000 ∧ (a == sysModules) = false ∧ s.heap.DictOfH (nestedKind X.prog X.w) a xs := by
  obtain ⟨⟨h1, h2, h3, es, ep, h4, h5, h6, h7⟩, _, _⟩ := I.hok a _ h
  exact ⟨h1, h2, o, es, ep, h4, h5, h6, h7, fun x hx => ⟨nk_is I (hk x hx).1 rfl, (hk x hx).2⟩, h3⟩
theorem room8 (hu : X.A.units + 64 < cLine) : (nestedKind X.prog X.w).room X.A.in1 := by
  show X.A.in1.units + 8 < cLine
  have : X.A.in1.units = X.A.units + 1 := rfl
  omega
def rNLen (K : PySem.W.Frag) (P : Program) (w : World) : List V → Hp → VK → Prop := fun vs H Q => ∃ (a : Addr) (o : Obj) (xs : List NEnt), vs = [.ref a] ∧ H a = some (NDO P w a o xs) ∧ KH K H xs ∧ Q (.int ((xs.length : Nat) : Int)) H
theorem cr_nlen : CallR X (.builtin "len") (rNLen X.K X.prog X.w) := by
  intro pins s σ H vs us Q I r h
  obtain ⟨a, o, xs, rfl, ha, hk, q⟩ := h
  obtain ⟨u, rfl, rx⟩ := vals1 r
  obtain rfl : u = .ref a := rx
  obtain ⟨h1, h2, h3⟩ := ndo_at I ha hk
  exact call_len_dictH h2 h3 (by omega) ⟨.int ((xs.length : Nat) : Int), H, I.tok _, ⟨_, rfl⟩, q⟩
def rNIn (K : PySem.W.Frag) (P : Program) (w : World) (neg : Bool) : R2 := fun x y H Q => ∃ (b a : Addr) (o : Obj) (xs : List NEnt) (k : NestedKey), x = .ref b ∧ y = .ref a ∧ H a = some (NDO P w a o xs) ∧ KH K H xs ∧ NkH K H (.ref b) k ∧ k.depth ≤ 8 ∧ Q (.bl (if neg then !(atKey xs k).isSome else (atKey xs k).isSome)) H
theorem or_nin (hu : X.A.units + 64 < cLine) : OpR X (compareOp .In) (rNIn X.K X.prog X.w false) := by
  intro pins s σ H x y v u Q I rx ry h
  obtain ⟨b, a, od, xs, k, rfl, rfl, ha, hk, hb, h8, q⟩ := h
  cases rx
  cases ry
  obtain ⟨_, h2, h3⟩ := ndo_at I ha hk
  exact wpAny_in_heap (room8 hu) ⟨nk_is I hb rfl, h8⟩ h2 h3 ⟨.bl (atKey xs k).isSome, H, I.tok _, rfl, q⟩
def tNNew (P : Program) (w : World) : TE := fun _ H Q => ∀ p o, H p = none → Q (.ref p) (upd H p (NDO P w p o []))
theorem pe_nnew {pos : Pos} : PE X (.Dict [] [] pos) (tNNew X.prog X.w) := ⟨fun pins s σ H Q I h =>
  wpAny_Dict_empty ⟨.ref s.heap.objs.size, _, I.laid (a := s.heap.objs.size) (o := NDO X.prog X.w s.heap.objs.size { cls := .type "dict", data := .dict #[] } []) (t' := s.toks) (fun _ _ q => Heap.get?_push_of_some _ q) (Nat.le_refl _)
    (ndo_mk (Nat.zero_le _) (beq_eq_false_iff_ne.mpr (Ne.symm (Nat.ne_of_lt I.big))) List.nodup_nil ⟨#[], 0, Heap.get?_push_size _ rfl, ⟨rfl, rfl, rfl⟩, rfl, rfl⟩), rfl, h _ _ (I.hok.fresh (Nat.le_refl _))⟩⟩
end
end ND
namespace DL
open PySem L2
inductive D where
  | non | bl (b : Bool) | int (i : Int) | str (x : Str) | tup (xs : List D) | lst (xs : List D) | obj (c : Nat) (fs : List (Str × D)) | cst (v : V) | dic (kvs : List (D × D)) | dik (kvs : List (Key × D)) | dim (kvs : List (Key × D)) | fn (k : Nat) (es : List D)
structure Kc where
  K : PySem.W.Frag
  P : Program
  w : World
  cl : Nat → Addr
  has : Nat → Bool
  xc : Nat → Addr := fun _ => 0
  /-- at f in G stands the k-th function value, the values vs captured -/
  fq : Nat → Hp → Addr → List V → Prop := fun _ _ _ _ => False
  fm : ∀ (k : Nat) (G G' : Hp) (f : Addr) (vs : List V), (∀ a o, G a = some o → G' a = some o) → fq k G f vs → fq k G' f vs := by exact fun _ _ _ _ _ _ h => h
mutual
def nkD : D → Option NestedKey
  | .non => some .none
  | .bl b => some (.num (if b = true then 1 else 0))
  | .int i => some (.num i)
  | .str x => some (.text x)
  | .tup ds => (nkDs ds).map .tup
  | _ => none
def nkDs : List D → Option (List NestedKey)
  | [] => some []
  | d :: ds => (nkD d).bind fun k => (nkDs ds).map (k :: ·)
end
mutual
inductive Den (C : Kc) (G : Hp) : V → D → Prop where
  | non : Den C G .non .non
  | bl (b : Bool) : Den C G (.bl b) (.bl b)
  | int (i : Int) : Den C G (.int i) (.int i)
  | str (x : Str) : Den C G (.str x) (.str x)
  | tup {a : Addr} {xs : List V} {ds : List D} : SqT C.K G a xs → DenL C G xs ds → Den C G (.ref a) (.tup ds)
  | lst {a : Addr} {xs : List V} {ds : List D} : SqL C.K G a xs → DenL C G xs ds → Den C G (.ref a) (.lst ds)
  | obj {a dx : Addr} {c : Nat} {vs : List (Str × V)} {fs : List (Str × D)} : C.has c = true → G a = some (.ins (C.cl c) dx vs) → DenF C G vs fs → Den C G (.ref a) (.obj c fs)
  | cst (v : V) : Den C G v (.cst v)
  | dN {a : Addr} {o : Obj} {xs : List ND.NEnt} {kds : List (D × D)} : G a = some (ND.NDO C.P C.w a o xs) → DenN C G xs kds → Den C G (.ref a) (.dic kds)
  | dK {a : Addr} {o : Obj} {xs : List (Key × V)} {kds : List (Key × D)} : G a = some (.frz o (.dK xs)) → DenK C G xs kds → Den C G (.ref a) (.dik kds)
  | dM {a : Addr} {xs : List (Key × V)} {kds : List (Key × D)} : G a = some (.dK xs) → DenK C G xs kds → Den C G (.ref a) (.dim kds)
  | fn {f : Addr} {k : Nat} {vs : List V} {es : List D} : C.fq k G f vs → DenL C G vs es → Den C G (.ref f) (.fn k es)
inductive DenK (C : Kc) (G : Hp) : List (Key × V) → List (Key × D) → Prop where
  | nil : DenK C G [] []
  | cons {k : Key} {v : V} {d : D} {vs : List (Key × V)} {ds : List (Key × D)} : Den C G v d → DenK C G vs ds → DenK C G ((k, v) :: vs) ((k, d) :: ds)
inductive DenL (C : Kc) (G : Hp) : List V → List D → Prop where
  | nil : DenL C G [] []
  | cons {v : V} {d : D} {vs : List V} {ds : List D} : Den C G v d → DenL C G vs ds → DenL C G (v :: vs) (d :: ds)
inductive DenF (C : Kc) (G : Hp) : List (Str × V) → List (Str × D) → Prop where
  | nil : DenF C G [] []
  | cons {f : Str} {v : V} {d : D} {vs : List (Str × V)} {ds : List (Str × D)} : Den C G v d → DenF C G vs ds → DenF C G ((f, v) :: vs) ((f, d) :: ds)
inductive DenN (C : Kc) (G : Hp) : List ND.NEnt → List (D × D) → Prop where
  | nil : DenN C G [] []
  | cons {k : NestedKey} {b : Addr} {u : Value} {v : V} {kd d : D} {xs : List ND.NEnt} {ds : List (D × D)} : nkD kd = some k → k.depth ≤ 8 → Den C G (.ref b) kd → RelV v u → Den C G v d → DenN C G xs ds → DenN C G ((k, b, u) :: xs) ((kd, d) :: ds)
end
theorem same_t {K : PySem.W.Frag} {H H' : Hp} {a : Addr} {xs : List V} (e : Same H H') (h : SqT K H a xs) : SqT K H' a xs := by
  rcases h with (h | ⟨o, h⟩) | h
  · exact .inl (.inl (e _ _ h))
  · exact .inl (.inr ⟨o, e _ _ h⟩)
  · exact .inr h
mutual
theorem Den.mono {C : Kc} {G G' : Hp} (e : Same G G') : ∀ {v : V} {d : D}, Den C G v d → Den C G' v d
  | _, _, .non => .non
  | _, _, .bl b => .bl b
  | _, _, .int i => .int i
  | _, _, .str x => .str x
  | _, _, .tup h l => .tup (same_t e h) (DenL.mono e l)
  | _, _, .lst h l => .lst (e.seq h) (DenL.mono e l)
  | _, _, .obj q h l => .obj q (e _ _ h) (DenF.mono e l)
  | _, _, .cst v => .cst v
  | _, _, .dN h l => .dN (e _ _ h) (DenN.mono e l)
  | _, _, .dK h l => .dK (e _ _ h) (DenK.mono e l)
  | _, _, .dM h l => .dM (e _ _ h) (DenK.mono e l)
  | _, _, .fn h l => .fn (C.fm _ _ _ _ _ e h) (DenL.mono e l)
theorem DenK.mono {C : Kc} {G G' : Hp} (e : Same G G') : ∀ {v : List (Key × V)} {d : List (Key × D)}, DenK C G v d → DenK C G' v d
  | _, _, .nil => .nil
  | _, _, .cons h l => .cons (Den.mono e h) (DenK.mono e l)
theorem DenL.mono {C : Kc} {G G' : Hp} (e : Same G G') : ∀ {v : List V} {d : List D}, DenL C G v d → DenL C G' v d
  | _, _, .nil => .nil
  | _, _, .cons h l => .cons (Den.mono e h) (DenL.mono e l)
theorem DenF.mono {C : Kc} {G G' : Hp} (e : Same G G') : ∀ {v : List (Str × V)} {d : List (Str × D)}, DenF C G v d → DenF C G' v d
  | _, _, .nil => .nil
  | _, _, .cons h l => .cons (Den.mono e h) (DenF.mono e l)
theorem DenN.mono {C : Kc} {G G' : Hp} (e : Same G G') : ∀ {v : List ND.NEnt} {d : List (D × D)}, DenN C G v d → DenN C G' v d
  | _, _, .nil => .nil
  | _, _, .cons h1 h2 h3 h4 h5 l => .cons h1 h2 (Den.mono e h3) h4 (Den.mono e h5) (DenN.mono e l)
end
theorem DenL.length {C : Kc} {G : Hp} : ∀ {vs : List V} {ds : List D}, DenL C G vs ds → vs.length = ds.length
  | _, _, .nil => rfl
  | _, _, .cons _ l => by rw [List.length_cons, List.length_cons, DenL.length l]
theorem DenL.get {C : Kc} {G : Hp} : ∀ {vs : List V} {ds : List D} {i : Nat} {d : D}, DenL C G vs ds → ds[i]? = some d → ∃ v, vs[i]? = some v ∧ Den C G v d
  | _, _, _, _, .nil, e => by simp at e
  | _, _, 0, _, .cons h _, e => by simp at e; subst e; exact ⟨_, rfl, h⟩
  | _, _, i + 1, d, .cons _ l, e => by
    obtain ⟨v, h1, h2⟩ := DenL.get (i := i) (d := d) l (by simpa using e)
    exact ⟨v, by simpa using h1, h2⟩
theorem DenL.set {C : Kc} {G : Hp} {v : V} {d : D} (h : Den C G v d) : ∀ {vs : List V} {ds : List D} (i : Nat), DenL C G vs ds → DenL C G (vs.set i v) (ds.set i d)
  | _, _, _, .nil => .nil
  | _, _, 0, .cons _ l => .cons h l
  | _, _, i + 1, .cons q l => .cons q (DenL.set h i l)
theorem DenL.append {C : Kc} {G : Hp} : ∀ {vs ws : List V} {ds es : List D}, DenL C G vs ds → DenL C G ws es → DenL C G (vs ++ ws) (ds ++ es)
  | _, _, _, _, .nil, s => s
  | _, _, _, _, .cons r t, s => .cons r (DenL.append t s)
theorem DenL.take {C : Kc} {G : Hp} : ∀ {vs : List V} {ds : List D} (n : Nat), DenL C G vs ds → DenL C G (vs.take n) (ds.take n)
  | _, _, 0, _ => .nil
  | _, _, _ + 1, .nil => .nil
  | _, _, n + 1, .cons r t => .cons r (DenL.take n t)
theorem DenL.drop {C : Kc} {G : Hp} : ∀ {vs : List V} {ds : List D} (n : Nat), DenL C G vs ds → DenL C G (vs.drop n) (ds.drop n)
  | _, _, 0, r => r
  | _, _, _ + 1, .nil => .nil
  | _, _, n + 1, .cons _ t => DenL.drop n t
theorem DenL.split {C : Kc} {G : Hp} : ∀ {vs : List V} {ds es : List D}, DenL C G vs (ds ++ es) → ∃ us ws, vs = us ++ ws ∧ DenL C G us ds ∧ DenL C G ws es
  | vs, [], es, h => ⟨[], vs, rfl, .nil, h⟩
  | _, d :: ds, es, .cons h l => by
    obtain ⟨us, ws, e, h1, h2⟩ := DenL.split (ds := ds) (es := es) l
    exact ⟨_ :: us, ws, by rw [e]; rfl, .cons h h1, h2⟩
theorem DenF.look {C : Kc} {G : Hp} {f : Str} : ∀ {vs : List (Str × V)} {ds : List (Str × D)} {d : D}, DenF C G vs ds → ds.lookup f = some d → ∃ v, vs.lookup f = some v ∧ Den C G v d
  | _, _, _, .nil, e => by simp at e
  | _, _, d, .cons (f := g) (v := v) h l, e => by
    rw [List.lookup_cons] at e ⊢
    cases q : (f == g) with
    | true => rw [q] at e; exact ⟨v, rfl, Option.some.inj e ▸ h⟩
    | false => rw [q] at e; exact DenF.look (d := d) l e
def putD (f : Str) (d : D) : List (Str × D) → List (Str × D)
  | [] => [(f, d)]
  | (g, x) :: r => if g = f then (g, d) :: r else (g, x) :: putD f d r
theorem DenF.put {C : Kc} {G : Hp} {f : Str} {v : V} {d : D} (h : Den C G v d) : ∀ {vs : List (Str × V)} {ds : List (Str × D)}, DenF C G vs ds → DenF C G (putF f v vs) (putD f d ds)
  | _, _, .nil => .cons h .nil
  | _, _, .cons (f := g) q l => by
    unfold putF putD
    by_cases e : g = f
    · rw [if_pos e, if_pos e]; exact .cons h l
    · rw [if_neg e, if_neg e]; exact .cons q (DenF.put h l)
theorem DenF.length {C : Kc} {G : Hp} : ∀ {vs : List (Str × V)} {ds : List (Str × D)}, DenF C G vs ds → vs.length = ds.length
  | _, _, .nil => rfl
  | _, _, .cons _ l => by rw [List.length_cons, List.length_cons, DenF.length l]
class TabL where
  T : List NdefX.NTab
instance (priority := low) tabL0 : TabL := ⟨[]⟩
variable [TabL]
def NT (o : HO) : Prop := ∀ ps, o ≠ .tbl ps
theorem nt_lst {xs : List V} : NT (.lst xs) := fun _ z => nomatch z
theorem nt_ins {c d : Addr} {xs : List (Str × V)} : NT (.ins c d xs) := fun _ z => nomatch z
theorem nt_nd {P : Program} {w : World} {a : Addr} {o : Obj} {xs : List ND.NEnt} : NT (ND.NDO P w a o xs) := fun _ z => by unfold ND.NDO at z; nomatch z
structure KT (H H2 : Hp) : Prop where
  k : ∀ a o, NT o → H a = some o → H2 a = some o
  d : ∀ a, H a ≠ none → H2 a ≠ none
  t : NdefX.TabsN TabL.T H → NdefX.TabsN TabL.T H2
theorem Same.dom0 {H H2 : Hp} (k : Same H H2) : ∀ a, H a ≠ none → H2 a ≠ none := fun a h => by
  cases q : H a with
  | none => exact absurd q h
  | some o => rw [k a o q]; simp
theorem Same.kt {H H2 : Hp} (k : Same H H2) : KT H H2 := ⟨fun a o _ h => k a o h, Same.dom0 k, fun t => t.ext k⟩
theorem KT.refl (H : Hp) : KT H H := ⟨fun _ _ _ h => h, fun _ h => h, fun t => t⟩
theorem KT.trans {H H1 H2 : Hp} (a : KT H H1) (b : KT H1 H2) : KT H H2 := ⟨fun x o n h => b.k x o n (a.k x o n h), fun x h => b.d x (a.d x h), fun t => b.t (a.t t)⟩
structure Sub (G H : Hp) : Prop where
  s : Same G H
  t : NdefX.TabsN TabL.T H
  n : ∀ p ∈ TabL.T, G p.1 = none
theorem tabs_there {H : Hp} (t : NdefX.TabsN TabL.T H) : ∀ p ∈ TabL.T, H p.1 ≠ none := fun p hp z => by
  obtain ⟨ps, e, _⟩ := t p hp
  rw [z] at e
  cases e
theorem tabs_ne {H : Hp} (t : NdefX.TabsN TabL.T H) {a : Addr} {o : HO} (h : H a = some o) (n : NT o) : ∀ p ∈ TabL.T, p.1 ≠ a := fun p hp z => by
  obtain ⟨ps, e, _⟩ := t p hp
  rw [z, h] at e
  exact n ps (Option.some.inj e)
instance {G H : Hp} : Coe (Sub G H) (Same G H) := ⟨Sub.s⟩
instance {G H : Hp} : CoeFun (Sub G H) (fun _ => ∀ a o, G a = some o → H a = some o) := ⟨fun c => c.s⟩
theorem Sub.free {G H : Hp} (c : Sub G H) {a : Addr} (h : H a = none) : G a = none := Same.free c.s h
theorem Sub.seq {K : PySem.W.Frag} {G H : Hp} {a : Addr} {xs : List V} (c : Sub G H) (h : SqL K G a xs) : SqL K H a xs := Same.seq c.s h
theorem Sub.trans {G H H2 : Hp} (c : Sub G H) (e : Same H H2) : Sub G H2 := ⟨Same.trans c.s e, c.t.ext e, c.n⟩
def NC (o : HO) : Prop := ∀ c q, o ≠ LamX.CodeO c q
theorem nc_lst {xs : List V} : NC (.lst xs) := fun _ _ z => by unfold LamX.CodeO at z; nomatch z
theorem nc_ins {c d : Addr} {xs : List (Str × V)} : NC (.ins c d xs) := fun _ _ z => by unfold LamX.CodeO at z; nomatch z
theorem nc_xd {xs : List (Str × V)} : NC (.xd xs) := fun _ _ z => by unfold LamX.CodeO at z; nomatch z
def mkHp (o : Obj) : Nat → Heap
  | 0 => default
  | n + 1 => (mkHp o n).push o
theorem mkHp_size (o : Obj) : ∀ n, (mkHp o n).objs.size = n
  | 0 => rfl
  | n + 1 => by show ((mkHp o n).push o).objs.size = _; rw [Heap.size_push, mkHp_size o n]
theorem nc_nd {P : Program} {w : World} {a : Addr} {o : Obj} {xs : List ND.NEnt} : NC (ND.NDO P w a o xs) := fun c q z => by
  unfold ND.NDO LamX.CodeO at z
  injection z with z
  have g := congrFun z (mkHp ⟨.none, none, .fields #[.none, .str q 0], #[]⟩ (c + 1))
  have at_ : (mkHp ⟨.none, none, .fields #[.none, .str q 0], #[]⟩ (c + 1)).get? c = some ⟨.none, none, .fields #[.none, .str q 0], #[]⟩ := by
    have e := Heap.get?_push_size (mkHp ⟨.none, none, .fields #[.none, .str q 0], #[]⟩ c) (o := ⟨.none, none, .fields #[.none, .str q 0], #[]⟩) rfl
    rw [mkHp_size] at e
    exact e
  have r : ∃ (oc : Obj) (vs : Array Value) (t : Tok), (mkHp ⟨.none, none, .fields #[.none, .str q 0], #[]⟩ (c + 1)).get? c = some oc ∧ oc.data = .fields vs ∧ vs[1]? = some (.str q t) := ⟨_, _, 0, at_, rfl, rfl⟩
  rw [← g] at r
  obtain ⟨_, _, _, es, ep, h1, h2, h3, _⟩ := r
  have all : ∀ (n b : Nat) (u : Obj), (mkHp ⟨.none, none, .fields #[.none, .str q 0], #[]⟩ n).get? b = some u → u.data = .fields #[.none, .str q 0] := fun n => by
    induction n with
    | zero => intro b u e; exact absurd (Heap.lt_size e) (Nat.not_lt_zero b)
    | succ n ih =>
      intro b u e
      by_cases k : b < n
      · have lt : b < (mkHp ⟨.none, none, .fields #[.none, .str q 0], #[]⟩ n).objs.size := by rw [mkHp_size]; exact k
        cases y : (mkHp ⟨.none, none, .fields #[.none, .str q 0], #[]⟩ n).get? b with
        | some u' =>
          have := Heap.get?_push_of_some (⟨.none, none, .fields #[.none, .str q 0], #[]⟩ : Obj) y
          have e' : ((mkHp ⟨.none, none, .fields #[.none, .str q 0], #[]⟩ n).push ⟨.none, none, .fields #[.none, .str q 0], #[]⟩).get? b = some u := e
          rw [this] at e'
          cases e'
          exact ih b _ y
        | none =>
          obtain ⟨m, rfl⟩ : ∃ m, n = m + 1 := ⟨n - 1, by omega⟩
          exact absurd y (by
            have live : ∀ (m b : Nat), b < m → (mkHp ⟨.none, none, .fields #[.none, .str q 0], #[]⟩ m).get? b ≠ none := fun m => by
              induction m with
              | zero => intro b hb; omega
              | succ m ih2 =>
                intro b hb
                by_cases hb2 : b < m
                · cases y2 : (mkHp ⟨.none, none, .fields #[.none, .str q 0], #[]⟩ m).get? b with
                  | none => exact absurd y2 (ih2 b hb2)
                  | some u2 =>
                    show ((mkHp ⟨.none, none, .fields #[.none, .str q 0], #[]⟩ m).push _).get? b ≠ none
                    rw [Heap.get?_push_of_some _ y2]; simp
                · have eb : b = m := by omega
                  have e3 := Heap.get?_push_size (mkHp ⟨.none, none, .fields #[.none, .str q 0], #[]⟩ m) (o := ⟨.none, none, .fields #[.none, .str q 0], #[]⟩) rfl
                  rw [mkHp_size] at e3
                  rw [eb]
                  show ((mkHp ⟨.none, none, .fields #[.none, .str q 0], #[]⟩ m).push _).get? m ≠ none
                  rw [e3]; simp
            exact live (m + 1) b k)
      · have lt := Heap.lt_size e
        rw [mkHp_size] at lt
        have lt : b < n + 1 := lt
        have eb : b = n := by omega
        have e3 := Heap.get?_push_size (mkHp ⟨.none, none, .fields #[.none, .str q 0], #[]⟩ n) (o := ⟨.none, none, .fields #[.none, .str q 0], #[]⟩) rfl
        rw [mkHp_size] at e3
        have e' : ((mkHp ⟨.none, none, .fields #[.none, .str q 0], #[]⟩ n).push ⟨.none, none, .fields #[.none, .str q 0], #[]⟩).get? b = some u := e
        rw [eb, e3] at e'
        cases e'
        rfl
  rw [all _ _ _ h1] at h3
  cases h3
theorem tabs_upd {T : List NdefX.NTab} {H : Hp} {a : Addr} {o o' : HO} (t : NdefX.TabsN T H) (ha : H a = some o) (h1 : NT o) (h2 : NC o) : NdefX.TabsN T (upd H a o') := fun p hp => by
  obtain ⟨ps, e1, e2, e3⟩ := t p hp
  have ne : p.1 ≠ a := fun z => by rw [z, ha] at e1; exact h1 ps (Option.some.inj e1)
  refine ⟨ps, by rw [upd_ne ne]; exact e1, e2, fun pos cv hc => ?_⟩
  obtain ⟨c, f1, f2⟩ := e3 pos cv hc
  have nc : c ≠ a := fun z => by rw [z, ha] at f2; exact h2 _ _ (Option.some.inj f2)
  exact ⟨c, f1, by rw [upd_ne nc]; exact f2⟩
inductive MO where
  | lst (ds : List D) | dic (kvs : List (D × D)) | dik (kvs : List (Key × D)) | lnt (a : Addr) (ds : List D)
def dOf : MO → D
  | .lst ds => .lst ds
  | .dic kvs => .dic kvs
  | .dik kvs => .dim kvs
  | .lnt _ ds => .lst ds
inductive MOk (C : Kc) (G : Hp) (a : Addr) : HO → MO → Prop where
  | lst {vs : List V} {ds : List D} : DenL C G vs ds → MOk C G a (.lst vs) (.lst ds)
  | dN {o : Obj} {xs : List ND.NEnt} {kds : List (D × D)} : DenN C G xs kds → MOk C G a (ND.NDO C.P C.w a o xs) (.dic kds)
  | dK {xs : List (Key × V)} {kds : List (Key × D)} : DenK C G xs kds → MOk C G a (.dK xs) (.dik kds)
  | lnt {vs : List V} {ds : List D} : DenL C G vs ds → MOk C G a (.lst vs) (.lnt a ds)
theorem MOk.mono {C : Kc} {G G' : Hp} {a : Addr} (e : Same G G') {o : HO} {m : MO} (h : MOk C G a o m) : MOk C G' a o m := by
  cases h with
  | lst h => exact .lst (h.mono e)
  | dN h => exact .dN (h.mono e)
  | dK h => exact .dK (h.mono e)
  | lnt h => exact .lnt (h.mono e)
theorem MOk.den {C : Kc} {G : Hp} {o : HO} {m : MO} {a : Addr} (ha : G a = some o) (h : MOk C G a o m) : Den C G (.ref a) (dOf m) := by
  cases h with
  | lst h => exact .lst (SqL.of ha) h
  | dN h => exact .dN ha h
  | dK h => exact .dM ha h
  | lnt h => exact .lst (SqL.of ha) h
theorem MOk.nt {C : Kc} {G : Hp} {a : Addr} {o : HO} {m : MO} (h : MOk C G a o m) : NT o := by
  cases h with
  | lst h => exact nt_lst
  | dN h => exact nt_nd
  | dK h => exact fun _ z => nomatch z
  | lnt h => exact nt_lst
theorem MOk.nc {C : Kc} {G : Hp} {a : Addr} {o : HO} {m : MO} (h : MOk C G a o m) : NC o := by
  cases h with
  | lst h => exact nc_lst
  | dN h => exact nc_nd
  | dK h => exact fun _ _ z => nomatch z
  | lnt h => exact nc_lst
inductive DV where
  | imm (d : D) | own (m : MO) | bag
inductive BG where
  | lst (ds : List D) | ins (c : Nat) (fs : List (Str × D)) | xd (fs : List (Str × D))
structure ST where
  s : List (Option DV)
  g : Option (Addr × BG)
def ST.set (S : ST) (i : Nat) (d : D) : ST := ⟨S.s.set i (some (.imm d)), S.g⟩
def ST.setM (S : ST) (i : Nat) (m : MO) : ST := ⟨S.s.set i (some (.own m)), S.g⟩
def BagOk (C : Kc) (G H : Hp) : Option (Addr × BG) → Prop
  | none => True
  | some (b, .lst ds) => G b = none ∧ ∃ vs, H b = some (.lst vs) ∧ DenL C G vs ds
  | some (b, .ins c fs) => G b = none ∧ ∃ dx vs, H b = some (.ins (C.cl c) dx vs) ∧ DenF C G vs fs
  | some (b, .xd fs) => G b = none ∧ ∃ vs, H b = some (.xd vs) ∧ DenF C G vs fs
theorem nt_xd {xs : List (Str × V)} : NT (.xd xs) := fun _ z => nomatch z
structure Ctx (C : Kc) (G H : Hp) (σ : L2.St) (S : ST) : Prop where
  sub : Sub G H
  len : σ.length = S.s.length
  im : ∀ (i : Nat) d, S.s[i]? = some (some (.imm d)) → ∃ v, σ[i]? = some (some v) ∧ Den C G v d
  ow : ∀ (i : Nat) ds, S.s[i]? = some (some (.own ds)) → ∃ a o, σ[i]? = some (some (.ref a)) ∧ G a = none ∧ H a = some o ∧ MOk C G a o ds
  apart : ∀ (i j : Nat) ds es a, S.s[i]? = some (some (.own ds)) → S.s[j]? = some (some (.own es)) → σ[i]? = some (some (.ref a)) → σ[j]? = some (some (.ref a)) → i = j
  bg : ∀ (i : Nat) b o, S.g = some (b, o) → S.s[i]? = some (some .bag) → σ[i]? = some (some (.ref b))
  bag : BagOk C G H S.g
  nob : ∀ (i : Nat) b o ds, S.g = some (b, o) → S.s[i]? = some (some (.own ds)) → σ[i]? ≠ some (some (.ref b))
def OA (C : Kc) (σ : L2.St) (S : ST) (a : Addr) : Prop := (∃ (i : Nat) (ds : MO), S.s[i]? = some (some (.own ds)) ∧ σ[i]? = some (some (.ref a))) ∨ ∃ o, S.g = some (a, o)
def Frm (H : Hp) (a : Addr) : Prop := (∃ o, H a = some o ∧ NT o ∧ NC o) ∨ ∃ p ∈ TabL.T, p.1 = a ∧ NdefX.TabsN TabL.T H
theorem Frm.ne {H : Hp} {a : Addr} (h : Frm H a) : H a ≠ none := by
  rcases h with ⟨o, h, _⟩ | ⟨p, hp, rfl, t⟩
  · rw [h]; simp
  · exact tabs_there t p hp
theorem Frm.kt {H H1 : Hp} {a : Addr} (h : Frm H a) (k : KT H H1) : Frm H1 a := by
  rcases h with ⟨o, h, n, c⟩ | ⟨p, hp, e, t⟩
  · exact .inl ⟨o, k.k a o n h, n, c⟩
  · exact .inr ⟨p, hp, e, k.t t⟩
structure Go (A : Addr → Prop) (G H G2 H2 : Hp) : Prop where
  keep : ∀ a o, ¬ A a → NT o → H a = some o → H2 a = some o
  gg : Same G G2
  fr : ∀ a, ¬ A a → Frm H a → G a = none → G2 a = none
  dom : ∀ a, H a ≠ none → H2 a ≠ none
  tb : NdefX.TabsN TabL.T H → NdefX.TabsN TabL.T H2
theorem Go.up {A : Addr → Prop} {G H G2 H2 : Hp} (g : Go A G H G2 H2) {a : Addr} (n : ¬ A a) (h : Frm H a) : Frm H2 a := by
  rcases h with ⟨o, h, k, c⟩ | ⟨p, hp, e, t⟩
  · exact .inl ⟨o, g.keep a o n k h, k, c⟩
  · exact .inr ⟨p, hp, e, g.tb t⟩
theorem Go.refl {A : Addr → Prop} {G H : Hp} : Go A G H G H := ⟨fun _ _ _ _ h => h, fun _ _ h => h, fun _ _ _ h => h, fun _ h => h, fun t => t⟩
theorem Go.trans {A A2 : Addr → Prop} {G H G1 H1 G2 H2 : Hp} (a : Go A G H G1 H1) (b : Go A2 G1 H1 G2 H2) (h : ∀ x, A2 x → A x ∨ H x = none) : Go A G H G2 H2 where
  keep := fun x o n nt e => b.keep x o (fun z => (h x z).elim n fun q => by rw [q] at e; cases e) nt (a.keep x o n nt e)
  gg := a.gg.trans b.gg
  fr := fun x n e g => b.fr x (fun z => (h x z).elim n fun q' => e.ne q') (a.up n e) (a.fr x n e g)
  dom := fun x h => b.dom x (a.dom x h)
  tb := fun t => b.tb (a.tb t)
theorem Go.mono {A A2 : Addr → Prop} {G H G2 H2 : Hp} (a : Go A G H G2 H2) (h : ∀ x, A x → A2 x) : Go A2 G H G2 H2 := ⟨fun x o n => a.keep x o fun z => n (h x z), a.gg, fun x n => a.fr x fun z => n (h x z), a.dom, a.tb⟩
structure Mv (C : Kc) (σ : L2.St) (S : ST) (G H : Hp) (S2 : ST) (G2 H2 : Hp) : Prop where
  go : Go (OA C σ S) G H G2 H2
  cx : Ctx C G2 H2 σ S2
  oa : ∀ a, OA C σ S2 a → OA C σ S a
theorem Mv.trans {C : Kc} {σ : L2.St} {S S1 S2 : ST} {G H G1 H1 G2 H2 : Hp} (a : Mv C σ S G H S1 G1 H1) (b : Mv C σ S1 G1 H1 S2 G2 H2) : Mv C σ S G H S2 G2 H2 :=
  ⟨a.go.trans b.go fun x z => .inl (a.oa x z), b.cx, fun x z => a.oa x (b.oa x z)⟩
theorem Mv.refl {C : Kc} {σ : L2.St} {S : ST} {G H : Hp} (c : Ctx C G H σ S) : Mv C σ S G H S G H := ⟨.refl, c, fun _ z => z⟩
theorem Ctx.step {C : Kc} {G H G2 H2 : Hp} {σ : L2.St} {S : ST} (c : Ctx C G H σ S) (k : KT H H2) (gg : Same G G2) (sub : Same G2 H2) (fr : ∀ a, Frm H a → G a = none → G2 a = none) : Ctx C G2 H2 σ S where
  sub := ⟨sub, k.t c.sub.t, fun p hp => fr _ (.inr ⟨p, hp, rfl, c.sub.t⟩) (c.sub.n p hp)⟩
  len := c.len
  im := fun i d h => let ⟨v, h1, h2⟩ := c.im i d h; ⟨v, h1, h2.mono gg⟩
  ow := fun i ds h => let ⟨a, vs, h1, h2, h3, h4⟩ := c.ow i ds h; ⟨a, vs, h1, fr a (.inl ⟨_, h3, h4.nt, h4.nc⟩) h2, k.k _ _ h4.nt h3, h4.mono gg⟩
  apart := c.apart
  bg := c.bg
  bag := by
    have z := c.bag
    cases q : S.g with
    | none => trivial
    | some bo =>
      obtain ⟨b, o⟩ := bo
      rw [q] at z
      cases o with
      | lst ds => obtain ⟨h1, vs, h2, h3⟩ := z; exact ⟨fr _ (.inl ⟨_, h2, nt_lst, nc_lst⟩) h1, vs, k.k _ _ nt_lst h2, h3.mono gg⟩
      | ins cc fs => obtain ⟨h1, dx, vs, h2, h3⟩ := z; exact ⟨fr _ (.inl ⟨_, h2, nt_ins, nc_ins⟩) h1, dx, vs, k.k _ _ nt_ins h2, h3.mono gg⟩
      | xd fs => obtain ⟨h1, vs, h2, h3⟩ := z; exact ⟨fr _ (.inl ⟨_, h2, nt_xd, nc_xd⟩) h1, vs, k.k _ _ nt_xd h2, h3.mono gg⟩
  nob := c.nob
theorem Ctx.mv {C : Kc} {G H G2 H2 : Hp} {σ : L2.St} {S : ST} (c : Ctx C G H σ S) (k : KT H H2) (gg : Same G G2) (sub : Same G2 H2) (fr : ∀ a, Frm H a → G a = none → G2 a = none) : Mv C σ S G H S G2 H2 :=
  ⟨⟨fun a o _ nt h => k.k a o nt h, gg, fun a _ h1 h2 => fr a h1 h2, k.d, k.t⟩, c.step k gg sub fr, fun _ z => z⟩
theorem Ctx.new {C : Kc} {G H : Hp} {σ : L2.St} {S : ST} {p : Addr} {o : HO} (c : Ctx C G H σ S) (hp : H p = none) : Mv C σ S G H S (upd G p o) (upd H p o) := by
  have gp : G p = none := c.sub.free hp
  refine c.mv (Same.kt fun a u h => ?_) (fun a u h => ?_) (fun a u h => ?_) (fun a h1 h2 => ?_)
  · rw [upd_ne (ne_of_none h hp)]; exact h
  · rw [upd_ne (ne_of_none h gp)]; exact h
  · by_cases e : a = p
    · subst e; rw [upd_same] at h ⊢; exact h
    · rw [upd_ne e] at h ⊢; exact c.sub _ _ h
  · have e : a ≠ p := fun z => h1.ne (by rw [z]; exact hp)
    rw [upd_ne e]; exact h2
def EvM (C : Kc) (te : TE) (S S' : ST) (d : D) : Prop :=
  ∀ σ G H, Ctx C G H σ S → ∀ Q : VK, (∀ v G2 H2, Mv C σ S G H S' G2 H2 → Den C G2 v d → Q v H2) → te σ H Q
def EvT (C : Kc) (tt : TT) (S S' : ST) (b : Bool) : Prop :=
  ∀ σ G H, Ctx C G H σ S → ∀ Q : Bool → Hp → Prop, (∀ G2 H2, Mv C σ S G H S' G2 H2 → Q b H2) → tt σ H Q
def EvA (C : Kc) (ta : TA) (S S' : ST) (ds : List D) : Prop :=
  ∀ σ G H, Ctx C G H σ S → ∀ Q : List V → Hp → Prop, (∀ vs G2 H2, Mv C σ S G H S' G2 H2 → DenL C G2 vs ds → Q vs H2) → ta σ H Q
def EvO (C : Kc) (te : TE) (S S' : ST) (ds : List D) : Prop :=
  ∀ σ G H, Ctx C G H σ S → ∀ Q : VK, (∀ p vs G2 H2, Mv C σ S G H S' G2 H2 → H p = none → G2 p = none → H2 p = some (.lst vs) → DenL C G2 vs ds → Q (.ref p) H2) → te σ H Q
structure Mw (C : Kc) (σ : L2.St) (S : ST) (G H : Hp) (σ2 : L2.St) (S2 : ST) (G2 H2 : Hp) : Prop where
  go : Go (OA C σ S) G H G2 H2
  cx : Ctx C G2 H2 σ2 S2
  oa : ∀ a, OA C σ2 S2 a → OA C σ S a ∨ H a = none
theorem Mw.trans {C : Kc} {σ σ1 σ2 : L2.St} {S S1 S2 : ST} {G H G1 H1 G2 H2 : Hp} (a : Mw C σ S G H σ1 S1 G1 H1) (b : Mw C σ1 S1 G1 H1 σ2 S2 G2 H2) : Mw C σ S G H σ2 S2 G2 H2 :=
  ⟨a.go.trans b.go a.oa, b.cx, fun x z => by
    rcases b.oa x z with q | q
    · exact a.oa x q
    · refine .inr ?_
      cases r : H x with
      | none => rfl
      | some o => exact absurd q (a.go.dom x (by rw [r]; simp))⟩
theorem Mw.refl {C : Kc} {σ : L2.St} {S : ST} {G H : Hp} (c : Ctx C G H σ S) : Mw C σ S G H σ S G H := ⟨.refl, c, fun _ z => .inl z⟩
theorem Mv.mw {C : Kc} {σ : L2.St} {S S2 : ST} {G H G2 H2 : Hp} (a : Mv C σ S G H S2 G2 H2) : Mw C σ S G H σ S2 G2 H2 := ⟨a.go, a.cx, fun x z => .inl (a.oa x z)⟩
def excFields : Nat → List Str
  | 102 => ["index"]
  | 108 => ["index"]
  | 112 => ["index"]
  | 113 => ["index"]
  | 119 => ["given"]
  | 122 => ["deed", "shown"]
  | 123 => ["limit"]
  | 120 => []
  | 121 => []
  | _ => ["value"]
def DenX (C : Kc) (G : Hp) (c : Nat) (fv : List (Str × V)) (fs : List D) : Prop := DenF C G fv ((excFields c).zip fs) ∧ fs.length = (excFields c).length
structure Po where
  nx : ST → Prop := fun _ => False
  rt : D → ST → Prop := fun _ _ => False
  bk : ST → Prop := fun _ => False
  ct : ST → Prop := fun _ => False
  ro : List D → ST → Prop := fun _ _ => False
  W : WX := fun _ _ _ _ => False
  xc : Nat → List D → ST → Prop := fun _ _ _ => False
structure Meets (C : Kc) (P : Po) (σ : L2.St) (S : ST) (G H : Hp) (E : Ends) : Prop where
  nx : ∀ σ2 S2 G2 H2, Mw C σ S G H σ2 S2 G2 H2 → P.nx S2 → E.nx σ2 H2
  rt : ∀ v d σ2 S2 G2 H2, Mw C σ S G H σ2 S2 G2 H2 → Den C G2 v d → P.rt d S2 → E.rt v H2
  bk : ∀ σ2 S2 G2 H2, Mw C σ S G H σ2 S2 G2 H2 → P.bk S2 → E.bk σ2 H2
  ct : ∀ σ2 S2 G2 H2, Mw C σ S G H σ2 S2 G2 H2 → P.ct S2 → E.ct σ2 H2
  ro : ∀ p ev es σ2 S2 G2 H2, Mw C σ S G H σ2 S2 G2 H2 → (H p = none ∨ OA C σ S p) → G2 p = none → H2 p = some (.lst ev) → DenL C G2 ev es → P.ro es S2 → E.rt (.ref p) H2
  xc : ∀ c fs dx fv σ2 S2 G2 H2, Mw C σ S G H σ2 S2 G2 H2 → H dx = none → G2 dx = none → H2 dx = some (.xd fv) → DenX C G2 c fv fs → P.xc c fs S2 → P.W (.ref (C.xc c)) (some dx) σ2 H2
theorem back_none {A : Addr → Prop} {G H G2 H2 : Hp} (g : Go A G H G2 H2) {p : Addr} (h : H2 p = none) : H p = none := by
  cases r : H p with
  | none => rfl
  | some o => exact absurd h (g.dom p (by rw [r]; simp))
theorem Meets.move {C : Kc} {P : Po} {σ σ1 : L2.St} {S S1 : ST} {G H G1 H1 : Hp} {E : Ends} (m : Meets C P σ S G H E) (a : Mw C σ S G H σ1 S1 G1 H1) : Meets C P σ1 S1 G1 H1 E :=
  ⟨fun σ2 S2 G2 H2 b h => m.nx _ _ _ _ (a.trans b) h, fun v d σ2 S2 G2 H2 b q h => m.rt v d _ _ _ _ (a.trans b) q h, fun σ2 S2 G2 H2 b h => m.bk _ _ _ _ (a.trans b) h, fun σ2 S2 G2 H2 b h => m.ct _ _ _ _ (a.trans b) h, fun p ev es σ2 S2 G2 H2 b h1 h2 h3 h4 h => m.ro p ev es _ _ _ _ (a.trans b) (h1.elim (fun z => .inl (back_none a.go z)) fun z => (a.oa p z).symm) h2 h3 h4 h, fun c fs dx fv σ2 S2 G2 H2 b h1 h2 h3 h4 h => m.xc c fs dx fv _ _ _ _ (a.trans b) (back_none a.go h1) h2 h3 h4 h⟩
def SD (C : Kc) (ts : TS) (S : ST) (P : Po) : Prop := ∀ σ G H, Ctx C G H σ S → ∀ E : Ends, Meets C P σ S G H E → ts E σ H
theorem Ctx.store {C : Kc} {G H : Hp} {σ : L2.St} {S : ST} {i : Nat} {v : V} {d : D} (c : Ctx C G H σ S) (h : Den C G v d) : Mw C σ S G H (σ.set i (some v)) (S.set i d) G H := by
  refine ⟨.refl, ⟨c.sub, by simp [ST.set, c.len], fun j e q => ?_, fun j e q => ?_, fun j k ds es a q1 q2 q3 q4 => ?_, fun j b o hg q => ?_, c.bag, fun j b o ds q q2 => ?_⟩, fun a z => ?_⟩
  · by_cases ij : i = j
    · subst ij
      have hl : i < S.s.length := by
        rcases Nat.lt_or_ge i S.s.length with z | z
        · exact z
        · rw [ST.set, List.getElem?_eq_none (by simpa using z)] at q; cases q
      rw [ST.set, List.getElem?_set_self hl] at q
      cases q
      exact ⟨v, List.getElem?_set_self (by rw [c.len]; exact hl), h⟩
    · rw [ST.set, List.getElem?_set_ne ij] at q
      rw [List.getElem?_set_ne ij]
      exact c.im j e q
  · by_cases ij : i = j
    · subst ij
      rcases Nat.lt_or_ge i S.s.length with z | z
      · rw [ST.set, List.getElem?_set_self z] at q; cases q
      · rw [ST.set, List.getElem?_eq_none (by simpa using z)] at q; cases q
    · rw [ST.set, List.getElem?_set_ne ij] at q
      rw [List.getElem?_set_ne ij]
      exact c.ow j e q
  · have key : ∀ (j : Nat) ds, (S.set i d).s[j]? = some (some (DV.own ds)) → i ≠ j ∧ S.s[j]? = some (some (DV.own ds)) := fun j ds q => by
      by_cases ij : i = j
      · subst ij
        rcases Nat.lt_or_ge i S.s.length with z | z
        · rw [ST.set, List.getElem?_set_self z] at q; cases q
        · rw [ST.set, List.getElem?_eq_none (by simpa using z)] at q; cases q
      · rw [ST.set, List.getElem?_set_ne ij] at q; exact ⟨ij, q⟩
    obtain ⟨n1, k1⟩ := key j ds q1
    obtain ⟨n2, k2⟩ := key k es q2
    rw [List.getElem?_set_ne n1] at q3
    rw [List.getElem?_set_ne n2] at q4
    exact c.apart j k ds es a k1 k2 q3 q4
  · by_cases ij : i = j
    · subst ij
      rcases Nat.lt_or_ge i S.s.length with z | z
      · rw [ST.set, List.getElem?_set_self z] at q; cases q
      · rw [ST.set, List.getElem?_eq_none (by simpa using z)] at q; cases q
    · rw [ST.set, List.getElem?_set_ne ij] at q
      rw [List.getElem?_set_ne ij]
      exact c.bg j b o hg q
  · by_cases ij : i = j
    · subst ij
      rcases Nat.lt_or_ge i S.s.length with z | z
      · rw [ST.set, List.getElem?_set_self z] at q2; cases q2
      · rw [ST.set, List.getElem?_eq_none (by simpa using z)] at q2; cases q2
    · rw [ST.set, List.getElem?_set_ne ij] at q2
      rw [List.getElem?_set_ne ij]
      exact c.nob j b o ds q q2
  · rcases z with ⟨j, ds, q1, q2⟩ | z
    · have ij : i ≠ j := fun ij => by
        subst ij
        rcases Nat.lt_or_ge i S.s.length with z | z
        · rw [ST.set, List.getElem?_set_self z] at q1; cases q1
        · rw [ST.set, List.getElem?_eq_none (by simpa using z)] at q1; cases q1
      rw [ST.set, List.getElem?_set_ne ij] at q1
      rw [List.getElem?_set_ne ij] at q2
      exact .inl (.inl ⟨j, ds, q1, q2⟩)
    · exact .inl (.inr z)
end DL
namespace DL
open PySem L2
variable [TabL]
structure Fam where
  I : Type
  X : I → Cx
  P : Program
  w : World
  C : Kc
  mg : Str → Option Value
  base : Heap
  N : List Str
  k : Nat
  hP : ∀ i, (X i).prog = P
  hw : ∀ i, (X i).w = w
  hK : ∀ i, (X i).K = C.K
  hmg : ∀ i, (X i).mg = mg
  hbase : ∀ i, (X i).base = base
  hN : ∀ i, (X i).N = N
  nd : N.Nodup
  roomH : ∀ i, L2H.RoomH k (X i).A
  cP : C.P = P
  cw : C.w = w
class Calm (F : Fam) : Prop where
  c : ∀ i, (F.X i).calm = true
  h : ∀ i, (F.X i).A.handled = none
theorem Fam.room (F : Fam) [Calm F] (i : F.I) : Room F.k (F.X i).A := ⟨Calm.h i, (F.roomH i).dp, (F.roomH i).un⟩
theorem Fam.calm (F : Fam) [Calm F] (i : F.I) : (F.X i).calm = true := Calm.c i
theorem Fam.units (F : Fam) (i : F.I) : (F.X i).A.units + 64 < cLine := by have := (F.roomH i).un; omega
theorem Fam.units0 (F : Fam) (i : F.I) : (F.X i).A.units < cLine := by have := (F.roomH i).un; omega
def anyE (F : Fam) (e : Expr) : TE := fun σ H Q => ∃ te, (∀ i, PE (F.X i) e te) ∧ te σ H Q
def anyT (F : Fam) (e : Expr) : TT := fun σ H Q => ∃ te, (∀ i, PT (F.X i) e te) ∧ te σ H Q
def anyW (F : Fam) (e : Expr) : TT := fun σ H Q => ∃ te, (∀ i, PW (F.X i) e te) ∧ te σ H Q
def anyA (F : Fam) (e : List Expr) : TA := fun σ H Q => ∃ te, (∀ i, PA (F.X i) e te) ∧ te σ H Q
def anyK (F : Fam) (e : List Keyword) : TA := fun σ H Q => ∃ te, (∀ i, PK (F.X i) e te) ∧ te σ H Q
def any1 (F : Fam) (e : Stmt) : TS := fun E σ H => ∃ te, (∀ i, PS (F.X i) e te) ∧ te E σ H
def anyS (F : Fam) (e : List Stmt) : TS := fun E σ H => ∃ te, (∀ i, PSs (F.X i) e te) ∧ te E σ H
theorem anyE_ok {F : Fam} {e : Expr} (i : F.I) : PE (F.X i) e (anyE F e) := ⟨fun pins s σ H Q I h => let ⟨te, h1, h2⟩ := h; (h1 i).run pins s σ H Q I h2⟩
theorem anyT_ok {F : Fam} {e : Expr} (i : F.I) : PT (F.X i) e (anyT F e) := ⟨fun pins s σ H Q I h => let ⟨te, h1, h2⟩ := h; (h1 i).run pins s σ H Q I h2⟩
theorem anyW_ok {F : Fam} {e : Expr} (i : F.I) : PW (F.X i) e (anyW F e) := ⟨fun wh pins s σ H Q I h => let ⟨te, h1, h2⟩ := h; (h1 i).run wh pins s σ H Q I h2⟩
theorem anyA_ok {F : Fam} {e : List Expr} (i : F.I) : PA (F.X i) e (anyA F e) := ⟨fun pos pins s σ H Q I h => let ⟨te, h1, h2⟩ := h; (h1 i).run pos pins s σ H Q I h2⟩
theorem anyK_ok {F : Fam} {e : List Keyword} (i : F.I) : PK (F.X i) e (anyK F e) := ⟨fun pos pins s σ H Q I h => let ⟨te, h1, h2⟩ := h; (h1 i).run pos pins s σ H Q I h2⟩
theorem any1_ok {F : Fam} {e : Stmt} (i : F.I) : PS (F.X i) e (any1 F e) := ⟨fun pins s σ H Q I h => let ⟨te, h1, h2⟩ := h; (h1 i).run pins s σ H Q I h2⟩
theorem anyS_ok {F : Fam} {e : List Stmt} (i : F.I) : PSs (F.X i) e (anyS F e) := ⟨fun pins s σ H Q I h => let ⟨te, h1, h2⟩ := h; (h1 i).run pins s σ H Q I h2⟩
def DE (F : Fam) (e : Expr) (S S' : ST) (d : D) : Prop := EvM F.C (anyE F e) S S' d
def DT (F : Fam) (e : Expr) (S S' : ST) (b : Bool) : Prop := EvT F.C (anyT F e) S S' b
def DW (F : Fam) (e : Expr) (S S' : ST) (b : Bool) : Prop := EvT F.C (anyW F e) S S' b
def DA (F : Fam) (e : List Expr) (S S' : ST) (ds : List D) : Prop := EvA F.C (anyA F e) S S' ds
def DK (F : Fam) (e : List Keyword) (S S' : ST) (ds : List D) : Prop := EvA F.C (anyK F e) S S' ds
def DO (F : Fam) (e : Expr) (S S' : ST) (ds : List D) : Prop := EvO F.C (anyE F e) S S' ds
def D1 (F : Fam) (e : Stmt) (S : ST) (P : Po) : Prop := SD F.C (any1 F e) S P
def DS (F : Fam) (e : List Stmt) (S : ST) (P : Po) : Prop := SD F.C (anyS F e) S P
section
variable {F : Fam} {S S1 S2 S3 : ST} {e a b : Expr} {d x y z : D} {pos : Pos} {P : Po}
theorem de_of {te : TE} (h : ∀ i, PE (F.X i) e te) (v : EvM F.C te S S' d) : DE F e S S' d := fun σ G H c Q q => ⟨te, h, v σ G H c Q q⟩
theorem dt_of {te : TT} {b : Bool} (h : ∀ i, PT (F.X i) e te) (v : EvT F.C te S S' b) : DT F e S S' b := fun σ G H c Q q => ⟨te, h, v σ G H c Q q⟩
theorem dw_of {te : TT} {b : Bool} (h : ∀ i, PW (F.X i) e te) (v : EvT F.C te S S' b) : DW F e S S' b := fun σ G H c Q q => ⟨te, h, v σ G H c Q q⟩
theorem da_of {es : List Expr} {te : TA} {ds : List D} (h : ∀ i, PA (F.X i) es te) (v : EvA F.C te S S' ds) : DA F es S S' ds := fun σ G H c Q q => ⟨te, h, v σ G H c Q q⟩
theorem dk_of {es : List Keyword} {te : TA} {ds : List D} (h : ∀ i, PK (F.X i) es te) (v : EvA F.C te S S' ds) : DK F es S S' ds := fun σ G H c Q q => ⟨te, h, v σ G H c Q q⟩
theorem do_of {te : TE} {ds : List D} (h : ∀ i, PE (F.X i) e te) (v : EvO F.C te S S' ds) : DO F e S S' ds := fun σ G H c Q q => ⟨te, h, v σ G H c Q q⟩
theorem d1_of {st : Stmt} {te : TS} (h : ∀ i, PS (F.X i) st te) (v : SD F.C te S P) : D1 F st S P := fun σ G H c E m => ⟨te, h, v σ G H c E m⟩
theorem ds_of {st : List Stmt} {te : TS} (h : ∀ i, PSs (F.X i) st te) (v : SD F.C te S P) : DS F st S P := fun σ G H c E m => ⟨te, h, v σ G H c E m⟩
structure Pu (G H G2 H2 : Hp) : Prop where
  hh : KT H H2
  gg : Same G G2
  sub : Sub G2 H2
  fr : ∀ a, Frm H a → G a = none → G2 a = none
theorem Pu.refl {G H : Hp} (s : Sub G H) : Pu G H G H := ⟨KT.refl _, fun _ _ h => h, s, fun _ _ h => h⟩
theorem Pu.trans {G H G1 H1 G2 H2 : Hp} (a : Pu G H G1 H1) (b : Pu G1 H1 G2 H2) : Pu G H G2 H2 :=
  ⟨a.hh.trans b.hh, a.gg.trans b.gg, b.sub, fun x h1 h2 => b.fr x (h1.kt a.hh) (a.fr x h1 h2)⟩
theorem Pu.new {G H : Hp} {p : Addr} {o : HO} (s : Sub G H) (hp : H p = none) : Pu G H (upd G p o) (upd H p o) := by
  have gp : G p = none := s.free hp
  have kk : Same H (upd H p o) := fun a u h => by rw [upd_ne (ne_of_none h hp)]; exact h
  have fr : ∀ a, Frm H a → G a = none → upd G p o a = none := fun a h1 h2 => by
    have e : a ≠ p := fun z => h1.ne (by rw [z]; exact hp)
    rw [upd_ne e]; exact h2
  refine ⟨Same.kt kk, fun a u h => ?_, ⟨fun a u h => ?_, s.t.ext kk, fun q hq => fr _ (.inr ⟨q, hq, rfl, s.t⟩) (s.n q hq)⟩, fun a h1 h2 => ?_⟩
  · rw [upd_ne (ne_of_none h gp)]; exact h
  · by_cases e : a = p
    · subst e; rw [upd_same] at h ⊢; exact h
    · rw [upd_ne e] at h ⊢; exact s _ _ h
  · have e : a ≠ p := fun z => h1.ne (by rw [z]; exact hp)
    rw [upd_ne e]; exact h2
theorem Ctx.pu {C : Kc} {G H G2 H2 : Hp} {σ : L2.St} {S : ST} (c : Ctx C G H σ S) (p : Pu G H G2 H2) : Mv C σ S G H S G2 H2 := c.mv p.hh p.gg p.sub p.fr
theorem Mv.pu {C : Kc} {G H G1 H1 G2 H2 : Hp} {σ : L2.St} {S S1 : ST} (m : Mv C σ S G H S1 G1 H1) (p : Pu G1 H1 G2 H2) : Mv C σ S G H S1 G2 H2 := m.trans (m.cx.pu p)
def RD (C : Kc) (r : R2) (x y z : D) : Prop := ∀ G H u v, Sub G H → Den C G u x → Den C G v y → ∀ Q : VK, (∀ w G2 H2, Pu G H G2 H2 → Den C G2 w z → Q w H2) → r u v H Q
def RD1 (C : Kc) (r : V → Hp → VK → Prop) (x z : D) : Prop := ∀ G H u, Sub G H → Den C G u x → ∀ Q : VK, (∀ w G2 H2, Pu G H G2 H2 → Den C G2 w z → Q w H2) → r u H Q
def RDL (C : Kc) (r : List V → Hp → VK → Prop) (xs : List D) (z : D) : Prop := ∀ G H us, Sub G H → DenL C G us xs → ∀ Q : VK, (∀ w G2 H2, Pu G H G2 H2 → Den C G2 w z → Q w H2) → r us H Q
theorem de_var {j : Nat} {x : Str} (h : S.s[j]? = some (some (.imm d))) (hN : ∀ i, (F.X i).N[j]? = some x := by intro _; rfl)
    (hv : ∀ i, Vis (F.X i).env.scope x := by intro _; first | exact Or.inl rfl | exact Or.inr (Or.inl rfl) | exact Or.inr (Or.inr rfl))
    (hd : (x == ("__debug__" : Str)) = false := by decide) (hcd : (x == ("__classdict__" : Str)) = false := by decide) : DE F (.Name x pos) S S d :=
  de_of (fun i => pe_var (hN i) (hv i) hd hcd) fun σ G H c Q q => by
    obtain ⟨v, h1, h2⟩ := c.im j d h
    exact ⟨v, h1, q v G H (.refl c) h2⟩
theorem de_int {i : Int} {k : Nat} : DE F (.Constant (.int i) k pos) S S (.int i) := de_of (fun _ => pe_int) fun _ _ _ c _ q => q _ _ _ (.refl c) (.int i)
theorem de_bl {i : Bool} {k : Nat} : DE F (.Constant (.bool i) k pos) S S (.bl i) := de_of (fun _ => pe_bl) fun _ _ _ c _ q => q _ _ _ (.refl c) (.bl i)
theorem de_non {k : Nat} : DE F (.Constant .none k pos) S S .non := de_of (fun _ => pe_non) fun _ _ _ c _ q => q _ _ _ (.refl c) .non
theorem de_str {i : Str} {k : Nat} : DE F (.Constant (.str i) k pos) S S (.str i) := de_of (fun _ => pe_str) fun _ _ _ c _ q => q _ _ _ (.refl c) (.str i)
theorem de_glob {x : Str} {v : V} {u : Value} (hm : F.mg x = some u) (r : RelV v u) (hd : ∀ G, Den F.C G v d) (hg : ∀ i, Gl (F.X i) x := by intro _; rfl) (hb : (x == ("__debug__" : Str)) = false := by decide) : DE F (.Name x pos) S S d :=
  de_of (fun i => pe_glob (hg i) (by rw [F.hmg i]; exact hm) r hb) fun _ G _ c _ q => q _ _ _ (.refl c) (hd G)
theorem de_bltn {x : Str} {v : V} {u : Value} (hm : F.mg x = none) (hv : bootBuiltins x = some u) (r : RelV v u) (hg : ∀ i, Gl (F.X i) x := by intro _; rfl) (hn : x ≠ "__name__" := by decide) (hb : (x == ("__debug__" : Str)) = false := by decide) : DE F (.Name x pos) S S (.cst v) :=
  de_of (fun i => pe_bltn (hg i) (by rw [F.hmg i]; exact hm) hv r hn hb) fun _ G _ c _ q => q _ _ _ (.refl c) (.cst v)
def OpD (F : Fam) (f : Value → Value → Sem Value) (x y z : D) : Prop := ∃ r, (∀ i, OpR (F.X i) f r) ∧ RD F.C r x y z
def UnD (F : Fam) (f : Value → Sem Value) (x z : D) : Prop := ∃ r, (∀ i, UnR (F.X i) f r) ∧ RD1 F.C r x z
theorem ev_op {C : Kc} {r : R2} {ta tb : TE} (hr : RD C r x y z) (ha : EvM C ta S S1 x) (hb : EvM C tb S1 S2 y) : EvM C (tOp r ta tb) S S2 z := fun σ G H c Q q =>
  ha σ G H c _ fun u G1 H1 m1 d1 => hb σ G1 H1 m1.cx _ fun v G2 H2 m2 d2 => hr G2 H2 u v m2.cx.sub (d1.mono m2.go.gg) d2 Q fun w G3 H3 p d3 => q w G3 H3 ((m1.trans m2).pu p) d3
theorem de_op {op : Operator} (ha : DE F a S S1 x) (hb : DE F b S1 S2 y) (hr : OpD F (binaryOp op) x y z) : DE F (.BinOp a op b pos) S S2 z := by
  obtain ⟨r, h1, h2⟩ := hr
  exact de_of (fun i => pe_op (h1 i) (anyE_ok i) (anyE_ok i)) (ev_op h2 ha hb)
theorem de_un {op : UnaryOp} (ha : DE F a S S1 x) (hr : UnD F (unaryOp op) x z) : DE F (.UnaryOp op a pos) S S1 z := by
  obtain ⟨r, h1, h2⟩ := hr
  exact de_of (fun i => pe_un (h1 i) (anyE_ok i)) fun σ G H c Q q => ha σ G H c _ fun u G1 H1 m1 d1 => h2 G1 H1 u m1.cx.sub d1 Q fun w G2 H2 p d2 => q w G2 H2 (m1.pu p) d2
theorem de_cmp {op : CmpOp} (ha : DE F a S S1 x) (hb : DE F b S1 S2 y) (hr : OpD F (compareOp op) x y z) (hm : behindInMarks op b = false := by first | exact nomark _ | rfl) : DE F (.Compare a [op] [b] pos) S S2 z := by
  obtain ⟨r, h1, h2⟩ := hr
  exact de_of (fun i => pe_cmpR (h1 i) (anyE_ok i) (anyE_ok i) hm) (ev_op h2 ha hb)
theorem dt_cmp {op : CmpOp} {k : Bool} (ha : DE F a S S1 x) (hb : DE F b S1 S2 y) (hr : OpD F (compareOp op) x y (.bl k)) (hm : behindInMarks op b = false := by first | exact nomark _ | rfl) : DT F (.Compare a [op] [b] pos) S S2 k := by
  obtain ⟨r, h1, h2⟩ := hr
  refine dt_of (fun i => pt_cmpR (h1 i) (anyE_ok i) (anyE_ok i) hm) fun σ G H c Q q => ?_
  refine ev_op h2 ha hb σ G H c _ fun v G2 H2 m d => ?_
  cases d with
  | bl => exact ⟨k, rfl, q G2 H2 m⟩
theorem de_chain {op op' : CmpOp} {c : Expr} {w : D} {k l : Bool} (ha : DE F a S S1 x) (hb : DE F b S1 S2 y) (hc : k = true → DE F c S2 S3 w) (hr : OpD F (compareOp op) x y (.bl k)) (hr' : k = true → OpD F (compareOp op') y w (.bl l)) (h0 : k = false → S2 = S3 := by intro _; rfl) (hm : lastMarks [op, op'] [b, c] = false := by with_unfolding_all rfl) : DE F (.Compare a [op, op'] [b, c] pos) S S3 (.bl (k && l)) := by
  obtain ⟨r, h1, h2⟩ := hr
  cases k with
  | true =>
    obtain ⟨r', h1', h2'⟩ := hr' rfl
    refine de_of (fun i => pe_chain (h1 i) (h1' i) (anyE_ok i) (anyE_ok i) (anyE_ok i) (hm := hm)) fun σ G H c' Q q => ?_
    refine ha σ G H c' _ fun u G1 H1 m1 d1 => hb σ G1 H1 m1.cx _ fun v G2 H2 m2 d2 => h2 G2 H2 u v m2.cx.sub (d1.mono m2.go.gg) d2 _ fun t G3 H3 p d3 => ?_
    cases d3 with
    | bl =>
      refine ⟨true, rfl, ?_⟩
      rw [if_pos rfl]
      have m3 := (m1.trans m2).pu p
      refine hc rfl σ G3 H3 m3.cx _ fun t' G4 H4 m4 d4 => h2' G4 H4 v t' m4.cx.sub ((d2.mono p.gg).mono m4.go.gg) d4 _ fun w5 G5 H5 p5 d5 => ?_
      exact q _ _ _ ((m3.trans m4).pu p5) d5
  | false =>
    cases h0 rfl
    refine de_of (fun i => pe_chain (h1 i) (fun _ _ _ _ _ _ _ _ _ _ _ _ z => False.elim z : OpR (F.X i) (compareOp op') fun _ _ _ _ => False) (anyE_ok i) (anyE_ok i) (anyE_ok i) (hm := hm)) fun σ G H c' Q q => ?_
    refine ha σ G H c' _ fun u G1 H1 m1 d1 => hb σ G1 H1 m1.cx _ fun v G2 H2 m2 d2 => h2 G2 H2 u v m2.cx.sub (d1.mono m2.go.gg) d2 _ fun t G3 H3 p d3 => ?_
    cases d3 with
    | bl =>
      refine ⟨false, rfl, ?_⟩
      rw [if_neg Bool.false_ne_true]
      exact q _ _ _ ((m1.trans m2).pu p) (.bl false)
theorem rd_I0 {C : Kc} {g : Int → Int → V} {i j : Int} {z : D} (h : ∀ G, Den C G (g i j) z) : RD C (rI0 g) (.int i) (.int j) z := fun G H u v s hu hv Q q => by
  cases hu; cases hv
  exact ⟨i, j, rfl, rfl, q _ _ _ (.refl s) (h G)⟩
theorem rd_I {C : Kc} {c : Int → Int → Prop} {g : Int → Int → V} {i j : Int} {z : D} (hc : c i j) (h : ∀ G, Den C G (g i j) z) : RD C (rI c g) (.int i) (.int j) z := fun G H u v s hu hv Q q => by
  cases hu; cases hv
  exact ⟨i, j, rfl, rfl, hc, q _ _ _ (.refl s) (h G)⟩
theorem od_add {i j : Int} : OpD F (binaryOp .Add) (.int i) (.int j) (.int (i + j)) := ⟨_, fun _ => op_add, rd_I0 fun _ => .int _⟩
theorem od_sub {i j : Int} : OpD F (binaryOp .Sub) (.int i) (.int j) (.int (i - j)) := ⟨_, fun _ => op_sub, rd_I0 fun _ => .int _⟩
theorem od_mul {i j : Int} (h : CMul i j) : OpD F (binaryOp .Mult) (.int i) (.int j) (.int (i * j)) := ⟨_, fun _ => op_mul, rd_I h fun _ => .int _⟩
theorem od_mod {i j : Int} (h : 0 < j) : OpD F (binaryOp .Mod) (.int i) (.int j) (.int (i % j)) := ⟨_, fun _ => op_mod, rd_I h fun _ => .int _⟩
theorem od_pow {i j : Int} (h : CPow i j) : OpD F (binaryOp .Pow) (.int i) (.int j) (.int (i ^ j.toNat)) := ⟨_, fun _ => op_pow, rd_I h fun _ => .int _⟩
theorem od_lt {i j : Int} : OpD F (compareOp .Lt) (.int i) (.int j) (.bl (decide (i < j))) := ⟨_, fun _ => op_lt, rd_I0 fun _ => .bl _⟩
theorem od_le {i j : Int} : OpD F (compareOp .LtE) (.int i) (.int j) (.bl (decide (i ≤ j))) := ⟨_, fun _ => op_le, rd_I0 fun _ => .bl _⟩
theorem od_gt {i j : Int} : OpD F (compareOp .Gt) (.int i) (.int j) (.bl (decide (j < i))) := ⟨_, fun _ => op_gt, rd_I0 fun _ => .bl _⟩
theorem od_ge {i j : Int} : OpD F (compareOp .GtE) (.int i) (.int j) (.bl (decide (j ≤ i))) := ⟨_, fun _ => op_ge, rd_I0 fun _ => .bl _⟩
theorem ud_neg {i : Int} : UnD F (unaryOp .USub) (.int i) (.int (-i)) := ⟨_, fun _ => un_neg, fun G H u s hu Q q => by
  cases hu
  exact ⟨i, rfl, q _ _ _ (.refl s) (.int _)⟩⟩
theorem od_eqI {i j : Int} : OpD F (compareOp .Eq) (.int i) (.int j) (.bl (decide (i = j))) := ⟨_, fun _ => op_eq, fun G H u v s hu hv Q q => by
  cases hu; cases hv
  refine ⟨rfl, ?_⟩
  have e : decide (V.int i = V.int j) = decide (i = j) := by rw [dec_int]; by_cases h : i = j <;> simp [h]
  rw [e]
  exact q _ _ _ (.refl s) (.bl _)⟩
theorem od_neI {i j : Int} : OpD F (compareOp .NotEq) (.int i) (.int j) (.bl (!decide (i = j))) := ⟨_, fun _ => op_ne, fun G H u v s hu hv Q q => by
  cases hu; cases hv
  refine ⟨rfl, ?_⟩
  have e : decide (V.int i = V.int j) = decide (i = j) := by rw [dec_int]; by_cases h : i = j <;> simp [h]
  rw [e]
  exact q _ _ _ (.refl s) (.bl _)⟩
theorem od_eqB {i j : Bool} : OpD F (compareOp .Eq) (.bl i) (.bl j) (.bl (decide (i = j))) := ⟨_, fun _ => op_eq, fun G H u v s hu hv Q q => by
  cases hu; cases hv
  refine ⟨rfl, ?_⟩
  have e : decide (V.bl i = V.bl j) = decide (i = j) := by cases i <;> cases j <;> rfl
  rw [e]
  exact q _ _ _ (.refl s) (.bl _)⟩
theorem od_neB {i j : Bool} : OpD F (compareOp .NotEq) (.bl i) (.bl j) (.bl (!decide (i = j))) := ⟨_, fun _ => op_ne, fun G H u v s hu hv Q q => by
  cases hu; cases hv
  refine ⟨rfl, ?_⟩
  have e : decide (V.bl i = V.bl j) = decide (i = j) := by cases i <;> cases j <;> rfl
  rw [e]
  exact q _ _ _ (.refl s) (.bl _)⟩
theorem dt_val {k : Bool} (h : DE F e S S1 (.bl k)) (he : ∀ i whole, isTrue e (F.X i).env whole = (do let v ← whole; standAt e.pos; holding [v] (truthy v)) := by intro _ _; rfl) : DT F e S S1 k :=
  dt_of (fun i => pt_val (anyE_ok i) (he i)) fun σ G H c Q q => h σ G H c _ fun v G2 H2 m d => by
    cases d with
    | bl => exact ⟨k, rfl, q G2 H2 m⟩
theorem dt_w {k : Bool} (h : DW F e S S1 k) : DT F e S S1 k := dt_of (fun i => (anyW_ok i).pt) h
theorem dw_or1 {k : Bool} (h : DT F a S S1 k) : DW F (.BoolOp .Or [a] pos) S S1 k := dw_of (fun i => pw_or1 (anyT_ok i)) h
theorem dw_or {k l : Bool} {rest : List Expr} (h : DT F a S S1 k) (h2 : k = false → DW F (.BoolOp .Or (b :: rest) pos) S1 S2 l) (h0 : k = true → S1 = S2 := by intro _; rfl) : DW F (.BoolOp .Or (a :: b :: rest) pos) S S2 (k || l) :=
  dw_of (fun i => pw_or (anyT_ok i) (anyW_ok i)) fun σ G H c Q q => h σ G H c _ fun G1 H1 m => by
    cases k with
    | false => rw [if_neg Bool.false_ne_true]; exact h2 rfl σ G1 H1 m.cx _ fun G2 H2 m2 => q G2 H2 (m.trans m2)
    | true => rw [if_pos rfl]; cases h0 rfl; exact q G1 H1 m
theorem dt_not {k : Bool} (h : DT F a S S1 k) : DT F (.UnaryOp .Not a pos) S S1 (!k) := dt_of (fun i => pt_not (anyT_ok i)) fun σ G H c Q q => h σ G H c _ fun G2 H2 m => q G2 H2 m
theorem de_one {op : BoolOp} (h : DE F a S S1 d) : DE F (.BoolOp op [a] pos) S S1 d := de_of (fun i => pe_one (anyE_ok i)) h
theorem de_and {k l : Bool} {rest : List Expr} (h : DE F a S S1 (.bl k)) (h2 : k = true → DE F (.BoolOp .And (b :: rest) pos) S1 S2 (.bl l)) (h0 : k = false → S1 = S2 := by intro _; rfl) : DE F (.BoolOp .And (a :: b :: rest) pos) S S2 (.bl (k && l)) :=
  de_of (fun i => pe_and (anyE_ok i) (anyE_ok i)) fun σ G H c Q q => h σ G H c _ fun v G1 H1 m dv => by
    cases dv with
    | bl =>
      refine ⟨k, rfl, ?_⟩
      cases k with
      | true => rw [if_pos rfl]; exact h2 rfl σ G1 H1 m.cx _ fun v2 G2 H2 m2 d2 => q v2 G2 H2 (m.trans m2) d2
      | false => rw [if_neg Bool.false_ne_true]; cases h0 rfl; exact q _ G1 H1 m (.bl false)
theorem de_or {k l : Bool} {rest : List Expr} (h : DE F a S S1 (.bl k)) (h2 : k = false → DE F (.BoolOp .Or (b :: rest) pos) S1 S2 (.bl l)) (h0 : k = true → S1 = S2 := by intro _; rfl) : DE F (.BoolOp .Or (a :: b :: rest) pos) S S2 (.bl (k || l)) :=
  de_of (fun i => pe_or (anyE_ok i) (anyE_ok i)) fun σ G H c Q q => h σ G H c _ fun v G1 H1 m dv => by
    cases dv with
    | bl =>
      refine ⟨k, rfl, ?_⟩
      cases k with
      | false => rw [if_neg Bool.false_ne_true]; exact h2 rfl σ G1 H1 m.cx _ fun v2 G2 H2 m2 d2 => q v2 G2 H2 (m.trans m2) d2
      | true => rw [if_pos rfl]; cases h0 rfl; exact q _ G1 H1 m (.bl true)
theorem de_not {k : Bool} (h : DE F a S S1 (.bl k)) : DE F (.UnaryOp .Not a pos) S S1 (.bl (!k)) := de_of (fun i => pe_not (anyE_ok i)) fun σ G H c Q q => h σ G H c _ fun v G1 H1 m dv => by
  cases dv with
  | bl => exact ⟨k, rfl, q _ G1 H1 m (.bl _)⟩
theorem de_if {c : Expr} {k : Bool} (hc : DT F c S S1 k) (h1 : k = true → DE F a S1 S2 d) (h2 : k = false → DE F b S1 S2 d) : DE F (.IfExp c a b pos) S S2 d :=
  de_of (fun i => pe_ifExp (anyT_ok i) (anyE_ok i) (anyE_ok i)) fun σ G H cx Q q => hc σ G H cx _ fun G1 H1 m => by
    cases k with
    | true => rw [if_pos rfl]; exact h1 rfl σ G1 H1 m.cx _ fun v2 G2 H2 m2 d2 => q v2 G2 H2 (m.trans m2) d2
    | false => rw [if_neg Bool.false_ne_true]; exact h2 rfl σ G1 H1 m.cx _ fun v2 G2 H2 m2 d2 => q v2 G2 H2 (m.trans m2) d2
theorem da_nil : DA F [] S S [] := da_of (fun _ => pa_nil) fun _ _ _ c _ q => q _ _ _ (.refl c) .nil
theorem da_cons {es : List Expr} {ds : List D} (h : DE F e S S1 d) (hr : DA F es S1 S2 ds) (hs : ∀ i, starEach (e :: es) (F.X i).env = (false, eval e (F.X i).env) :: starEach es (F.X i).env := by intro _; rfl) : DA F (e :: es) S S2 (d :: ds) :=
  da_of (fun i => pa_cons (anyE_ok i) (anyA_ok i) (hs i)) fun σ G H c Q q => h σ G H c _ fun v G1 H1 m d1 => hr σ G1 H1 m.cx _ fun vs G2 H2 m2 d2 => q _ G2 H2 (m.trans m2) (.cons (d1.mono m2.go.gg) d2)
theorem dk_nil : DK F [] S S [] := dk_of (fun _ => pk_nil) fun _ _ _ c _ q => q _ _ _ (.refl c) .nil
theorem dk_cons {nm : Option Str} {kpos : Pos} {es : List Keyword} {ds : List D} (h : DE F e S S1 d) (hr : DK F es S1 S2 ds) : DK F (⟨nm, e, kpos⟩ :: es) S S2 (d :: ds) :=
  dk_of (fun i => pk_cons (anyE_ok i) (anyK_ok i)) fun σ G H c Q q => h σ G H c _ fun v G1 H1 m d1 => hr σ G1 H1 m.cx _ fun vs G2 H2 m2 d2 => q _ G2 H2 (m.trans m2) (.cons (d1.mono m2.go.gg) d2)
theorem de_tup {es : List Expr} {x1 : Nat} {ds : List D} (h : DA F es S S1 ds) (hl : ds.length ≤ sizeLine := by decide) : DE F (.Tuple es x1 pos) S S1 (.tup ds) :=
  de_of (fun i => pe_tup (anyA_ok i)) fun σ G H c Q q => h σ G H c _ fun vs G1 H1 m dl => ⟨by rw [dl.length]; exact hl, fun p hp => by
    have n := m.cx.new (o := .tup vs) hp
    exact q _ _ _ (m.trans n) (.tup (SqT.of upd_same) (dl.mono n.go.gg))⟩
theorem de_lst {es : List Expr} {ds : List D} (h : DA F es S S1 ds) (hl : ds.length ≤ sizeLine := by decide) : DE F (.List es pos) S S1 (.lst ds) :=
  de_of (fun i => pe_lst (anyA_ok i)) fun σ G H c Q q => h σ G H c _ fun vs G1 H1 m dl => ⟨by rw [dl.length]; exact hl, fun p hp => by
    have n := m.cx.new (o := .lst vs) hp
    exact q _ _ _ (m.trans n) (.lst (SqL.of upd_same) (dl.mono n.go.gg))⟩
theorem atI_den {C : Kc} {G : Hp} {vs : List V} {ds : List D} {i : Int} {d : D} (h : DenL C G vs ds) (e : atI ds i = some d) : ∃ v, atI vs i = some v ∧ Den C G v d := by
  unfold atI at e ⊢
  rw [h.length]
  cases q : ixN ds.length i with
  | none => rw [q] at e; cases e
  | some j =>
    rw [q] at e
    exact h.get e
theorem de_ixT {i : Int} {ds : List D} (ha : DE F a S S1 (.tup ds)) (hb : DE F b S1 S2 (.int i)) (hi : atI ds i = some d) (hs : PlainIx b := by intro _ _; rfl) : DE F (.Subscript a b pos) S S2 d :=
  de_of (te := tOp (rIxT F.C.K) (anyE F a) (anyE F b)) (fun j => by have := pe_ix (pos := pos) (ix_tup (X := F.X j)) (anyE_ok (e := a) j) (anyE_ok (e := b) j) hs; rw [F.hK j] at this; exact this)
    (ev_op (fun G H u v s hu hv Q q => by
      cases hu with
      | tup h l =>
        cases hv
        obtain ⟨w, h1, h2⟩ := atI_den l hi
        exact ⟨_, _, i, w, rfl, rfl, same_t s h, h1, q _ _ _ (.refl s) h2⟩) ha hb)
theorem de_ixL {i : Int} {ds : List D} (ha : DE F a S S1 (.lst ds)) (hb : DE F b S1 S2 (.int i)) (hi : atI ds i = some d) (hs : PlainIx b := by intro _ _; rfl) : DE F (.Subscript a b pos) S S2 d :=
  de_of (te := tOp (rIxL F.C.K) (anyE F a) (anyE F b)) (fun j => by have := pe_ix (pos := pos) (ix_list (X := F.X j)) (anyE_ok (e := a) j) (anyE_ok (e := b) j) hs; rw [F.hK j] at this; exact this)
    (ev_op (fun G H u v s hu hv Q q => by
      cases hu with
      | lst h l =>
        cases hv
        obtain ⟨w, h1, h2⟩ := atI_den l hi
        exact ⟨_, _, i, w, rfl, rfl, s.seq h, h1, q _ _ _ (.refl s) h2⟩) ha hb)
theorem ev_bag {C : Kc} {tb : TE} {j : Nat} {i : Int} {bb : Addr} {ds : List D} (hj : S.s[j]? = some (some .bag)) (hb : EvM C tb S S1 (.int i)) (hj1 : S1.g = some (bb, .lst ds)) (hg : S.g = some (bb, .lst ds)) (hi : atI ds i = some d) : EvM C (tOp (rIxL C.K) (tVar j) tb) S S1 d := fun σ G H c Q q =>
  ⟨_, c.bg j _ _ hg hj, hb σ G H c _ fun v G1 H1 m dv => by
    cases dv
    have z := m.cx.bag
    rw [hj1] at z
    obtain ⟨_, vs, z2, z3⟩ := z
    obtain ⟨w, h1, h2⟩ := atI_den z3 hi
    exact ⟨_, vs, i, w, rfl, rfl, SqL.of z2, h1, q _ _ _ m h2⟩⟩
theorem de_bagIx {j : Nat} {x : Str} {i : Int} {p : Pos} {bb : Addr} {ds : List D} (hj : S.s[j]? = some (some .bag)) (hb : DE F b S S1 (.int i)) (hj1 : S1.g = some (bb, .lst ds)) (hg : S.g = some (bb, .lst ds)) (hi : atI ds i = some d) (hs : PlainIx b := by intro _ _; rfl)
    (hN : ∀ i, (F.X i).N[j]? = some x := by intro _; rfl) (hv : ∀ i, Vis (F.X i).env.scope x := by intro _; first | exact Or.inl rfl | exact Or.inr (Or.inl rfl) | exact Or.inr (Or.inr rfl))
    (hd : (x == ("__debug__" : Str)) = false := by decide) (hcd : (x == ("__classdict__" : Str)) = false := by decide) : DE F (.Subscript (.Name x p) b pos) S S1 d :=
  de_of (te := tOp (rIxL F.C.K) (tVar j) (anyE F b)) (fun k => by have := pe_ix (pos := pos) (ix_list (X := F.X k)) (pe_var (pos := p) (hN k) (hv k) hd hcd) (anyE_ok (e := b) k) hs; rw [F.hK k] at this; exact this) (ev_bag hj hb hj1 hg hi)
def CaD (F : Fam) (f : Value) (xs : List D) (z : D) : Prop := ∃ r, (∀ i, CallR (F.X i) f r) ∧ RDL F.C r xs z
theorem ev_cb {C : Kc} {r : List V → Hp → VK → Prop} {ta : TA} {ds : List D} (hr : RDL C r ds z) (ha : EvA C ta S S1 ds) : EvM C (tCB r ta) S S1 z := fun σ G H c Q q =>
  ha σ G H c _ fun vs G1 H1 m dl => hr G1 H1 vs m.cx.sub dl Q fun w G2 H2 p d2 => q w G2 H2 (m.pu p) d2
theorem de_callB {x : Str} {id : String} {p : Pos} {es : List Expr} {ds : List D} (hm : F.mg x = none) (hv : bootBuiltins x = some (.builtin id)) (ha : DA F (e :: es) S S1 ds) (hr : CaD F (.builtin id) ds z)
    (hg : ∀ i, Gl (F.X i) x := by intro _; rfl) (hn : x ≠ "__name__" := by decide) (hdb : (x == ("__debug__" : Str)) = false := by decide)
    (he : ∀ i, starEach (e :: es) (F.X i).env = (false, eval e (F.X i).env) :: starEach es (F.X i).env := by intro _; rfl) (hpl : ∀ i, (backTo pos (starEach es (F.X i).env)).any (·.1) = false := by intro _; rfl) : DE F (.Call (.Name x p) (e :: es) [] pos) S S1 z := by
  obtain ⟨r, h1, h2⟩ := hr
  exact de_of (fun i => pe_callB (h1 i) (hg i) (by rw [F.hmg i]; exact hm) hv (anyA_ok i) hn hdb (he i) (hpl i)) (ev_cb h2 ha)
theorem de_callTy {x : Str} {T : String} {p : Pos} {es : List Expr} {ds : List D} (hm : F.mg x = none) (hv : bootBuiltins x = some (.type T)) (ha : DA F (e :: es) S S1 ds) (hr : CaD F (.type T) ds z)
    (hg : ∀ i, Gl (F.X i) x := by intro _; rfl) (hn : x ≠ "__name__" := by decide) (hdb : (x == ("__debug__" : Str)) = false := by decide)
    (he : ∀ i, starEach (e :: es) (F.X i).env = (false, eval e (F.X i).env) :: starEach es (F.X i).env := by intro _; rfl) (hpl : ∀ i, (backTo pos (starEach es (F.X i).env)).any (·.1) = false := by intro _; rfl) : DE F (.Call (.Name x p) (e :: es) [] pos) S S1 z := by
  obtain ⟨r, h1, h2⟩ := hr
  exact de_of (fun i => pe_callTy (h1 i) (hg i) (by rw [F.hmg i]; exact hm) hv (anyA_ok i) hn hdb (he i) (hpl i)) (ev_cb h2 ha)
theorem ca_abs {i : Int} : CaD F (.builtin "abs") [.int i] (.int (if i < 0 then -i else i)) := ⟨_, fun _ => call_abs, fun G H us s h Q q => by
  cases h with
  | cons h l => cases h; cases l; exact ⟨i, rfl, q _ _ _ (.refl s) (.int _)⟩⟩
theorem ca_int {i : Int} : CaD F (.type "int") [.int i] (.int i) := ⟨_, fun _ => call_int1, fun G H us s h Q q => by
  cases h with
  | cons h l => cases h; cases l; exact .inl ⟨i, rfl, q _ _ _ (.refl s) (.int _)⟩⟩
theorem ca_intB {k : Bool} : CaD F (.type "int") [.bl k] (.int (if k then 1 else 0)) := ⟨_, fun _ => call_int1, fun G H us s h Q q => by
  cases h with
  | cons h l => cases h; cases l; exact .inr ⟨k, rfl, q _ _ _ (.refl s) (.int _)⟩⟩
theorem ca_max [Calm F] {i j : Int} : CaD F (.builtin "max") [.int i, .int j] (.int (if j > i then j else i)) := ⟨_, fun k => call_max2 (F.calm k), fun G H us s h Q q => by
  cases h with
  | cons h l => cases l with
    | cons h2 l => cases h; cases h2; cases l; exact ⟨i, j, rfl, q _ _ _ (.refl s) (.int _)⟩⟩
theorem ca_min [Calm F] {i j : Int} : CaD F (.builtin "min") [.int i, .int j] (.int (if j < i then j else i)) := ⟨_, fun k => call_min2 (F.calm k), fun G H us s h Q q => by
  cases h with
  | cons h l => cases l with
    | cons h2 l => cases h; cases h2; cases l; exact ⟨i, j, rfl, q _ _ _ (.refl s) (.int _)⟩⟩
theorem ca_lenT {ds : List D} : CaD F (.builtin "len") [.tup ds] (.int ds.length) := ⟨fun xs H Q => ∃ p ys, xs = [.ref p] ∧ (SqL F.C.K H p ys ∨ SqT F.C.K H p ys) ∧ Q (.int ys.length) H, fun i => by have := call_len_seq (X := F.X i); rw [F.hK i] at this; exact this, fun G H us s h Q q => by
  cases h with
  | cons h l => cases h with
    | tup h1 h2 => cases l; exact ⟨_, _, rfl, .inr (same_t s h1), q _ _ _ (.refl s) (by rw [h2.length]; exact .int _)⟩⟩
theorem ca_lenL {ds : List D} : CaD F (.builtin "len") [.lst ds] (.int ds.length) := ⟨fun xs H Q => ∃ p ys, xs = [.ref p] ∧ (SqL F.C.K H p ys ∨ SqT F.C.K H p ys) ∧ Q (.int ys.length) H, fun i => by have := call_len_seq (X := F.X i); rw [F.hK i] at this; exact this, fun G H us s h Q q => by
  cases h with
  | cons h l => cases h with
    | lst h1 h2 => cases l; exact ⟨_, _, rfl, .inl (s.seq h1), q _ _ _ (.refl s) (by rw [h2.length]; exact .int _)⟩⟩
theorem ca_lenS {x : Str} (hx : x.length ≤ sizeLine) : CaD F (.builtin "len") [.str x] (.int x.length) := ⟨_, fun _ => call_len_str, fun G H us s h Q q => by
  cases h with
  | cons h l => cases h; cases l; exact ⟨x, rfl, hx, q _ _ _ (.refl s) (.int _)⟩⟩
end
end DL
namespace DL
open PySem L2
variable [TabL]
def spP (C : Kc) (R : List D → D → Prop) : Sp := fun vs H Q _ => ∃ (G : Hp) (ds : List D) (d : D), R ds d ∧ Sub G H ∧ DenL C G vs ds ∧ ∀ v G2 H2, Pu G H G2 H2 → Den C G2 v d → Q v H2
def spB (C : Kc) (R : List D → List D → D → List D → Prop) : Sp := fun vs H Q _ => ∃ (G : Hp) (b : Addr) (ws gv : List V) (ds gs : List D) (d : D) (gs' : List D), vs = .ref b :: ws ∧ R ds gs d gs' ∧ Sub G H ∧ G b = none ∧ H b = some (.lst gv) ∧ DenL C G gv gs ∧ DenL C G ws ds ∧
  ∀ v G2 H2 gv', Go (fun a => a = b) G H G2 H2 → Sub G2 H2 → G2 b = none → H2 b = some (.lst gv') → DenL C G2 gv' gs' → Den C G2 v d → Q v H2
def spO (C : Kc) (R : List D → List D → Prop) : Sp := fun vs H Q _ => ∃ (G : Hp) (ds es : List D), R ds es ∧ Sub G H ∧ DenL C G vs ds ∧ ∀ p ev G2 H2, Pu G H G2 H2 → H p = none → G2 p = none → H2 p = some (.lst ev) → DenL C G2 ev es → Q (.ref p) H2
def spI (C : Kc) (c : Nat) (R : List D → List (Str × D) → Prop) : Sp := fun vs H Q _ => ∃ (G : Hp) (b dx : Addr) (ws : List V) (ds : List D) (fs : List (Str × D)), vs = .ref b :: ws ∧ R ds fs ∧ Sub G H ∧ G b = none ∧ H b = some (.ins (C.cl c) dx []) ∧ DenL C G ws ds ∧
  ∀ G2 H2 dx2 fv, Go (fun a => a = b) G H G2 H2 → Sub G2 H2 → G2 b = none → H2 b = some (.ins (C.cl c) dx2 fv) → DenF C G2 fv fs → Q .non H2
def perm {α : Type} : List Nat → List α → List α
  | [], _ => []
  | i :: r, xs => match xs[i]? with
    | some x => x :: perm r xs
    | none => perm r xs
theorem DenL.perm {C : Kc} {G : Hp} {vs : List V} {ds : List D} (h : DenL C G vs ds) : ∀ ix : List Nat, DenL C G (perm ix vs) (perm ix ds)
  | [] => .nil
  | i :: r => by
    unfold DL.perm
    cases q : ds[i]? with
    | none =>
      have : vs[i]? = none := by
        rw [List.getElem?_eq_none_iff] at q ⊢
        rw [h.length]; exact q
      rw [this]
      exact DenL.perm h r
    | some d =>
      obtain ⟨v, h1, h2⟩ := h.get q
      rw [h1]
      exact .cons h2 (DenL.perm h r)
theorem Vals.perm {vs : List V} {us : List Value} (h : Vals vs us) : ∀ ix : List Nat, Vals (perm ix vs) (perm ix us)
  | [] => .nil
  | i :: r => by
    unfold DL.perm
    cases q : vs[i]? with
    | none => rw [h.none_of q]; exact Vals.perm h r
    | some d =>
      obtain ⟨v, h1, h2⟩ := h.get q
      rw [h1]
      exact .cons h2 (Vals.perm h r)
section
variable (P : Program) (w : World) (C : Kc) (mg : Str → Option Value) (base : Heap)
def Cal (k : Nat) (x : Str) (sp : Sp) : Prop := ∃ f fd ps, FnOk P w C.K mg base CX0 k f fd ps sp ∧ mg x = some (.ref f) ∧ PySem.W.keepIn C.K (.ref f) = true ∧ Binds C.K fd ps []
def Mak (k : Nat) (x : Str) (c : Nat) (R : List D → List (Str × D) → Prop) (dd : List D) : Prop := ∃ f fd ps ds dvs, FnOk P w C.K mg base CX0 k f fd ps (spI C c R) ∧ mg x = some (.ref (C.cl c)) ∧ Mk C.K (C.cl c) f ∧ Binds C.K fd ps ds ∧ Vals dvs ds ∧ (∀ G, DenL C G dvs dd) ∧ C.has c = true
def Met (k : Nat) (c : Nat) (m : Str) (sp : Sp) : Prop := ∃ f fd ps, FnOk P w C.K mg base CX0 k f fd ps sp ∧ Cls C.K (C.cl c) ∧ Meth C.K (C.cl c) m f ∧ Binds C.K fd ps []
end
section
variable {F : Fam} {S S1 S2 S3 : ST} {e a b : Expr} {d x y z : D} {pos p apos : Pos} {es : List Expr} {ds : List D} {k : Nat} {nm : Str} {kws : List Keyword}
theorem fn_at {i : F.I} {k : Nat} {f : Addr} {fd : FuncData} {ps : List Str} {sp : Sp} (G : FnOk F.P F.w F.C.K F.mg F.base CX0 k f fd ps sp) : FnOk (F.X i).prog (F.X i).w (F.X i).K (F.X i).mg (F.X i).base CX0 k f fd ps sp := by
  rw [F.hP, F.hw, F.hK, F.hmg, F.hbase]; exact G
theorem de_call [Calm F] {R : List D → D → Prop} (c : Cal F.P F.w F.C F.mg F.base k nm (spP F.C R)) (ha : DA F (e :: es) S S1 ds) (hR : R ds d) (hk : k ≤ F.k := by exact Nat.le_of_ble_eq_true rfl)
    (hg : ∀ i, Gl (F.X i) nm := by intro _; rfl) (hdb : (nm == ("__debug__" : Str)) = false := by decide)
    (he : ∀ i, starEach (e :: es) (F.X i).env = (false, eval e (F.X i).env) :: starEach es (F.X i).env := by intro _; rfl) (hpl : ∀ i, (backTo pos (starEach es (F.X i).env)).any (·.1) = false := by intro _; rfl) : DE F (.Call (.Name nm p) (e :: es) [] pos) S S1 d := by
  obtain ⟨f, fd, ps, G, hm, hkp, hb⟩ := c
  refine de_of (te := tCall (spP F.C R) [] E0 (anyA F (e :: es))) (fun i => pe_call (fn_at G) ((F.room i).mono hk) (hg i) (by rw [F.hmg i]; exact hm) (by rw [F.hK i]; exact hkp) (by rw [F.hK i]; exact hb) .nil pass0 (anyA_ok i) hdb (he i) (hpl i)) ?_
  intro σ G H cx Q q
  refine ha σ G H cx _ fun vs G1 H1 m dl => ?_
  rw [List.append_nil]
  exact ⟨G1, ds, d, hR, m.cx.sub, dl, fun v G2 H2 p dv => q v G2 H2 (m.pu p) dv⟩
theorem make_ev {C : Kc} {c : Nat} {R : List D → List (Str × D) → Prop} {fs : List (Str × D)} {σ : L2.St} {G H : Hp} {vs : List V} {E : XK} {Q : VK} (cx : Ctx C G H σ S) (hh : C.has c = true) (dl : DenL C G vs ds) (hR : R ds fs)
    (q : ∀ v G2 H2, Mv C σ S G H S G2 H2 → Den C G2 v (.obj c fs) → Q v H2) :
    ∀ x dx, H x = none → H dx = none → dx ≠ x → spI C c R (.ref x :: vs) (upd (upd H dx (.own x)) x (.ins (C.cl c) dx [])) (fun v H2 => v = .non ∧ Q (.ref x) H2) E := by
  intro x dx hx hdx ne
  have gx : G x = none := cx.sub.free hx
  have gd : G dx = none := cx.sub.free hdx
  have s1 : Same H (upd (upd H dx (.own x)) x (.ins (C.cl c) dx [])) := fun a o h => by
    rw [upd_ne (ne_of_none h hx), upd_ne (ne_of_none h hdx)]; exact h
  refine ⟨G, x, dx, vs, ds, fs, rfl, hR, cx.sub.trans s1, gx, upd_same, dl, fun G2 H2 dx2 fv go sub g2 h2 df => ⟨rfl, ?_⟩⟩
  have hk : KT H H2 := ⟨fun a o nt h => go.keep a o (ne_of_none h hx) nt (s1 a o h), fun a h => go.dom a (Same.dom0 s1 a h), fun t => go.tb (t.ext s1)⟩
  refine q (.ref x) (upd G2 x (.ins (C.cl c) dx2 fv)) H2 ?_ (.obj hh upd_same (df.mono fun a o h => by rw [upd_ne (ne_of_none h g2)]; exact h))
  refine cx.mv hk (fun a o h => ?_) (fun a o h => ?_) (fun a h1 hg => ?_)
  · rw [upd_ne (ne_of_none h gx)]; exact go.gg a o h
  · by_cases z : a = x
    · subst z; rw [upd_same] at h; cases h; exact h2
    · rw [upd_ne z] at h; exact sub a o h
  · have z : a ≠ x := fun z => h1.ne (by rw [z]; exact hx)
    rw [upd_ne z]
    exact go.fr a z (h1.kt (Same.kt s1)) hg
theorem de_make [Calm F] {c : Nat} {R : List D → List (Str × D) → Prop} {dd : List D} {fs : List (Str × D)} (mk : Mak F.P F.w F.C F.mg F.base k nm c R dd) (ha : DA F (e :: es) S S1 ds) (hR : R (ds ++ dd) fs) (hk : k + 1 ≤ F.k := by exact Nat.le_of_ble_eq_true rfl)
    (hg : ∀ i, Gl (F.X i) nm := by intro _; rfl) (hdb : (nm == ("__debug__" : Str)) = false := by decide)
    (he : ∀ i, starEach (e :: es) (F.X i).env = (false, eval e (F.X i).env) :: starEach es (F.X i).env := by intro _; rfl) (hpl : ∀ i, (backTo pos (starEach es (F.X i).env)).any (·.1) = false := by intro _; rfl) : DE F (.Call (.Name nm p) (e :: es) [] pos) S S1 (.obj c fs) := by
  obtain ⟨f, fd, ps, dus, dvs, G, hm, M, hb, hv, hd, hh⟩ := mk
  refine de_of (te := tMake (F.C.cl c) (spI F.C c R) dvs E0 (anyA F (e :: es))) (fun i => pe_make (by rw [F.hK i]; exact M) (fn_at G) ((F.room i).mono hk) (hg i) (by rw [F.hmg i]; exact hm) (by rw [F.hK i]; exact hb) hv pass0 (anyA_ok i) hdb (he i) (hpl i)) ?_
  intro σ G H cx Q q
  refine ha σ G H cx _ fun vs G1 H1 m dl => ?_
  exact make_ev m.cx hh (dl.append (hd G1)) hR fun v G2 H2 m2 dv => q v G2 H2 (m.trans m2) dv
theorem ctx_bag {C : Kc} {σ : L2.St} {G H G2 H2 : Hp} {bb : Addr} {gs gs' : List D} {gv' : List V} (cx : Ctx C G H σ S) (hg : S.g = some (bb, .lst gs)) (go : Go (fun a => a = bb) G H G2 H2) (sub : Sub G2 H2) (g2 : G2 bb = none) (h2 : H2 bb = some (.lst gv')) (dl : DenL C G2 gv' gs') :
    Mv C σ S G H ⟨S.s, some (bb, .lst gs')⟩ G2 H2 := by
  refine ⟨go.mono fun a z => .inr ⟨.lst gs, by rw [z]; exact hg⟩, ⟨sub, cx.len, fun i d h => ?_, fun i ds h => ?_, cx.apart, fun i b o h h1 => ?_, ⟨g2, gv', h2, dl⟩, fun i b o ds h h1 => ?_⟩, fun a z => ?_⟩
  · obtain ⟨v, h1, h2⟩ := cx.im i d h
    exact ⟨v, h1, h2.mono go.gg⟩
  · obtain ⟨a, vs, h1, h3, h4, h5⟩ := cx.ow i ds h
    have na : a ≠ bb := fun z => cx.nob i bb _ ds hg h (by rw [← z]; exact h1)
    exact ⟨a, vs, h1, go.fr a na (.inl ⟨_, h4, h5.nt, h5.nc⟩) h3, go.keep a _ na h5.nt h4, h5.mono go.gg⟩
  · cases h; exact cx.bg i bb _ hg h1
  · cases h; exact cx.nob i bb _ ds hg h1
  · rcases z with z | ⟨o, z⟩
    · exact .inl z
    · cases z; exact .inr ⟨_, hg⟩
theorem pa_bag {j : Nat} {x : Str} (i : F.I) (hN : (F.X i).N[j]? = some x) (hv : Vis (F.X i).env.scope x) (hd : (x == ("__debug__" : Str)) = false) (hcd : (x == ("__classdict__" : Str)) = false) (hs : starEach (.Name x p :: es) (F.X i).env = (false, eval (.Name x p) (F.X i).env) :: starEach es (F.X i).env) :
    PA (F.X i) (.Name x p :: es) (tCons (tVar j) (anyA F es)) := pa_cons (pe_var hN hv hd hcd) (anyA_ok i) hs
theorem de_callBag [Calm F] {R : List D → List D → D → List D → Prop} {j : Nat} {x : Str} {bb : Addr} {gs gs' : List D} {q' : Pos} (c : Cal F.P F.w F.C F.mg F.base k nm (spB F.C R)) (hj : S.s[j]? = some (some .bag)) (hS : S.g.map (·.1) = some bb) (ha : DA F es S S1 ds) (hg : S1.g = some (bb, .lst gs)) (hR : R ds gs d gs') (hk : k ≤ F.k := by exact Nat.le_of_ble_eq_true rfl)
    (hN : ∀ i, (F.X i).N[j]? = some x := by intro _; rfl) (hv : ∀ i, Vis (F.X i).env.scope x := by intro _; first | exact Or.inl rfl | exact Or.inr (Or.inl rfl) | exact Or.inr (Or.inr rfl))
    (hd : (x == ("__debug__" : Str)) = false := by decide) (hcd : (x == ("__classdict__" : Str)) = false := by decide)
    (hgl : ∀ i, Gl (F.X i) nm := by intro _; rfl) (hdb : (nm == ("__debug__" : Str)) = false := by decide)
    (he : ∀ i, starEach (.Name x q' :: es) (F.X i).env = (false, eval (.Name x q') (F.X i).env) :: starEach es (F.X i).env := by intro _; rfl) (hpl : ∀ i, (backTo pos (starEach es (F.X i).env)).any (·.1) = false := by intro _; rfl) :
    DE F (.Call (.Name nm p) (.Name x q' :: es) [] pos) S ⟨S1.s, some (bb, .lst gs')⟩ d := by
  obtain ⟨f, fd, ps, G, hm, hkp, hb⟩ := c
  refine de_of (te := tCall (spB F.C R) [] E0 (tCons (tVar j) (anyA F es))) (fun i => pe_call (fn_at G) ((F.room i).mono hk) (hgl i) (by rw [F.hmg i]; exact hm) (by rw [F.hK i]; exact hkp) (by rw [F.hK i]; exact hb) .nil pass0 (pa_bag i (hN i) (hv i) hd hcd (he i)) hdb (he i) (hpl i)) ?_
  intro σ G H cx Q q
  have hb0 : σ[j]? = some (some (.ref bb)) := by
    cases e : S.g with
    | none => rw [e] at hS; cases hS
    | some bo =>
      obtain ⟨b0, o⟩ := bo
      rw [e] at hS
      cases hS
      exact cx.bg j _ o e hj
  refine ⟨_, hb0, ha σ G H cx _ fun vs G1 H1 m dl => ?_⟩
  have z := m.cx.bag
  rw [hg] at z
  obtain ⟨z1, gv, z2, z3⟩ := z
  refine ⟨G1, bb, vs, gv, ds, gs, d, gs', List.append_nil _, hR, m.cx.sub, z1, z2, z3, dl, fun v G2 H2 gv' go sub g2 h2 dl' dv => ?_⟩
  exact q v G2 H2 (m.trans (ctx_bag m.cx hg go sub g2 h2 dl')) dv
end
def famD (C : Kc) (mg : Str → Option Value) (base : Heap) (N : List Str) (nd : N.Nodup) (qual : Str) (sc : Scope) (f : Addr) (cdv : Value) (A : Around) (outer : List Env) (s : Shared) (H : Hp) (E : XK) (k : Nat) (hr : Room k (A.deeper (PyProof.Rows.envOfC qual sc s.heap.objs.size f cdv))) : Fam where
  I := Unit
  X := fun _ => (cxOf CX0 C.P C.w C.K mg base N qual sc f cdv A outer s H E).nox
  P := C.P
  w := C.w
  C := C
  mg := mg
  base := base
  N := N
  k := k
  hP := fun _ => rfl
  hw := fun _ => rfl
  hK := fun _ => rfl
  hmg := fun _ => rfl
  hbase := fun _ => rfl
  hN := fun _ => rfl
  nd := nd
  roomH := fun _ => ⟨hr.dp, hr.un⟩
  cP := rfl
  cw := rfl
instance {C : Kc} {mg : Str → Option Value} {base : Heap} {N : List Str} {nd : N.Nodup} {qual : Str} {sc : Scope} {f : Addr} {cdv : Value} {A : Around} {outer : List Env} {s : Shared} {H : Hp} {E : XK} {k : Nat} {hr : Room k (A.deeper (PyProof.Rows.envOfC qual sc s.heap.objs.size f cdv))} : Calm (famD C mg base N nd qual sc f cdv A outer s H E k hr) := ⟨fun _ => rfl, fun _ => hr.hd⟩
def start (N : List Str) (ds : List D) : List (Option DV) := ds.map (fun d => some (.imm d)) ++ List.replicate (N.length - ds.length) none
theorem start_get {N : List Str} {C : Kc} {G : Hp} {vs : List V} {ds : List D} (h : DenL C G vs ds) (i : Nat) (e : DV) (q : (start N ds)[i]? = some (some e)) : ∃ v d, (L2.start N vs)[i]? = some (some v) ∧ e = .imm d ∧ Den C G v d := by
  unfold start at q
  unfold L2.start
  rcases Nat.lt_or_ge i ds.length with hi | hi
  · rw [List.getElem?_append_left (by simpa using hi), List.getElem?_map] at q
    cases r : ds[i]? with
    | none => rw [r] at q; cases q
    | some d =>
      rw [r] at q
      obtain ⟨v, h1, h2⟩ := h.get r
      refine ⟨v, d, ?_, by simpa using q.symm, h2⟩
      rw [List.getElem?_append_left (by rw [List.length_map, h.length]; exact hi), List.getElem?_map, h1]
      rfl
  · rw [List.getElem?_append_right (by simpa using hi)] at q
    rw [List.getElem?_replicate] at q
    split at q <;> cases q
theorem ctx_start {N : List Str} {C : Kc} {G H : Hp} {vs : List V} {ds : List D} (s : Sub G H) (h : DenL C G vs ds) : Ctx C G H (L2.start N vs) ⟨start N ds, none⟩ where
  sub := s
  len := by simp [L2.start, start, h.length]
  im := fun i d q => by
    obtain ⟨v, d', h1, h2, h3⟩ := start_get h i _ q
    cases h2
    exact ⟨v, h1, h3⟩
  ow := fun i ds q => by obtain ⟨_, _, _, z, _⟩ := start_get h i _ q; cases z
  apart := fun i j ds es a q => by obtain ⟨_, _, _, z, _⟩ := start_get h i _ q; cases z
  bg := fun i b o z => by cases z
  bag := trivial
  nob := fun i b o ds z => by cases z
theorem oa_start {N : List Str} {C : Kc} {G : Hp} {vs : List V} {ds : List D} (h : DenL C G vs ds) (a : Addr) : ¬ OA C (L2.start N vs) ⟨start N ds, none⟩ a := fun z => by
  rcases z with ⟨i, es, q, _⟩ | ⟨o, z⟩
  · obtain ⟨_, _, _, z, _⟩ := start_get h i _ q; cases z
  · cases z
section
variable {P : Program} {w : World} {C : Kc} {mg : Str → Option Value} {base : Heap}
theorem fnP {x qual : Str} {st : Stmt} {f : Addr} {fd : FuncData} {N ps : List Str} {k : Nat} {R : List D → D → Prop} (F : Fun C.K x qual st f fd) (Sc : FnScope N ps (defScope st)) (len : ∀ ds d, R ds d → ds.length = ps.length)
    (body : ∀ ds d, R ds d → ∀ cdv A outer s H E hr, DS (famD C mg base N Sc.nd qual (defScope st) f cdv A outer s H E k hr) (defBody st) ⟨start N ds, none⟩ { rt := fun d' _ => d' = d, nx := fun _ => d = .non }) : FnOk C.P C.w C.K mg base CX0 (k + 1) f fd ps (spP C R) := by
  refine F.ok Sc (fun vs H Q E h => ?_) (fun cdv A outer s H vs Q E hr h => ?_)
  · obtain ⟨G, ds, d, hR, _, dl, _⟩ := h
    rw [dl.length]; exact len ds d hR
  · obtain ⟨G, ds, d, hR, sub, dl, q⟩ := h
    refine ⟨_, anyS_ok (F := famD C mg base N Sc.nd qual (defScope st) f cdv A outer s H E k hr) (), ?_⟩
    have key : ∀ σ2 S2 G2 H2, Mw C (L2.start N vs) ⟨start N ds, none⟩ G H σ2 S2 G2 H2 → Pu G H G2 H2 := fun σ2 S2 G2 H2 m =>
      ⟨⟨fun a o nt h => m.go.keep a o (oa_start dl a) nt h, m.go.dom, m.go.tb⟩, m.go.gg, m.cx.sub, fun a h1 h2 => m.go.fr a (oa_start dl a) h1 h2⟩
    refine body ds d hR cdv A outer s H E hr (L2.start N vs) G H (ctx_start sub dl) _ ⟨fun σ2 S2 G2 H2 m e => ?_, fun v d' σ2 S2 G2 H2 m dv e => ?_, fun _ _ _ _ _ e => e.elim, fun _ _ _ _ _ e => e.elim, fun _ _ _ _ _ _ _ _ _ _ _ _ e => e.elim, fun _ _ _ _ _ _ _ _ _ _ _ _ _ e => e.elim⟩
    · exact q .non G2 H2 (key _ _ _ _ m) (by rw [e]; exact .non)
    · cases e
      exact q v G2 H2 (key _ _ _ _ m) dv
theorem fnO {x qual : Str} {st : Stmt} {f : Addr} {fd : FuncData} {N ps : List Str} {k : Nat} {R : List D → List D → Prop} (F : Fun C.K x qual st f fd) (Sc : FnScope N ps (defScope st)) (len : ∀ ds es, R ds es → ds.length = ps.length)
    (body : ∀ ds es, R ds es → ∀ cdv A outer s H E hr, DS (famD C mg base N Sc.nd qual (defScope st) f cdv A outer s H E k hr) (defBody st) ⟨start N ds, none⟩ { ro := fun es' _ => es' = es }) : FnOk C.P C.w C.K mg base CX0 (k + 1) f fd ps (spO C R) := by
  refine F.ok Sc (fun vs H Q E h => ?_) (fun cdv A outer s H vs Q E hr h => ?_)
  · obtain ⟨G, ds, es, hR, _, dl, _⟩ := h
    rw [dl.length]; exact len ds es hR
  · obtain ⟨G, ds, es, hR, sub, dl, q⟩ := h
    refine ⟨_, anyS_ok (F := famD C mg base N Sc.nd qual (defScope st) f cdv A outer s H E k hr) (), ?_⟩
    refine body ds es hR cdv A outer s H E hr (L2.start N vs) G H (ctx_start sub dl) _ ⟨fun _ _ _ _ _ e => e.elim, fun _ _ _ _ _ _ _ _ e => e.elim, fun _ _ _ _ _ e => e.elim, fun _ _ _ _ _ e => e.elim, fun p ev es' σ2 S2 G2 H2 m h1 h2 h3 h4 e => ?_, fun _ _ _ _ _ _ _ _ _ _ _ _ _ e => e.elim⟩
    cases e
    exact q p ev G2 H2 ⟨⟨fun a o nt h => m.go.keep a o (oa_start dl a) nt h, m.go.dom, m.go.tb⟩, m.go.gg, m.cx.sub, fun a h1 h2 => m.go.fr a (oa_start dl a) h1 h2⟩ (h1.resolve_right (oa_start dl p)) h2 h3 h4
def startB (N : List Str) (ds : List D) : List (Option DV) := some .bag :: start N.tail ds
theorem ctx_startB {n : Str} {N : List Str} {G H : Hp} {b : Addr} {vs : List V} {ds : List D} {bo : BG} (s : Sub G H) (h : DenL C G vs ds) (hb : BagOk C G H (some (b, bo))) : Ctx C G H (L2.start (n :: N) (.ref b :: vs)) ⟨startB (n :: N) ds, some (b, bo)⟩ := by
  have e : L2.start (n :: N) (.ref b :: vs) = some (.ref b) :: L2.start N vs := by simp [L2.start]
  have c := ctx_start (N := N) s h
  rw [e]
  refine ⟨s, by simp [startB, c.len, start, L2.start, h.length], fun i d q => ?_, fun i es q => ?_, fun i j es fs a q => ?_, fun i b' o z q => ?_, hb, fun i b' o es z q => ?_⟩
  · cases i with
    | zero => cases q
    | succ i => simpa using c.im i d (by simpa [startB] using q)
  · cases i with
    | zero => cases q
    | succ i => simpa using c.ow i es (by simpa [startB] using q)
  · cases i with
    | zero => cases q
    | succ i => obtain ⟨_, _, _, z, _⟩ := start_get (N := N) h i _ (by simpa [startB] using q); cases z
  · cases z
    cases i with
    | zero => rfl
    | succ i => obtain ⟨_, _, _, z, _⟩ := start_get (N := N) h i _ (by simpa [startB] using q); cases z
  · cases i with
    | zero => cases q
    | succ i => obtain ⟨_, _, _, z, _⟩ := start_get (N := N) h i _ (by simpa [startB] using q); cases z
theorem oa_startB {n : Str} {N : List Str} {G : Hp} {b : Addr} {vs : List V} {ds : List D} {bo : BG} (h : DenL C G vs ds) (a : Addr) (z : OA C (L2.start (n :: N) (.ref b :: vs)) ⟨startB (n :: N) ds, some (b, bo)⟩ a) : a = b := by
  rcases z with ⟨i, es, q, _⟩ | ⟨o, z⟩
  · cases i with
    | zero => cases q
    | succ i => obtain ⟨_, _, _, z, _⟩ := start_get (N := N) h i _ (by simpa [startB] using q); cases z
  · cases z; rfl
theorem fnB {x qual : Str} {st : Stmt} {f : Addr} {fd : FuncData} {n : Str} {N ps : List Str} {k : Nat} {R : List D → List D → D → List D → Prop} (F : Fun C.K x qual st f fd) (Sc : FnScope (n :: N) ps (defScope st)) (len : ∀ ds gs d gs', R ds gs d gs' → ds.length + 1 = ps.length)
    (body : ∀ ds gs d gs', R ds gs d gs' → ∀ b cdv A outer s H E hr, DS (famD C mg base (n :: N) Sc.nd qual (defScope st) f cdv A outer s H E k hr) (defBody st) ⟨startB (n :: N) ds, some (b, .lst gs)⟩
      { rt := fun d' S => d' = d ∧ S.g = some (b, .lst gs'), nx := fun S => d = .non ∧ S.g = some (b, .lst gs') }) : FnOk C.P C.w C.K mg base CX0 (k + 1) f fd ps (spB C R) := by
  refine F.ok Sc (fun vs H Q E h => ?_) (fun cdv A outer s H vs Q E hr h => ?_)
  · obtain ⟨G, b, ws, gv, ds, gs, d, gs', rfl, hR, _, _, _, _, dl, _⟩ := h
    rw [List.length_cons, dl.length]; exact len ds gs d gs' hR
  · obtain ⟨G, b, ws, gv, ds, gs, d, gs', rfl, hR, sub, gb, hb, dg, dl, q⟩ := h
    refine ⟨_, anyS_ok (F := famD C mg base (n :: N) Sc.nd qual (defScope st) f cdv A outer s H E k hr) (), ?_⟩
    have fin : ∀ v σ2 S2 G2 H2, Mw C (L2.start (n :: N) (.ref b :: ws)) ⟨startB (n :: N) ds, some (b, .lst gs)⟩ G H σ2 S2 G2 H2 → S2.g = some (b, .lst gs') → Den C G2 v d → Q v H2 := fun v σ2 S2 G2 H2 m e dv => by
      have z := m.cx.bag
      rw [e] at z
      obtain ⟨z1, gv', z2, z3⟩ := z
      exact q v G2 H2 gv' (m.go.mono fun a => oa_startB dl a) m.cx.sub z1 z2 z3 dv
    refine body ds gs d gs' hR b cdv A outer s H E hr _ G H (ctx_startB sub dl ⟨gb, gv, hb, dg⟩) _ ⟨fun σ2 S2 G2 H2 m e => ?_, fun v d' σ2 S2 G2 H2 m dv e => ?_, fun _ _ _ _ _ e => e.elim, fun _ _ _ _ _ e => e.elim, fun _ _ _ _ _ _ _ _ _ _ _ _ e => e.elim, fun _ _ _ _ _ _ _ _ _ _ _ _ _ e => e.elim⟩
    · exact fin .non _ _ _ _ m e.2 (by rw [e.1]; exact .non)
    · exact fin v _ _ _ _ m e.2 (e.1 ▸ dv)
theorem fnI {x qual : Str} {st : Stmt} {f : Addr} {fd : FuncData} {c : Nat} {n : Str} {N ps : List Str} {k : Nat} {R : List D → List (Str × D) → Prop} (F : Fun C.K x qual st f fd) (Sc : FnScope (n :: N) ps (defScope st)) (len : ∀ ds fs, R ds fs → ds.length + 1 = ps.length)
    (body : ∀ ds fs, R ds fs → ∀ b cdv A outer s H E hr, DS (famD C mg base (n :: N) Sc.nd qual (defScope st) f cdv A outer s H E k hr) (defBody st) ⟨startB (n :: N) ds, some (b, .ins c [])⟩
      { nx := fun S => S.g = some (b, .ins c fs) }) : FnOk C.P C.w C.K mg base CX0 (k + 1) f fd ps (spI C c R) := by
  refine F.ok Sc (fun vs H Q E h => ?_) (fun cdv A outer s H vs Q E hr h => ?_)
  · obtain ⟨G, b, dx, ws, ds, fs, rfl, hR, _, _, _, dl, _⟩ := h
    rw [List.length_cons, dl.length]; exact len ds fs hR
  · obtain ⟨G, b, dx, ws, ds, fs, rfl, hR, sub, gb, hb, dl, q⟩ := h
    refine ⟨_, anyS_ok (F := famD C mg base (n :: N) Sc.nd qual (defScope st) f cdv A outer s H E k hr) (), ?_⟩
    refine body ds fs hR b cdv A outer s H E hr _ G H (ctx_startB sub dl ⟨gb, dx, [], hb, .nil⟩) _ ⟨fun σ2 S2 G2 H2 m e => ?_, fun v d' σ2 S2 G2 H2 m dv e => e.elim, fun _ _ _ _ _ e => e.elim, fun _ _ _ _ _ e => e.elim, fun _ _ _ _ _ _ _ _ _ _ _ _ e => e.elim, fun _ _ _ _ _ _ _ _ _ _ _ _ _ e => e.elim⟩
    have z := m.cx.bag
    rw [e] at z
    obtain ⟨z1, dx2, fv, z2, z3⟩ := z
    exact q G2 H2 dx2 fv (m.go.mono fun a => oa_startB dl a) m.cx.sub z1 z2 z3
end
end DL
namespace DL
open PySem L2
variable [TabL]
section
variable {F : Fam} {S S1 S2 S3 : ST} {e a b : Expr} {d x y z : D} {pos p apos : Pos} {es : List Expr} {ds : List D} {k : Bool} {nm : Str} {P : Po} {rest t u : List Stmt} {st : Stmt} {M : ST → Prop}
theorem ds_nil (h : P.nx S) : DS F [] S P := ds_of (fun _ => pss_nil) fun σ G H c E m => m.nx σ S G H (.refl c) h
theorem ds_cons (h1 : D1 F st S { P with nx := M }) (h2 : ∀ S2, M S2 → DS F rest S2 P) : DS F (st :: rest) S P :=
  ds_of (te := tSeq (any1 F st) (anyS F rest)) (fun i => pss_cons (any1_ok i) (anyS_ok i)) fun σ G H c E m =>
    h1 σ G H c _ ⟨fun σ2 S2 G2 H2 a q => h2 S2 q σ2 G2 H2 a.cx E (m.move a), m.rt, m.bk, m.ct, m.ro, m.xc⟩
theorem ds_mono {P' : Po} {sts : List Stmt} (h : DS F sts S P) (h1 : ∀ S, P.nx S → P'.nx S) (h2 : ∀ d S, P.rt d S → P'.rt d S) (h3 : ∀ S, P.bk S → P'.bk S) (h4 : ∀ S, P.ct S → P'.ct S) (h5 : ∀ es S, P.ro es S → P'.ro es S := by intro _ _ z; exact z) (h6 : (∀ c fs S, ¬ P.xc c fs S) ∨ (P.W = P'.W ∧ ∀ c fs S, P.xc c fs S → P'.xc c fs S) := by first | exact Or.inl (fun _ _ _ z => z.elim) | exact Or.inr ⟨rfl, fun _ _ _ z => z⟩) : DS F sts S P' := fun σ G H c E m =>
  h σ G H c E ⟨fun σ2 S2 G2 H2 a q => m.nx _ _ _ _ a (h1 _ q), fun v d σ2 S2 G2 H2 a q r => m.rt _ _ _ _ _ _ a q (h2 _ _ r), fun σ2 S2 G2 H2 a q => m.bk _ _ _ _ a (h3 _ q), fun σ2 S2 G2 H2 a q => m.ct _ _ _ _ a (h4 _ q), fun p ev es σ2 S2 G2 H2 a r1 r2 r3 r4 q => m.ro _ _ _ _ _ _ _ a r1 r2 r3 r4 (h5 _ _ q), fun c fs dx fv σ2 S2 G2 H2 a r1 r2 r3 r4 q => by
    rcases h6 with n | ⟨ew, k⟩
    · exact absurd q (n _ _ _)
    · rw [ew]; exact m.xc c fs dx fv _ _ _ _ a r1 r2 r3 r4 (k _ _ _ q)⟩
theorem d1_ret (h : DE F e S S1 d) (q : P.rt d S1) : D1 F (.Return (some e) pos) S P := d1_of (te := tRet (anyE F e)) (fun i => ps_ret (anyE_ok i)) fun σ G H c E m =>
  h σ G H c _ fun v G1 H1 m1 dv => m.rt v d σ S1 G1 H1 m1.mw dv q
theorem d1_retO (h : DO F e S S1 ds) (q : P.ro ds S1) : D1 F (.Return (some e) pos) S P := d1_of (te := tRet (anyE F e)) (fun i => ps_ret (anyE_ok i)) fun σ G H c E m =>
  h σ G H c _ fun p ev G1 H1 m1 h1 h2 h3 h4 => m.ro p ev ds σ S1 G1 H1 m1.mw (.inl h1) h2 h3 h4 q
theorem ds_retO (h : DO F e S S1 ds) (q : P.ro ds S1) : DS F (.Return (some e) pos :: rest) S P := ds_cons (M := fun _ => False) (d1_retO h q) fun _ z => z.elim
theorem ds_ret (h : DE F e S S1 d) (q : P.rt d S1) : DS F (.Return (some e) pos :: rest) S P := ds_cons (M := fun _ => False) (d1_ret h q) fun _ z => z.elim
theorem d1_expr (h : DE F e S S1 d) (q : P.nx S1) (hs : ∀ i, swapsWith e none pos.line (F.X i).env = pure false := by intro _; rfl) : D1 F (.Expr e pos) S P := d1_of (te := tDrop (anyE F e)) (fun i => ps_expr (anyE_ok i) (hs i)) fun σ G H c E m =>
  h σ G H c _ fun v G1 H1 m1 dv => m.nx σ S1 G1 H1 m1.mw q
theorem ds_expr (h : DE F e S S1 d) (q : DS F rest S1 P) (hs : ∀ i, swapsWith e none pos.line (F.X i).env = pure false := by intro _; rfl) : DS F (.Expr e pos :: rest) S P :=
  ds_cons (M := fun S2 => S2 = S1) (d1_expr h rfl hs) fun _ z => z ▸ q
theorem d1_if {c : Expr} (hc : DT F c S S1 k) (h1 : k = true → DS F t S1 P) (h2 : k = false → DS F u S1 P) : D1 F (.If c t u pos) S P :=
  d1_of (te := tIfS (anyT F c) (anyS F t) (anyS F u)) (fun i => ps_if (anyT_ok i) (anyS_ok i) (anyS_ok i)) fun σ G H cx E m => hc σ G H cx _ fun G1 H1 m1 => by
    cases k with
    | true => rw [if_pos rfl]; exact h1 rfl σ G1 H1 m1.cx E (m.move m1.mw)
    | false => rw [if_neg Bool.false_ne_true]; exact h2 rfl σ G1 H1 m1.cx E (m.move m1.mw)
theorem ds_ifr {c : Expr} (hc : DT F c S S1 k) (h1 : k = true → DS F t S1 { P with nx := fun _ => False }) (h2 : k = false → DS F rest S1 P) : DS F (.If c t [] pos :: rest) S P :=
  ds_cons (M := fun S2 => S2 = S1 ∧ k = false) (d1_if hc (fun h => ds_mono (h1 h) (fun _ z => z.elim) (fun _ _ z => z) (fun _ z => z) fun _ z => z) fun h => ds_nil ⟨rfl, h⟩) fun _ ⟨z, h⟩ => z ▸ h2 h
theorem d1_set {j : Nat} {x : Str} {pos' : Pos} (he : DE F e S S1 d) (q : P.nx (S1.set j d)) (hN : ∀ i, (F.X i).N[j]? = some x := by intro _; rfl) (hx : ∀ i, Loc (F.X i).env.scope x := by intro _; first | exact Or.inl rfl | exact Or.inr rfl)
    (hs : ∀ i, swapsWith e (some (.Name x pos')) pos.line (F.X i).env = pure false := by intro _; rfl) (hf : ∀ i, (F.X i).fn x = true ∨ (F.X i).env.scope.names.lookup x = some .local := by intro _; first | exact .inl rfl | exact .inr rfl) : D1 F (.Assign [.Name x pos'] e pos) S P :=
  d1_of (te := tAsg (anyE F e) (gName j)) (fun i => ps_set (by rw [F.hN i]; exact F.nd) (hN i) (hx i) (anyE_ok i) (hs i) (hf i)) fun σ G H c E m => he σ G H c _ fun v G1 H1 m1 dv =>
    m.nx _ _ G1 H1 (m1.mw.trans (m1.cx.store dv)) q
theorem ds_set {j : Nat} {x : Str} {pos' : Pos} (he : DE F e S S1 d) (q : DS F rest (S1.set j d) P) (hN : ∀ i, (F.X i).N[j]? = some x := by intro _; rfl) (hx : ∀ i, Loc (F.X i).env.scope x := by intro _; first | exact Or.inl rfl | exact Or.inr rfl)
    (hs : ∀ i, swapsWith e (some (.Name x pos')) pos.line (F.X i).env = pure false := by intro _; rfl) (hf : ∀ i, (F.X i).fn x = true ∨ (F.X i).env.scope.names.lookup x = some .local := by intro _; first | exact .inl rfl | exact .inr rfl) : DS F (.Assign [.Name x pos'] e pos :: rest) S P :=
  ds_cons (M := fun S2 => S2 = S1.set j d) (d1_set he rfl hN hx hs hf) fun _ z => z ▸ q
def anyG (F : Fam) (tg : Expr) : TG := fun v σ H Q => ∃ g, (∀ i, PG (F.X i) tg g) ∧ g v σ H Q
theorem anyG_ok {tg : Expr} (i : F.I) : PG (F.X i) tg (anyG F tg) := by
  constructor
  intro pins s σ H v u Q I r h
  obtain ⟨g, h1, h2⟩ := h
  exact (h1 i).run pins s σ H v u Q I r h2
def Only (js : List Nat) (σ σ2 : L2.St) : Prop := ∀ vs : List Nat, (∀ j ∈ js, j ∈ vs) → wipe σ2 vs = wipe σ vs
theorem wipe_set_none (σ : L2.St) (j : Nat) (x : Option V) : ∀ vs : List Nat, (wipe (σ.set j x) vs).set j none = (wipe σ vs).set j none
  | [] => by unfold wipe; rw [List.set_set]
  | v :: vs => by
    unfold wipe
    by_cases h : v = j
    · subst h
      rw [List.set_set, List.set_set, wipe_set_none σ v x vs]
    · rw [List.set_comm _ _ h, wipe_set_none σ j x vs, List.set_comm _ _ h]
theorem wipe_set_in (σ : L2.St) (j : Nat) (x : Option V) : ∀ vs : List Nat, j ∈ vs → wipe (σ.set j x) vs = wipe σ vs
  | [], h => nomatch h
  | v :: vs, h => by
    unfold wipe
    by_cases e : v = j
    · subst e; exact wipe_set_none σ v x vs
    · have : j ∈ vs := by
        rcases List.mem_cons.mp h with z | z
        · exact absurd z.symm e
        · exact z
      rw [wipe_set_in σ j x vs this]
def DG (F : Fam) (tg : Expr) (d : D) (S S' : ST) (js : List Nat) : Prop := ∀ σ G H v, Ctx F.C G H σ S → Den F.C G v d → ∀ Q : L2.St → Hp → Prop, (∀ σ2 G2 H2, Mw F.C σ S G H σ2 S' G2 H2 → Only js σ σ2 → Q σ2 H2) → anyG F tg v σ H Q
def anyGs (F : Fam) (tg : List Expr) : TGs := fun v σ H Q => ∃ g, (∀ i, PGs (F.X i) tg g) ∧ g v σ H Q
theorem anyGs_ok {tg : List Expr} (i : F.I) : PGs (F.X i) tg (anyGs F tg) := by
  constructor
  intro pins s σ H v u Q I r h
  obtain ⟨g, h1, h2⟩ := h
  exact (h1 i).run pins s σ H v u Q I r h2
def DGs (F : Fam) (tg : List Expr) (ds : List D) (S S' : ST) (js : List Nat) : Prop := ∀ σ G H vs, Ctx F.C G H σ S → DenL F.C G vs ds → ∀ Q : L2.St → Hp → Prop, (∀ σ2 G2 H2, Mw F.C σ S G H σ2 S' G2 H2 → Only js σ σ2 → Q σ2 H2) → anyGs F tg vs σ H Q
theorem dg_name {j : Nat} {x : Str} (hN : ∀ i, (F.X i).N[j]? = some x := by intro _; rfl) (hx : ∀ i, Loc (F.X i).env.scope x := by intro _; first | exact Or.inl rfl | exact Or.inr rfl)
    (hf : ∀ i, (F.X i).fn x = true ∨ (F.X i).env.scope.names.lookup x = some .local := by intro _; first | exact .inl rfl | exact .inr rfl) : DG F (.Name x pos) d S (S.set j d) [j] := fun σ G H v c dv Q q =>
  ⟨gName j, fun i => pg_name (by rw [F.hN i]; exact F.nd) (hN i) (hx i) (hf i), q _ G H (c.store dv) fun vs h => wipe_set_in σ j _ vs (h j List.mem_cons_self)⟩
theorem dgs_nil : DGs F [] [] S S [] := fun σ G H vs c dv Q q => ⟨gNil, fun i => pgs_nil, by cases dv; exact ⟨rfl, q _ G H (.refl c) fun _ _ => rfl⟩⟩
theorem dgs_cons {tg : Expr} {tgs : List Expr} {js ks : List Nat} (h1 : DG F tg d S S1 js) (h2 : DGs F tgs ds S1 S2 ks) (hs : ∀ i, PGs (F.X i) (tg :: tgs) (gCons (anyG F tg) (anyGs F tgs)) := by intro i; exact pgs_cons (anyG_ok i) (anyGs_ok i)) : DGs F (tg :: tgs) (d :: ds) S S2 (js ++ ks) := fun σ G H vs c dv Q q =>
  ⟨gCons (anyG F tg) (anyGs F tgs), hs, by
    cases dv with
    | cons hd hl => exact ⟨_, _, rfl, h1 σ G H _ c hd _ fun σ1 G1 H1 m1 o1 => h2 σ1 G1 H1 _ m1.cx (hl.mono m1.go.gg) Q fun σ2 G2 H2 m2 o2 => q σ2 G2 H2 (m1.trans m2) fun vs h => (o2 vs fun j hj => h j (List.mem_append_right _ hj)).trans (o1 vs fun j hj => h j (List.mem_append_left _ hj))⟩⟩
theorem dg_tup {tgs : List Expr} {kk : Nat} {js : List Nat} (h : DGs F tgs ds S S1 js) (hp : ∀ i, PG (F.X i) (.Tuple tgs kk pos) (gTup (F.X i).K ds.length (anyGs F tgs)) := by intro i; exact pg_tup (Fam.calm _ i) (anyGs_ok i)) : DG F (.Tuple tgs kk pos) (.tup ds) S S1 js := fun σ G H v c dv Q q =>
  ⟨gTup F.C.K ds.length (anyGs F tgs), fun i => by have := hp i; rw [F.hK i] at this; exact this, by
    cases dv with
    | tup h1 h2 => exact ⟨_, _, rfl, same_t c.sub h1, h2.length, h σ G H _ c h2 Q q⟩⟩
theorem ds_asg {tg : Expr} {js : List Nat} (he : DE F e S S1 d) (hg : DG F tg d S1 S2 js) (q : DS F rest S2 P)
    (ho : ∀ i, PS (F.X i) (.Assign [tg] e pos) (tAsg (anyE F e) (anyG F tg)) := by intro i; exact ps_asg (anyE_ok i) (anyG_ok i)) : DS F (.Assign [tg] e pos :: rest) S P :=
  ds_cons (M := fun S3 => S3 = S2) (d1_of (te := tAsg (anyE F e) (anyG F tg)) ho fun σ G H c E m => he σ G H c _ fun v G1 H1 m1 dv => hg σ G1 H1 v m1.cx dv _ fun σ2 G2 H2 m2 _ => m.nx _ _ _ _ (m1.mw.trans m2) rfl) fun _ z => z ▸ q
end
end DL
namespace DL
open PySem L2
variable [TabL]
section
variable {F : Fam} {S S1 S2 S3 : ST} {e a b c : Expr} {d x y z : D} {pos p apos : Pos} {es : List Expr} {ds : List D} {k : Bool} {nm : Str} {P : Po} {rest t u : List Stmt} {st : Stmt} {M : ST → Prop}
theorem Fam.ndX (F : Fam) (o : F.I) : (F.X o).N.Nodup := by rw [F.hN o]; exact F.nd
theorem ctx_bagSet {C : Kc} {σ : L2.St} {G H : Hp} {bb : Addr} {o o' : BG} {ho : HO} (cx : Ctx C G H σ S) (hg : S.g = some (bb, o)) (g2 : G bb = none) (hb : BagOk C G (upd H bb ho) (some (bb, o'))) : Mv C σ S G H ⟨S.s, some (bb, o')⟩ G (upd H bb ho) := by
  have ne : ∀ a, ¬ OA C σ S a → a ≠ bb := fun a n z => n (.inr ⟨o, by rw [z]; exact hg⟩)
  have tb : NdefX.TabsN TabL.T H → NdefX.TabsN TabL.T (upd H bb ho) := fun t => by
    have z := cx.bag
    rw [hg] at z
    cases o with
    | lst => obtain ⟨_, _, z2, _⟩ := z; exact tabs_upd t z2 nt_lst nc_lst
    | ins => obtain ⟨_, _, _, z2, _⟩ := z; exact tabs_upd t z2 nt_ins nc_ins
    | xd => obtain ⟨_, _, z2, _⟩ := z; exact tabs_upd t z2 nt_xd nc_xd
  refine ⟨⟨fun a u n _ h => by rw [upd_ne (ne a n)]; exact h, fun _ _ h => h, fun _ _ _ h => h, fun a h => by
    by_cases z : a = bb
    · rw [z, upd_same]; simp
    · rw [upd_ne z]; exact h, tb⟩, ⟨⟨fun a u h => ?_, tb cx.sub.t, cx.sub.n⟩, cx.len, cx.im, fun i ds h => ?_, cx.apart, fun i b o2 h h1 => ?_, hb, fun i b o2 ds h h1 => ?_⟩, fun a z => ?_⟩
  · have na : a ≠ bb := fun z => by rw [z, g2] at h; cases h
    rw [upd_ne na]; exact cx.sub _ _ h
  · obtain ⟨a, vs, h1, h3, h4, h5⟩ := cx.ow i ds h
    have na : a ≠ bb := fun z => cx.nob i bb _ ds hg h (by rw [← z]; exact h1)
    exact ⟨a, vs, h1, h3, by rw [upd_ne na]; exact h4, h5⟩
  · cases h; exact cx.bg i bb _ hg h1
  · cases h; exact cx.nob i bb _ ds hg h1
  · rcases z with z | ⟨o2, z⟩
    · exact .inl z
    · cases z; exact .inr ⟨_, hg⟩
theorem ds_bagSet {j : Nat} {x : Str} {i : Int} {n : Nat} {q1 : Pos} {bb : Addr} {gs : List D} (he : DE F e S S1 d) (hj : S1.s[j]? = some (some .bag)) (hb : DE F b S1 S1 (.int i)) (hg : S1.g = some (bb, .lst gs)) (hi : ixN gs.length i = some n) (q : DS F rest ⟨S1.s, some (bb, .lst (gs.set n d))⟩ P)
    (hN : ∀ i, (F.X i).N[j]? = some x := by intro _; rfl) (hv : ∀ i, Vis (F.X i).env.scope x := by intro _; first | exact Or.inl rfl | exact Or.inr (Or.inl rfl) | exact Or.inr (Or.inr rfl))
    (hd : (x == ("__debug__" : Str)) = false := by decide) (hcd : (x == ("__classdict__" : Str)) = false := by decide)
    (hp : ∀ i, PS (F.X i) (.Assign [.Subscript (.Name x q1) b p] e pos) (tAsg (anyE F e) (gSub (tVar j) (anyE F b) rSetL)) := by
      intro i; exact ps_asg (anyE_ok i) (pg_sub (pv _) (anyE_ok i) set_list)) :
    DS F (.Assign [.Subscript (.Name x q1) b p] e pos :: rest) S P := by
  refine ds_cons (M := fun S3 => S3 = ⟨S1.s, some (bb, .lst (gs.set n d))⟩) (d1_of (te := tAsg (anyE F e) (gSub (tVar j) (anyE F b) rSetL)) hp ?_) fun _ z => z ▸ q
  intro σ G H c E m
  refine he σ G H c _ fun v G1 H1 m1 dv => ⟨_, m1.cx.bg j _ _ hg hj, ?_⟩
  refine hb σ G1 H1 m1.cx _ fun w G2 H2 m2 dw => ?_
  cases dw
  have z := m2.cx.bag
  rw [hg] at z
  obtain ⟨z1, gv, z2, z3⟩ := z
  refine ⟨bb, gv, i, n, rfl, rfl, z2, by rw [z3.length]; exact hi, ?_⟩
  exact m.nx _ _ _ _ (m1.mw.trans (m2.mw.trans (ctx_bagSet (o' := .lst (gs.set n d)) m2.cx hg z1 ⟨z1, _, upd_same, z3.set (dv.mono m2.go.gg) n⟩).mw)) rfl
theorem ds_fld {j : Nat} {x f : Str} {q1 q2 : Pos} {bb : Addr} {cn : Nat} {fs : List (Str × D)} (he : DE F e S S1 d) (hj : S1.s[j]? = some (some .bag)) (hg : S1.g = some (bb, .ins cn fs)) (hc : Cls F.C.K (F.C.cl cn)) (hn : NoAttr F.C.K (F.C.cl cn) f) (q : DS F rest ⟨S1.s, some (bb, .ins cn (putD f d fs))⟩ P) (hl : fs.length < 1000 := by decide)
    (hN : ∀ i, (F.X i).N[j]? = some x := by intro _; rfl) (hv : ∀ i, Vis (F.X i).env.scope x := by intro _; first | exact Or.inl rfl | exact Or.inr (Or.inl rfl) | exact Or.inr (Or.inr rfl))
    (hd : (x == ("__debug__" : Str)) = false := by decide) (hcd : (x == ("__classdict__" : Str)) = false := by decide)
    (hs : ∀ i, swapsWith e (some (.Attribute (.Name x q1) f q2)) pos.line (F.X i).env = pure false := by intro _; rfl) : DS F (.Assign [.Attribute (.Name x q1) f q2] e pos :: rest) S P := by
  refine ds_cons (M := fun S3 => S3 = ⟨S1.s, some (bb, .ins cn (putD f d fs))⟩) (d1_of (te := sFld F.C.K (tVar j) (anyE F e) f) (fun i => by have := ps_fld (f := f) (pos := pos) (pos' := q2) (pe_var (pos := q1) (hN i) (hv i) hd hcd) (anyE_ok (e := e) i) (hs i); rw [F.hK i] at this; exact this) ?_) fun _ z => z ▸ q
  intro σ G H c E m
  refine he σ G H c _ fun v G1 H1 m1 dv => ⟨_, m1.cx.bg j _ _ hg hj, ?_⟩
  have z := m1.cx.bag
  rw [hg] at z
  obtain ⟨z1, dx, gv, z2, z3⟩ := z
  refine ⟨bb, _, dx, gv, rfl, z2, hc, hn, by rw [z3.length]; exact hl, ?_⟩
  exact m.nx _ _ _ _ (m1.mw.trans (ctx_bagSet (o' := .ins cn (putD f d fs)) m1.cx hg z1 ⟨z1, dx, _, upd_same, z3.put dv⟩).mw) rfl
theorem Ctx.storeO {C : Kc} {G H : Hp} {σ : L2.St} {S : ST} {i : Nat} {q : Addr} {vs : HO} {ds : MO} (c : Ctx C G H σ S) (gq : G q = none) (hq : H q = some vs) (dl : MOk C G q vs ds) (hi : i < S.s.length) (no : ∀ (j : Nat) es, S.s[j]? = some (some (.own es)) → σ[j]? ≠ some (some (.ref q))) (nb : ∀ o, S.g ≠ some (q, o)) :
    Ctx C G H (σ.set i (some (.ref q))) (S.setM i ds) := by
  have hi2 : i < σ.length := by rw [c.len]; exact hi
  have key : ∀ (j : Nat) (o : DV), i ≠ j → (S.setM i ds).s[j]? = some (some o) → S.s[j]? = some (some o) := fun j o ij q => by rw [ST.setM, List.getElem?_set_ne ij] at q; exact q
  have self : (S.setM i ds).s[i]? = some (some (.own ds)) := List.getElem?_set_self hi
  have selfσ : (σ.set i (some (V.ref q)))[i]? = some (some (.ref q)) := List.getElem?_set_self hi2
  refine ⟨c.sub, by simp [ST.setM, c.len], fun j e r => ?_, fun j e r => ?_, fun j k' es fs a r1 r2 r3 r4 => ?_, fun j b o hg r => ?_, c.bag, fun j b o es hg r => ?_⟩
  · by_cases ij : i = j
    · subst ij; rw [self] at r; cases r
    · rw [List.getElem?_set_ne ij]; exact c.im j e (key j _ ij r)
  · by_cases ij : i = j
    · subst ij; rw [self] at r; cases r; exact ⟨q, vs, selfσ, gq, hq, dl⟩
    · rw [List.getElem?_set_ne ij]; exact c.ow j e (key j _ ij r)
  · by_cases ij : i = j
    · by_cases ik : i = k'
      · exact ij.symm.trans ik
      · subst ij
        rw [selfσ] at r3; cases r3
        rw [List.getElem?_set_ne ik] at r4
        exact absurd r4 (no k' fs (key k' _ ik r2))
    · by_cases ik : i = k'
      · subst ik
        rw [selfσ] at r4; cases r4
        rw [List.getElem?_set_ne ij] at r3
        exact absurd r3 (no j es (key j _ ij r1))
      · rw [List.getElem?_set_ne ij] at r3
        rw [List.getElem?_set_ne ik] at r4
        exact c.apart j k' es fs a (key j _ ij r1) (key k' _ ik r2) r3 r4
  · by_cases ij : i = j
    · subst ij; rw [self] at r; cases r
    · rw [List.getElem?_set_ne ij]; exact c.bg j b o hg (key j _ ij r)
  · by_cases ij : i = j
    · subst ij; rw [selfσ]; intro z; cases z; exact nb o hg
    · rw [List.getElem?_set_ne ij]; exact c.nob j b o es hg (key j _ ij r)
theorem do_lst {es : List Expr} {ds : List D} (h : DA F es S S1 ds) (hl : ds.length ≤ sizeLine := by decide) : DO F (.List es pos) S S1 ds :=
  do_of (fun i => pe_lst (anyA_ok i)) fun σ G H c Q q => h σ G H c _ fun vs G1 H1 m dl => ⟨by rw [dl.length]; exact hl, fun p hp => by
    have sm : Same H1 (upd H1 p (.lst vs)) := fun a u h => by rw [upd_ne (ne_of_none h hp)]; exact h
    have hp0 : H p = none := back_none m.go hp
    have g1 : G1 p = none := m.cx.sub.free hp
    exact q p vs G1 _ (m.trans (m.cx.mv (Same.kt sm) (fun _ _ h => h) (m.cx.sub.trans sm) fun _ _ h => h)) hp0 g1 upd_same dl⟩
end
end DL
namespace DL
open PySem L2
variable [TabL]
section
variable {F : Fam} {S S1 S2 S3 : ST} {e a b c tg iter : Expr} {d x y z : D} {pos p apos : Pos} {es : List Expr} {ds : List D} {k : Bool} {nm : Str} {P : Po} {rest t u body : List Stmt} {st : Stmt} {M : ST → Prop}
structure ItD (C : Kc) (J : It) (G0 : Hp) (ds : List D) : Prop where
  go : ∀ i G H, i < ds.length → Same G0 G → Sub G H → J.go i H
  yld : ∀ i d G H x H', ds[i]? = some d → Same G0 G → Sub G H → J.yld i H x H' → ∃ G', Pu G H G' H' ∧ Den C G' x d
  stop : ∀ i G H, ds.length ≤ i → Same G0 G → Sub G H → J.stop i H
theorem ItD.mono {C : Kc} {J : It} {G0 G1 : Hp} {ds : List D} (h : ItD C J G0 ds) (e : Same G0 G1) : ItD C J G1 ds :=
  ⟨fun i G H hi s => h.go i G H hi (e.trans s), fun i d G H x H' hd s => h.yld i d G H x H' hd (e.trans s), fun i G H hi s => h.stop i G H hi (e.trans s)⟩
def anyI (F : Fam) (tg iter : Expr) : TI := fun σ H R => ∃ wi, (∀ i, PI (F.X i) tg iter wi) ∧ wi σ H R
theorem anyI_ok {tg iter : Expr} (i : F.I) : PI (F.X i) tg iter (anyI F tg iter) := ⟨fun pins s σ H R I h => let ⟨wi, h1, h2⟩ := h; (h1 i).run pins s σ H R I h2⟩
def DI (F : Fam) (tg iter : Expr) (S S1 : ST) (ds : List D) : Prop := ∀ σ G H, Ctx F.C G H σ S → ∀ R : It → Hp → Prop, (∀ J G2 H2, Mv F.C σ S G H S1 G2 H2 → ItD F.C J G2 ds → R J H2) → anyI F tg iter σ H R
theorem di_of {wi : TI} (h : ∀ i, PI (F.X i) tg iter wi) (v : ∀ σ G H, Ctx F.C G H σ S → ∀ R : It → Hp → Prop, (∀ J G2 H2, Mv F.C σ S G H S1 G2 H2 → ItD F.C J G2 ds → R J H2) → wi σ H R) : DI F tg iter S S1 ds := fun σ G H c R q => ⟨wi, h, v σ G H c R q⟩
theorem itd_list {C : Kc} {G0 : Hp} {a : Addr} {vs : List V} (h : SqL C.K G0 a vs) (dl : DenL C G0 vs ds) : ItD C (Itl C.K a) G0 ds where
  go := fun i G H hi s s2 => by
    obtain ⟨v, h1, _⟩ := dl.get (List.getElem?_eq_getElem hi)
    exact ⟨vs, v, s2.seq (s.seq h), h1⟩
  yld := fun i d G H x H' hd s s2 hy => by
    obtain ⟨rfl, hy⟩ := hy
    obtain ⟨v, h1, h2⟩ := dl.get hd
    have := hy vs (s2.seq (s.seq h))
    rw [h1] at this; cases this
    exact ⟨G, .refl s2, h2.mono s⟩
  stop := fun i G H hi s s2 => ⟨vs, s2.seq (s.seq h), by rw [dl.length]; exact hi⟩
theorem itd_tup {C : Kc} {G0 : Hp} {a : Addr} {vs : List V} (h : SqT C.K G0 a vs) (dl : DenL C G0 vs ds) : ItD C (Itt C.K a) G0 ds where
  go := fun i G H hi s s2 => by
    obtain ⟨v, h1, _⟩ := dl.get (List.getElem?_eq_getElem hi)
    exact ⟨vs, v, same_t s2 (same_t s h), h1⟩
  yld := fun i d G H x H' hd s s2 hy => by
    obtain ⟨rfl, hy⟩ := hy
    obtain ⟨v, h1, h2⟩ := dl.get hd
    have := hy vs (same_t s2 (same_t s h))
    rw [h1] at this; cases this
    exact ⟨G, .refl s2, h2.mono s⟩
  stop := fun i G H hi s s2 => ⟨vs, same_t s2 (same_t s h), by rw [dl.length]; exact hi⟩
theorem di_list (h : DE F iter S S1 (.lst ds)) : DI F tg iter S S1 ds := di_of (wi := iList F.C.K (anyE F iter)) (fun i => by have := pi_list (tg := tg) (anyE_ok (e := iter) i); rw [F.hK i] at this; exact this) fun σ G H c R q => h σ G H c _ fun v G1 H1 m dv => by
  cases dv with
  | @lst a vs _ h1 h2 => exact ⟨_, rfl, ⟨vs, m.cx.sub.seq h1⟩, q _ _ _ m (itd_list h1 h2)⟩
theorem di_tup (h : DE F iter S S1 (.tup ds)) : DI F tg iter S S1 ds := di_of (wi := iTup F.C.K (anyE F iter)) (fun i => by have := pi_tup (tg := tg) (anyE_ok (e := iter) i); rw [F.hK i] at this; exact this) fun σ G H c R q => h σ G H c _ fun v G1 H1 m dv => by
  cases dv with
  | @tup a vs _ h1 h2 => exact ⟨_, rfl, ⟨vs, same_t m.cx.sub h1⟩, q _ _ _ m (itd_tup h1 h2)⟩
def rangeD (lo : Int) (n : Nat) : List D := (List.range n).map fun (i : Nat) => D.int (lo + i)
theorem rangeD_length (lo : Int) (n : Nat) : (rangeD lo n).length = n := by simp [rangeD]
theorem rangeD_get {lo : Int} {n i : Nat} {d : D} (h : (rangeD lo n)[i]? = some d) : i < n ∧ d = .int (lo + i) := by
  unfold rangeD at h
  rw [List.getElem?_map] at h
  cases q : (List.range n)[i]? with
  | none => rw [q] at h; cases h
  | some j =>
    rw [q] at h
    rw [List.getElem?_eq_some_iff] at q
    obtain ⟨h1, h2⟩ := q
    rw [List.getElem_range] at h2
    subst h2
    exact ⟨by simpa using h1, by simpa using h.symm⟩
theorem itd_range {C : Kc} {G0 : Hp} {lo : Int} {n : Nat} : ItD C (Itr lo n) G0 (rangeD lo n) where
  go := fun i G H hi s s2 => by rw [rangeD_length] at hi; exact hi
  yld := fun i d G H x H' hd s s2 hy => by
    obtain ⟨rfl, rfl⟩ := hy
    obtain ⟨_, rfl⟩ := rangeD_get hd
    exact ⟨G, .refl s2, .int _⟩
  stop := fun i G H hi s s2 => by rw [rangeD_length] at hi; exact hi
theorem di_range1 {i : Int} {q1 : Pos} (hm : F.mg "range" = none) (h : DE F e S S1 (.int i)) (h1 : -(2 ^ 62) ≤ i) (h2 : i < 2 ^ 62) (hg : ∀ l, Gl (F.X l) "range" := by intro _; rfl) (hs : ∀ l, starEach [e] (F.X l).env = [(false, eval e (F.X l).env)] := by intro _; rfl) : DI F tg (.Call (.Name "range" p) [e] [] q1) S S1 (rangeD 0 i.toNat) :=
  di_of (wi := iRng1 (tCons (anyE F e) tNil)) (fun l => pi_range1 (hg l) (by rw [F.hmg l]; exact hm) (pa_cons (anyE_ok l) pa_nil (hs l)) (hs l)) fun σ G H c R q => h σ G H c _ fun v G1 H1 m dv => by
    cases dv
    exact ⟨i, rfl, h1, h2, q _ _ _ m itd_range⟩
theorem ds_for (I : Nat → ST → Prop) (M : ST → Prop) (hi : DI F tg iter S S1 ds) (h0 : I 0 S1) (hb : ∀ i S d, ds[i]? = some d → I i S → ∃ S' js, DG F tg d S S' js ∧ DS F body S' { P with nx := I (i + 1), ct := I (i + 1), bk := M }) (hd : ∀ S, I ds.length S → M S) (hr : ∀ S2, M S2 → DS F rest S2 P)
    (hp : ∀ i, PassesOwn (model (F.X i).prog (F.X i).w) (F.X i).A (F.X i).env (F.X i).xe := by intro _; exact PassesOwn.never)
    (hf : ∀ i, PS (F.X i) (.For tg iter body [] pos) (tFor (anyI F tg iter) (anyG F tg) (anyS F body)) := by intro i; exact ps_for PassesOwn.never (Fam.calm _ i) (anyI_ok i) (anyG_ok i) (anyS_ok i)) : DS F (.For tg iter body [] pos :: rest) S P := by
  refine ds_cons (M := M) (d1_of (te := tFor (anyI F tg iter) (anyG F tg) (anyS F body)) hf ?_) hr
  intro σ0 G0 H0 c0 E m
  refine hi σ0 G0 H0 c0 _ fun J G1 H1 m1 it => ?_
  refine ⟨fun i m' σ H => i ≤ ds.length ∧ m' = ds.length - i ∧ ∃ S' G, Mw F.C σ0 S1 G1 H1 σ S' G H ∧ I i S', ⟨_, Nat.zero_le _, rfl, S1, G1, .refl m1.cx, h0⟩, ?_⟩
  rintro i m' σ H ⟨hle, rfl, S', G, mw, hI⟩
  by_cases hlt : i < ds.length
  · refine .inr ⟨it.go i G H hlt mw.go.gg mw.cx.sub, fun σ' H' => ∃ S2 G2, Mw F.C σ0 S1 G1 H1 σ' S2 G2 H' ∧ I (i + 1) S2, fun σ' H' ⟨S2, G2, a, b⟩ => ⟨_, by omega, hlt, rfl, S2, G2, a, b⟩, fun x H' hy => ?_⟩
    obtain ⟨G', pu, dx⟩ := it.yld i _ G H x H' (List.getElem?_eq_getElem hlt) mw.go.gg mw.cx.sub hy
    obtain ⟨S3, js, hg, hbd⟩ := hb i S' _ (List.getElem?_eq_getElem hlt) hI
    have m2 := mw.cx.pu pu
    refine hg σ G' H' x m2.cx dx _ fun σ2 G2 H2 m3 _ => ?_
    have all := (mw.trans m2.mw).trans m3
    have mm := m.move (m1.mw.trans all)
    exact hbd σ2 G2 H2 m3.cx _ ⟨fun σ3 S3 G3 H3 a q => ⟨S3, G3, all.trans a, q⟩, mm.rt, mm.nx, fun σ3 S3 G3 H3 a q => ⟨S3, G3, all.trans a, q⟩, mm.ro, mm.xc⟩
  · have e : i = ds.length := by omega
    subst e
    exact .inl ⟨it.stop _ G H (Nat.le_refl _) mw.go.gg mw.cx.sub, m.nx _ _ _ _ (m1.mw.trans mw) (hd S' hI)⟩
end
end DL
namespace DL
open PySem L2
variable [TabL]
def dkey : D → Option NestedKey
  | .tup ds => (nkDs ds).bind fun ks => if (NestedKey.tup ks).depth ≤ 8 then some (.tup ks) else none
  | _ => none
def dlook (k : NestedKey) : List (D × D) → Option D
  | [] => none
  | (kd, v) :: r => if nkD kd = some k then some v else dlook k r
def dput (k : NestedKey) (v : D) : List (D × D) → List (D × D)
  | [] => []
  | (kd, u) :: r => (if nkD kd = some k then (kd, v) else (kd, u)) :: dput k v r
def dstore (k : NestedKey) (kd v : D) (xs : List (D × D)) : List (D × D) := if (dlook k xs).isSome then dput k v xs else xs ++ [(kd, v)]
theorem dkey_eq {d : D} {k : NestedKey} (h : dkey d = some k) : nkD d = some k ∧ k.depth ≤ 8 ∧ ∃ ds, d = .tup ds := by
  cases d with
  | tup ds =>
    replace h : ((nkDs ds).bind fun ks => if (NestedKey.tup ks).depth ≤ 8 then some (NestedKey.tup ks) else none) = some k := h
    cases q : nkDs ds with
    | none => rw [q] at h; cases h
    | some ks =>
      rw [q] at h
      replace h : (if (NestedKey.tup ks).depth ≤ 8 then some (NestedKey.tup ks) else none) = some k := h
      split at h
      · rename_i h8
        cases h
        exact ⟨by show (nkDs ds).map _ = _; rw [q]; rfl, h8, ds, rfl⟩
      · cases h
  | _ => cases h
theorem nkh_nums {K : PySem.W.Frag} {H : Hp} {vs : List V} {ks : List NestedKey} {a : Addr} (h : SqT K H a vs) (l : vs.length = ks.length) (q : ∀ (i : Nat) v k, vs[i]? = some v → ks[i]? = some k → ND.NkH K H v k) : ND.NkH K H (.ref a) (.tup ks) := by
  cases vs with
  | nil =>
    cases ks with
    | nil => exact .nil h
    | cons _ _ => cases l
  | cons v vs =>
    cases ks with
    | nil => cases l
    | cons k ks => exact .cons h (q 0 v k rfl rfl) (fun i v k a b => q (i + 1) v k (by simpa using a) (by simpa using b)) (Nat.succ.inj l)
mutual
theorem nk_den {C : Kc} {G H : Hp} (s : Same G H) : ∀ {d : D} {v : V} {k : NestedKey}, Den C G v d → nkD d = some k → ND.NkH C.K H v k
  | .non, _, _, h, q => by cases h; cases q; exact .non
  | .bl b, _, _, h, q => by cases h; cases q; exact .bl b
  | .int i, _, _, h, q => by cases h; cases q; exact .int i
  | .str x, _, _, h, q => by cases h; cases q; exact .str x
  | .tup ds, _, k, h, q => by
    cases h with
    | @tup a xs _ h1 h2 =>
      cases e : nkDs ds with
      | none => rw [show nkD (.tup ds) = (nkDs ds).map .tup from rfl, e] at q; cases q
      | some ks =>
        rw [show nkD (.tup ds) = (nkDs ds).map .tup from rfl, e] at q
        cases q
        obtain ⟨l, z⟩ := nk_dens s h2 e
        exact nkh_nums (same_t s h1) l z
  | .lst _, _, _, _, q => by cases q
  | .obj _ _, _, _, _, q => by cases q
  | .cst _, _, _, _, q => by cases q
  | .dic _, _, _, _, q => by cases q
theorem nk_dens {C : Kc} {G H : Hp} (s : Same G H) : ∀ {ds : List D} {vs : List V} {ks : List NestedKey}, DenL C G vs ds → nkDs ds = some ks → vs.length = ks.length ∧ ∀ (i : Nat) v k, vs[i]? = some v → ks[i]? = some k → ND.NkH C.K H v k
  | [], _, _, h, q => by cases h; cases q; exact ⟨rfl, fun i v k a _ => by simp at a⟩
  | d :: ds, _, ks, h, q => by
    cases h with
    | @cons v _ vs _ h1 h2 =>
      cases e1 : nkD d with
      | none => rw [show nkDs (d :: ds) = (nkD d).bind fun k => (nkDs ds).map (k :: ·) from rfl, e1] at q; cases q
      | some k =>
        cases e2 : nkDs ds with
        | none => rw [show nkDs (d :: ds) = (nkD d).bind fun k => (nkDs ds).map (k :: ·) from rfl, e1, e2] at q; cases q
        | some ks' =>
          rw [show nkDs (d :: ds) = (nkD d).bind fun k => (nkDs ds).map (k :: ·) from rfl, e1, e2] at q
          cases q
          obtain ⟨l, z⟩ := nk_dens s h2 e2
          refine ⟨congrArg (· + 1) l, fun i v' k' a b => ?_⟩
          cases i with
          | zero => cases a; cases b; exact nk_den s h1 e1
          | succ i => exact z i v' k' (by simpa using a) (by simpa using b)
end
theorem kh_den {C : Kc} {G H : Hp} (s : Same G H) : ∀ {kds : List (D × D)} {xs : List ND.NEnt}, DenN C G xs kds → ND.KH C.K H xs
  | _, _, .nil => fun x hx => by cases hx
  | _, _, .cons h1 h2 h3 _ _ l => fun x hx => by
    rcases List.mem_cons.mp hx with e | e
    · subst e; exact ⟨nk_den s h3 h1, h2⟩
    · exact kh_den s l x e
theorem at_den {C : Kc} {G : Hp} {k : NestedKey} : ∀ {kds : List (D × D)} {xs : List ND.NEnt}, DenN C G xs kds → match dlook k kds with
    | none => atKey xs k = none
    | some d => ∃ p v, atKey xs k = some p ∧ RelV v p.2 ∧ Den C G v d
  | _, _, .nil => rfl
  | _, _, @DenN.cons _ _ k' b u v kd d xs ds h1 h2 h3 h4 h5 l => by
    have ih := at_den (k := k) l
    unfold dlook
    by_cases e : k' = k
    · subst e
      rw [if_pos h1]
      exact ⟨(b, u), v, by simp [atKey], h4, h5⟩
    · rw [if_neg (fun z => e (Option.some.inj (h1.symm.trans z)))]
      have r : atKey ((k', b, u) :: xs) k = atKey xs k := by simp [atKey, e]
      rw [r]
      exact ih
theorem at_is {C : Kc} {G : Hp} {k : NestedKey} {kds : List (D × D)} {xs : List ND.NEnt} (h : DenN C G xs kds) : (atKey xs k).isSome = (dlook k kds).isSome := by
  have := at_den (k := k) h
  cases q : dlook k kds with
  | none => rw [q] at this; rw [show atKey xs k = none from this]; rfl
  | some d => rw [q] at this; obtain ⟨p, v, e, _⟩ := this; rw [e]; rfl
theorem DenN.length {C : Kc} {G : Hp} : ∀ {kds : List (D × D)} {xs : List ND.NEnt}, DenN C G xs kds → xs.length = kds.length
  | _, _, .nil => rfl
  | _, _, .cons _ _ _ _ _ l => by rw [List.length_cons, List.length_cons, DenN.length l]
section
variable {F : Fam} {S S1 S2 : ST} {e a b : Expr} {d x y z : D} {pos p : Pos} {P : Po} {rest : List Stmt}
theorem od_nd {neg : Bool} {op : CmpOp} {kds : List (D × D)} {k : NestedKey} (hop : ∀ i, (F.X i).A.units + 64 < cLine → OpR (F.X i) (compareOp op) (ND.rNIn (F.X i).K (F.X i).prog (F.X i).w neg)) (hk : dkey x = some k) : OpD F (compareOp op) x (.dic kds) (.bl (if neg then !(dlook k kds).isSome else (dlook k kds).isSome)) :=
  ⟨ND.rNIn F.C.K F.C.P F.C.w neg, fun i => by have := hop i (F.units i); rw [F.hK i, F.hP i, F.hw i] at this; rw [F.cP, F.cw]; exact this, fun G H u v s hu hv Q q => by
    obtain ⟨h1, h2, ds, rfl⟩ := dkey_eq hk
    have h3 := nk_den s.s hu h1
    cases hu with
    | @tup b xs _ t1 t2 =>
      cases hv with
      | @dN a od ys _ g1 g2 => exact ⟨b, a, od, ys, k, rfl, rfl, s _ _ g1, kh_den s g2, h3, h2, by rw [at_is g2]; exact q _ _ _ (.refl s) (.bl _)⟩⟩
theorem od_ndIn {kds : List (D × D)} {k : NestedKey} (hk : dkey x = some k) : OpD F (compareOp .In) x (.dic kds) (.bl (dlook k kds).isSome) := od_nd (neg := false) (fun i h => ND.or_nin h) hk
theorem ca_lenN {kds : List (D × D)} : CaD F (.builtin "len") [.dic kds] (.int kds.length) := ⟨ND.rNLen F.C.K F.C.P F.C.w, fun i => by
  have z := ND.cr_nlen (X := F.X i)
  rw [F.hK i, F.hP i, F.hw i, ← F.cP, ← F.cw] at z
  exact z, fun G H us s h Q q => by
  cases h with
  | cons h l => cases h with
    | dN h1 h2 => cases l; exact ⟨_, _, _, rfl, s _ _ h1, kh_den s h2, by rw [DenN.length h2]; exact q _ _ _ (.refl s) (.int _)⟩⟩
end
end DL
namespace DL
open PySem L2
variable [TabL]
def Fam.blk (F : Fam) (scope : Scope) : Fam where
  I := F.I × (Shared × Hp × Addr × List (Str × Addr) × List Addr)
  X := fun j => (F.X j.1).blk j.2.1 j.2.2.1 scope (compEnvC scope j.2.2.2.2.1 j.2.2.2.1 (F.X j.1).env) j.2.2.2.2.2
  P := F.P
  w := F.w
  C := F.C
  mg := F.mg
  base := F.base
  N := F.N
  k := F.k
  hP := fun i => F.hP i.1
  hw := fun i => F.hw i.1
  hK := fun i => F.hK i.1
  hmg := fun i => F.hmg i.1
  hbase := fun i => F.hbase i.1
  hN := fun i => F.hN i.1
  nd := F.nd
  roomH := fun i => F.roomH i.1
  cP := F.cP
  cw := F.cw
instance {F : Fam} [Calm F] {scope : Scope} : Calm (F.blk scope) := ⟨fun i => F.calm i.1, fun i => Calm.h i.1⟩
def hidS (s : List (Option DV)) : List Nat → List (Option DV)
  | [] => s
  | v :: vs => (hidS s vs).set v none
theorem hidS_length (s : List (Option DV)) : ∀ vs, (hidS s vs).length = s.length
  | [] => by simp [hidS]
  | v :: vs => by unfold hidS; rw [List.length_set, hidS_length s vs]
theorem hidS_get {s : List (Option DV)} {i : Nat} {o : DV} : ∀ {vs : List Nat}, (hidS s vs)[i]? = some (some o) → s[i]? = some (some o) ∧ i ∉ vs
  | [], h => ⟨h, by simp⟩
  | v :: vs, h => by
    unfold hidS at h
    by_cases e : v = i
    · subst e
      rcases Nat.lt_or_ge v (hidS s vs).length with z | z
      · rw [List.getElem?_set_self z] at h; cases h
      · rw [List.getElem?_eq_none (by simpa using z)] at h; cases h
    · rw [List.getElem?_set_ne e] at h
      obtain ⟨h1, h2⟩ := hidS_get h
      exact ⟨h1, by simp only [List.mem_cons, not_or]; exact ⟨fun z => e z.symm, h2⟩⟩
theorem hidS_keep {s : List (Option DV)} {i : Nat} : ∀ {vs : List Nat}, i ∉ vs → (hidS s vs)[i]? = s[i]?
  | [], _ => rfl
  | v :: vs, h => by
    unfold hidS
    have h2 : i ≠ v ∧ i ∉ vs := by simpa using h
    rw [List.getElem?_set_ne (Ne.symm h2.1)]
    exact hidS_keep h2.2
theorem wipe_keep {σ : L2.St} {i : Nat} : ∀ {vs : List Nat}, i ∉ vs → (wipe σ vs)[i]? = σ[i]?
  | [], _ => rfl
  | v :: vs, h => by
    unfold wipe
    have h2 : i ≠ v ∧ i ∉ vs := by simpa using h
    rw [List.getElem?_set_ne (Ne.symm h2.1)]
    exact wipe_keep h2.2
theorem Ctx.hid {C : Kc} {G H : Hp} {σ : L2.St} {S : ST} (c : Ctx C G H σ S) (vs : List Nat) : Ctx C G H (wipe σ vs) ⟨hidS S.s vs, S.g⟩ where
  sub := c.sub
  len := by rw [wipe_length, hidS_length]; exact c.len
  im := fun i d h => by obtain ⟨h1, h2⟩ := hidS_get h; rw [wipe_keep h2]; exact c.im i d h1
  ow := fun i es h => by obtain ⟨h1, h2⟩ := hidS_get h; rw [wipe_keep h2]; exact c.ow i es h1
  apart := fun i j es fs a h h' q q' => by
    obtain ⟨h1, h2⟩ := hidS_get h
    obtain ⟨h3, h4⟩ := hidS_get h'
    rw [wipe_keep h2] at q
    rw [wipe_keep h4] at q'
    exact c.apart i j es fs a h1 h3 q q'
  bg := fun i b o hg h => by obtain ⟨h1, h2⟩ := hidS_get h; rw [wipe_keep h2]; exact c.bg i b o hg h1
  bag := c.bag
  nob := fun i b o es hg h => by obtain ⟨h1, h2⟩ := hidS_get h; rw [wipe_keep h2]; exact c.nob i b o es hg h1
theorem oa_hid {C : Kc} {σ : L2.St} {S : ST} {vs : List Nat} {a : Addr} (z : OA C (wipe σ vs) ⟨hidS S.s vs, S.g⟩ a) : OA C σ S a := by
  rcases z with ⟨i, es, r, q⟩ | z
  · obtain ⟨h1, h2⟩ := hidS_get r
    rw [wipe_keep h2] at q
    exact .inl ⟨i, es, h1, q⟩
  · exact .inr z
def KeepOwn (s : List (Option DV)) (vs : List Nat) (T : ST) : Prop := ∀ (i : Nat) es, s[i]? = some (some (.own es)) → i ∉ vs ∧ T.s[i]? = some (some (.own es))
theorem Ctx.outer {C : Kc} {G H G2 H2 : Hp} {σ σ2 : L2.St} {S T : ST} {vs : List Nat} (c : Ctx C G H σ S) (m : Mw C (wipe σ vs) ⟨hidS S.s vs, S.g⟩ G H σ2 T G2 H2) (hg : T.g.map (·.1) = S.g.map (·.1)) (ko : KeepOwn S.s vs T) (hσ : wipe σ2 vs = wipe σ vs) : Mv C σ S G H ⟨S.s, T.g⟩ G2 H2 := by
  have ad : ∀ b o, T.g = some (b, o) → ∃ o', S.g = some (b, o') := fun b o h => by
    rw [h] at hg
    cases q : S.g with
    | none => rw [q] at hg; cases hg
    | some bo => obtain ⟨b', o'⟩ := bo; rw [q] at hg; cases hg; exact ⟨o', rfl⟩
  have eσ : ∀ i, i ∉ vs → σ2[i]? = σ[i]? := fun i h => by
    rw [← wipe_keep (σ := σ2) h, hσ, wipe_keep h]
  refine ⟨m.go.mono fun a z => oa_hid z, ⟨m.cx.sub, c.len, fun i d h => ?_, fun i es h => ?_, c.apart, fun i b o h h1 => ?_, m.cx.bag, fun i b o es h h1 => ?_⟩, fun a z => ?_⟩
  · obtain ⟨v, h1, h2⟩ := c.im i d h
    exact ⟨v, h1, h2.mono m.go.gg⟩
  · obtain ⟨n, t⟩ := ko i es h
    obtain ⟨a, o, h1, h2, h3, h4⟩ := m.cx.ow i es t
    rw [eσ i n] at h1
    exact ⟨a, o, h1, h2, h3, h4⟩
  · obtain ⟨o', r⟩ := ad b o h
    exact c.bg i b o' r h1
  · obtain ⟨o', r⟩ := ad b o h
    exact c.nob i b o' es r h1
  · rcases z with z | ⟨o, z⟩
    · exact .inl z
    · obtain ⟨o', r⟩ := ad a o z
      exact .inr ⟨o', r⟩
theorem wipe_wipe (σ : L2.St) (vs : List Nat) : wipe (wipe σ vs) vs = wipe σ vs := by
  have key : ∀ (us : List Nat) (τ : L2.St), (∀ v ∈ us, v ∈ vs) → wipe (wipe τ us) vs = wipe τ vs := fun us => by
    induction us with
    | nil => intro τ _; rfl
    | cons u us ih =>
      intro τ h
      show wipe ((wipe τ us).set u none) vs = wipe τ vs
      rw [wipe_set_in _ u none vs (h u List.mem_cons_self)]
      exact ih τ fun v hv => h v (List.mem_cons_of_mem _ hv)
  exact key vs σ fun _ h => h
theorem ctx_priv {C : Kc} {G H : Hp} {σ : L2.St} {S : ST} {q : Addr} {o o' : HO} (c : Ctx C G H σ S) (gq : G q = none) (no : ∀ (j : Nat) es, S.s[j]? = some (some (.own es)) → σ[j]? ≠ some (some (.ref q))) (nb : ∀ o, S.g ≠ some (q, o)) (hq : H q = some o) (n1 : NT o) (n2 : NC o) : Ctx C G (upd H q o') σ S where
  sub := ⟨fun a u h => by
    have : a ≠ q := fun z => by rw [z, gq] at h; cases h
    rw [upd_ne this]; exact c.sub a u h, tabs_upd c.sub.t hq n1 n2, c.sub.n⟩
  len := c.len
  im := c.im
  ow := fun i es h => by
    obtain ⟨a, ws, h1, h2, h3, h4⟩ := c.ow i es h
    have : a ≠ q := fun z => no i es h (by rw [← z]; exact h1)
    exact ⟨a, ws, h1, h2, by rw [upd_ne this]; exact h3, h4⟩
  apart := c.apart
  bg := c.bg
  bag := by
    have z := c.bag
    cases r : S.g with
    | none => trivial
    | some bo =>
      obtain ⟨b, bo⟩ := bo
      have nq : b ≠ q := fun e => nb bo (by rw [r, e])
      rw [r] at z
      cases bo with
      | lst es => obtain ⟨h1, ws, h2, h3⟩ := z; exact ⟨h1, ws, by rw [upd_ne nq]; exact h2, h3⟩
      | ins cc fs => obtain ⟨h1, dx, ws, h2, h3⟩ := z; exact ⟨h1, dx, ws, by rw [upd_ne nq]; exact h2, h3⟩
      | xd es => obtain ⟨h1, ws, h2, h3⟩ := z; exact ⟨h1, ws, by rw [upd_ne nq]; exact h2, h3⟩
  nob := c.nob
section
variable {F : Fam} {S S1 S2 S3 : ST} {e a b c tg iter elt : Expr} {d x y z : D} {pos p apos : Pos} {es : List Expr} {ds : List D} {k : Bool} {nm : Str} {P : Po} {rest t u body : List Stmt} {st : Stmt} {M : ST → Prop} {ifs : List Expr} {scope : Scope} {own : List (Str × Nat)}
def anyTs (F : Fam) (ifs : List Expr) : TT := fun σ H Q => ∃ te, (∀ i, PTs (F.X i) ifs te) ∧ te σ H Q
theorem anyTs_ok {ifs : List Expr} (i : F.I) : PTs (F.X i) ifs (anyTs F ifs) := ⟨fun pins s σ H Q I h => let ⟨te, h1, h2⟩ := h; (h1 i).run pins s σ H Q I h2⟩
def DTs (F : Fam) (ifs : List Expr) (S S' : ST) (b : Bool) : Prop := EvT F.C (anyTs F ifs) S S' b
theorem dts_nil : DTs F [] S S true := fun σ G H c Q q => ⟨tYes, fun _ => pts_nil, q G H (.refl c)⟩
theorem dts_one {k : Bool} (h : DT F c S S1 k) : DTs F [c] S S1 k := fun σ G H cx Q q => ⟨anyT F c, fun i => pts_one (anyT_ok i), h σ G H cx Q q⟩
def Turn1 (F : Fam) (tg : Expr) (ifs : List Expr) (elt : Expr) (vs : List Nat) (s : List (Option DV)) (d : D) (g : Option (Addr × BG)) (out : List D) (g' : Option (Addr × BG)) (out' : List D) : Prop :=
  ∃ T1 T2 b js, DG F tg d ⟨hidS s vs, g⟩ T1 js ∧ (∀ j ∈ js, j ∈ vs) ∧ DTs F ifs T1 T2 b ∧ (b = true → ∃ T3 y, DE F elt T2 T3 y ∧ T3.g = g' ∧ KeepOwn s vs T3 ∧ out' = out ++ [y] ∧ out.length < sizeLine) ∧ (b = false → T2.g = g' ∧ KeepOwn s vs T2 ∧ out' = out)
theorem ev_lc {vs0 : List Nat} (hi : DI F tg iter S S1 ds) (gO : Nat → Option (Addr × BG)) (out : Nat → List D) (hg0 : gO 0 = S1.g) (ho0 : out 0 = []) (hga : ∀ i, (gO i).map (·.1) = S1.g.map (·.1))
    (step : ∀ i d, ds[i]? = some d → Turn1 (F.blk scope) tg ifs elt vs0 S1.s d (gO i) (out i) (gO (i + 1)) (out (i + 1))) :
    ∀ σ G H, Ctx F.C G H σ S → ∀ Q : VK, (∀ q vs G2 H2, Mv F.C σ S G H ⟨S1.s, gO ds.length⟩ G2 H2 → H q = none → G2 q = none → H2 q = some (.lst vs) → DenL F.C G2 vs (out ds.length) → Q (.ref q) H2) →
      tLc (anyI F tg iter) (anyG (F.blk scope) tg) (anyTs (F.blk scope) ifs) (anyE (F.blk scope) elt) vs0 σ H Q := by
  intro σ G0 H0 c0 Q q
  refine hi σ G0 H0 c0 _ fun J G1 H1 m1 it => ?_
  intro Da hD
  have gD : G1 Da = none := m1.cx.sub.free hD
  have hD0 : H0 Da = none := by
    cases r : H0 Da with
    | none => rfl
    | some o => exact absurd hD (m1.go.dom Da (by rw [r]; simp))
  refine ⟨fun i m' H => i ≤ ds.length ∧ m' = ds.length - i ∧ ∃ G vs, Mv F.C σ S1 G1 H1 ⟨S1.s, gO i⟩ G H ∧ G Da = none ∧ H Da = some (.lst vs) ∧ DenL F.C G vs (out i), ⟨_, Nat.zero_le _, rfl, G1, [], ?_, gD, upd_same, by rw [ho0]; exact .nil⟩, ?_⟩
  · have sm : Same H1 (upd H1 Da (.lst [])) := fun a o h => by rw [upd_ne (ne_of_none h hD)]; exact h
    have := m1.cx.mv (Same.kt sm) (fun _ _ h => h) (m1.cx.sub.trans sm) fun _ _ h => h
    rw [hg0]
    exact this
  · rintro i m' H ⟨hle, rfl, G, vs, mv, gDi, hDi, dl⟩
    by_cases hlt : i < ds.length
    · refine .inr ⟨it.go i G H hlt mv.go.gg mv.cx.sub, fun H' => ∃ G' vs', Mv F.C σ S1 G1 H1 ⟨S1.s, gO (i + 1)⟩ G' H' ∧ G' Da = none ∧ H' Da = some (.lst vs') ∧ DenL F.C G' vs' (out (i + 1)), fun H' z => ⟨_, by omega, hlt, rfl, z⟩, fun x H' hy => ?_⟩
      obtain ⟨G', pu, dx⟩ := it.yld i _ G H x H' (List.getElem?_eq_getElem hlt) mv.go.gg mv.cx.sub hy
      obtain ⟨T1, T2, b, js, hg, hjs, ht, h1, h2⟩ := step i _ (List.getElem?_eq_getElem hlt)
      have m2 := mv.cx.pu pu
      refine hg (wipe σ vs0) G' H' x (m2.cx.hid _) dx _ fun σ2 G2 H2 m3 only => ⟨(only _ hjs).trans (by
        have := only _ hjs
        exact wipe_wipe σ _), ?_⟩
      refine ht σ2 G2 H2 m3.cx _ fun G3 H3 m4 => ?_
      have nD : ∀ o, gO i ≠ some (Da, o) := fun o z => by
        have r := hga i
        rw [z] at r
        cases r2 : S1.g with
        | none => rw [r2] at r; cases r
        | some bo =>
          obtain ⟨b', o'⟩ := bo
          rw [r2] at r
          cases r
          have z2 := m1.cx.bag
          rw [r2] at z2
          cases o' with
          | lst => obtain ⟨_, _, z3, _⟩ := z2; rw [hD] at z3; cases z3
          | ins => obtain ⟨_, _, _, z3, _⟩ := z2; rw [hD] at z3; cases z3
          | xd => obtain ⟨_, _, z3, _⟩ := z2; rw [hD] at z3; cases z3
      have nOA : ¬ OA F.C (wipe σ vs0) ⟨hidS S1.s vs0, gO i⟩ Da := fun z => by
        rcases oa_hid (S := ⟨S1.s, gO i⟩) z with ⟨j, es, r, z⟩ | ⟨o, z⟩
        · obtain ⟨a', _, r1, r2, r3, _⟩ := m1.cx.ow j es r
          rw [r1] at z; cases z
          rw [hD] at r3; cases r3
        · exact nD o z
      have hDp : H' Da = some (.lst vs) := pu.hh.k _ _ nt_lst hDi
      have gDp : G' Da = none := pu.fr Da (.inl ⟨_, hDi, nt_lst, nc_lst⟩) gDi
      cases b with
      | false =>
        rw [if_neg Bool.false_ne_true]
        obtain ⟨e1, ko, e2⟩ := h2 rfl
        have mm := m3.trans m4.mw
        have mo := m2.cx.outer mm (by rw [e1]; exact (hga (i + 1)).trans (hga i).symm) ko ((only _ hjs).trans (wipe_wipe σ _))
        rw [e1] at mo
        refine ⟨G3, vs, (mv.trans m2).trans mo, mm.go.fr Da nOA (.inl ⟨_, hDp, nt_lst, nc_lst⟩) gDp, mm.go.keep Da _ nOA nt_lst hDp, ?_⟩
        rw [e2]
        exact (dl.mono pu.gg).mono mm.go.gg
      | true =>
        rw [if_pos rfl]
        obtain ⟨T3, y, he, e1, ko, e2, e3⟩ := h1 rfl
        refine he σ2 G3 H3 m4.cx _ fun v G4 H4 m5 dv => ?_
        have mm := (m3.trans m4.mw).trans m5.mw
        have mo := m2.cx.outer mm (by rw [e1]; exact (hga (i + 1)).trans (hga i).symm) ko ((only _ hjs).trans (wipe_wipe σ _))
        rw [e1] at mo
        have k1 := mm.go.keep Da _ nOA nt_lst hDp
        have k2 := mm.go.fr Da nOA (.inl ⟨_, hDp, nt_lst, nc_lst⟩) gDp
        refine ⟨vs, k1, by rw [dl.length]; exact e3, G4, vs ++ [v], ?_, k2, upd_same, ?_⟩
        · have mf := (mv.trans m2).trans mo
          refine ⟨⟨fun a o n nt h => ?_, mf.go.gg, mf.go.fr, fun a h => ?_, fun t => tabs_upd (mf.go.tb t) k1 nt_lst nc_lst⟩, ?_, mf.oa⟩
          · have na : a ≠ Da := fun z => by rw [z, hD] at h; cases h
            rw [upd_ne na]; exact mf.go.keep a o n nt h
          · by_cases na : a = Da
            · rw [na, upd_same]; simp
            · rw [upd_ne na]; exact mf.go.dom a h
          exact ctx_priv mo.cx k2 (fun j es r z => by
            obtain ⟨a', _, r1, r2, r3, _⟩ := m1.cx.ow j es r
            rw [r1] at z; cases z
            rw [hD] at r3; cases r3) (fun o z => by
              have r := hga (i + 1)
              have z' : gO (i + 1) = some (Da, o) := z
              rw [z'] at r
              cases r2 : S1.g with
              | none => rw [r2] at r; cases r
              | some bo =>
                obtain ⟨b', o'⟩ := bo
                rw [r2] at r
                cases r
                have z2 := m1.cx.bag
                rw [r2] at z2
                cases o' with
                | lst => obtain ⟨_, _, z3, _⟩ := z2; rw [hD] at z3; cases z3
                | ins => obtain ⟨_, _, _, z3, _⟩ := z2; rw [hD] at z3; cases z3
                | xd => obtain ⟨_, _, z3, _⟩ := z2; rw [hD] at z3; cases z3) k1 nt_lst nc_lst
        · rw [e2]
          exact ((dl.mono pu.gg).mono mm.go.gg).append (.cons dv .nil)
    · have e : i = ds.length := by omega
      subst e
      exact .inl ⟨it.stop _ G H (Nat.le_refl _) mv.go.gg mv.cx.sub, q Da vs G H (m1.trans mv) hD0 gDi hDi dl⟩
end
end DL
namespace DL
open PySem L2
variable [TabL]
theorem Mv.freezeNew {C : Kc} {σ : L2.St} {S S' : ST} {G H G2 H2 : Hp} {q : Addr} {oq : HO} (c : Ctx C G H σ S) (m : Mv C σ S G H S' G2 H2) (hq : H q = none) (gq : G2 q = none) (h2 : H2 q = some oq) : Mv C σ S G H S' (upd G2 q oq) H2 := by
  have gg : Same G2 (upd G2 q oq) := fun a o h => by rw [upd_ne (ne_of_none h gq)]; exact h
  have nOA : ¬ OA C σ S q := fun z => by
    rcases z with ⟨j, es, r1, r2⟩ | ⟨o, r⟩
    · obtain ⟨a, ws, h1, _, h3, _⟩ := c.ow j es r1
      rw [r2] at h1; cases h1; rw [hq] at h3; cases h3
    · have z := c.bag
      rw [r] at z
      cases o with
      | lst => obtain ⟨_, _, h3, _⟩ := z; rw [hq] at h3; cases h3
      | ins => obtain ⟨_, _, _, h3, _⟩ := z; rw [hq] at h3; cases h3
      | xd => obtain ⟨_, _, h3, _⟩ := z; rw [hq] at h3; cases h3
  refine ⟨⟨m.go.keep, m.go.gg.trans gg, fun a n h g => ?_, m.go.dom, m.go.tb⟩, ⟨⟨fun a o h => ?_, m.cx.sub.t, fun p hp => by rw [upd_ne (fun z => tabs_there c.sub.t p hp (by rw [z]; exact hq))]; exact m.cx.sub.n p hp⟩, m.cx.len, fun i d h => ?_, fun i es h => ?_, m.cx.apart, m.cx.bg, ?_, m.cx.nob⟩, m.oa⟩
  · have na : a ≠ q := fun z => h.ne (by rw [z]; exact hq)
    rw [upd_ne na]; exact m.go.fr a n h g
  · by_cases na : a = q
    · subst na; rw [upd_same] at h; cases h; exact h2
    · rw [upd_ne na] at h; exact m.cx.sub a o h
  · obtain ⟨v, r1, r2⟩ := m.cx.im i d h
    exact ⟨v, r1, r2.mono gg⟩
  · obtain ⟨a, ws, r1, r2, r3, r4⟩ := m.cx.ow i es h
    have na : a ≠ q := fun z => nOA (m.oa q (.inl ⟨i, es, h, by rw [← z]; exact r1⟩))
    exact ⟨a, ws, r1, by rw [upd_ne na]; exact r2, r3, r4.mono gg⟩
  · have z := m.cx.bag
    cases r : S'.g with
    | none => trivial
    | some bo =>
      obtain ⟨b, o⟩ := bo
      have nb : b ≠ q := fun e => nOA (m.oa q (.inr ⟨o, by rw [r, e]⟩))
      rw [r] at z
      cases o with
      | lst es => obtain ⟨h1, ws, h2, h3⟩ := z; exact ⟨by rw [upd_ne nb]; exact h1, ws, h2, h3.mono gg⟩
      | ins cc fs => obtain ⟨h1, dx, ws, h2, h3⟩ := z; exact ⟨by rw [upd_ne nb]; exact h1, dx, ws, h2, h3.mono gg⟩
      | xd es => obtain ⟨h1, ws, h2, h3⟩ := z; exact ⟨by rw [upd_ne nb]; exact h1, ws, h2, h3.mono gg⟩
section
variable {F : Fam} {S S1 S2 S3 : ST} {e a b c tg iter elt : Expr} {d x y z : D} {pos p apos : Pos} {es : List Expr} {ds : List D} {k : Bool} {nm : Str} {P : Po} {rest t u body : List Stmt} {st : Stmt} {M : ST → Prop} {ifs : List Expr} {scope : Scope} {own : List (Str × Nat)}
theorem ev_freeze {C : Kc} {te : TE} (h : EvO C te S S1 ds) : EvM C te S S1 (.lst ds) := fun σ G H c Q q => h σ G H c Q fun p vs G2 H2 m hp gp h2 dl => by
  have m2 := m.freezeNew c hp gp h2
  exact q _ _ _ m2 (.lst (SqL.of upd_same) (dl.mono fun a o h => by rw [upd_ne (ne_of_none h gp)]; exact h))
theorem de_do (h : DO F e S S1 ds) : DE F e S S1 (.lst ds) := ev_freeze h
mutual
def toP : D → PyData
  | .non => .none
  | .bl b => .bool b
  | .int i => .int i
  | .str x => .str x
  | .tup xs => .tuple (toPs xs)
  | .lst xs => .list (toPs xs)
  | .obj _ _ => .none
  | .dic _ => .none
  | .dik _ => .none
  | .dim _ => .none
  | .fn _ _ => .none
  | .cst _ => .none
def toPs : List D → List PyData
  | [] => []
  | x :: xs => toP x :: toPs xs
end
mutual
def okP : D → Bool
  | .non => true
  | .bl _ => true
  | .int _ => true
  | .str _ => true
  | .tup xs => okPs xs
  | .lst xs => okPs xs
  | .obj _ _ => false
  | .dic _ => false
  | .dik _ => false
  | .dim _ => false
  | .fn _ _ => false
  | .cst _ => false
def okPs : List D → Bool
  | [] => true
  | x :: xs => okP x && okPs xs
end
mutual
theorem Den.dp {C : Kc} {G H : Hp} (s : Same G H) : ∀ {v : V} {d : D}, Den C G v d → okP d = true → Dp C.K H v (toP d)
  | _, _, .non, _ => by unfold toP; exact .non
  | _, _, .bl b, _ => by unfold toP; exact .bl b
  | _, _, .int i, _ => by unfold toP; exact .int i
  | _, _, .str x, _ => by unfold toP; exact .str x
  | _, _, .tup h l, k => by
    unfold okP at k
    unfold toP
    exact .tup (same_t s h) (DenL.dp s l k)
  | _, _, .lst h l, k => by
    unfold okP at k
    unfold toP
    exact .lst (s.seq h) (DenL.dp s l k)
  | _, _, .obj _ _ _, k => by unfold okP at k; cases k
  | _, _, .cst _, k => by unfold okP at k; cases k
  | _, _, .dN _ _, k => by unfold okP at k; cases k
  | _, _, .dK _ _, k => by unfold okP at k; cases k
  | _, _, .dM _ _, k => by unfold okP at k; cases k
  | _, _, .fn _ _, k => by unfold okP at k; cases k
theorem DenL.dp {C : Kc} {G H : Hp} (s : Same G H) : ∀ {v : List V} {d : List D}, DenL C G v d → okPs d = true → DpAll C.K H v (toPs d)
  | _, _, .nil, _ => by unfold toPs; exact .nil
  | _, _, .cons h l, k => by
    unfold okPs at k
    rw [Bool.and_eq_true] at k
    unfold toPs
    exact .cons (Den.dp s h k.1) (DenL.dp s l k.2)
end
theorem od_eqP (h1 : okP x = true) (h2 : okP y = true) (h3 : SeqAt.shaped (toP x) = true) (h4 : SeqAt.shaped (toP y) = true) : OpD F (compareOp .Eq) x y (.bl (PyData.eqv (toP x) (toP y))) :=
  ⟨rEqD F.C.K, fun i => by have := op_eqD (X := F.X i) (F.units i); rw [F.hK i] at this; exact this, fun G H u v s hu hv Q q => ⟨_, _, hu.dp s h1, hv.dp s h2, h3, h4, q _ _ _ (.refl s) (.bl _)⟩⟩
theorem od_neP (h1 : okP x = true) (h2 : okP y = true) (h3 : SeqAt.shaped (toP x) = true) (h4 : SeqAt.shaped (toP y) = true) : OpD F (compareOp .NotEq) x y (.bl (!PyData.eqv (toP x) (toP y))) :=
  ⟨rNeD F.C.K, fun i => by have := op_neD (X := F.X i) (F.units i); rw [F.hK i] at this; exact this, fun G H u v s hu hv Q q => ⟨_, _, hu.dp s h1, hv.dp s h2, h3, h4, q _ _ _ (.refl s) (.bl _)⟩⟩
def tyD (C : Kc) : D → Value
  | .non => .type "NoneType"
  | .bl _ => .type "bool"
  | .int _ => .type "int"
  | .str _ => .type "str"
  | .tup _ => .type "tuple"
  | .lst _ => .type "list"
  | .obj c _ => .ref (C.cl c)
  | .cst _ => .none
  | .dic _ => .type "dict"
  | .dik _ => .type "dict"
  | .dim _ => .type "dict"
  | .fn _ _ => .type "function"
structure InsF (K : PySem.W.Frag) (c : Addr) : Prop where
  cl : Cls K c
  ha : PySem.W.findIn K (.ref c) "__class__" = some (some (.builtin "object.__class__"))
  hn : PySem.W.specialIn K (.builtin "object.__class__") "__get__" = some (some (.builtin "getset_descriptor.__get__"))
  htk : PySem.W.takesIn K (.builtin "object.__class__") = some true
  hm : PySem.W.mroIn K c (.type "object") = some true
def plD : D → Bool
  | .cst _ => false
  | .dic _ => false
  | .dik _ => false
  | .dim _ => false
  | .fn _ _ => false
  | _ => true
theorem Den.tyX {C : Kc} {G H : Hp} (s : Same G H) {v : V} {d : D} (h : Den C G v d) (ho : ∀ c fs, d = .obj c fs → C.has c = true → InsF C.K (C.cl c)) (hc : plD d = true) : TyX C.K H v (tyD C d) := by
  cases h with
  | non => exact .base .non
  | bl b => exact .base (.bl b)
  | int i => exact .base (.int i)
  | str x => exact .base (.str x)
  | tup h l =>
    rcases same_t s h with (h | ⟨o, h⟩) | ⟨o, _, _, h, h', _⟩
    · exact .base (.tup h)
    · exact .fTuple h
    · exact .kTuple h h'
  | lst h l =>
    rcases s.seq h with (h | ⟨o, h⟩) | ⟨o, _, _, h, h', _⟩
    · exact .base (.lst h)
    · exact .base (.frz h)
    · exact .kList h h'
  | obj q h l => have := ho _ _ rfl q; exact .base (.ins (s _ _ h) this.cl this.ha this.hn this.htk this.hm)
  | cst v => cases hc
  | dN h l => cases hc
  | dK h l => cases hc
  | dM h l => cases hc
  | fn h l => cases hc
theorem ca_isi {cv : V} {u : Value} {k : Bool} (hc : ClsV cv u) (ho : ∀ c fs, x = .obj c fs → F.C.has c = true → InsF F.C.K (F.C.cl c)) (hn : plD x = true) (hk : PySem.W.kitOne F.C.K (tyD F.C x) u = some k) : CaD F (.builtin "isinstance") [x, .cst cv] (.bl k) :=
  ⟨rIsi F.C.K, fun i => by have := call_isi (X := F.X i); rw [F.hK i] at this; exact this, fun G H us s h Q q => by
    cases h with
    | cons h l => cases l with
      | cons h2 l => cases l; cases h2; exact ⟨_, _, _, _, k, rfl, hc, h.tyX s ho hn, hk, q _ _ _ (.refl s) (.bl _)⟩⟩
theorem ca_isiD {cv : V} {u : Value} {k : Bool} {kvs : List (D × D)} (hc : ClsV cv u) (hk : PySem.W.kitOne F.C.K (.type "dict") u = some k) : CaD F (.builtin "isinstance") [.dic kvs, .cst cv] (.bl k) :=
  ⟨fun xs H Q => ∃ (a : Addr) (o : Obj) (es : List ND.NEnt), xs = [.ref a, cv] ∧ H a = some (ND.NDO F.C.P F.C.w a o es) ∧ Q (.bl k) H, fun i => by
    intro pins s σ H xs us Q I r h
    obtain ⟨a, o, es, rfl, ha, q⟩ := h
    obtain ⟨u1, u2, rfl, r1, r2⟩ := vals2 r
    have e2 := hc.eq r2
    subst e2
    cases (show u1 = Value.ref a from r1)
    obtain ⟨⟨_, _, _, _, _, h1, h2, _, _⟩, _, _⟩ := I.hok a _ ha
    exact PySem.W.kia_one (PySem.W.kitx_dict (K := (F.X i).K)) I.kIn ⟨o, h1, h2.1⟩ (by rw [F.hK i]; exact hk) (fun z => nomatch z) fun tk => ⟨.bl k, H, I.tok tk, rfl, q⟩, fun G H us s h Q q => by
    cases h with
    | cons h l => cases l with
      | cons h2 l => cases l; cases h2; cases h with
        | dN h1 h3 => exact ⟨_, _, _, rfl, s _ _ h1, q _ _ _ (.refl s) (.bl _)⟩⟩
theorem denL_bl {C : Kc} {G : Hp} : ∀ {vs : List V} {bs : List Bool}, DenL C G vs (bs.map D.bl) → vs = bs.map V.bl
  | _, [], .nil => rfl
  | _, b :: bs, .cons h l => by cases h; rw [denL_bl l]; rfl
theorem denL_int {C : Kc} {G : Hp} : ∀ {vs : List V} {bs : List Int}, DenL C G vs (bs.map D.int) → vs = bs.map V.int
  | _, [], .nil => rfl
  | _, b :: bs, .cons h l => by cases h; rw [denL_int l]; rfl
theorem denL_str {C : Kc} {G : Hp} : ∀ {vs : List V} {bs : List Str}, DenL C G vs (bs.map D.str) → vs = bs.map V.str
  | _, [], .nil => rfl
  | _, b :: bs, .cons h l => by cases h; rw [denL_str l]; rfl
theorem ca_all [Calm F] {bs : List Bool} : CaD F (.builtin "all") [.lst (bs.map D.bl)] (.bl (bs.all id)) := ⟨rAll F.C.K, fun i => by have := cr_all (X := F.X i) (F.calm i); rw [F.hK i] at this; exact this, fun G H us s h Q q => by
  cases h with
  | cons h l => cases h with
    | lst h1 h2 => cases l; exact ⟨_, bs, rfl, by rw [← denL_bl h2]; exact s.seq h1, q _ _ _ (.refl s) (.bl _)⟩⟩
theorem ca_tupL : CaD F (.type "tuple") [.lst ds] (.tup ds) := ⟨fun xs H Q => ∃ p ys, xs = [.ref p] ∧ ((SqL F.C.K H p ys ∧ ∀ l, H l = none → Q (.ref l) (upd H l (.tup ys))) ∨ (SqT F.C.K H p ys ∧ Q (.ref p) H)), fun i => by have := call_tuple_of (X := F.X i); rw [F.hK i] at this; exact this, fun G H us s h Q q => by
  cases h with
  | cons h l => cases h with
    | lst h1 h2 => cases l; exact ⟨_, _, rfl, .inl ⟨s.seq h1, fun p hp => by
      exact q _ _ _ (Pu.new s hp) (.tup (SqT.of upd_same) (h2.mono (Pu.new s hp).gg))⟩⟩⟩
theorem ca_tupT : CaD F (.type "tuple") [.tup ds] (.tup ds) := ⟨fun xs H Q => ∃ p ys, xs = [.ref p] ∧ ((SqL F.C.K H p ys ∧ ∀ l, H l = none → Q (.ref l) (upd H l (.tup ys))) ∨ (SqT F.C.K H p ys ∧ Q (.ref p) H)), fun i => by have := call_tuple_of (X := F.X i); rw [F.hK i] at this; exact this, fun G H us s h Q q => by
  cases h with
  | cons h l => cases h with
    | tup h1 h2 => cases l; exact ⟨_, _, rfl, .inr ⟨same_t s h1, q _ _ _ (.refl s) (.tup h1 h2)⟩⟩⟩
end
end DL
namespace DLO
open PySem PySem.W PySem.SeqAt PySem.Calls PyProof.Rows
open AutoSeq1 (wpAny_loadPart')
section
variable {M : Model} {prog : Program} {w : World} {A : Around} {E : Value → Shared → Prop} {s : Shared} {K : Frag} {x y C b f : Addr} {ox oy : Obj} {od od' : Option Obj} {dx : Addr} {i : Int} {t : Tok}
theorem objNe_own {v : Value} {Q : Fin → Shared → Prop} (hu : A.units < cLine) (X : K.In s.heap) (I : InstAt s.heap x ox C od) (hs : findIn K (.ref C) "__eq__" = some (some (.ref f))) (hf : isFn K (.ref f) = true)
    (h : wpAny (model prog w) A (call (.ref f) [.ref x, v]) (fun r s' => ∃ b, r = .bool b ∧ Q (.done (.ret (.bool (!b)))) s') E s) : wpAny (model prog w) A (Builtin.«object.__ne__» ⟨[.ref x, v], []⟩) Q E s := by
  have one := ifBound_K (M := model prog w) (args := [v]) (Q := fun r s' => ∃ b, r = some (.bool b) ∧ Q (.done (.ret (.bool (!b)))) s') X I hs hf (wpAny_mono h (fun r s' hr => by obtain ⟨b, rfl, hq⟩ := hr; exact ⟨b, rfl, hq⟩) fun _ _ e => e)
  obtain ⟨hp, g, d, tk, os⟩ := s
  unfold Builtin.«object.__ne__»
  repeat (first
    | with_reducible refine wpAny_cRoomFor hu ?_
    | (refine wpAny_bind (m := callSpecialIfBound? (.ref x) (Str.ofString "__eq__") [v])
        (wpAny_mono one (fun r s' hr => by
          obtain ⟨b, rfl, hq⟩ := hr
          repeat (first | exact hq | exact wpAny_pure hq | exact wpAny_truthy_bool hq | (refine wpAny_bind (m := truthy (.bool _)) (wpAny_truthy_bool ?_)) | wp_step)) fun _ _ e => e))
    | wp_step)
theorem ifBound_objNe {args : List Value} {Q : Option Value → Shared → Prop} (X : K.In s.heap) (I : InstAt s.heap x ox C od) (hs : findIn K (.ref C) "__ne__" = some (some (.builtin "object.__ne__")))
    (h : wpAny M A (call (.builtin "object.__ne__") (.ref x :: args)) (fun v => Q (some v)) E s) : wpAny M A (callSpecialIfBound? (.ref x) "__ne__" args) Q E s := by
  simp only [callSpecialIfBound?, bindSpecialIfBound?]
  refine wpAny_holding (wpAny_bind (wpAny_bind (wpAny_bind (I.type.here ((PySem.W.looks_findIn X hs).here ?_)))))
  refine wpAny_bind (wpAny_askSetting (wpAny_ite ?_))
  have fin : wpAny M A (call (.builtin "object.__ne__") ([.ref x] ++ args) >>= fun v => pure (some v)) Q E s := wpAny_bind (wpAny_mono h (fun v s' h' => wpAny_pure h') fun _ _ h' => h')
  split
  · exact wpAny_bind (wpAny_of_eq (F.cmp_object.ne.bind _) (wpAny_pure (by exact fin)))
  · exact wpAny_tryCatch (wpAny_bind (wpAny_of_eq (F.cmp_object.ne.bind _) (wpAny_pure (by exact fin))))
theorem neO {v tb : Value} {Q : Value → Shared → Prop} (hu : A.units + 1 < cLine) (X : K.In s.heap) (I : InstAt s.heap x ox C od) (hb : Looks (model prog w) s.heap (typeOf v) tb) (hn : notFirst K C tb = true) (hm : mroIn K C (.type "object") = some true)
    (hne : findIn K (.ref C) "__ne__" = some (some (.builtin "object.__ne__"))) (hs : findIn K (.ref C) "__eq__" = some (some (.ref f))) (hf : isFn K (.ref f) = true)
    (h : wpAny (model prog w) A.in1 (call (.ref f) [.ref x, v]) (fun r s' => ∃ b, r = .bool b ∧ Q (.bool (!b)) s') E s) : wpAny (model prog w) A (richCompare .NotEq (.ref x) v) Q E s := by
  have one : wpAny (model prog w) A (tryCompare (.ref x) "__ne__" v) (fun r s' => ∃ b, r = some (.bool b) ∧ Q (.bool b) s') E s := by
    unfold tryCompare
    refine wpAny_bind (ifBound_objNe X I hne (wpAny_call (codeAny_call_builtin F.cmp_object.ne.plain F.cmpEntry_ne (PySem.W.check_slot F.cmpKind_ne F.cmpSplit_ne (I.type.andThen (PySem.W.looks_mroIn X hm)) (F.cmpArgs_ne _ _) (objNe_own (A := A.in1) hu X I hs hf (wpAny_mono h (fun r s' hr => ?_) fun _ _ e => e))))))
    obtain ⟨b, rfl, hq⟩ := hr
    first | exact ⟨b, rfl, wpAny_pure ⟨_, rfl, hq⟩⟩ | exact ⟨b, rfl, ⟨_, rfl, hq⟩⟩
  unfold richCompare
  simp only [oneThing_ref]
  refine wpAny_holding (wpAny_bind (wpAny_cRoomFor (Nat.lt_of_succ_lt hu) ?_))
  rw [cmpInfo_NotEq]
  dsimp only
  refine wpAny_bind (I.type.here (wpAny_bind (hb.here ?_)))
  split
  · rename_i q
    have e : subIn K tb (.ref C) = some false := by
      rcases Bool.or_eq_true_iff.mp hn with e | e
      · rw [beq_iff_eq.mp e] at q; simp at q
      · exact beq_iff_eq.mp e
    refine wpAny_bind ((looks_subIn X e).here ?_)
    simp only [Bool.false_eq_true, if_false]
    refine wpAny_bind (wpAny_mono one (fun r s' z => ?_) fun _ _ e => e)
    obtain ⟨b, rfl, hq⟩ := z
    exact wpAny_pure hq
  · refine wpAny_bind (wpAny_pure ?_)
    simp only [Bool.false_eq_true, if_false]
    refine wpAny_bind (wpAny_mono one (fun r s' z => ?_) fun _ _ e => e)
    obtain ⟨b, rfl, hq⟩ := z
    exact wpAny_pure hq
end
end DLO
namespace DL
open PySem L2
variable [TabL]
structure OpF (K : PySem.W.Frag) (C : Addr) : Prop where
  sf : PySem.W.selfFirst K C = true
  ic : PySem.W.subIn K (.type "int") (.ref C) = some false
  ci : PySem.W.subIn K (.ref C) (.type "int") = some false
structure IntF (K : PySem.W.Frag) (op : Operator) : Prop where
  ex : ∃ fo ro, PySem.W.findIn K (.type "int") (PySem.dunder op.info.2) = some fo ∧ PySem.W.findIn K (.type "int") (dunderR op.info.2) = some ro ∧ ((fo.isSome && !isSeqSlot fo) || (ro.isSome && !isSeqSlot ro)) = true
section
variable {F : Fam} {S S1 S2 S3 : ST} {e a b c tg iter elt : Expr} {d x y z : D} {pos p apos : Pos} {es : List Expr} {ds : List D} {k : Nat} {nm : Str} {P : Po} {rest : List Stmt} {cn : Nat} {fs gs : List (Str × D)} {R R' : List D → D → Prop} {op : Operator} {m m' : Str}
theorem inst_of {X : Cx} {pins : List (Addr × Obj)} {σ : L2.St} {H : Hp} {s : Shared} {a C dx : Addr} {vs : List (Str × V)} (I : Inv X pins σ H s) (h : H a = some (.ins C dx vs)) : ∃ od, PySem.W.InstAt s.heap a (PySem.W.instObj C dx) C (some od) := by
  obtain ⟨mA, J, _⟩ := ins_get I.hok h
  obtain ⟨od, J, _⟩ := J.look
  exact ⟨od, J⟩
theorem looks_ty {X : Cx} {pins : List (Addr × Obj)} {σ : L2.St} {H : Hp} {s : Shared} {x : V} {u t : Value} (I : Inv X pins σ H s) (r : RelV x u) (ty : TyX X.K H x t) (M : Model) : PySem.W.Looks M s.heap (typeOf u) t := by
  obtain ⟨P, Z, hp, _⟩ := kit_of I r ty
  exact Z.ty M s.heap I.kIn hp
theorem run_in1 {X : Cx} {pins : List (Addr × Obj)} {σ : L2.St} {H : Hp} {s : Shared} {Q : VK} {us : List Value} {vs : List V} {f : Addr} {fd : FuncData} {ps : List Str} {sp : Sp} (G : FnOk X.prog X.w X.K X.mg X.base CX0 k f fd ps sp) (hr : Room (k + 1) X.A) (hb : Binds X.K fd ps []) (I : Inv X pins σ H s) (r : Vals vs us) (h : sp vs H Q E0) :
    wpAny (model X.prog X.w) X.A.in1 (call (.ref f) us) (EP X pins σ Q) X.xe s := by
  have hl : (us ++ []).length = ps.length := by rw [List.append_nil, ← r.length]; exact G.len _ _ _ _ h
  refine wpAny_call (codeAny_mono (G.run X.A.in1 X.stack s H ⟨us, []⟩ us vs Q E0 hr.in1 I.env0.in1 (by have := hb s us I.kIn hl; rw [List.append_nil] at this; exact this) r h) fun r s' hq => ?_)
  cases r with
  | error e => exact hq.elim
  | ok fl =>
    cases fl with
    | ret u => exact I.after hq
    | next => exact False.elim hq
    | brk => exact False.elim hq
    | cont => exact False.elim hq
theorem od_neO [Calm F] {kb : Bool} (mt : Met F.P F.w F.C F.mg F.base k cn "__eq__" (spP F.C R)) (hk : k + 1 ≤ F.k) (ho : ∀ c fs, y = .obj c fs → F.C.has c = true → InsF F.C.K (F.C.cl c)) (hn : plD y = true) (hf : PySem.W.notFirst F.C.K (F.C.cl cn) (tyD F.C y) = true) (hi : InsF F.C.K (F.C.cl cn)) (hne : PySem.W.findIn F.C.K (.ref (F.C.cl cn)) "__ne__" = some (some (.builtin "object.__ne__")))
    (hR : R [.obj cn fs, y] (.bl kb)) : OpD F (compareOp .NotEq) (.obj cn fs) y (.bl (!kb)) := by
  obtain ⟨f, fd, ps, G, hc, hme, hb⟩ := mt
  refine ⟨fun x y' H Q => ∃ a dx vs, x = .ref a ∧ H a = some (.ins (F.C.cl cn) dx vs) ∧ TyX F.C.K H y' (tyD F.C y) ∧ spP F.C R [x, y'] H (fun v H' => ∃ b, v = .bl b ∧ Q (.bl (!b)) H') E0, fun l => ?_, fun G H u v s hu hv Q q => ?_⟩
  · intro pins s σ H x y' v u Q I rx ry h
    obtain ⟨a, dx, vs, rfl, ha, ty, hsp⟩ := h
    cases rx
    obtain ⟨od, J⟩ := inst_of I ha
    show wpAny _ _ (richCompare .NotEq _ _) _ _ _
    refine DLO.neO (by have := (F.roomH l).un; omega) I.kIn J (looks_ty I ry (by rw [F.hK l]; exact ty) _) (by rw [F.hK l]; exact hf) (by rw [F.hK l]; exact hi.hm) (by rw [F.hK l]; exact hne) (by rw [F.hK l]; exact hme.at_) (by rw [F.hK l]; exact hme.fn) ?_
    refine wpAny_mono (run_in1 (vs := [.ref a, y']) (fn_at G) ((F.room l).mono hk) (by rw [F.hK l]; exact hb) I (.cons rfl (.cons ry .nil)) hsp) (fun w s' hw => ?_) fun _ _ e => e
    obtain ⟨w', H', I', rw', b, rfl, q⟩ := hw
    cases rw'
    exact ⟨b, rfl, .bl (!b), H', I', rfl, q⟩
  · have hu' := hu
    cases hu with
    | obj _ h1 h2 => exact ⟨_, _, _, rfl, s _ _ h1, hv.tyX s ho hn, G, _, _, hR, s, .cons hu' (.cons hv .nil), fun v G2 H2 p dv => by cases dv; exact ⟨kb, rfl, q _ _ _ p (.bl _)⟩⟩
theorem do_call [Calm F] {R : List D → List D → Prop} {gs : List D} (c : Cal F.P F.w F.C F.mg F.base k nm (spO F.C R)) (ha : DA F (e :: es) S S1 ds) (hR : R ds gs) (hk : k ≤ F.k := by exact Nat.le_of_ble_eq_true rfl)
    (hg : ∀ i, Gl (F.X i) nm := by intro _; rfl) (hdb : (nm == ("__debug__" : Str)) = false := by decide)
    (he : ∀ i, starEach (e :: es) (F.X i).env = (false, eval e (F.X i).env) :: starEach es (F.X i).env := by intro _; rfl) (hpl : ∀ i, (backTo pos (starEach es (F.X i).env)).any (·.1) = false := by intro _; rfl) : DO F (.Call (.Name nm p) (e :: es) [] pos) S S1 gs := by
  obtain ⟨f, fd, ps, G, hm, hkp, hb⟩ := c
  refine do_of (te := tCall (spO F.C R) [] E0 (anyA F (e :: es))) (fun i => pe_call (fn_at G) ((F.room i).mono hk) (hg i) (by rw [F.hmg i]; exact hm) (by rw [F.hK i]; exact hkp) (by rw [F.hK i]; exact hb) .nil pass0 (anyA_ok i) hdb (he i) (hpl i)) ?_
  intro σ G H cx Q q
  refine ha σ G H cx _ fun vs G1 H1 m dl => ?_
  refine ⟨G1, ds, gs, hR, m.cx.sub, by rw [List.append_nil]; exact dl, fun p ev G2 H2 pu hp g2 h2 de => ?_⟩
  have hp0 : H p = none := by
    cases r : H p with
    | none => rfl
    | some o => exact absurd hp (m.go.dom p (by rw [r]; simp))
  exact q p ev G2 H2 (m.pu pu) hp0 g2 h2 de
end
end DL
namespace L2
open PySem PySem.Spec PyProof.Rows
def rCatK (K : PySem.W.Frag) : R2 := fun x y H Q => ∃ a b xs ys, x = V.ref a ∧ y = V.ref b ∧ SqL K H a xs ∧ SqL K H b ys ∧ xs.length + ys.length ≤ sizeLine ∧ ∀ p, H p = none → Q (.ref p) (upd H p (.lst (xs ++ ys)))
theorem op_catK {X : Cx} : OpR X (binaryOp .Add) (rCatK X.K) := by
  intro pins s σ H x y v u Q I rx ry h
  obtain ⟨l, b, xs, zs, rfl, rfl, hH, hB, hz, q⟩ := h
  cases rx
  cases ry
  obtain ⟨its, r, ⟨⟨cls, dd, data, sl⟩, n, ho, hc, hdd, hd⟩, _⟩ := I.list hH
  obtain ⟨its2, r2, ⟨⟨cls2, dd2, data2, sl2⟩, n2, ho2, hc2, hdd2, hd2⟩, _⟩ := I.list hB
  simp only at hc hd hc2 hd2
  subst hc hd hc2 hd2
  refine concat_meets ⟨_, ho, rfl⟩ ⟨_, ho2, rfl⟩ noFill_list_add seq_list_add PySem.F.slot_list_add PySem.F.entry_list_add (PySem.F.args_list_add_2 _ _) (list_addW l b its.toArray its2.toArray n n2 dd dd2 sl sl2 (by rw [List.size_toArray, List.size_toArray, ← r.length, ← r2.length]; exact hz)) ⟨ho, ho2, ?_⟩
  have ea : its.toArray ++ its2.toArray = (its ++ its2).toArray := by simp
  rw [ea]
  exact ⟨.ref _, _, I.lnew (t' := s.toks) (r.append r2) (by rw [List.length_append]; omega), rfl, q _ I.fresh⟩
end L2
namespace DL
open PySem L2
variable [TabL]
section
variable {F : Fam} {S S1 S2 S3 : ST} {e a b c : Expr} {d x y z : D} {pos p apos : Pos} {es : List Expr} {ds : List D} {k : Bool} {nm : Str} {P : Po} {rest : List Stmt}
theorem dt_chain {op op' : CmpOp} {w : D} {k l : Bool} (ha : DE F a S S1 x) (hb : DE F b S1 S2 y) (hc : k = true → DE F c S2 S3 w) (hr : OpD F (compareOp op) x y (.bl k)) (hr' : k = true → OpD F (compareOp op') y w (.bl l)) (h0 : k = false → S2 = S3 := by intro _; rfl) (hm : lastMarks [op, op'] [b, c] = false := by with_unfolding_all rfl) : DT F (.Compare a [op, op'] [b, c] pos) S S3 (k && l) := by
  obtain ⟨r, h1, h2⟩ := hr
  cases k with
  | true =>
    obtain ⟨r', h1', h2'⟩ := hr' rfl
    refine dt_of (fun i => pt_chain (h1 i) (h1' i) (anyE_ok i) (anyE_ok i) (anyE_ok i) (hm := hm)) fun σ G H c' Q q => ?_
    refine ha σ G H c' _ fun u G1 H1 m1 d1 => hb σ G1 H1 m1.cx _ fun v G2 H2 m2 d2 => h2 G2 H2 u v m2.cx.sub (d1.mono m2.go.gg) d2 _ fun t G3 H3 p d3 => ?_
    cases d3 with
    | bl =>
      refine ⟨true, rfl, ?_⟩
      rw [if_pos rfl]
      have m3 := (m1.trans m2).pu p
      refine hc rfl σ G3 H3 m3.cx _ fun t' G4 H4 m4 d4 => h2' G4 H4 v t' m4.cx.sub ((d2.mono p.gg).mono m4.go.gg) d4 _ fun w5 G5 H5 p5 d5 => ?_
      cases d5
      exact ⟨l, rfl, q _ _ ((m3.trans m4).pu p5)⟩
  | false =>
    cases h0 rfl
    refine dt_of (fun i => pt_chain (h1 i) (fun _ _ _ _ _ _ _ _ _ _ _ _ z => False.elim z : OpR (F.X i) (compareOp op') fun _ _ _ _ => False) (anyE_ok i) (anyE_ok i) (anyE_ok i) (hm := hm)) fun σ G H c' Q q => ?_
    refine ha σ G H c' _ fun u G1 H1 m1 d1 => hb σ G1 H1 m1.cx _ fun v G2 H2 m2 d2 => h2 G2 H2 u v m2.cx.sub (d1.mono m2.go.gg) d2 _ fun t G3 H3 p d3 => ?_
    cases d3 with
    | bl =>
      refine ⟨false, rfl, ?_⟩
      rw [if_neg Bool.false_ne_true]
      exact ⟨false, rfl, q _ _ ((m1.trans m2).pu p)⟩
theorem de_ixS {i : Int} {t : Str} {cc : Nat} (ha : DE F a S S1 (.str t)) (hb : DE F b S1 S2 (.int i)) (hl : t.length ≤ sizeLine) (hi : atI t.cps.toList i = some cc) (hs : PlainIx b := by intro _ _; rfl) : DE F (.Subscript a b pos) S S2 (.str ⟨#[cc]⟩) :=
  de_of (te := tOp rIxS (anyE F a) (anyE F b)) (fun j => pe_ix (pos := pos) (ix_str (X := F.X j)) (anyE_ok (e := a) j) (anyE_ok (e := b) j) hs)
    (ev_op (fun G H u v s hu hv Q q => by
      cases hu; cases hv
      exact ⟨t, i, cc, rfl, rfl, hl, hi, q _ _ _ (.refl s) (.str _)⟩) ha hb)
def anyO (F : Fam) (o : Option Expr) : TO := fun σ H Q => ∃ te, (∀ i, PO (F.X i) o te) ∧ te σ H Q
theorem anyO_ok {o : Option Expr} (i : F.I) : PO (F.X i) o (anyO F o) := ⟨fun pins s σ H Q I h => let ⟨te, h1, h2⟩ := h; (h1 i).run pins s σ H Q I h2⟩
def DOp (F : Fam) (o : Option Expr) (S S' : ST) (i : Option Int) : Prop := ∀ σ G H, Ctx F.C G H σ S → ∀ Q : Option Int → Hp → Prop, (∀ G2 H2, Mv F.C σ S G H S' G2 H2 → Q i H2) → anyO F o σ H Q
theorem do_none : DOp F none S S none := fun σ G H c Q q => ⟨tNoPart, fun _ => po_none, q G H (.refl c)⟩
theorem do_some {i : Int} (h : DE F e S S1 (.int i)) : DOp F (some e) S S1 (some i) := fun σ G H c Q q => ⟨tPart (anyE F e), fun l => po_some (anyE_ok l), h σ G H c _ fun v G1 H1 m dv => by cases dv; exact ⟨i, rfl, q G1 H1 m⟩⟩
def cutD (xs : List D) (lo hi : Option Int) : List D := (xs.drop (HT.sIx xs.length 0 lo)).take (HT.sIx xs.length xs.length hi - HT.sIx xs.length 0 lo)
theorem DenL.cut {C : Kc} {G : Hp} {vs : List V} {ds : List D} (h : DenL C G vs ds) (lo hi : Option Int) : DenL C G (cutV vs lo hi) (cutD ds lo hi) := by
  unfold cutV cutD
  rw [h.length]
  exact (h.drop _).take _
variable {lo hi : Option Expr} {l h : Option Int} {p2 : Pos}
theorem do_sliceL (ha : DE F e S S1 (.lst ds)) (hl : DOp F lo S1 S2 l) (hh : DOp F hi S2 S3 h) : DO F (.Subscript e (.Slice lo hi none p2) pos) S S3 (cutD ds l h) :=
  do_of (te := tSl (rSlL F.C.K) (anyE F e) (anyO F lo) (anyO F hi)) (fun i => by have := pe_slice (p2 := p2) (pos := pos) (sl_list (X := F.X i)) (anyE_ok (e := e) i) (anyO_ok (o := lo) i) (anyO_ok (o := hi) i); rw [F.hK i] at this; exact this) fun σ G H c Q q =>
    ha σ G H c _ fun v G1 H1 m1 dv => hl σ G1 H1 m1.cx _ fun G2 H2 m2 => hh σ G2 H2 m2.cx _ fun G3 H3 m3 => by
      cases dv with
      | @lst o vs _ h1 h2 =>
        have m := (m1.trans m2).trans m3
        refine ⟨o, vs, rfl, m3.cx.sub.seq (m3.go.gg.seq (m2.go.gg.seq h1)), fun p hp => ?_⟩
        have sm : Same H3 (upd H3 p (.lst (cutV vs l h))) := fun a u hh => by rw [upd_ne (ne_of_none hh hp)]; exact hh
        exact q p _ G3 _ (m.trans (m3.cx.mv (Same.kt sm) (fun _ _ h => h) (m3.cx.sub.trans sm) fun _ _ h => h)) (back_none m.go hp) (m3.cx.sub.free hp) upd_same (((h2.mono m2.go.gg).mono m3.go.gg).cut l h)
theorem de_sliceL (ha : DE F e S S1 (.lst ds)) (hl : DOp F lo S1 S2 l) (hh : DOp F hi S2 S3 h) : DE F (.Subscript e (.Slice lo hi none p2) pos) S S3 (.lst (cutD ds l h)) := de_do (do_sliceL ha hl hh)
theorem de_sliceT (ha : DE F e S S1 (.tup ds)) (hl : DOp F lo S1 S2 l) (hh : DOp F hi S2 S3 h) : DE F (.Subscript e (.Slice lo hi none p2) pos) S S3 (.tup (cutD ds l h)) :=
  de_of (te := tSl (rSlA F.C.K) (anyE F e) (anyO F lo) (anyO F hi)) (fun i => by have := pe_slice (p2 := p2) (pos := pos) (sl_tupA (X := F.X i)) (anyE_ok (e := e) i) (anyO_ok (o := lo) i) (anyO_ok (o := hi) i); rw [F.hK i] at this; exact this) fun σ G H c Q q =>
    ha σ G H c _ fun v G1 H1 m1 dv => hl σ G1 H1 m1.cx _ fun G2 H2 m2 => hh σ G2 H2 m2.cx _ fun G3 H3 m3 => by
      cases dv with
      | @tup o vs _ h1 h2 =>
        have m := (m1.trans m2).trans m3
        have h1' := same_t m3.go.gg (same_t m2.go.gg h1)
        have h2' := (h2.mono m2.go.gg).mono m3.go.gg
        refine ⟨o, vs, rfl, same_t m3.cx.sub h1', fun w => ?_, fun _ p hp => ?_⟩
        · have e : cutV vs l h = vs := by unfold cutV; rw [w.1, w.2]; simp
          have := h2'.cut l h
          rw [e] at this
          exact q _ _ _ m (.tup h1' this)
        · have pn := m3.cx.pu (Pu.new (o := .tup (cutV vs l h)) m3.cx.sub hp)
          exact q _ _ _ (m.trans pn) (.tup (SqT.of upd_same) ((h2'.cut l h).mono pn.go.gg))
theorem de_sliceS {t : Str} (ha : DE F e S S1 (.str t)) (hl : DOp F lo S1 S2 l) (hh : DOp F hi S2 S3 h) (hz : t.length ≤ sizeLine) : DE F (.Subscript e (.Slice lo hi none p2) pos) S S3 (.str (cutS t l h)) :=
  de_of (te := tSl rSlS (anyE F e) (anyO F lo) (anyO F hi)) (fun i => pe_slice (p2 := p2) (pos := pos) (sl_str (X := F.X i)) (anyE_ok (e := e) i) (anyO_ok (o := lo) i) (anyO_ok (o := hi) i)) fun σ G H c Q q =>
    ha σ G H c _ fun v G1 H1 m1 dv => hl σ G1 H1 m1.cx _ fun G2 H2 m2 => hh σ G2 H2 m2.cx _ fun G3 H3 m3 => by
      cases dv
      exact ⟨t, rfl, hz, q _ _ _ ((m1.trans m2).trans m3) (.str _)⟩
theorem od_addS {i j : Str} (h : i.length + j.length ≤ sizeLine) : OpD F (binaryOp .Add) (.str i) (.str j) (.str (i ++ j)) := ⟨_, fun _ => op_add_str, fun G H u v s hu hv Q q => by
  cases hu; cases hv
  exact ⟨i, j, rfl, rfl, h, q _ _ _ (.refl s) (.str _)⟩⟩
theorem od_catT {xs ys : List D} (h : xs.length + ys.length ≤ sizeLine) : OpD F (binaryOp .Add) (.tup xs) (.tup ys) (.tup (xs ++ ys)) :=
  ⟨rCatA F.C.K, fun i => by have := op_catA (X := F.X i); rw [F.hK i] at this; exact this, fun G H u v s hu hv Q q => by
    cases hu with
    | @tup a vs _ h1 h2 => cases hv with
      | @tup b ws _ h3 h4 =>
        refine ⟨a, b, vs, ws, rfl, rfl, same_t s h1, same_t s h3, by rw [h2.length, h4.length]; exact h, fun e => ?_, fun _ e => ?_, fun _ _ p hp => ?_⟩
        · subst e
          cases h2
          exact q _ _ _ (.refl s) (.tup h3 h4)
        · subst e
          cases h4
          exact q _ _ _ (.refl s) (by rw [List.append_nil]; exact .tup h1 h2)
        · exact q _ _ _ (Pu.new s hp) (.tup (SqT.of upd_same) ((h2.append h4).mono (Pu.new s hp).gg))⟩
theorem od_catL {xs ys : List D} (h : xs.length + ys.length ≤ sizeLine) : OpD F (binaryOp .Add) (.lst xs) (.lst ys) (.lst (xs ++ ys)) :=
  ⟨rCatK F.C.K, fun i => by have := op_catK (X := F.X i); rw [F.hK i] at this; exact this, fun G H u v s hu hv Q q => by
    cases hu with
    | @lst a vs _ h1 h2 => cases hv with
      | @lst b ws _ h3 h4 =>
        exact ⟨a, b, vs, ws, rfl, rfl, s.seq h1, s.seq h3, by rw [h2.length, h4.length]; exact h, fun p hp => q _ _ _ (Pu.new s hp) (.lst (SqL.of upd_same) ((h2.append h4).mono (Pu.new s hp).gg))⟩⟩
end
end DL
namespace DL
open PySem L2
variable [TabL]
def spLaw (K : PySem.W.Frag) : Sp := fun vs H Q _ => ∃ (a : Addr) (ns : List Int), vs = [.ref a] ∧ ns.length ≤ 63 ∧ NdefX.TabsN TabL.T H ∧ SqL K H a (ns.map V.int) ∧ ∀ H', Q (.bl true) H'
theorem tabs_nil (h : TabL.T = []) (H : Hp) : NdefX.TabsN TabL.T H := by rw [h]; exact fun _ z => absurd z List.not_mem_nil
def noTab (H : Hp) : Hp := fun a => if (TabL.T.map (·.1)).contains a = true then none else H a
theorem noTab_sub {H : Hp} (t : NdefX.TabsN TabL.T H) : Sub (noTab H) H := ⟨fun a o h => by
  unfold noTab at h
  split at h
  · cases h
  · exact h, t, fun p hp => by
  unfold noTab
  rw [if_pos (by rw [List.contains_iff_mem]; exact List.mem_map.mpr ⟨p, hp, rfl⟩)]⟩
theorem noTab_at {H : Hp} (t : NdefX.TabsN TabL.T H) {a : Addr} {o : HO} (h : H a = some o) (n : NT o) : noTab H a = some o := by
  unfold noTab
  rw [if_neg fun z => ?_]
  · exact h
  · rw [List.contains_iff_mem] at z
    obtain ⟨p, hp, e⟩ := List.mem_map.mp z
    exact tabs_ne t h n p hp e
theorem noTab_seq {K : PySem.W.Frag} {H : Hp} (t : NdefX.TabsN TabL.T H) {a : Addr} {xs : List V} (h : SqL K H a xs) : SqL K (noTab H) a xs := by
  rcases h with (h | ⟨o, h⟩) | h
  · exact .inl (.inl (noTab_at t h nt_lst))
  · exact .inl (.inr ⟨o, noTab_at t h fun _ z => nomatch z⟩)
  · exact .inr h
theorem denL_ints {C : Kc} {G : Hp} : ∀ ns : List Int, DenL C G (ns.map V.int) (ns.map D.int)
  | [] => .nil
  | n :: ns => .cons (.int n) (denL_ints ns)
section
variable {P : Program} {w : World} {C : Kc} {mg : Str → Option Value} {base : Heap} {f : Addr} {fd : FuncData} {k : Nat} {ps : List Str}
variable {x qual : Str} {st : Stmt} {sp : Sp}
theorem cal_mk (ok : FnOk P w C.K mg base CX0 k f fd ps sp) (F : Fun C.K x qual st f fd) (b : Binds C.K fd ps []) (hm : mg x = some (.ref f)) : Cal P w C mg base k x sp := ⟨f, fd, ps, ok, hm, F.kp, b⟩
end
end DL
namespace DL
open PySem L2
variable [TabL]
section
variable {F : Fam} {S S1 S2 S3 : ST} {e a b c : Expr} {d x y z : D} {pos p apos : Pos} {es : List Expr} {ds : List D} {k : Nat} {nm : Str} {P : Po} {rest : List Stmt} {cn : Nat} {fs : List (Str × D)} {R : List D → D → Prop}
theorem od_eqS {i j : Str} : OpD F (compareOp .Eq) (.str i) (.str j) (.bl (decide (i = j))) := ⟨_, fun _ => op_eq, fun G H u v s hu hv Q q => by
  cases hu; cases hv
  refine ⟨rfl, ?_⟩
  have e : decide (V.str i = V.str j) = decide (i = j) := by
    by_cases h : i = j
    · rw [decide_eq_true h, decide_eq_true (by rw [h])]
    · rw [decide_eq_false h, decide_eq_false (by intro z; exact h (V.str.inj z))]
  rw [e]
  exact q _ _ _ (.refl s) (.bl _)⟩
theorem od_neS {i j : Str} : OpD F (compareOp .NotEq) (.str i) (.str j) (.bl (!decide (i = j))) := ⟨_, fun _ => op_ne, fun G H u v s hu hv Q q => by
  cases hu; cases hv
  refine ⟨rfl, ?_⟩
  have e : decide (V.str i = V.str j) = decide (i = j) := by
    by_cases h : i = j
    · rw [decide_eq_true h, decide_eq_true (by rw [h])]
    · rw [decide_eq_false h, decide_eq_false (by intro z; exact h (V.str.inj z))]
  rw [e]
  exact q _ _ _ (.refl s) (.bl _)⟩
theorem ca_strI {i : Int} (h : i.natAbs.log2 < 1920) : CaD F (.type "str") [.int i] (.str (toString i)) := ⟨_, fun _ => call_str_int, fun G H us s hl Q q => by
  cases hl with
  | cons h1 l => cases h1; cases l; exact ⟨i, rfl, h, q _ _ _ (.refl s) (.str _)⟩⟩
theorem run_in2 {X : Cx} {pins : List (Addr × Obj)} {σ : L2.St} {H : Hp} {s : Shared} {Q : VK} {us : List Value} {vs : List V} {f : Addr} {fd : FuncData} {ps : List Str} {sp : Sp} (G : FnOk X.prog X.w X.K X.mg X.base CX0 k f fd ps sp) (hr : Room (k + 2) X.A) (hb : Binds X.K fd ps []) (I : Inv X pins σ H s) (r : Vals vs us) (h : sp vs H Q E0) :
    wpAny (model X.prog X.w) X.A.in1.in1 (call (.ref f) us) (EP X pins σ Q) X.xe s := by
  have hl : (us ++ []).length = ps.length := by rw [List.append_nil, ← r.length]; exact G.len _ _ _ _ h
  refine wpAny_call (codeAny_mono (G.run X.A.in1.in1 X.stack s H ⟨us, []⟩ us vs Q E0 hr.in1.in1 I.env0.in1.in1 (by have := hb s us I.kIn hl; rw [List.append_nil] at this; exact this) r h) fun r s' hq => ?_)
  cases r with
  | error e => exact hq.elim
  | ok fl =>
    cases fl with
    | ret u => exact I.after hq
    | next => exact False.elim hq
    | brk => exact False.elim hq
    | cont => exact False.elim hq
theorem ca_strO [Calm F] {t : Str} (mt : Met F.P F.w F.C F.mg F.base k cn "__str__" (spP F.C R)) (hk : k + 2 ≤ F.k) (hR : R [.obj cn fs] (.str t)) : CaD F (.type "str") [.obj cn fs] (.str t) := by
  obtain ⟨f, fd, ps, G, hc, hme, hb⟩ := mt
  refine ⟨fun xs H Q => ∃ a dx vs, xs = [.ref a] ∧ H a = some (.ins (F.C.cl cn) dx vs) ∧ spP F.C R [.ref a] H (fun v H' => ∃ b, v = .str b ∧ Q (.str b) H') E0, fun l => ?_, fun G H us s hu Q q => ?_⟩
  · intro pins s σ H xs us Q I rx h
    obtain ⟨a, dx, vs, rfl, ha, hsp⟩ := h
    cases rx with
    | cons r0 r1 =>
      cases r1
      cases r0
      obtain ⟨od, J⟩ := inst_of I ha
      refine PySem.W.kso_call ((F.room l).mono hk).in1.in1.units0 I.kIn J (by rw [F.hK l]; exact hme.at_) (by rw [F.hK l]; exact hme.fn) ?_
      refine wpAny_mono (run_in2 (vs := [.ref a]) (fn_at G) ((F.room l).mono hk) (by rw [F.hK l]; exact hb) I (.cons rfl .nil) hsp) (fun w s' hw => ?_) fun _ _ e => e
      obtain ⟨w', H', I', rw', b, rfl, q⟩ := hw
      obtain ⟨tk, rfl⟩ := rw'
      exact ⟨.str b, H', I', ⟨tk, rfl⟩, q⟩
  · cases hu with
    | cons h0 l0 =>
      have h0' := h0
      cases l0
      cases h0 with
      | obj _ h1 h2 => exact ⟨_, _, _, rfl, s _ _ h1, G, _, _, hR, s, .cons h0' .nil, fun v G2 H2 p dv => by cases dv; exact ⟨t, rfl, q _ _ _ p (.str _)⟩⟩
theorem de_fmtI {i : Int} (h : DE F e S S1 (.int i)) (hz : i.natAbs.log2 < 1920) : DE F (.FormattedValue e (-1) none pos) S S1 (.str (toString i)) :=
  de_of (te := tFmt (anyE F e)) (fun l => pe_fmt (anyE_ok l)) fun σ G H c Q q => h σ G H c _ fun v G1 H1 m dv => by cases dv; exact .inr ⟨i, rfl, hz, q _ _ _ m (.str _)⟩
theorem de_fmtS {t : Str} (h : DE F e S S1 (.str t)) (hz : t.length ≤ sizeLine) : DE F (.FormattedValue e (-1) none pos) S S1 (.str t) :=
  de_of (te := tFmt (anyE F e)) (fun l => pe_fmt (anyE_ok l)) fun σ G H c Q q => h σ G H c _ fun v G1 H1 m dv => by cases dv; exact .inl ⟨t, rfl, hz, q _ _ _ m (.str _)⟩
def DJ (F : Fam) (es : List Expr) (acc : Str) (S S' : ST) (out : Str) : Prop := ∀ σ G H, Ctx F.C G H σ S → ∀ Q : Str → Hp → Prop, (∀ G2 H2, Mv F.C σ S G H S' G2 H2 → Q out H2) → tJs (es.map (anyE F)) acc σ H Q
theorem dj_nil {acc : Str} : DJ F [] acc S S acc := fun σ G H c Q q => q G H (.refl c)
theorem dj_cons {acc t out : Str} (h : DE F e S S1 (.str t)) (hz : (acc ++ t).length ≤ sizeLine) (hr : DJ F es (acc ++ t) S1 S2 out) : DJ F (e :: es) acc S S2 out := fun σ G H c Q q =>
  h σ G H c _ fun v G1 H1 m dv => by
    cases dv
    exact ⟨t, rfl, hz, hr σ G1 H1 m.cx Q fun G2 H2 m2 => q G2 H2 (m.trans m2)⟩
theorem pj_any (i : F.I) : ∀ es : List Expr, PJ (F.X i) es (es.map (anyE F))
  | [] => .nil
  | _ :: es => .cons (anyE_ok i) (pj_any i es)
theorem de_join {v1 v2 : Expr} {out : Str} (h : DJ F (v1 :: v2 :: es) Str.empty S S1 out) : DE F (.JoinedStr (v1 :: v2 :: es) pos) S S1 (.str out) :=
  de_of (fun i => pe_joined (pj_any i (v1 :: v2 :: es))) fun σ G H c Q q => h σ G H c _ fun G2 H2 m => q _ _ _ m (.str _)
theorem dg_lst {tgs : List Expr} {kk : Nat} {js : List Nat} (h : DGs F tgs ds S S1 js) (hp : ∀ i, PG (F.X i) (.Tuple tgs kk pos) (gLst (F.X i).K ds.length (anyGs F tgs)) := by intro i; exact pg_lst (Fam.calm _ i) (anyGs_ok i)) : DG F (.Tuple tgs kk pos) (.lst ds) S S1 js := fun σ G H v c dv Q q =>
  ⟨gLst F.C.K ds.length (anyGs F tgs), fun i => by have := hp i; rw [F.hK i] at this; exact this, by
    cases dv with
    | lst h1 h2 => exact ⟨_, _, rfl, c.sub.seq h1, h2.length, h σ G H _ c h2 Q q⟩⟩
end
end DL
namespace DL
open PySem PySem.Spec PyProof.Rows L2
variable [TabL]
structure FnG (P : Program) (w : World) (K : PySem.W.Frag) (mg : Str → Option Value) (base : Heap) (k : Nat) (f : Addr) (fd : FuncData) (ps : List Str) (sp : Sp) : Prop where
  size : ∀ vs H Q E, sp vs H Q E → vs.length = ps.length
  runs : ∀ (A : Around), Room k A → A.guards = some [] → ∀ (outer : List Env) (s : Shared) (H : Hp), Env0 P w K mg base A outer s H → ∀ (args : Args) (us : List Value), BindsTo s fd args (ps.zip us) → ∀ (vs : List V) (Q : VK) (E : XK), Vals vs us → sp vs H Q E → codeAny (model P w) A (.call (.ref f) args) (CR CX0 outer P w H s Q E) s
section
variable {P : Program} {w : World} {K : PySem.W.Frag} {mg : Str → Option Value} {base : Heap} {k : Nat} {f : Addr} {fd : FuncData} {ps : List Str} {sp sp' : Sp}
theorem FnG.of (F : FnOk P w K mg base CX0 k f fd ps sp) : FnG P w K mg base k f fd ps sp := ⟨F.len, fun A hr _ outer s H e args us b vs Q E r q => F.run A outer s H args us vs Q E hr e b r q⟩
theorem FnG.imp (F : FnG P w K mg base k f fd ps sp) (h : ∀ vs H Q E, sp' vs H Q E → sp vs H Q E) : FnG P w K mg base k f fd ps sp' := ⟨fun vs H Q E q => F.size vs H Q E (h _ _ _ _ q), fun A hr hA outer s H e args us b vs Q E r q => F.runs A hr hA outer s H e args us b vs Q E r (h _ _ _ _ q)⟩
theorem okG {x qual : Str} {st : Stmt} {N : List Str} (F : Fun K x qual st f fd) (Sc : FnScope N ps (defScope st)) (len : ∀ vs H Q E, sp vs H Q E → vs.length = ps.length)
    (hbody : ∀ (cdv : Value) (A : Around) (outer : List Env) (s : Shared) (H : Hp) (vs : List V) (Q : VK) (E : XK), Room k (A.deeper (PyProof.Rows.envOfC qual (defScope st) s.heap.objs.size f cdv)) → (A.guards = some [] ∧ fd.code = cdv) → sp vs H Q E →
      ∃ t, PSs (cxOf CX0 P w K mg base N qual (defScope st) f cdv A outer s H E).nox (defBody st) t ∧ t { nx := fun _ H' => Q .non H', rt := Q } (L2.start N vs) H) : FnG P w K mg base (k + 1) f fd ps sp := by
  obtain ⟨oc, od, kV, doc, pm, an, cdv, ct, osl, rfl, lk, hcd⟩ := F.ex
  refine ⟨len, fun A hr hA outer s H en args us b vs Q E r q => ?_⟩
  have kept : ∀ a o, base.get? a = some o → s.heap.get? a = some o := fun a o h => (en.bs a o h).1
  have hK : K.In s.heap := en.mod.kin.keeps kept
  refine codeAny_call_function hr.depth (hK _ _ lk) rfl Sc.co Sc.gen rfl (PySem.W.codeRec_of hK hcd) (b _ _ _ _ ?_)
  refine wpAny_newFunctionEnv_cells Sc.kind ?_ ?_
  · rintro ⟨n, v⟩ hy
    exact (Sc.par n (List.of_mem_zip hy).1).imp id fun c => ⟨c, PySem.W.cellsFrom_some _ _ _ (.inl c)⟩
  · rintro env rfl s1 x1
    refine ⟨(en.mod.nolimit.keeps kept).keeps x1.toInCall.keep, codeAny_func ?_⟩
    obtain ⟨t, h1, h2⟩ := hbody cdv A outer s H vs Q E (hr.deeper _) ⟨hA, rfl⟩ q
    have J0 := inv_start (CX := CX0) (E := E) Sc hr.hd en (len _ _ _ _ q) r x1
    refine wpAny_mono (h1.nox.run [] s1 (L2.start N vs) H _ J0 h2) (fun fl s2 z => ?_) fun _ _ z => z
    cases fl with
    | next => obtain ⟨_, H2, J, z⟩ := z; exact ⟨.non, H2, J.os, J.bare, J.base, J.hok, rfl, z⟩
    | ret u => obtain ⟨v, _, H2, J, rv, z⟩ := z; exact ⟨v, H2, J.os, J.bare, J.base, J.hok, rv, z⟩
    | brk => obtain ⟨_, _, _, z⟩ := z; exact z.elim
    | cont => obtain ⟨_, _, _, z⟩ := z; exact z.elim
theorem run_fnG {X : Cx} {pins : List (Addr × Obj)} {σ : L2.St} {H : Hp} {s : Shared} {Q : VK} {us : List Value} {vs : List V} (hA : X.A.guards = some []) (F : FnG X.prog X.w X.K X.mg X.base k f fd ps sp) (hr : Room k X.A) (hb : Binds X.K fd ps []) (I : Inv X pins σ H s) (r : Vals vs us) (h : sp vs H Q E0) :
    wpAny (model X.prog X.w) X.A (call (.ref f) us) (EP X pins σ Q) X.xe s := by
  have hl : (us ++ []).length = ps.length := by rw [List.append_nil, ← r.length]; exact F.size _ _ _ _ h
  have bd := hb s us I.kIn hl
  rw [List.append_nil] at bd
  refine wpAny_call (codeAny_mono (F.runs X.A hr hA X.stack s H I.env0 ⟨us, []⟩ us bd vs Q E0 r h) fun z s2 hz => ?_)
  cases z with
  | error _ => exact hz.elim
  | ok fl => cases fl with
    | ret _ => exact I.after hz
    | next => exact hz.elim
    | brk => exact hz.elim
    | cont => exact hz.elim
theorem pe_callG {X : Cx} {x : Str} {p pos : Pos} {e : Expr} {es : List Expr} {t : TA} (hA : X.A.guards = some []) (F : FnG X.prog X.w X.K X.mg X.base k f fd ps sp) (hr : Room k X.A) (hg : Gl X x) (hm : X.mg x = some (.ref f)) (hk : PySem.W.keepIn X.K (.ref f) = true) (hb : Binds X.K fd ps []) (_ : Vals ([] : List V) []) (_ : True) (ha : PA X (e :: es) t)
    (hdb : (x == ("__debug__" : Str)) = false) (he : starEach (e :: es) X.env = (false, eval e X.env) :: starEach es X.env) (hpl : (backTo pos (starEach es X.env)).any (·.1) = false) : PE X (.Call (.Name x p) (e :: es) [] pos) (tCall sp [] E0 t) :=
  ⟨fun pins s σ H Q I h => wpAny_Call_Name_kw (ld_glob I hg hm (PySem.W.callWith_K (h₀ := X.base) I.ok.mod.kin hk (thn (ha.run pos pins s σ H _ I h) fun us s1 ⟨vs, H1, I1, r, q⟩ => ⟨I1.kIn, run_fnG hA F hr hb I1 r (by have q1 : sp (vs ++ []) H1 Q E0 := q; rw [List.append_nil] at q1; exact q1)⟩) he hpl) hdb)⟩
end
def CalG (P : Program) (w : World) (C : Kc) (mg : Str → Option Value) (base : Heap) (k : Nat) (x : Str) (sp : Sp) : Prop := ∃ f fd ps, FnG P w C.K mg base k f fd ps sp ∧ mg x = some (.ref f) ∧ PySem.W.keepIn C.K (.ref f) = true ∧ Binds C.K fd ps []
section
variable {F : Fam} {S S1 S2 S3 : ST} {e a b : Expr} {d x y z : D} {pos p apos : Pos} {es : List Expr} {ds : List D} {k : Nat} {nm : Str}
theorem fn_atG {i : F.I} {f : Addr} {fd : FuncData} {ps : List Str} {sp : Sp} (G : FnG F.P F.w F.C.K F.mg F.base k f fd ps sp) : FnG (F.X i).prog (F.X i).w (F.X i).K (F.X i).mg (F.X i).base k f fd ps sp := by
  rw [F.hP, F.hw, F.hK, F.hmg, F.hbase]; exact G
theorem de_callG [Calm F] (hG : ∀ i, (F.X i).A.guards = some []) {R : List D → D → Prop} (c : CalG F.P F.w F.C F.mg F.base k nm (spP F.C R)) (ha : DA F (e :: es) S S1 ds) (hR : R ds d) (hk : k ≤ F.k := by exact Nat.le_of_ble_eq_true rfl)
    (hg : ∀ i, Gl (F.X i) nm := by intro _; rfl) (hdb : (nm == ("__debug__" : Str)) = false := by decide)
    (he : ∀ i, starEach (e :: es) (F.X i).env = (false, eval e (F.X i).env) :: starEach es (F.X i).env := by intro _; rfl) (hpl : ∀ i, (backTo pos (starEach es (F.X i).env)).any (·.1) = false := by intro _; rfl) : DE F (.Call (.Name nm p) (e :: es) [] pos) S S1 d := by
  obtain ⟨f, fd, ps, G, hm, hkp, hb⟩ := c
  refine de_of (te := tCall (spP F.C R) [] E0 (anyA F (e :: es))) (fun i => pe_callG (hG i) (fn_atG G) ((F.room i).mono hk) (hg i) (by rw [F.hmg i]; exact hm) (by rw [F.hK i]; exact hkp) (by rw [F.hK i]; exact hb) .nil trivial (anyA_ok i) hdb (he i) (hpl i)) ?_
  intro σ G H cx Q q
  refine ha σ G H cx _ fun vs G1 H1 m dl => ?_
  rw [List.append_nil]
  exact ⟨G1, ds, d, hR, m.cx.sub, dl, fun v G2 H2 p dv => q v G2 H2 (m.pu p) dv⟩
theorem de_callNewG [Calm F] (hG : ∀ i, (F.X i).A.guards = some []) {R : List D → List D → D → List D → Prop} {gs gs' : List D} (c : CalG F.P F.w F.C F.mg F.base k nm (spB F.C R)) (ha : DO F e S S1 gs) (hR : R [] gs d gs') (hk : k ≤ F.k := by exact Nat.le_of_ble_eq_true rfl)
    (hg : ∀ i, Gl (F.X i) nm := by intro _; rfl) (hdb : (nm == ("__debug__" : Str)) = false := by decide)
    (he : ∀ i, starEach [e] (F.X i).env = (false, eval e (F.X i).env) :: starEach [] (F.X i).env := by intro _; rfl) (hpl : ∀ i, (backTo pos (starEach [] (F.X i).env)).any (·.1) = false := by intro _; rfl) : DE F (.Call (.Name nm p) [e] [] pos) S S1 d := by
  obtain ⟨f, fd, ps, G, hm, hkp, hb⟩ := c
  refine de_of (te := tCall (spB F.C R) [] E0 (tCons (anyE F e) tNil)) (fun i => pe_callG (hG i) (fn_atG G) ((F.room i).mono hk) (hg i) (by rw [F.hmg i]; exact hm) (by rw [F.hK i]; exact hkp) (by rw [F.hK i]; exact hb) .nil trivial (pa_cons (anyE_ok i) pa_nil (he i)) hdb (he i) (hpl i)) ?_
  intro σ G H cx Q q
  refine ha σ G H cx _ fun p vs G1 H1 m hp g1 h1 dl => ?_
  have nOA : ¬ OA F.C σ S1 p := fun z => by
    rcases m.oa p z with ⟨j, es, r1, r2⟩ | ⟨o, r⟩
    · obtain ⟨a, ws, q1, _, q3, _⟩ := cx.ow j es r1
      rw [r2] at q1; cases q1; rw [hp] at q3; cases q3
    · have z := cx.bag
      rw [r] at z
      cases o with
      | lst => obtain ⟨_, _, h3, _⟩ := z; rw [hp] at h3; cases h3
      | ins => obtain ⟨_, _, _, h3, _⟩ := z; rw [hp] at h3; cases h3
      | xd => obtain ⟨_, _, h3, _⟩ := z; rw [hp] at h3; cases h3
  refine ⟨G1, p, [], vs, [], gs, d, gs', rfl, hR, m.cx.sub, g1, h1, dl, .nil, fun v G2 H2 gv' go sub g2 h2 dl' dv => ?_⟩
  refine q v G2 H2 ⟨⟨fun a o n nt h => ?_, m.go.gg.trans go.gg, fun a n h g => ?_, fun a h => go.dom a (m.go.dom a h), fun t => go.tb (m.go.tb t)⟩, ?_, m.oa⟩ dv
  · have na : a ≠ p := fun z => by rw [z, hp] at h; cases h
    exact go.keep a o na nt (m.go.keep a o n nt h)
  · have na : a ≠ p := fun z => h.ne (by rw [z]; exact hp)
    exact go.fr a na (m.go.up n h) (m.go.fr a n h g)
  · have c1 := m.cx
    have nb : ∀ o, S1.g ≠ some (p, o) := fun o r => nOA (.inr ⟨o, r⟩)
    refine ⟨sub, c1.len, fun i d h => ?_, fun i es h => ?_, c1.apart, c1.bg, ?_, c1.nob⟩
    · obtain ⟨v, h1, h2⟩ := c1.im i d h
      exact ⟨v, h1, h2.mono go.gg⟩
    · obtain ⟨a, ws, r1, r2, r3, r4⟩ := c1.ow i es h
      have na : a ≠ p := fun z => nOA (.inl ⟨i, es, h, by rw [← z]; exact r1⟩)
      exact ⟨a, ws, r1, go.fr a na (.inl ⟨_, r3, r4.nt, r4.nc⟩) r2, go.keep a _ na r4.nt r3, r4.mono go.gg⟩
    · have z := c1.bag
      cases r : S1.g with
      | none => trivial
      | some bo =>
        obtain ⟨b, o⟩ := bo
        have nq : b ≠ p := fun e => nb o (by rw [r, e])
        rw [r] at z
        cases o with
        | lst es => obtain ⟨h1, ws, h2, h3⟩ := z; exact ⟨go.fr b nq (.inl ⟨_, h2, nt_lst, nc_lst⟩) h1, ws, go.keep b _ nq nt_lst h2, h3.mono go.gg⟩
        | ins cc fs => obtain ⟨h1, dx, ws, h2, h3⟩ := z; exact ⟨go.fr b nq (.inl ⟨_, h2, nt_ins, nc_ins⟩) h1, dx, ws, go.keep b _ nq nt_ins h2, h3.mono go.gg⟩
        | xd es => obtain ⟨h1, ws, h2, h3⟩ := z; exact ⟨go.fr b nq (.inl ⟨_, h2, nt_xd, nc_xd⟩) h1, ws, go.keep b _ nq nt_xd h2, h3.mono go.gg⟩
end
section
variable {P : Program} {w : World} {C : Kc} {mg : Str → Option Value} {base : Heap}
theorem fnPG {x qual : Str} {st : Stmt} {f : Addr} {fd : FuncData} {N ps : List Str} {k : Nat} {R : List D → D → Prop} (F : Fun C.K x qual st f fd) (Sc : FnScope N ps (defScope st)) (len : ∀ ds d, R ds d → ds.length = ps.length)
    (body : ∀ ds d, R ds d → ∀ cdv A outer s H E hr, (A.guards = some [] ∧ fd.code = cdv) → DS (famD C mg base N Sc.nd qual (defScope st) f cdv A outer s H E k hr) (defBody st) ⟨start N ds, none⟩ { rt := fun d' _ => d' = d, nx := fun _ => d = .non }) : FnG C.P C.w C.K mg base (k + 1) f fd ps (spP C R) := by
  refine okG F Sc (fun vs H Q E h => ?_) (fun cdv A outer s H vs Q E hr hA h => ?_)
  · obtain ⟨G, ds, d, hR, _, dl, _⟩ := h
    rw [dl.length]; exact len ds d hR
  · obtain ⟨G, ds, d, hR, sub, dl, q⟩ := h
    refine ⟨_, anyS_ok (F := famD C mg base N Sc.nd qual (defScope st) f cdv A outer s H E k hr) (), ?_⟩
    have key : ∀ σ2 S2 G2 H2, Mw C (L2.start N vs) ⟨start N ds, none⟩ G H σ2 S2 G2 H2 → Pu G H G2 H2 := fun σ2 S2 G2 H2 m =>
      ⟨⟨fun a o nt h => m.go.keep a o (oa_start dl a) nt h, m.go.dom, m.go.tb⟩, m.go.gg, m.cx.sub, fun a h1 h2 => m.go.fr a (oa_start dl a) h1 h2⟩
    refine body ds d hR cdv A outer s H E hr hA (L2.start N vs) G H (ctx_start sub dl) _ ⟨fun σ2 S2 G2 H2 m e => ?_, fun v d' σ2 S2 G2 H2 m dv e => ?_, fun _ _ _ _ _ e => e.elim, fun _ _ _ _ _ e => e.elim, fun _ _ _ _ _ _ _ _ _ _ _ _ e => e.elim, fun _ _ _ _ _ _ _ _ _ _ _ _ _ e => e.elim⟩
    · exact q .non G2 H2 (key _ _ _ _ m) (by rw [e]; exact .non)
    · cases e
      exact q v G2 H2 (key _ _ _ _ m) dv
theorem fnBG {x qual : Str} {st : Stmt} {f : Addr} {fd : FuncData} {n : Str} {N ps : List Str} {k : Nat} {R : List D → List D → D → List D → Prop} (F : Fun C.K x qual st f fd) (Sc : FnScope (n :: N) ps (defScope st)) (len : ∀ ds gs d gs', R ds gs d gs' → ds.length + 1 = ps.length)
    (body : ∀ ds gs d gs', R ds gs d gs' → ∀ b cdv A outer s H E hr, (A.guards = some [] ∧ fd.code = cdv) → DS (famD C mg base (n :: N) Sc.nd qual (defScope st) f cdv A outer s H E k hr) (defBody st) ⟨startB (n :: N) ds, some (b, .lst gs)⟩
      { rt := fun d' S => d' = d ∧ S.g = some (b, .lst gs'), nx := fun S => d = .non ∧ S.g = some (b, .lst gs') }) : FnG C.P C.w C.K mg base (k + 1) f fd ps (spB C R) := by
  refine okG F Sc (fun vs H Q E h => ?_) (fun cdv A outer s H vs Q E hr hA h => ?_)
  · obtain ⟨G, b, ws, gv, ds, gs, d, gs', rfl, hR, _, _, _, _, dl, _⟩ := h
    rw [List.length_cons, dl.length]; exact len ds gs d gs' hR
  · obtain ⟨G, b, ws, gv, ds, gs, d, gs', rfl, hR, sub, gb, hb, dg, dl, q⟩ := h
    refine ⟨_, anyS_ok (F := famD C mg base (n :: N) Sc.nd qual (defScope st) f cdv A outer s H E k hr) (), ?_⟩
    have fin : ∀ v σ2 S2 G2 H2, Mw C (L2.start (n :: N) (.ref b :: ws)) ⟨startB (n :: N) ds, some (b, .lst gs)⟩ G H σ2 S2 G2 H2 → S2.g = some (b, .lst gs') → Den C G2 v d → Q v H2 := fun v σ2 S2 G2 H2 m e dv => by
      have z := m.cx.bag
      rw [e] at z
      obtain ⟨z1, gv', z2, z3⟩ := z
      exact q v G2 H2 gv' (m.go.mono fun a => oa_startB dl a) m.cx.sub z1 z2 z3 dv
    refine body ds gs d gs' hR b cdv A outer s H E hr hA _ G H (ctx_startB sub dl ⟨gb, gv, hb, dg⟩) _ ⟨fun σ2 S2 G2 H2 m e => ?_, fun v d' σ2 S2 G2 H2 m dv e => ?_, fun _ _ _ _ _ e => e.elim, fun _ _ _ _ _ e => e.elim, fun _ _ _ _ _ _ _ _ _ _ _ _ e => e.elim, fun _ _ _ _ _ _ _ _ _ _ _ _ _ e => e.elim⟩
    · exact fin .non _ _ _ _ m e.2 (by rw [e.1]; exact .non)
    · exact fin v _ _ _ _ m e.2 (e.1 ▸ dv)
theorem calG_mk {f : Addr} {fd : FuncData} {k : Nat} {ps : List Str} {x qual : Str} {st : Stmt} {sp : Sp} (ok : FnG P w C.K mg base k f fd ps sp) (F : Fun C.K x qual st f fd) (b : Binds C.K fd ps []) (hm : mg x = some (.ref f)) : CalG P w C mg base k x sp := ⟨f, fd, ps, ok, hm, F.kp, b⟩
theorem law_ofG {f : Addr} {fd : FuncData} {k : Nat} {ps : List Str} {R : List D → D → Prop} (h : FnG P w C.K mg base k f fd ps (spP C R)) (hR : ∀ is : List Int, is.length ≤ 63 → R [.lst (is.map D.int)] (.bl true)) : FnG P w C.K mg base k f fd ps (spLaw C.K) :=
  h.imp fun vs H Q E ⟨a, ns, e, hl, hT, hS, q⟩ => ⟨noTab H, _, _, hR ns hl, noTab_sub hT, by subst e; exact .cons (.lst (noTab_seq hT hS) (denL_ints ns)) .nil, fun v G2 H2 _ d => by cases d; exact q _⟩
end
section
variable {P : Program} {w : World} {K : PySem.W.Frag} {mg mb : Str → Option Value} {s : Shared} {H : Hp} {a : Addr} {vs : List Value} {ns : List Int}
theorem env_call (KX : K.In s.heap) (hns : s.heap.Ns mainGlobals mg) (hb : s.heap.Ns builtinsNs mb) (hbb : ∀ x : Str, x ≠ "__name__" → mb x = bootBuiltins x) (hlim : s.heap.NoLimit) (hg : s.gens = #[])
    (ha : s.heap.get? a = some { cls := .type "list", data := .seq vs.toArray }) (hok : HOk P w H s.heap) (hA : ∀ b, H b ≠ none → b = a) (hK : H a ≠ none → K.lookup a = none) :
    K.In (hidT s.heap H) ∧ (hidT s.heap H).Ns mainGlobals mg ∧ Env0 P w K mg (hidT s.heap H) callerA [] s H := by
  have nd : ∀ {b : Addr} {o : Obj} {es : Array DictEntry} {ep : Nat}, s.heap.get? b = some o → o.data = .dict es ep → H b = none := by
    intro b o es ep h1 h2
    by_cases z : H b = none
    · exact z
    · have e := hA b z
      rw [e, ha] at h1
      cases h1
      exact (nomatch (h2 : Data.seq vs.toArray _ = Data.dict es ep))
  have nk : ∀ {b : Addr} {m : Str → Option Value}, s.heap.Ns b m → (hidT s.heap H).Ns b m := by
    rintro b m ⟨o, es, ep, h1, h2, h3⟩
    exact ⟨o, es, ep, hidT_get h1 (nd h1 h2), h2, h3⟩
  have kin : K.In (hidT s.heap H) := by
    intro b o h1
    refine hidT_get (KX b o h1) ?_
    by_cases z : H b = none
    · exact z
    · have e := hA b z
      rw [e] at z h1
      rw [hK z] at h1
      cases h1
  obtain ⟨mc, l1, l2⟩ := hlim
  exact ⟨kin, nk hns, ⟨rfl, ⟨kin, nk hns, ⟨mb, nk hb, hbb⟩, ⟨mc, nk l1, l2⟩⟩, fun _ _ h => of_hidT h, Nat.le_of_eq (hidT_size _ _), trivial, fun _ h => (List.not_mem_nil h).elim, hok, .of_eq hg⟩⟩
def hScript (K : PySem.W.Frag) (a : Addr) (vs : List Value) (ns : List Int) : Hp := fun b => match K.lookup a with
  | some _ => none
  | none => if b = a then some (.frz { cls := .type "list", data := .seq vs.toArray } (.lst (ns.map V.int))) else none
theorem hScript_k {o : Obj} (h : K.lookup a = some o) : hScript K a vs ns = fun _ => none := by
  funext b; unfold hScript; rw [h]
theorem hScript_n (h : K.lookup a = none) (b : Addr) : hScript K a vs ns b = if b = a then some (.frz { cls := .type "list", data := .seq vs.toArray } (.lst (ns.map V.int))) else none := by
  unfold hScript; rw [h]
theorem law_callG {k : Nat} {fa : Addr} {fd : FuncData} {x : Str} (h0 : TabL.T = []) (KX : K.In s.heap) (hns : s.heap.Ns mainGlobals mg) (hb : s.heap.Ns builtinsNs mb) (hbb : ∀ x : Str, x ≠ "__name__" → mb x = bootBuiltins x) (hlim : s.heap.NoLimit) (hg : s.gens = #[])
    (ha : s.heap.get? a = some { cls := .type "list", data := .seq vs.toArray }) (hi : IntsAre vs ns) (hl : ns.length ≤ 63) (hr : Room k callerA)
    (F : ∀ base : Heap, K.In base → base.Ns mainGlobals mg → FnG P w K mg base k fa fd [x] (spLaw K)) (hbind : ∀ (s : Shared) (u : Value), BindsTo s fd ⟨[u], []⟩ [(x, u)]) :
    codeAny (model P w) callerA (.call (.ref fa) ⟨[.ref a], []⟩) (fun r s' => r = .ok (.ret (.bool true)) ∧ OldK s.heap s'.heap ∧ s'.os = s.os ∧ AllBare s'.gens) s := by
  have rv := vals_ints hi
  have lz : ns.length ≤ sizeLine := Nat.le_trans hl (by decide)
  have facts : HOk P w (hScript K a vs ns) s.heap ∧ (∀ b, hScript K a vs ns b ≠ none → b = a) ∧ (hScript K a vs ns a ≠ none → K.lookup a = none) ∧ SqL K (hScript K a vs ns) a (ns.map V.int) ∧ (∀ b u, hScript K a vs ns b = some u → ∃ o xs, u = .frz o xs) := by
    cases hk : K.lookup a with
    | some o =>
      have h1 := KX a o hk
      rw [ha] at h1
      cases h1
      rw [hScript_k hk]
      refine ⟨?_, fun b z => absurd rfl z, fun z => absurd rfl z, ?_, fun b u z => ?_⟩
      · intro b u z
        have z1 : (none : Option HO) = some u := z
        cases z1
      · exact Or.inr ⟨_, vs.toArray, _, hk, rfl, rfl, rfl, by rw [List.size_toArray, hi.length]; exact lz, by simpa using rv⟩
      · have z1 : (none : Option HO) = some u := z
        cases z1
    | none =>
      have hn := hScript_n (vs := vs) (ns := ns) hk
      refine ⟨fun b u z => ?_, fun b z => ?_, fun _ => rfl, .inl (.inr ⟨_, by rw [hn a, if_pos rfl]⟩), fun b u z => ?_⟩
      · rw [hn b] at z
        split at z
        · rename_i e
          cases z
          subst e
          exact ⟨ha, by rw [List.length_map]; exact lz, vs, _, rv, ha⟩
        · cases z
      · rw [hn b] at z
        by_cases e : b = a
        · exact e
        · rw [if_neg e] at z; exact absurd rfl z
      · rw [hn b] at z
        split at z
        · cases z; exact ⟨_, _, rfl⟩
        · cases z
  obtain ⟨hok, f1, f2, f3, f4⟩ := facts
  obtain ⟨kin, kns, en⟩ := env_call KX hns hb hbb hlim hg ha hok f1 f2
  refine codeAny_mono ((F _ kin kns).runs callerA hr rfl [] s _ en ⟨[.ref a], []⟩ [.ref a] (hbind s (.ref a)) [.ref a] (fun v _ => v = .bl true) (fun _ _ _ => False) (.cons rfl .nil) ⟨a, ns, rfl, hl, tabs_nil h0 _, f3, fun _ => rfl⟩) fun z s2 hz => ?_
  cases z with
  | error _ => exact hz.elim
  | ok fl => cases fl with
    | next => exact hz.elim
    | brk => exact hz.elim
    | cont => exact hz.elim
    | ret u =>
      obtain ⟨v, H2, os, bare, un, hok2, ru, e⟩ := hz
      have e' : v = .bl true := e
      subst e'
      obtain rfl : u = Value.bool true := ru
      refine ⟨rfl, OldK.of_keep fun b o hbo => ?_, os, bare⟩
      cases hq : hScript K a vs ns b with
      | none => exact un.keep b o hbo hq (fun z => (List.not_mem_nil z).elim) (fun z => (List.not_mem_nil z).elim)
      | some u0 =>
        obtain ⟨ob, xs, rfl⟩ := f4 b u0 hq
        have h2 := un.frzs b ob _ hq
        have p1 := (hok b _ hq).1
        have p2 := (hok2 b _ h2).1
        rw [hbo] at p1
        cases p1
        exact p2
end
end DL
namespace DL
open PySem PySem.Spec PyProof.Rows L2
variable [TabL]
structure Rep (n W : Nat) (d : D) : Prop where
  ok : okP d = true
  sh : (toP d).showable = true
  ls : (toP d).leavesShort 100 = true
  nd : (toP d).hasDict = false
  dp : (toP d).depth ≤ n
  wt : (toP d).weight ≤ W
  cl : (toP d).canLay0 = true
structure RepL (n W : Nat) (d : List D) : Prop where
  ok : okPs d = true
  sh : PyData.showableAll (toPs d) = true
  ls : PyData.leavesShortAll 100 (toPs d) = true
  nd : PyData.hasDictAll (toPs d) = false
  dp : PyData.depthAll (toPs d) ≤ n
  wt : PyData.weightAll (toPs d) ≤ W
  cl : PyData.canLayAll0 (toPs d) = true
theorem Rep.mono {n W n' W' : Nat} {d : D} (h : Rep n W d) (h1 : n ≤ n') (h2 : W ≤ W') : Rep n' W' d := ⟨h.ok, h.sh, h.ls, h.nd, Nat.le_trans h.dp h1, Nat.le_trans h.wt h2, h.cl⟩
theorem RepL.mono {n W n' W' : Nat} {d : List D} (h : RepL n W d) (h1 : n ≤ n') (h2 : W ≤ W') : RepL n' W' d := ⟨h.ok, h.sh, h.ls, h.nd, Nat.le_trans h.dp h1, Nat.le_trans h.wt h2, h.cl⟩
theorem Rep.shaped {n W : Nat} {d : D} (h : Rep n W d) (hn : n ≤ 60 := by decide) : SeqAt.shaped (toP d) = true := by
  have := h.dp
  show ((toP d).canLay0 && decide ((toP d).depth ≤ 64)) = true
  rw [h.cl, decide_eq_true (by omega)]; rfl
def isSeqD : D → Bool
  | .tup _ => true
  | .lst _ => true
  | _ => false
section
variable {F : Fam} {S S1 S2 S3 : ST} {e a b c tg iter : Expr} {d x y z : D} {pos p apos : Pos} {es : List Expr} {ds : List D} {k : Nat} {nm : Str} {P : Po} {rest : List Stmt} {cn : Nat} {fs : List (Str × D)} {R : List D → D → Prop}
theorem ca_repr {n W : Nat} (hG : ∀ i, (F.X i).A.guards = some []) (h : Rep n W d) (hq : isSeqD d = true) (hn : n ≤ 60 := by decide) (hW : W ≤ 100000 := by decide) : CaD F (.builtin "repr") [d] (.str (toP d).shown) := by
  refine ⟨fun xs H Q => ∃ v, xs = [v] ∧ Dp F.C.K H v (toP d) ∧ Q (.str (toP d).shown) H, fun i => ?_, fun G H us s hu Q q => ?_⟩
  · intro pins s σ H xs us Q I rx hx
    obtain ⟨v, rfl, hd, q⟩ := hx
    cases rx with
    | @cons _ u _ _ r0 r1 =>
      cases r1
      have hd' : Dp (F.X i).K H v (toP d) := by rw [F.hK i]; exact hd
      obtain ⟨as, rd⟩ := Dp.reads I _ _ _ hd' r0
      have hr := (F.units i)
      have hsz := PyData.shown_le 100 (by decide) (toP d) h.ls
      have hwt := h.wt
      have hdp := h.dp
      have hu : ∃ ad, u = .ref ad := by
        cases d with
        | tup xs =>
          have hd2 : Dp F.C.K H v (.tuple (toPs xs)) := hd
          cases hd2
          cases r0
          exact ⟨_, rfl⟩
        | lst xs =>
          have hd2 : Dp F.C.K H v (.list (toPs xs)) := hd
          cases hd2
          cases r0
          exact ⟨_, rfl⟩
        | _ => cases hq
      obtain ⟨ad, rfl⟩ := hu
      refine repr_of_reads' rd h.sh (fun z => by rw [h.nd] at z; cases z) (hG i) (by omega) (fun _ _ z => z) (fun h' t tk kp => ⟨.str _, H, I.kept kp, ⟨t, rfl⟩, q⟩) ?_
      have e : sizeLine = 16777216 := by decide
      omega
  · cases hu with
    | cons h0 l => cases l; exact ⟨_, rfl, h0.dp s h.ok, q _ _ _ (.refl s) (.str _)⟩
theorem od_ltS {i j : Str} : OpD F (compareOp .Lt) (.str i) (.str j) (.bl (decide (i.cps.toList < j.cps.toList))) := ⟨_, fun _ => op_lt_str, fun G H u v s hu hv Q q => by
  cases hu; cases hv
  exact ⟨i, j, rfl, rfl, q _ _ _ (.refl s) (.bl _)⟩⟩
theorem od_leS {i j : Str} : OpD F (compareOp .LtE) (.str i) (.str j) (.bl (!decide (j.cps.toList < i.cps.toList))) := ⟨_, fun _ => op_le_str, fun G H u v s hu hv Q q => by
  cases hu; cases hv
  exact ⟨i, j, rfl, rfl, q _ _ _ (.refl s) (.bl _)⟩⟩
def signsD (x : Str) : List D := x.cps.toList.map fun c => D.str ⟨#[c]⟩
theorem itd_str {C : Kc} {G : Hp} {x : Str} : ItD C (Its x) G (signsD x) where
  go := fun i _ _ hi _ _ => by
    unfold signsD at hi
    rw [List.length_map] at hi
    exact hi
  yld := fun i d G H v H' hd s s2 hy => by
    obtain ⟨rfl, c, hc, rfl⟩ := hy
    unfold signsD at hd
    rw [List.getElem?_map, Array.getElem?_toList, hc] at hd
    cases hd
    exact ⟨G, .refl s2, .str _⟩
  stop := fun i _ _ hi _ _ => by
    unfold signsD at hi
    rw [List.length_map] at hi
    exact hi
theorem di_str {t : Str} (h : DE F iter S S1 (.str t)) : DI F tg iter S S1 (signsD t) := di_of (wi := iStr (anyE F iter)) (fun i => pi_str (tg := tg) (anyE_ok (e := iter) i)) fun σ G H c R q => h σ G H c _ fun v G1 H1 m dv => by
  cases dv
  exact ⟨t, rfl, q _ _ _ m itd_str⟩
theorem flat_ints {is : List Int} : (is.map V.int).all flatV = true := by simp [flatV]
theorem in_ints {i : Int} {is : List Int} : inV (.int i) (is.map V.int) = decide (i ∈ is) := by
  unfold inV
  rw [List.any_map]
  have : ∀ x : Int, eqV (.int x) (.int i) = decide (x = i) := fun x => by
    show decide _ = _
    first | rfl | simp
  induction is with
  | nil => simp
  | cons x r ih =>
    rw [List.any_cons, ih]
    show (eqV (.int x) (.int i) || _) = _
    rw [this]
    simp [List.mem_cons, eq_comm]
theorem ca_lenO [Calm F] {i : Int} (mt : Met F.P F.w F.C F.mg F.base k cn "__len__" (spP F.C R)) (hk : k + 1 ≤ F.k) (hR : R [.obj cn fs] (.int i)) (h0 : 0 ≤ i) (h1 : i < 2 ^ 63) : CaD F (.builtin "len") [.obj cn fs] (.int i) := by
  obtain ⟨f, fd, ps, G, hc, hme, hb⟩ := mt
  refine ⟨fun xs H Q => ∃ a dx vs, xs = [.ref a] ∧ H a = some (.ins (F.C.cl cn) dx vs) ∧ spP F.C R [.ref a] H (fun v H' => v = .int i ∧ Q (.int i) H') E0, fun l => ?_, fun G H us s hu Q q => ?_⟩
  · intro pins s σ H xs us Q I rx h
    obtain ⟨a, dx, vs, rfl, ha, hsp⟩ := h
    cases rx with
    | cons r0 r1 =>
      cases r1
      cases r0
      obtain ⟨od, J⟩ := inst_of I ha
      obtain ⟨mm, hFr⟩ := I.fr
      refine PySem.W.len_K hFr I.ok.mod.kin J (by rw [F.hK l]; exact hme.at_) (by rw [F.hK l]; exact hme.fn) ?_
      refine wpAny_mono (run_in1 (vs := [.ref a]) (fn_at G) ((F.room l).mono hk) (by rw [F.hK l]; exact hb) I (.cons rfl .nil) hsp) (fun w s' hw => ?_) fun _ _ e => e
      obtain ⟨w', H', I', rw', rfl, q⟩ := hw
      obtain ⟨tk, rfl⟩ := rw'
      exact ⟨⟨h0, h1⟩, .int i, H', I'.tok _, ⟨_, rfl⟩, q⟩
  · cases hu with
    | cons h0 l0 =>
      have h0' := h0
      cases l0
      cases h0 with
      | obj _ h1 h2 => exact ⟨_, _, _, rfl, s _ _ h1, G, _, _, hR, s, .cons h0' .nil, fun v G2 H2 p dv => by cases dv; exact ⟨rfl, q _ _ _ p (.int _)⟩⟩
end
end DL
namespace DLE
open PySem PySem.Spec PyProof.Rows L2
theorem meets_enum {v : Value} {o : Obj} {H : Heap → Prop} (B : Begins v o H) :
    Meets (Builtin.«enumerate.__new__» ⟨[.type "enumerate", v], []⟩) (fun _ R s => H s.heap ∧
      R (.ok (.ret (.ref (s.heap.push o).objs.size))) { s with heap := (s.heap.push o).push { cls := .type "enumerate", data := .fields #[.none, .bool false, .ref s.heap.objs.size, rawInt 0, .none, .none] } }) :=
  .of_wp fun prog w A R s h => by
    obtain ⟨hp, g, d, tk, os⟩ := s
    obtain ⟨h1, h⟩ := h
    have hsub := sub_enumerate
    have it1 : ∀ {A' : Around} {E : Value → Shared → Prop} {Q : Value → Shared → Prop}, Q (.ref hp.objs.size) ⟨hp.push o, g, d, tk, os⟩ → wpAny (model prog w) A' (pyIter v) Q E ⟨hp, g, d, tk, os⟩ := fun q => B.iter prog w _ _ ⟨hp, g, d, tk, os⟩ _ h1 q
    wp_walk using it1
    refine wpAny_stack_any fun st => wpAny_pure ?_
    split
    · rename_i c _ _ _ _ _
      cases (c == Value.type "enumerate") <;> (wp_walk using it1; exact ⟨_, rfl, h⟩)
    · wp_walk using it1
      exact ⟨_, rfl, h⟩
theorem call_enum {prog : Program} {w : World} {A : Around} {E : Value → Shared → Prop} {s : Shared} {v : Value} {o : Obj} {H : Heap → Prop} {Q : Value → Shared → Prop} (B : Begins v o H) (h1 : H s.heap)
    (h : ∀ h', IsEnum h' (s.heap.objs.size + 1) s.heap.objs.size 0 .none → h'.get? s.heap.objs.size = some o → (∀ b u, s.heap.get? b = some u → h'.get? b = some u) → Q (.ref (s.heap.objs.size + 1)) { s with heap := h' }) :
    wpAny (model prog w) A (call (.type "enumerate") [v]) Q E s := by
  refine callType_new F.called_enumerate (by decide) (F.typeCall_enumerate_1 _) (F.newCall_enumerate_1 _) (fun obj => F.args_object_init_2 obj _) F.entry_enumerate_new (meets_enum B) ⟨h1, ?_⟩
  have hz : (s.heap.push o).objs.size = s.heap.objs.size + 1 := Heap.size_push ..
  have he : IsEnum ((s.heap.push o).push { cls := .type "enumerate", data := .fields #[.none, .bool false, .ref s.heap.objs.size, rawInt 0, .none, .none] }) (s.heap.objs.size + 1) s.heap.objs.size 0 .none := by
    have z := Heap.get?_push_size (s.heap.push o) (o := { cls := .type "enumerate", data := .fields #[.none, .bool false, .ref s.heap.objs.size, rawInt 0, .none, .none] }) rfl
    rw [hz] at z
    exact z
  show _ ∧ _
  rw [hz]
  exact ⟨⟨_, he, rfl⟩, h _ he (Heap.get?_push_of_some _ (Heap.get?_push_size _ B.free)) fun b u z => Heap.get?_push_of_some _ (Heap.get?_push_of_some _ z)⟩
theorem enum_end {prog : Program} {w : World} {A : Around} {E : Value → Shared → Prop} {s : Shared} {e it t : Addr} {i : Nat} {items : Array Value} {old : Value} {Q : Option Value → Shared → Prop} (hh : A.handled = none) (he : IsEnum s.heap e it i old) (hit : s.heap.IsTupleIter it t i) (ht : s.heap.IsTuple t items) (hx : items[i]? = none)
    (hQ : ∀ h', Heap.ExtBut it s.heap h' → Q none { s with heap := h' }) : wpAny (model prog w) A (pyNext (.ref e)) Q E s := by
  have ty : s.TypeIs (.ref e) "enumerate" := ⟨_, he, rfl⟩
  have nx : ∀ Q', (∀ h' x, Heap.ExtBut it s.heap h' → (∃ o, h'.get? x = some o ∧ o.cls = .type "StopIteration") → Q' (.ref x) { s with heap := h' }) → wpAny (model prog w) A.in1 (Builtin.«enumerate.__next__» ⟨[.ref e], []⟩) (fun _ _ => False) Q' s := fun Q' h => by
    show wpAny _ _ (field (.ref e) 2 >>= _) _ _ _
    exact wpAny_bind (wpAny_field he rfl (x := .ref it) rfl (wpAny_bind (wpAny_nextOf_tuple_end hh hit ht hx h)))
  unfold pyNext
  refine wpAny_bind (wpAny_attempt (wpAny_callSpecial?_slot (name := Str.ofString "__next__") ty F.slot_enumerate_next (wpAny_call_entry F.slot_enumerate_next ty F.entry_enumerate_next (wpAny_mono (nx _ fun h' x e1 ⟨o, ho, hc⟩ => ?_) (fun _ _ z => z.elim) fun _ _ z => z) (F.args_enumerate_next_1 _))))
  exact wpAny_bind (wpAny_isInstance (T := "StopIteration") (b := true) ⟨o, ho, hc⟩ isSubtype_stop (wpAny_pure (hQ _ e1)))
def IteT (K : PySem.W.Frag) (a : Addr) : It :=
  ⟨fun i H => ∃ (xs : List V) (x : V), SqT K H a xs ∧ xs[i]? = some x, fun i H v H' => ∃ T x, v = .ref T ∧ H T = none ∧ H' = upd H T (.tup [.int (i : Nat), x]) ∧ ∀ ys, SqT K H a ys → ys[i]? = some x, fun i H => ∃ xs : List V, SqT K H a xs ∧ xs.length ≤ i⟩
theorem turnT {P : Program} {w : World} {K : PySem.W.Frag} {elts : List Expr} {kk : Nat} {tpos : Pos} (a e it : Addr) (n1 : e ≠ it) (n2 : a ≠ it) (n3 : a ≠ e) :
    Turn P w K (.Tuple elts kk tpos) (IteT K a) [e, it] e (fun i h => (∃ old, IsEnum h e it ((i : Nat) : Int) old) ∧ h.IsTupleIter it a i) where
  mem := by simp
  obj := fun i h st b hb => by
    obtain ⟨⟨old, he⟩, o, ho, hc, hd⟩ := st
    rcases (show b = e ∨ b = it by simpa using hb) with rfl | rfl
    · exact ⟨_, he, fun v q => nomatch q⟩
    · exact ⟨o, ho, fun v q => by rw [hd] at q; cases q⟩
  keep := fun i h h' st k => ⟨st.1.imp fun old he => k e (by simp) _ he, st.2.at fun o q => k it (by simp) o q⟩
  item := by
    intro X hP hw hK hc i pins s σ H E I hf st hg
    subst hP hw hK
    obtain ⟨⟨old, he⟩, hit⟩ := st
    obtain ⟨xs, x, hq, hx⟩ := hg
    obtain ⟨its, rv, p, hz⟩ := I.tuple hq
    obtain ⟨u, hu, ru⟩ := rv.get hx
    have le : e < s.heap.objs.size := Heap.lt_size he
    have li : it < s.heap.objs.size := by obtain ⟨_, q, _⟩ := hit; exact Heap.lt_size q
    have Dr := Draws.tuple (prog := X.prog) (w := X.w) (A := X.A.in1) (I.ok.hd hc) it a n2 its.toArray
    refine wpAny_pyNext_enum_itemD Dr he ⟨hit, p⟩ (by have := (List.getElem?_eq_some_iff.mp hu).1; simpa using this) n1 (by simp [n1, n3.symm]) fun y h' tk hy ho hst hT hsz hk => ?_
    obtain rfl : y = u := by
      have hy' : its[i]? = some y := by simpa using hy
      rw [hu] at hy'
      exact (Option.some.inj hy').symm
    refine ⟨_, rfl, wpAny_letOwnedTupleGo_enum (s := { s with heap := h', toks := tk + 1 }) ho fun h2 he2 sb => ?_⟩
    have hT2 : h2.get? s.heap.objs.size = some { cls := .type "tuple", data := .seq #[.int i tk, y] } := (sb.2 _ (Nat.ne_of_gt le)).trans hT
    have new : ObjOk X.prog X.w (upd H s.heap.objs.size (.tup [.int (i : Nat), x])) h2 s.heap.objs.size (.tup [.int (i : Nat), x]) := ⟨by show 2 ≤ sizeLine; decide, [.int i tk, y], .cons ⟨_, rfl⟩ (.cons ru .nil), ⟨_, hT2, rfl, _, rfl⟩⟩
    have J := I.turnedNew (ch := [e, it]) (t' := tk + 1) (fun b ob hb q => (sb.2 b (fun z => hb (by simp [z]))).trans (hk b ob (fun z => hb (by simp [z])) (fun z => hb (by simp [z])) q)) hf (Nat.le_refl _) new
    refine ⟨.ref s.heap.objs.size, _, J, rfl, ⟨_, x, rfl, I.hok.fresh (Nat.le_refl _), rfl, fun ys hys => by rw [I.tuple_inj hys hq]; exact hx⟩, ⟨⟨y, ?_⟩, hst.1.at fun o q => (sb.2 it (Ne.symm n1)).trans q⟩, fun b hb => ?_⟩
    · rw [show ((i + 1 : Nat) : Int) = (i : Int) + 1 by omega]
      exact he2
    · have lb : b < s.heap.objs.size := by
        rcases (show b = e ∨ b = it by simpa using hb) with rfl | rfl
        · exact le
        · exact li
      rw [upd_ne (Nat.ne_of_lt lb)]
      exact (hf b hb).1
  done := by
    intro X hP hw hK hc i pins s σ H E I hf st hg
    subst hP hw hK
    obtain ⟨⟨old, he⟩, hit⟩ := st
    obtain ⟨xs, hq, hx⟩ := hg
    obtain ⟨its, rv, p, hz⟩ := I.tuple hq
    obtain ⟨f0, f1, f2, f3, f4, f5⟩ := hf it (by simp)
    have hl := rv.length
    refine enum_end (I.ok.hd hc) he hit p (by simp; omega) fun h' eb => ⟨rfl, I.turned (t' := s.toks) (fun b o hb q => eb b o hb q) f0 f1 f3 f4 f5⟩
  self := fun A i s Q E st h => let ⟨⟨_, he⟩, _⟩ := st; wpAny_pyIter_enum he h
def iEnumT (K : PySem.W.Frag) (ta : TA) : TI := fun σ H R => ta σ H fun vs H1 => ∃ a xs, vs = [.ref a] ∧ SqT K H1 a xs ∧ R (IteT K a) H1
theorem pi_enumT {X : Cx} {e : Expr} {ta : TA} {p pos tpos : Pos} {elts : List Expr} {kk : Nat} (hg : Gl X "enumerate") (hm : X.mg "enumerate" = none) (ha : PA X [e] ta) (hs : starEach [e] X.env = [(false, eval e X.env)]) :
    PI X (.Tuple elts kk tpos) (.Call (.Name "enumerate" p) [e] [] pos) (iEnumT X.K ta) := by
  refine ⟨fun pins s σ H R I h => ?_⟩
  refine Call_ (ld_blt I hg hm boot_enumerate (PyProof.Rows.callWith_type1 (thn (ha.run pos pins s σ H _ I h) fun us s1 ⟨vs, H1, I1, r1, a, xs, ex, hq, q⟩ => ?_) hs rfl))
  subst ex
  cases r1 with
  | cons r rr =>
    cases rr
    cases r
    obtain ⟨its, rv, p', hz⟩ := I1.tuple hq
    have la : a < s1.heap.objs.size := by obtain ⟨_, z, _⟩ := p'; exact Heap.lt_size z
    refine call_enum (begins_tuple a its.toArray) p' fun h' he hi hk => wpAny_pyIter_enum he ?_
    refine ⟨s1.heap.objs.size + 1, [s1.heap.objs.size + 1, s1.heap.objs.size], _, _, H1, rfl, I1.kept (t' := s1.toks) hk, turnT a (s1.heap.objs.size + 1) s1.heap.objs.size (Nat.succ_ne_self _) (Nat.ne_of_lt la) (Nat.ne_of_lt (Nat.lt_succ_of_lt la)), ⟨⟨.none, he⟩, ⟨_, hi, rfl, rfl⟩⟩, fun b hb => ?_, q⟩
    have hle : s1.heap.objs.size ≤ b := by
      rcases (show b = s1.heap.objs.size + 1 ∨ b = s1.heap.objs.size by simpa using hb) with z | z <;> rw [z]
      · exact Nat.le_succ _
      · exact Nat.le_refl _
    exact I1.fpOk hle (I1.hok.fresh hle)
end DLE
namespace DL
open PySem L2
variable [TabL]
def enumD (ds : List D) : List D := ds.zipIdx.map fun t => D.tup [.int (t.2 : Nat), t.1]
theorem enumD_get {ds : List D} {i : Nat} {d : D} (h : (enumD ds)[i]? = some d) : ∃ x, ds[i]? = some x ∧ d = .tup [.int (i : Nat), x] := by
  unfold enumD at h
  rw [List.getElem?_map, List.getElem?_zipIdx] at h
  cases q : ds[i]? with
  | none => rw [q] at h; cases h
  | some x =>
    rw [q] at h
    refine ⟨x, rfl, ?_⟩
    have := (Option.some.inj h).symm
    simpa using this
theorem enumD_length {ds : List D} : (enumD ds).length = ds.length := by simp [enumD]
section
variable {F : Fam} {S S1 S2 S3 : ST} {e : Expr} {p : Pos} {ds : List D}
theorem itd_enumT {C : Kc} {G0 : Hp} {a : Addr} {vs : List V} (h : SqT C.K G0 a vs) (dl : DenL C G0 vs ds) : ItD C (DLE.IteT C.K a) G0 (enumD ds) where
  go := fun i G H hi s s2 => by
    rw [enumD_length] at hi
    obtain ⟨v, h1, _⟩ := dl.get (List.getElem?_eq_getElem hi)
    exact ⟨vs, v, same_t s2 (same_t s h), h1⟩
  yld := fun i d G H x H' hd s s2 hy => by
    obtain ⟨y, hy1, rfl⟩ := enumD_get hd
    obtain ⟨T, v, rfl, hT, rfl, hv⟩ := hy
    obtain ⟨v', h1, h2⟩ := dl.get hy1
    have e1 := hv vs (same_t s2 (same_t s h))
    rw [h1] at e1
    cases e1
    refine ⟨_, Pu.new s2 hT, .tup (SqT.of upd_same) ?_⟩
    exact .cons (.int _) (.cons ((h2.mono s).mono (Pu.new s2 hT).gg) .nil)
  stop := fun i G H hi s s2 => ⟨vs, same_t s2 (same_t s h), by rw [dl.length, ← enumD_length]; exact hi⟩
theorem di_enumT {elts : List Expr} {kk : Nat} {tpos q1 : Pos} (hm : F.mg "enumerate" = none) (h : DE F e S S1 (.tup ds)) (hg : ∀ l, Gl (F.X l) "enumerate" := by intro _; rfl) (hs : ∀ l, starEach [e] (F.X l).env = [(false, eval e (F.X l).env)] := by intro _; rfl) :
    DI F (.Tuple elts kk tpos) (.Call (.Name "enumerate" p) [e] [] q1) S S1 (enumD ds) :=
  di_of (wi := DLE.iEnumT F.C.K (tCons (anyE F e) tNil)) (fun l => by have := DLE.pi_enumT (X := F.X l) (elts := elts) (kk := kk) (tpos := tpos) (p := p) (pos := q1) (hg l) (by rw [F.hmg l]; exact hm) (pa_cons (anyE_ok (e := e) l) pa_nil (hs l)) (hs l); rw [F.hK l] at this; exact this) fun σ G H c R q => h σ G H c _ fun v G1 H1 m dv => by
    cases dv with
    | @tup a vs _ h1 h2 => exact ⟨a, vs, rfl, same_t m.cx.sub h1, q _ _ _ m (itd_enumT h1 h2)⟩
end
end DL
namespace DL
open PySem L2
variable [TabL]
section
variable {F : Fam} {x y : D} {ds : List D}
end
theorem take_one {α : Type} {l : List α} {i : Nat} {x : α} (h : l[i]? = some x) : l.take (i + 1) = l.take i ++ [x] := by
  rw [List.take_succ, h]; rfl
theorem bb_isinstance : bootBuiltins "isinstance" = some (.builtin "isinstance") := by decide +kernel
theorem bb_abs : bootBuiltins "abs" = some (.builtin "abs") := by decide +kernel
theorem bb_len : bootBuiltins "len" = some (.builtin "len") := by decide +kernel
theorem bb_max : bootBuiltins "max" = some (.builtin "max") := by decide +kernel
theorem bb_min : bootBuiltins "min" = some (.builtin "min") := by decide +kernel
theorem bb_all : bootBuiltins "all" = some (.builtin "all") := by decide +kernel
theorem bb_repr : bootBuiltins "repr" = some (.builtin "repr") := by decide +kernel
theorem bb_int : bootBuiltins "int" = some (.type "int") := by decide +kernel
theorem bb_bool : bootBuiltins "bool" = some (.type "bool") := by decide +kernel
theorem bb_str : bootBuiltins "str" = some (.type "str") := by decide +kernel
theorem bb_tuple : bootBuiltins "tuple" = some (.type "tuple") := by decide +kernel
end DL
namespace DL
open PySem L2
variable [TabL]
section
variable {F : Fam} {S S1 S2 S3 : ST} {a b : Expr} {p p2 pos q1 : Pos} {i j : Int}
end
end DL
namespace ND
open PySem PySem.Spec PyProof.Rows L2
section
variable {X : Cx} {pins : List (Addr × Obj)} {σ : L2.St} {H : Hp} {s : Shared}
def tyN (P : Program) (w : World) : V → Hp → Prop := fun x H => ∃ (a : Addr) (o : Obj) (xs : List NEnt), x = .ref a ∧ H a = some (NDO P w a o xs)
end
end ND
namespace DL
open PySem L2
variable [TabL]
section
variable {F : Fam} {S S1 S2 S3 : ST} {e : Expr} {p : Pos} {ds : List D}
end
end DL
namespace ND
open PySem PySem.Spec PyProof.Rows L2
section
variable {X : Cx}
end
end ND
namespace DL
open PySem L2
variable [TabL]
section
variable {F : Fam} {S S1 S2 S3 : ST} {kx vx tg iter : Expr} {pos p : Pos} {ds : List D} {P : Po} {rest : List Stmt} {ifs : List Expr} {scope : Scope} {own : List (Str × Nat)}
end
end DL
namespace ND
open PySem PySem.Spec PyProof.Rows L2
section
variable {X : Cx} {pins : List (Addr × Obj)} {σ : L2.St} {H : Hp} {s : Shared}
end
end ND
namespace DL
open PySem L2
variable [TabL]
section
variable {F : Fam} {S S1 S2 S3 : ST} {e b tg : Expr} {p pos : Pos} {ds : List D} {d : D}
inductive PairsD : List D → List (D × D) → List (D × D) → Prop where
  | nil (acc : List (D × D)) : PairsD [] acc acc
  | cons {kd vd : D} {k : NestedKey} {ds : List D} {acc r : List (D × D)} : dkey kd = some k → PairsD ds (dstore k kd vd acc) r → PairsD (.tup [kd, vd] :: ds) acc r
end
end DL
namespace KD
open PySem PySem.Spec PyProof.Rows L2
section
variable {X : Cx} {pins : List (Addr × Obj)} {σ : L2.St} {H : Hp} {s : Shared}
end
end KD
namespace DL
open PySem L2 PyProof.Rows
variable [TabL]
def kOf : D → Option Key
  | .int i => some (.inl i)
  | .str x => some (.inr x)
  | _ => none
def klook (kds : List (Key × D)) (k : Key) : Option D := (kds.find? fun kv => decide (kv.1 = k)).map (·.2)
def kput (kds : List (Key × D)) (k : Key) (d : D) : List (Key × D) := if (kds.any fun kv => decide (kv.1 = k)) = true then kds.map (fun kv => if kv.1 = k then (kv.1, d) else kv) else kds ++ [(k, d)]
section
variable {C : Kc} {G : Hp}
theorem DenK.length : ∀ {xs : List (Key × V)} {kds : List (Key × D)}, DenK C G xs kds → xs.length = kds.length
  | _, _, .nil => rfl
  | _, _, .cons _ l => by rw [List.length_cons, List.length_cons, DenK.length l]
theorem DenK.is (k : Key) : ∀ {xs : List (Key × V)} {kds : List (Key × D)}, DenK C G xs kds → (valV xs k).isSome = (klook kds k).isSome
  | _, _, .nil => rfl
  | _, _, .cons (k := j) (v := v) (d := d) (vs := vs) (ds := ds) _ l => by
    have ih := DenK.is k l
    unfold valV klook at ih ⊢
    rw [List.find?_cons, List.find?_cons]
    by_cases z : j = k
    · simp [z]
    · simp only [z, decide_false]; exact ih
theorem DenK.any (k : Key) : ∀ {xs : List (Key × V)} {kds : List (Key × D)}, DenK C G xs kds → (xs.any fun kv => decide (kv.1 = k)) = kds.any fun kv => decide (kv.1 = k)
  | _, _, .nil => rfl
  | _, _, .cons _ l => by rw [List.any_cons, List.any_cons, DenK.any k l]
theorem DenK.snoc {k : Key} {v : V} {d : D} (h : Den C G v d) : ∀ {xs : List (Key × V)} {kds : List (Key × D)}, DenK C G xs kds → DenK C G (xs ++ [(k, v)]) (kds ++ [(k, d)])
  | _, _, .nil => .cons h .nil
  | _, _, .cons h1 l => .cons h1 (DenK.snoc h l)
theorem DenK.repl {k : Key} {v : V} {d : D} (h : Den C G v d) : ∀ {xs : List (Key × V)} {kds : List (Key × D)}, DenK C G xs kds → DenK C G (xs.map fun kv => if kv.1 = k then (kv.1, v) else kv) (kds.map fun kv => if kv.1 = k then (kv.1, d) else kv)
  | _, _, .nil => .nil
  | _, _, .cons (k := j) h1 l => by
    rw [List.map_cons, List.map_cons]
    by_cases z : j = k
    · rw [if_pos z, if_pos z]; exact .cons h (DenK.repl h l)
    · rw [if_neg z, if_neg z]; exact .cons h1 (DenK.repl h l)
theorem DenK.put {k : Key} {v : V} {d : D} (h : Den C G v d) {xs : List (Key × V)} {kds : List (Key × D)} (l : DenK C G xs kds) : DenK C G (putK xs k v) (kput kds k d) := by
  unfold putK kput
  rw [l.any k]
  split
  · exact l.repl h
  · exact l.snoc h
end
section
variable {F : Fam} {S S1 S2 S3 : ST} {e b tg : Expr} {p pos : Pos} {ds : List D} {d x : D}
inductive PairsK : List D → List (Key × D) → List (Key × D) → Prop where
  | nil (acc : List (Key × D)) : PairsK [] acc acc
  | cons {kd vd : D} {k : Key} {ds : List D} {acc r : List (Key × D)} : kOf kd = some k → PairsK ds (kput acc k vd) r → PairsK (.tup [kd, vd] :: ds) acc r
end
end DL
namespace SL
open PySem L2 DL
variable [TabL]
inductive O (α : Type) where
  | ok (a : α) | exc (c : Nat) (fs : List D) | bad
def O.bind {α β : Type} (o : O α) (f : α → O β) : O β := match o with
  | .ok a => f a
  | .exc c fs => .exc c fs
  | .bad => .bad
@[simp] theorem O.bind_ok {α β : Type} (a : α) (f : α → O β) : (O.ok a).bind f = f a := rfl
@[simp] theorem O.bind_exc {α β : Type} (c : Nat) (fs : List D) (f : α → O β) : (O.exc c fs : O α).bind f = .exc c fs := rfl
@[simp] theorem O.bind_bad {α β : Type} (f : α → O β) : (O.bad : O α).bind f = .bad := rfl
theorem O.bind_eq {α β : Type} {o : O α} {f : α → O β} {b : β} (h : o.bind f = .ok b) : ∃ a, o = .ok a ∧ f a = .ok b := by
  cases o with
  | ok a => exact ⟨a, rfl, h⟩
  | exc c fs => cases h
  | bad => cases h
theorem O.bind_assoc {α β γ : Type} (o : O α) (f : α → O β) (g : β → O γ) : (o.bind f).bind g = o.bind fun a => (f a).bind g := by
  cases o <;> rfl
def O.cons (o : O D) (os : O (List D)) : O (List D) := o.bind fun d => os.bind fun ds => .ok (d :: ds)
@[simp] theorem O.cons_ok (a : D) (as : List D) : O.cons (.ok a) (.ok as) = .ok (a :: as) := rfl
def asB : D → O Bool
  | .bl b => .ok b
  | _ => .bad
@[simp] theorem asB_bl (b : Bool) : asB (.bl b) = .ok b := rfl
theorem asB_eq {d : D} {b : Bool} (h : asB d = .ok b) : d = .bl b := by
  cases d <;> first | (cases h; rfl) | cases h
def tr (o : O Bool) : O D := o.bind fun b => .ok (.bl b)
@[simp] theorem tr_ok (b : Bool) : tr (.ok b) = .ok (.bl b) := rfl
theorem tr_eq {o : O Bool} {d : D} (h : tr o = .ok d) : ∃ b, o = .ok b ∧ d = .bl b := by
  obtain ⟨b, h1, h2⟩ := O.bind_eq h
  cases h2
  exact ⟨b, h1, rfl⟩
def O.ite {α : Type} (o : O Bool) (x y : O α) : O α := o.bind fun b => bif b then x else y
@[simp] theorem O.ite_true {α : Type} (x y : O α) : O.ite (.ok true) x y = x := rfl
@[simp] theorem O.ite_false {α : Type} (x y : O α) : O.ite (.ok false) x y = y := rfl
theorem O.ite_eq {α : Type} {o : O Bool} {x y : O α} {a : α} (h : O.ite o x y = .ok a) : (o = .ok true ∧ x = .ok a) ∨ (o = .ok false ∧ y = .ok a) := by
  obtain ⟨b, h1, h2⟩ := O.bind_eq h
  cases b with
  | true => exact .inl ⟨h1, h2⟩
  | false => exact .inr ⟨h1, h2⟩
def l1 {α : Type} (f : D → O α) : List D → O α
  | [a] => f a
  | _ => .bad
def l2 {α : Type} (f : D → D → O α) : List D → O α
  | [a, b] => f a b
  | _ => .bad
def l3 {α : Type} (f : D → D → D → O α) : List D → O α
  | [a, b, c] => f a b c
  | _ => .bad
def l4 {α : Type} (f : D → D → D → D → O α) : List D → O α
  | [a, b, c, d] => f a b c d
  | _ => .bad
def l5 {α : Type} (f : D → D → D → D → D → O α) : List D → O α
  | [a, b, c, d, e] => f a b c d e
  | _ => .bad
def l6 {α : Type} (f : D → D → D → D → D → D → O α) : List D → O α
  | [a, b, c, d, e, g] => f a b c d e g
  | _ => .bad
@[simp] theorem l1_ap {α : Type} (f : D → O α) (a : D) : l1 f [a] = f a := rfl
@[simp] theorem l2_ap {α : Type} (f : D → D → O α) (a b : D) : l2 f [a, b] = f a b := rfl
@[simp] theorem l3_ap {α : Type} (f : D → D → D → O α) (a b c : D) : l3 f [a, b, c] = f a b c := rfl
@[simp] theorem l4_ap {α : Type} (f : D → D → D → D → O α) (a b c d : D) : l4 f [a, b, c, d] = f a b c d := rfl
@[simp] theorem l5_ap {α : Type} (f : D → D → D → D → D → O α) (a b c d e : D) : l5 f [a, b, c, d, e] = f a b c d e := rfl
@[simp] theorem l6_ap {α : Type} (f : D → D → D → D → D → D → O α) (a b c d e g : D) : l6 f [a, b, c, d, e, g] = f a b c d e g := rfl
def un2 {α : Type} (d : D) (f : D → D → O α) : O α := match d with
  | .tup [a, b] => f a b
  | .lst [a, b] => f a b
  | _ => .bad
def un3 {α : Type} (d : D) (f : D → D → D → O α) : O α := match d with
  | .tup [a, b, c] => f a b c
  | .lst [a, b, c] => f a b c
  | _ => .bad
@[simp] theorem un2_tup {α : Type} (a b : D) (f : D → D → O α) : un2 (.tup [a, b]) f = f a b := rfl
@[simp] theorem un2_lst {α : Type} (a b : D) (f : D → D → O α) : un2 (.lst [a, b]) f = f a b := rfl
@[simp] theorem un3_tup {α : Type} (a b c : D) (f : D → D → D → O α) : un3 (.tup [a, b, c]) f = f a b c := rfl
@[simp] theorem un3_lst {α : Type} (a b c : D) (f : D → D → D → O α) : un3 (.lst [a, b, c]) f = f a b c := rfl
def DEp (F : Fam) (e : Expr) (S : ST) (o : O D) : Prop := ∀ d, o = .ok d → DE F e S S d
def DTp (F : Fam) (e : Expr) (S : ST) (o : O Bool) : Prop := ∀ b, o = .ok b → DT F e S S b
def DWp (F : Fam) (e : Expr) (S : ST) (o : O Bool) : Prop := ∀ b, o = .ok b → DW F e S S b
def DAp (F : Fam) (es : List Expr) (S : ST) (o : O (List D)) : Prop := ∀ ds, o = .ok ds → DA F es S S ds ∧ ds.length = es.length
def DKp (F : Fam) (ks : List Keyword) (S : ST) (o : O (List D)) : Prop := ∀ ds, o = .ok ds → DK F ks S S ds ∧ ds.length = ks.length
def DOp (F : Fam) (e : Expr) (S : ST) (o : O (List D)) : Prop := ∀ ds, o = .ok ds → DO F e S S ds
def DIp (F : Fam) (tg it : Expr) (S : ST) (o : O (List D)) : Prop := ∀ ds, o = .ok ds → DI F tg it S S ds
def OpS (F : Fam) (op : Operator) (p : D → D → O D) : Prop := ∀ x y z, p x y = .ok z → OpD F (binaryOp op) x y z
def CmS (F : Fam) (op : CmpOp) (p : D → D → O Bool) : Prop := ∀ x y z, p x y = .ok z → OpD F (compareOp op) x y (.bl z)
def UnS (F : Fam) (op : UnaryOp) (p : D → O D) : Prop := ∀ x z, p x = .ok z → UnD F (unaryOp op) x z
def CaS (F : Fam) (f : Value) (φ : List D → O D) : Prop := ∀ ds z, φ ds = .ok z → CaD F f ds z
section
variable {F : Fam} {S : ST} {e a b c : Expr} {d : D} {pos p : Pos} {oa ob oc oe : O D} {o ot ou : O Bool} {es : List Expr} {os : O (List D)}
theorem p_ok (h : DE F e S S d) : DEp F e S (.ok d) := fun _ q => by cases q; exact h
theorem p_var {j : Nat} {x : Str} (h : S.s[j]? = some (some (.imm d))) (hN : ∀ i, (F.X i).N[j]? = some x := by intro _; rfl)
    (hv : ∀ i, Vis (F.X i).env.scope x := by intro _; first | exact Or.inl rfl | exact Or.inr (Or.inl rfl) | exact Or.inr (Or.inr rfl))
    (hd : (x == ("__debug__" : Str)) = false := by decide) (hcd : (x == ("__classdict__" : Str)) = false := by decide) : DEp F (.Name x pos) S (.ok d) := p_ok (de_var h hN hv hd hcd)
theorem p_int {i : Int} {k : Nat} : DEp F (.Constant (.int i) k pos) S (.ok (.int i)) := p_ok de_int
theorem p_bl {i : Bool} {k : Nat} : DEp F (.Constant (.bool i) k pos) S (.ok (.bl i)) := p_ok de_bl
theorem p_non {k : Nat} : DEp F (.Constant .none k pos) S (.ok .non) := p_ok de_non
theorem p_str {i : Str} {k : Nat} : DEp F (.Constant (.str i) k pos) S (.ok (.str i)) := p_ok de_str
theorem p_glob {x : Str} {v : V} {u : Value} (hm : F.mg x = some u) (r : RelV v u) (hd : ∀ G, Den F.C G v d) (hg : ∀ i, Gl (F.X i) x := by intro _; rfl) (hb : (x == ("__debug__" : Str)) = false := by decide) : DEp F (.Name x pos) S (.ok d) := p_ok (de_glob hm r hd hg hb)
theorem p_op {op : Operator} {q : D → D → O D} (hr : OpS F op q) (ha : DEp F a S oa) (hb : DEp F b S ob) : DEp F (.BinOp a op b pos) S (oa.bind fun x => ob.bind fun y => q x y) := fun z h => by
  obtain ⟨x, h1, h⟩ := O.bind_eq h
  obtain ⟨y, h2, h⟩ := O.bind_eq h
  exact de_op (ha x h1) (hb y h2) (hr x y z h)
theorem p_un {op : UnaryOp} {q : D → O D} (hr : UnS F op q) (ha : DEp F a S oa) : DEp F (.UnaryOp op a pos) S (oa.bind q) := fun z h => by
  obtain ⟨x, h1, h⟩ := O.bind_eq h
  exact de_un (ha x h1) (hr x z h)
theorem t_cmp {op : CmpOp} {q : D → D → O Bool} (hr : CmS F op q) (ha : DEp F a S oa) (hb : DEp F b S ob) (hm : behindInMarks op b = false := by first | exact nomark _ | rfl) : DTp F (.Compare a [op] [b] pos) S (oa.bind fun x => ob.bind fun y => q x y) := fun z h => by
  obtain ⟨x, h1, h⟩ := O.bind_eq h
  obtain ⟨y, h2, h⟩ := O.bind_eq h
  exact dt_cmp (ha x h1) (hb y h2) (hr x y z h) hm
theorem p_cmp {op : CmpOp} {q : D → D → O Bool} (hr : CmS F op q) (ha : DEp F a S oa) (hb : DEp F b S ob) (hm : behindInMarks op b = false := by first | exact nomark _ | rfl) : DEp F (.Compare a [op] [b] pos) S (tr (oa.bind fun x => ob.bind fun y => q x y)) := fun z h => by
  obtain ⟨k, h0, e0⟩ := tr_eq h
  subst e0
  clear h
  have h := h0
  obtain ⟨x, h1, h⟩ := O.bind_eq h
  obtain ⟨y, h2, h⟩ := O.bind_eq h
  exact de_cmp (ha x h1) (hb y h2) (hr x y k h) hm
def chainO (oa ob oc : O D) (q r : D → D → O Bool) : O Bool := oa.bind fun x => ob.bind fun y => O.ite (q x y) (oc.bind fun z => r y z) (.ok false)
@[simp] theorem chainO_ok (x y z : D) (q r : D → D → O Bool) : chainO (.ok x) (.ok y) (.ok z) q r = O.ite (q x y) (r y z) (.ok false) := rfl
theorem p_chain {op op' : CmpOp} {q r : D → D → O Bool} (hq : CmS F op q) (hr : CmS F op' r) (ha : DEp F a S oa) (hb : DEp F b S ob) (hc : DEp F c S oc) (hm : lastMarks [op, op'] [b, c] = false := by with_unfolding_all rfl) : DEp F (.Compare a [op, op'] [b, c] pos) S (tr (chainO oa ob oc q r)) := fun d h => by
  obtain ⟨k, h0, e0⟩ := tr_eq h
  subst e0
  clear h
  have h := h0
  obtain ⟨x, h1, h⟩ := O.bind_eq h
  obtain ⟨y, h2, h⟩ := O.bind_eq h
  rcases O.ite_eq h with ⟨h3, h⟩ | ⟨h3, h⟩
  · obtain ⟨z, h4, h⟩ := O.bind_eq h
    exact de_chain (k := true) (l := k) (ha x h1) (hb y h2) (fun _ => hc z h4) (hq x y _ h3) (fun _ => hr y z _ h) (hm := hm)
  · cases h
    exact de_chain (k := false) (l := false) (w := .non) (c := c) (ha x h1) (hb y h2) (fun z => nomatch z) (hq x y _ h3) (fun z => nomatch z) (hm := hm)
theorem t_chain {op op' : CmpOp} {q r : D → D → O Bool} (hq : CmS F op q) (hr : CmS F op' r) (ha : DEp F a S oa) (hb : DEp F b S ob) (hc : DEp F c S oc) (hm : lastMarks [op, op'] [b, c] = false := by with_unfolding_all rfl) : DTp F (.Compare a [op, op'] [b, c] pos) S (chainO oa ob oc q r) := fun k h => by
  obtain ⟨x, h1, h⟩ := O.bind_eq h
  obtain ⟨y, h2, h⟩ := O.bind_eq h
  rcases O.ite_eq h with ⟨h3, h⟩ | ⟨h3, h⟩
  · obtain ⟨z, h4, h⟩ := O.bind_eq h
    exact dt_chain (k := true) (l := k) (ha x h1) (hb y h2) (fun _ => hc z h4) (hq x y _ h3) (fun _ => hr y z _ h) (hm := hm)
  · cases h
    exact dt_chain (k := false) (l := false) (w := .non) (c := c) (ha x h1) (hb y h2) (fun z => nomatch z) (hq x y _ h3) (fun z => nomatch z) (hm := hm)
theorem t_val (h : DEp F e S oe) (he : ∀ i whole, isTrue e (F.X i).env whole = (do let v ← whole; standAt e.pos; holding [v] (truthy v)) := by intro _ _; rfl) : DTp F e S (oe.bind asB) := fun k q => by
  obtain ⟨x, h1, q⟩ := O.bind_eq q
  cases asB_eq q
  exact dt_val (h _ h1) he
theorem t_w (h : DWp F e S o) : DTp F e S o := fun k q => dt_w (h k q)
theorem w_or1 (h : DTp F a S o) : DWp F (.BoolOp .Or [a] pos) S o := fun k q => dw_or1 (h k q)
theorem w_or {rest : List Expr} (h : DTp F a S ot) (h2 : DWp F (.BoolOp .Or (b :: rest) pos) S ou) : DWp F (.BoolOp .Or (a :: b :: rest) pos) S (O.ite ot (.ok true) ou) := fun k q => by
  rcases O.ite_eq q with ⟨h3, q⟩ | ⟨h3, q⟩
  · cases q; exact dw_or (k := true) (l := false) (h _ h3) (fun z => nomatch z)
  · exact dw_or (k := false) (l := k) (h _ h3) (fun _ => h2 _ q)
theorem t_not (h : DTp F a S o) : DTp F (.UnaryOp .Not a pos) S (o.bind fun k => .ok (!k)) := fun k q => by
  obtain ⟨x, h1, q⟩ := O.bind_eq q
  cases q
  exact dt_not (h _ h1)
theorem p_one {op : BoolOp} (h : DEp F a S oa) : DEp F (.BoolOp op [a] pos) S oa := fun d q => de_one (h d q)
theorem p_and {rest : List Expr} (h : DEp F a S oa) (h2 : DEp F (.BoolOp .And (b :: rest) pos) S ob) : DEp F (.BoolOp .And (a :: b :: rest) pos) S (tr (O.ite (oa.bind asB) (ob.bind asB) (.ok false))) := fun d q => by
  obtain ⟨k, q0, e0⟩ := tr_eq q
  subst e0
  clear q
  have q := q0
  rcases O.ite_eq q with ⟨h3, q⟩ | ⟨h3, q⟩
  · obtain ⟨x, h1, h3⟩ := O.bind_eq h3
    obtain ⟨y, h4, q⟩ := O.bind_eq q
    cases asB_eq h3
    cases asB_eq q
    exact de_and (k := true) (l := k) (h _ h1) (fun _ => h2 _ h4)
  · obtain ⟨x, h1, h3⟩ := O.bind_eq h3
    cases asB_eq h3
    cases q
    exact de_and (k := false) (l := false) (h _ h1) (fun z => nomatch z)
theorem p_or {rest : List Expr} (h : DEp F a S oa) (h2 : DEp F (.BoolOp .Or (b :: rest) pos) S ob) : DEp F (.BoolOp .Or (a :: b :: rest) pos) S (tr (O.ite (oa.bind asB) (.ok true) (ob.bind asB))) := fun d q => by
  obtain ⟨k, q0, e0⟩ := tr_eq q
  subst e0
  clear q
  have q := q0
  rcases O.ite_eq q with ⟨h3, q⟩ | ⟨h3, q⟩
  · obtain ⟨x, h1, h3⟩ := O.bind_eq h3
    cases asB_eq h3
    cases q
    exact de_or (k := true) (l := false) (h _ h1) (fun z => nomatch z)
  · obtain ⟨x, h1, h3⟩ := O.bind_eq h3
    obtain ⟨y, h4, q⟩ := O.bind_eq q
    cases asB_eq h3
    cases asB_eq q
    exact de_or (k := false) (l := k) (h _ h1) (fun _ => h2 _ h4)
theorem p_not (h : DEp F a S oa) : DEp F (.UnaryOp .Not a pos) S (tr ((oa.bind asB).bind fun k => .ok (!k))) := fun d q => by
  obtain ⟨k, q0, e0⟩ := tr_eq q
  subst e0
  clear q
  have q := q0
  obtain ⟨l, h3, q⟩ := O.bind_eq q
  obtain ⟨x, h1, h3⟩ := O.bind_eq h3
  cases asB_eq h3
  cases q
  exact de_not (h _ h1)
theorem p_ifx (hc : DTp F c S ot) (h1 : DEp F a S oa) (h2 : DEp F b S ob) : DEp F (.IfExp c a b pos) S (O.ite ot oa ob) := fun d q => by
  rcases O.ite_eq q with ⟨h3, q⟩ | ⟨h3, q⟩
  · exact de_if (k := true) (hc _ h3) (fun _ => h1 _ q) (fun z => nomatch z)
  · exact de_if (k := false) (hc _ h3) (fun z => nomatch z) (fun _ => h2 _ q)
theorem a_nil : DAp F [] S (.ok []) := fun ds q => by cases q; exact ⟨da_nil, rfl⟩
theorem a_cons (h : DEp F e S oe) (hr : DAp F es S os) (hs : ∀ i, starEach (e :: es) (F.X i).env = (false, eval e (F.X i).env) :: starEach es (F.X i).env := by intro _; rfl) : DAp F (e :: es) S (O.cons oe os) := fun ds q => by
  obtain ⟨x, h1, q⟩ := O.bind_eq q
  obtain ⟨xs, h2, q⟩ := O.bind_eq q
  cases q
  obtain ⟨h3, h4⟩ := hr xs h2
  exact ⟨da_cons (h x h1) h3 hs, by rw [List.length_cons, List.length_cons, h4]⟩
theorem kw_nil : DKp F [] S (.ok []) := fun ds q => by cases q; exact ⟨dk_nil, rfl⟩
theorem kw_cons {nm : Option Str} {kpos : Pos} {ks : List Keyword} (h : DEp F e S oe) (hr : DKp F ks S os) : DKp F (⟨nm, e, kpos⟩ :: ks) S (O.cons oe os) := fun ds q => by
  obtain ⟨x, h1, q⟩ := O.bind_eq q
  obtain ⟨xs, h2, q⟩ := O.bind_eq q
  cases q
  obtain ⟨h3, h4⟩ := hr xs h2
  exact ⟨dk_cons (h x h1) h3, by rw [List.length_cons, List.length_cons, h4]⟩
theorem p_tup {x1 : Nat} (h : DAp F es S os) (hl : es.length ≤ 1000 := by decide) : DEp F (.Tuple es x1 pos) S (os.bind fun ds => .ok (.tup ds)) := fun d q => by
  obtain ⟨ds, h1, q⟩ := O.bind_eq q
  cases q
  obtain ⟨h3, h4⟩ := h ds h1
  exact de_tup h3 (Nat.le_trans (by rw [h4]; exact hl) (by decide))
theorem p_lst (h : DAp F es S os) (hl : es.length ≤ 1000 := by decide) : DEp F (.List es pos) S (os.bind fun ds => .ok (.lst ds)) := fun d q => by
  obtain ⟨ds, h1, q⟩ := O.bind_eq q
  cases q
  obtain ⟨h3, h4⟩ := h ds h1
  exact de_lst h3 (Nat.le_trans (by rw [h4]; exact hl) (by decide))
theorem o_lst (h : DAp F es S os) (hl : es.length ≤ 1000 := by decide) : DOp F (.List es pos) S os := fun ds q => by
  obtain ⟨h3, h4⟩ := h ds q
  exact do_lst h3 (Nat.le_trans (by rw [h4]; exact hl) (by decide))
theorem p_do (h : DOp F e S os) : DEp F e S (os.bind fun ds => .ok (.lst ds)) := fun d q => by
  obtain ⟨ds, h1, q⟩ := O.bind_eq q
  cases q
  exact de_do (h ds h1)
def spF (C : Kc) (φ : List D → O D) : Sp := spP C fun ds d => φ ds = .ok d
section
variable {k : Nat} {nm : Str} {kws : List Keyword} {φ : List D → O D}
theorem p_call [Calm F] (cl : Cal F.P F.w F.C F.mg F.base k nm (spF F.C φ)) (ha : DAp F (e :: es) S os) (hk : k ≤ F.k := by exact Nat.le_of_ble_eq_true rfl)
    (hg : ∀ i, Gl (F.X i) nm := by intro _; rfl) (hdb : (nm == ("__debug__" : Str)) = false := by decide)
    (he : ∀ i, starEach (e :: es) (F.X i).env = (false, eval e (F.X i).env) :: starEach es (F.X i).env := by intro _; rfl) (hpl : ∀ i, (backTo pos (starEach es (F.X i).env)).any (·.1) = false := by intro _; rfl) : DEp F (.Call (.Name nm p) (e :: es) [] pos) S (os.bind φ) := fun d q => by
  obtain ⟨ds, h1, q⟩ := O.bind_eq q
  exact de_call cl (ha ds h1).1 q hk hg hdb he hpl
theorem p_callG [Calm F] (hG : ∀ i, (F.X i).A.guards = some []) (cl : CalG F.P F.w F.C F.mg F.base k nm (spF F.C φ)) (ha : DAp F (e :: es) S os) (hk : k ≤ F.k := by exact Nat.le_of_ble_eq_true rfl)
    (hg : ∀ i, Gl (F.X i) nm := by intro _; rfl) (hdb : (nm == ("__debug__" : Str)) = false := by decide)
    (he : ∀ i, starEach (e :: es) (F.X i).env = (false, eval e (F.X i).env) :: starEach es (F.X i).env := by intro _; rfl) (hpl : ∀ i, (backTo pos (starEach es (F.X i).env)).any (·.1) = false := by intro _; rfl) : DEp F (.Call (.Name nm p) (e :: es) [] pos) S (os.bind φ) := fun d q => by
  obtain ⟨ds, h1, q⟩ := O.bind_eq q
  exact de_callG hG cl (ha ds h1).1 q hk hg hdb he hpl
theorem p_make [Calm F] {cn : Nat} {ψ : List D → O (List (Str × D))} {dd : List D} (mk : Mak F.P F.w F.C F.mg F.base k nm cn (fun ds fs => ψ ds = .ok fs) dd) (ha : DAp F (e :: es) S os) (hk : k + 1 ≤ F.k := by exact Nat.le_of_ble_eq_true rfl)
    (hg : ∀ i, Gl (F.X i) nm := by intro _; rfl) (hdb : (nm == ("__debug__" : Str)) = false := by decide)
    (he : ∀ i, starEach (e :: es) (F.X i).env = (false, eval e (F.X i).env) :: starEach es (F.X i).env := by intro _; rfl) (hpl : ∀ i, (backTo pos (starEach es (F.X i).env)).any (·.1) = false := by intro _; rfl) : DEp F (.Call (.Name nm p) (e :: es) [] pos) S (os.bind fun ds => (ψ (ds ++ dd)).bind fun fs => .ok (.obj cn fs)) := fun d q => by
  obtain ⟨ds, h1, q⟩ := O.bind_eq q
  obtain ⟨fs, h2, q⟩ := O.bind_eq q
  cases q
  exact de_make mk (ha ds h1).1 h2 hk hg hdb he hpl
theorem p_callB {id : String} (hm : F.mg nm = none) (hv : bootBuiltins nm = some (.builtin id)) (hr : CaS F (.builtin id) φ) (ha : DAp F (e :: es) S os)
    (hg : ∀ i, Gl (F.X i) nm := by intro _; rfl) (hn : nm ≠ "__name__" := by decide) (hdb : (nm == ("__debug__" : Str)) = false := by decide)
    (he : ∀ i, starEach (e :: es) (F.X i).env = (false, eval e (F.X i).env) :: starEach es (F.X i).env := by intro _; rfl) (hpl : ∀ i, (backTo pos (starEach es (F.X i).env)).any (·.1) = false := by intro _; rfl) : DEp F (.Call (.Name nm p) (e :: es) [] pos) S (os.bind φ) := fun d q => by
  obtain ⟨ds, h1, q⟩ := O.bind_eq q
  exact de_callB hm hv (ha ds h1).1 (hr ds d q) hg hn hdb he hpl
theorem p_callTy {T : String} (hm : F.mg nm = none) (hv : bootBuiltins nm = some (.type T)) (hr : CaS F (.type T) φ) (ha : DAp F (e :: es) S os)
    (hg : ∀ i, Gl (F.X i) nm := by intro _; rfl) (hn : nm ≠ "__name__" := by decide) (hdb : (nm == ("__debug__" : Str)) = false := by decide)
    (he : ∀ i, starEach (e :: es) (F.X i).env = (false, eval e (F.X i).env) :: starEach es (F.X i).env := by intro _; rfl) (hpl : ∀ i, (backTo pos (starEach es (F.X i).env)).any (·.1) = false := by intro _; rfl) : DEp F (.Call (.Name nm p) (e :: es) [] pos) S (os.bind φ) := fun d q => by
  obtain ⟨ds, h1, q⟩ := O.bind_eq q
  exact de_callTy hm hv (ha ds h1).1 (hr ds d q) hg hn hdb he hpl
theorem p_isi {T : Expr} {cv : V} {q : D → O Bool} (hm : F.mg "isinstance" = none) (hT : DE F T S S (.cst cv)) (hr : ∀ x k, q x = .ok k → CaD F (.builtin "isinstance") [x, .cst cv] (.bl k)) (ha : DEp F a S oa)
    (hg : ∀ i, Gl (F.X i) "isinstance" := by intro _; rfl)
    (he : ∀ i, starEach [a, T] (F.X i).env = (false, eval a (F.X i).env) :: starEach [T] (F.X i).env := by intro _; rfl) (he2 : ∀ i, starEach [T] (F.X i).env = (false, eval T (F.X i).env) :: starEach [] (F.X i).env := by intro _; rfl) (hpl : ∀ i, (backTo pos (starEach [T] (F.X i).env)).any (·.1) = false := by intro _; rfl) : DEp F (.Call (.Name "isinstance" p) [a, T] [] pos) S (tr (oa.bind q)) := fun d h => by
  obtain ⟨k, h0, e0⟩ := tr_eq h
  subst e0
  clear h
  have h := h0
  obtain ⟨x, h1, h⟩ := O.bind_eq h
  exact de_callB hm bb_isinstance (da_cons (ha x h1) (da_cons hT da_nil he2) he) (hr x k h) hg (by decide) (by decide) he hpl
end
end
end SL
namespace SL
open PySem L2 DL
variable [TabL]
instance (i j : Int) : Decidable (CMul i j) := by unfold CMul; infer_instance
instance (i j : Int) : Decidable (CMulW i j) := by unfold CMulW; infer_instance
instance (i j : Int) : Decidable (CDivW i j) := by unfold CDivW; infer_instance
instance (i j : Int) : Decidable (CPow i j) := by unfold CPow; infer_instance
def CDivM (_ j : Int) : Prop := j < 0 ∧ j.natAbs.log2 < 9000
instance (i j : Int) : Decidable (CDivM i j) := by unfold CDivM; infer_instance
theorem op_fdivM {X : Cx} : OpR X (binaryOp .FloorDiv) (rI CDivM fun i j => .int (i.fdiv j)) := opI fun i j _ _ _ _ _ hc q => PyProof.Rows.floordiv_int (by have := hc.1; omega) q (.inl (PyProof.noPylong_of_log2 hc.2))
def mulOk (i j : Int) : Bool := decide (CMul i j ∨ CMulW i j)
def b_add : D → D → O D
  | .int i, .int j => .ok (.int (i + j))
  | .str i, .str j => if i.length + j.length ≤ 1000000 then .ok (.str (i ++ j)) else .bad
  | .tup xs, .tup ys => if xs.length + ys.length ≤ 1000000 then .ok (.tup (xs ++ ys)) else .bad
  | .lst xs, .lst ys => if xs.length + ys.length ≤ 1000000 then .ok (.lst (xs ++ ys)) else .bad
  | _, _ => .bad
def b_sub : D → D → O D
  | .int i, .int j => .ok (.int (i - j))
  | _, _ => .bad
def b_mul : D → D → O D
  | .int i, .int j => if mulOk i j then .ok (.int (i * j)) else .bad
  | .tup xs, .int k => if 1 ≤ xs.length ∧ 2 ≤ k ∧ k ≤ 1000 ∧ xs.length ≤ 1000 then .ok (.tup (List.replicate k.toNat xs).flatten) else .bad
  | .str t, .int k => if k = 0 then .ok (.str Str.empty) else if k = 1 then .ok (.str t) else .bad
  | _, _ => .bad
def b_fdiv : D → D → O D
  | .int i, .int j => if CDivW i j then .ok (.int (i / j)) else if CDivM i j then .ok (.int (i.fdiv j)) else .bad
  | _, _ => .bad
def b_mod : D → D → O D
  | .int i, .int j => if 0 < j then .ok (.int (i % j)) else .bad
  | _, _ => .bad
def b_pow : D → D → O D
  | .int i, .int j => if CPow i j then .ok (.int (i ^ j.toNat)) else .bad
  | _, _ => .bad
def b_neg : D → O D
  | .int i => .ok (.int (-i))
  | _ => .bad
def c_lt : D → D → O Bool
  | .int i, .int j => .ok (decide (i < j))
  | .str i, .str j => .ok (decide (i.cps.toList < j.cps.toList))
  | _, _ => .bad
def c_le : D → D → O Bool
  | .int i, .int j => .ok (decide (i ≤ j))
  | .str i, .str j => .ok (!decide (j.cps.toList < i.cps.toList))
  | _, _ => .bad
def c_gt : D → D → O Bool
  | .int i, .int j => .ok (decide (j < i))
  | .str i, .str j => .ok (decide (j.cps.toList < i.cps.toList))
  | _, _ => .bad
def c_ge : D → D → O Bool
  | .int i, .int j => .ok (decide (j ≤ i))
  | .str i, .str j => .ok (!decide (i.cps.toList < j.cps.toList))
  | _, _ => .bad
def eqOk (d : D) : Bool := okP d && SeqAt.shaped (toP d)
def c_eq : D → D → O Bool
  | .int i, .int j => .ok (decide (i = j))
  | .str i, .str j => .ok (decide (i = j))
  | .bl i, .bl j => .ok (decide (i = j))
  | x, y => if eqOk x && eqOk y then .ok (PyData.eqv (toP x) (toP y)) else .bad
def c_ne (x y : D) : O Bool := (c_eq x y).bind fun k => .ok (!k)
def isCst : D → Bool
  | .cst _ => true
  | .dic _ => true
  | .dik _ => true
  | .dim _ => true
  | .fn _ _ => true
  | _ => false
def ints? : List D → Option (List Int)
  | [] => some []
  | .int i :: r => (ints? r).map (i :: ·)
  | _ :: _ => none
def strs? : List D → Option (List Str)
  | [] => some []
  | .str i :: r => (strs? r).map (i :: ·)
  | _ :: _ => none
def bls? : List D → Option (List Bool)
  | [] => some []
  | .bl i :: r => (bls? r).map (i :: ·)
  | _ :: _ => none
@[simp] theorem ints?_map (is : List Int) : ints? (is.map D.int) = some is := by
  induction is with
  | nil => rfl
  | cons i r ih => show (ints? (r.map D.int)).map (i :: ·) = _; rw [ih]; rfl
@[simp] theorem strs?_map (is : List Str) : strs? (is.map D.str) = some is := by
  induction is with
  | nil => rfl
  | cons i r ih => show (strs? (r.map D.str)).map (i :: ·) = _; rw [ih]; rfl
@[simp] theorem bls?_map (is : List Bool) : bls? (is.map D.bl) = some is := by
  induction is with
  | nil => rfl
  | cons i r ih => show (bls? (r.map D.bl)).map (i :: ·) = _; rw [ih]; rfl
theorem ints?_eq : ∀ {ds : List D} {is : List Int}, ints? ds = some is → ds = is.map D.int
  | [], _, h => by cases h; rfl
  | d :: r, is, h => by
    cases d with
    | int i =>
      have h' : (ints? r).map (i :: ·) = some is := h
      cases q : ints? r with
      | none => rw [q] at h'; cases h'
      | some js => rw [q] at h'; cases h'; rw [List.map_cons, ints?_eq q]
    | _ => cases h
theorem strs?_eq : ∀ {ds : List D} {is : List Str}, strs? ds = some is → ds = is.map D.str
  | [], _, h => by cases h; rfl
  | d :: r, is, h => by
    cases d with
    | str i =>
      have h' : (strs? r).map (i :: ·) = some is := h
      cases q : strs? r with
      | none => rw [q] at h'; cases h'
      | some js => rw [q] at h'; cases h'; rw [List.map_cons, strs?_eq q]
    | _ => cases h
theorem bls?_eq : ∀ {ds : List D} {is : List Bool}, bls? ds = some is → ds = is.map D.bl
  | [], _, h => by cases h; rfl
  | d :: r, is, h => by
    cases d with
    | bl i =>
      have h' : (bls? r).map (i :: ·) = some is := h
      cases q : bls? r with
      | none => rw [q] at h'; cases h'
      | some js => rw [q] at h'; cases h'; rw [List.map_cons, bls?_eq q]
    | _ => cases h
def op2 {α β : Type} (o : Option α) (f : α → O β) : O β := match o with
  | some a => f a
  | none => .bad
@[simp] theorem op2_some {α β : Type} (a : α) (f : α → O β) : op2 (some a) f = f a := rfl
theorem op2_eq {α β : Type} {o : Option α} {f : α → O β} {b : β} (h : op2 o f = .ok b) : ∃ a, o = some a ∧ f a = .ok b := by
  cases o with
  | none => cases h
  | some a => exact ⟨a, rfl, h⟩
def c_in : D → D → O Bool
  | .int i, .tup ds => op2 (ints? ds) fun is => .ok (decide (i ∈ is))
  | .int i, .lst ds => op2 (ints? ds) fun is => .ok (decide (i ∈ is))
  | .str i, .tup ds => op2 (strs? ds) fun is => .ok (decide (i ∈ is))
  | .str i, .lst ds => op2 (strs? ds) fun is => .ok (decide (i ∈ is))
  | .str i, .str j => match i.cps.toList with
    | [c] => .ok (decide (c ∈ j.cps.toList))
    | _ => .bad
  | x, .lst ds => if eqOk x && eqOk (.lst ds) then .ok (ds.any fun z => PyData.eqv (toP z) (toP x)) else .bad
  | .tup ds, .dic kds => op2 (dkey (.tup ds)) fun k => .ok (dlook k kds).isSome
  | _, _ => .bad
section
variable {F : Fam}
theorem sl6 {n : Nat} (h : n ≤ 1000000) : n ≤ sizeLine := Nat.le_trans h (by decide)
theorem s_add : OpS F .Add b_add := fun x y z h => by
  unfold b_add at h
  split at h
  · cases h; exact od_add
  · split at h
    · cases h; exact od_addS (sl6 (by assumption))
    · cases h
  · split at h
    · cases h; exact od_catT (sl6 (by assumption))
    · cases h
  · split at h
    · cases h; exact od_catL (sl6 (by assumption))
    · cases h
  · cases h
theorem s_sub : OpS F .Sub b_sub := fun x y z h => by
  unfold b_sub at h
  split at h
  · cases h; exact od_sub
  · cases h
theorem od_repT {xs : List D} {k : Int} (h1 : xs ≠ []) (h2 : 2 ≤ k) (h3 : k ≤ 1000) (h4 : xs.length ≤ 1000) : OpD F (binaryOp .Mult) (.tup xs) (.int k) (.tup (List.replicate k.toNat xs).flatten) :=
  ⟨rRepT F.C.K, fun i => by have := op_repT (X := F.X i); rw [F.hK i] at this; exact this, fun G H u v s hu hv Q q => by
    cases hu with
    | @tup a vs _ g1 g2 =>
      cases hv
      refine ⟨a, k, vs, rfl, rfl, same_t s g1, fun e => h1 ?_, h2, h3, by rw [g2.length]; exact h4, fun p hp => ?_⟩
      · have := g2.length
        rw [e] at this
        exact List.length_eq_zero_iff.mp this.symm
      · have pu := Pu.new (o := .tup (List.replicate k.toNat vs).flatten) s hp
        refine q _ _ _ pu (.tup (SqT.of upd_same) (DenL.mono pu.gg ?_))
        generalize k.toNat = n
        induction n with
        | zero => exact .nil
        | succ n ih => rw [List.replicate_succ, List.replicate_succ, List.flatten_cons, List.flatten_cons]; exact g2.append ih⟩
theorem od_mulW {i j : Int} (h : CMulW i j) : OpD F (binaryOp .Mult) (.int i) (.int j) (.int (i * j)) := ⟨_, fun _ => op_mulW, rd_I h fun _ => .int _⟩
theorem od_fdivW {i j : Int} (h : CDivW i j) : OpD F (binaryOp .FloorDiv) (.int i) (.int j) (.int (i / j)) := ⟨_, fun _ => op_fdivW, rd_I h fun _ => .int _⟩
def rStrMul : R2 := fun x y H Q => ∃ t k, x = .str t ∧ y = .int k ∧ ((k = 0 ∧ Q (.str Str.empty) H) ∨ (k = 1 ∧ Q (.str t) H))
theorem op_strMul {X : Cx} : OpR X (binaryOp .Mult) rStrMul := by
  intro pins s σ H x y v u Q I rx ry h
  obtain ⟨t, k, rfl, rfl, h⟩ := h
  obtain ⟨tk, rfl⟩ := rx
  obtain ⟨tu, rfl⟩ := ry
  rcases h with ⟨rfl, q⟩ | ⟨rfl, q⟩
  · exact PySem.P.mul_str_none (by decide) (by decide) ⟨.str Str.empty, H, I.tok _, ⟨_, rfl⟩, q⟩
  · exact PySem.P.mul_str (by decide) (fun h1 h2 => absurd h2 (by simp)) (fun h1 h2 => absurd h2 (by simp)) (by
      rw [if_neg (by decide), if_pos (by simp)]
      exact ⟨.str t, H, I, ⟨_, rfl⟩, q⟩)
theorem od_strMul {t t' : Str} {k : Int} (h : (k = 0 ∧ t' = Str.empty) ∨ (k = 1 ∧ t' = t)) : OpD F (binaryOp .Mult) (.str t) (.int k) (.str t') := ⟨rStrMul, fun _ => op_strMul, fun G H u v s hu hv Q q => by
  cases hu; cases hv
  rcases h with ⟨h, rfl⟩ | ⟨h, rfl⟩
  · exact ⟨_, _, rfl, rfl, .inl ⟨h, q _ _ _ (.refl s) (.str _)⟩⟩
  · exact ⟨_, _, rfl, rfl, .inr ⟨h, q _ _ _ (.refl s) (.str _)⟩⟩⟩
theorem s_mul : OpS F .Mult b_mul := fun x y z h => by
  unfold b_mul at h
  split at h
  · split at h
    · rename_i hm
      cases h
      rcases of_decide_eq_true hm with q | q
      · exact od_mul q
      · exact od_mulW q
    · cases h
  · split at h
    · rename_i hm
      cases h
      exact od_repT (fun e => by rw [e] at hm; exact absurd hm.1 (by decide)) hm.2.1 hm.2.2.1 hm.2.2.2
    · cases h
  · split at h
    · cases h; exact od_strMul (.inl ⟨by assumption, rfl⟩)
    · split at h
      · cases h; exact od_strMul (.inr ⟨by assumption, rfl⟩)
      · cases h
  · cases h
theorem s_fdiv : OpS F .FloorDiv b_fdiv := fun x y z h => by
  unfold b_fdiv at h
  split at h
  · split at h
    · cases h; exact od_fdivW (by assumption)
    · split at h
      · cases h; exact ⟨_, fun _ => op_fdivM, rd_I (by assumption) fun _ => .int _⟩
      · cases h
  · cases h
theorem s_mod : OpS F .Mod b_mod := fun x y z h => by
  unfold b_mod at h
  split at h
  · split at h
    · cases h; exact od_mod (by assumption)
    · cases h
  · cases h
theorem s_pow : OpS F .Pow b_pow := fun x y z h => by
  unfold b_pow at h
  split at h
  · split at h
    · cases h; exact od_pow (by assumption)
    · cases h
  · cases h
theorem s_neg : UnS F .USub b_neg := fun x z h => by
  unfold b_neg at h
  split at h
  · cases h; exact ud_neg
  · cases h
theorem od_gtS {i j : Str} : OpD F (compareOp .Gt) (.str i) (.str j) (.bl (decide (j.cps.toList < i.cps.toList))) := ⟨_, fun _ => op_gt_str, fun G H u v s hu hv Q q => by
  cases hu; cases hv
  exact ⟨i, j, rfl, rfl, q _ _ _ (.refl s) (.bl _)⟩⟩
theorem od_geS {i j : Str} : OpD F (compareOp .GtE) (.str i) (.str j) (.bl (!decide (i.cps.toList < j.cps.toList))) := ⟨_, fun _ => op_ge_str, fun G H u v s hu hv Q q => by
  cases hu; cases hv
  exact ⟨i, j, rfl, rfl, q _ _ _ (.refl s) (.bl _)⟩⟩
theorem s_lt : CmS F .Lt c_lt := fun x y z h => by
  unfold c_lt at h
  split at h
  · cases h; exact od_lt
  · cases h; exact od_ltS
  · cases h
theorem s_le : CmS F .LtE c_le := fun x y z h => by
  unfold c_le at h
  split at h
  · cases h; exact od_le
  · cases h; exact od_leS
  · cases h
theorem s_gt : CmS F .Gt c_gt := fun x y z h => by
  unfold c_gt at h
  split at h
  · cases h; exact od_gt
  · cases h; exact od_gtS
  · cases h
theorem s_ge : CmS F .GtE c_ge := fun x y z h => by
  unfold c_ge at h
  split at h
  · cases h; exact od_ge
  · cases h; exact od_geS
  · cases h
theorem eqOk_of {d : D} (h : eqOk d = true) : okP d = true ∧ SeqAt.shaped (toP d) = true := by
  unfold eqOk at h
  exact Bool.and_eq_true_iff.mp h
theorem s_eq : CmS F .Eq c_eq := fun x y z h => by
  unfold c_eq at h
  split at h
  · cases h; exact od_eqI
  · cases h; exact od_eqS
  · cases h; exact od_eqB
  · split at h
    · rename_i hm
      cases h
      obtain ⟨h1, h2⟩ := Bool.and_eq_true_iff.mp hm
      exact od_eqP (eqOk_of h1).1 (eqOk_of h2).1 (eqOk_of h1).2 (eqOk_of h2).2
    · cases h
theorem s_ne : CmS F .NotEq c_ne := fun x y z h => by
  obtain ⟨k, h1, e⟩ := O.bind_eq h
  clear h
  have h := h1
  clear h1
  cases e
  unfold c_eq at h
  split at h
  · cases h; exact od_neI
  · cases h; exact od_neS
  · cases h; exact od_neB
  · split at h
    · rename_i hm
      cases h
      obtain ⟨h1, h2⟩ := Bool.and_eq_true_iff.mp hm
      exact od_neP (eqOk_of h1).1 (eqOk_of h2).1 (eqOk_of h1).2 (eqOk_of h2).2
    · cases h
theorem flat_strs {is : List Str} : (is.map V.str).all flatV = true := by simp [flatV]
theorem in_strs {i : Str} {is : List Str} : inV (.str i) (is.map V.str) = decide (i ∈ is) := by
  unfold inV
  rw [List.any_map]
  have : ∀ x : Str, eqV (.str x) (.str i) = decide (x = i) := fun x => by
    show decide _ = _
    first | rfl | simp
  induction is with
  | nil => simp
  | cons x r ih =>
    rw [List.any_cons, ih]
    show (eqV (.str x) (.str i) || _) = _
    rw [this]
    simp [List.mem_cons, eq_comm]
theorem od_inG {n : Bool} {op : CmpOp} {x : D} {v : V} {ds : List D} {b : Bool} (hop : ∀ i, OpR (F.X i) (compareOp op) (rIn (F.X i).K n)) (hx : ∀ G u, Den F.C G u x → u = v) (hf : flatV v = true) (hd : ∀ G us, DenL F.C G us ds → us.all flatV = true ∧ inV v us = b) (d : D) (hdd : d = .tup ds ∨ d = .lst ds) : OpD F (compareOp op) x d (.bl (if n then !b else b)) :=
  ⟨rIn F.C.K n, fun i => by have := hop i; rw [F.hK i] at this; exact this, fun G H u w s hu hv Q q => by
    cases hx G u hu
    rcases hdd with rfl | rfl
    · cases hv with
      | @tup a vs _ h1 h2 =>
        obtain ⟨z1, z2⟩ := hd G vs h2
        refine ⟨a, vs, rfl, .inr (same_t s h1), hf, z1, ?_⟩
        rw [z2]
        exact q _ _ _ (.refl s) (.bl _)
    · cases hv with
      | @lst a vs _ h1 h2 =>
        obtain ⟨z1, z2⟩ := hd G vs h2
        refine ⟨a, vs, rfl, .inl (s.seq h1), hf, z1, ?_⟩
        rw [z2]
        exact q _ _ _ (.refl s) (.bl _)⟩
theorem od_inIs {i : Int} {is : List Int} {n : Bool} {op : CmpOp} (hop : ∀ i, OpR (F.X i) (compareOp op) (rIn (F.X i).K n)) (d : D) (hd : d = .tup (is.map D.int) ∨ d = .lst (is.map D.int)) : OpD F (compareOp op) (.int i) d (.bl (if n then !decide (i ∈ is) else decide (i ∈ is))) :=
  od_inG hop (fun G u h => by cases h; rfl) rfl (fun G us h => by have e := denL_int h; subst e; exact ⟨flat_ints, in_ints⟩) d hd
theorem od_inSs {i : Str} {is : List Str} {n : Bool} {op : CmpOp} (hop : ∀ i, OpR (F.X i) (compareOp op) (rIn (F.X i).K n)) (d : D) (hd : d = .tup (is.map D.str) ∨ d = .lst (is.map D.str)) : OpD F (compareOp op) (.str i) d (.bl (if n then !decide (i ∈ is) else decide (i ∈ is))) :=
  od_inG hop (fun G u h => by cases h; rfl) rfl (fun G us h => by have e := denL_str h; subst e; exact ⟨flat_strs, in_strs⟩) d hd
theorem od_sign {i : Str} {c : Nat} {j : Str} (h : i.cps.toList = [c]) : OpD F (compareOp .In) (.str i) (.str j) (.bl (decide (c ∈ j.cps.toList))) := ⟨_, fun _ => op_in_sign, fun G H u v s hu hv Q q => by
  cases hu; cases hv
  refine ⟨c, j, ?_, rfl, q _ _ _ (.refl s) (.bl _)⟩
  obtain ⟨a⟩ := i
  have e : a = #[c] := Array.toList_inj.mp h
  rw [e]⟩
end
end SL
namespace SL
open PySem L2 DL
variable [TabL]
section
variable {F : Fam}
theorem od_inL {x : D} {ds : List D} (h1 : eqOk x = true) (h2 : eqOk (.lst ds) = true) : OpD F (compareOp .In) x (.lst ds) (.bl (ds.any fun z => PyData.eqv (toP z) (toP x))) :=
  ⟨rInD F.C.K, fun i => by
      have := op_inD (X := F.X i) (by have := (F.roomH i).un; omega)
      rw [F.hK i] at this; exact this, fun G H u v s hu hv Q q => by
    refine ⟨toP x, toPs ds, hu.dp s (eqOk_of h1).1, hv.dp s (eqOk_of h2).1, (eqOk_of h1).2, (eqOk_of h2).2, ?_⟩
    have e : ((toPs ds).any fun z => PyData.eqv z (toP x)) = ds.any fun z => PyData.eqv (toP z) (toP x) := by
      clear h2 hv q
      induction ds with
      | nil => rfl
      | cons a r ih => show (PyData.eqv (toP a) (toP x) || (toPs r).any fun z => PyData.eqv z (toP x)) = _; rw [ih]; rfl
    rw [e]
    exact q _ _ _ (.refl s) (.bl _)⟩
theorem s_in : CmS F .In c_in := fun x y z h => by
  unfold c_in at h
  split at h
  · obtain ⟨is, h1, h⟩ := op2_eq h
    cases h
    exact od_inIs (n := false) (fun _ => op_in_seq) _ (.inl (by rw [ints?_eq h1]))
  · obtain ⟨is, h1, h⟩ := op2_eq h
    cases h
    exact od_inIs (n := false) (fun _ => op_in_seq) _ (.inr (by rw [ints?_eq h1]))
  · obtain ⟨is, h1, h⟩ := op2_eq h
    cases h
    exact od_inSs (n := false) (fun _ => op_in_seq) _ (.inl (by rw [strs?_eq h1]))
  · obtain ⟨is, h1, h⟩ := op2_eq h
    cases h
    exact od_inSs (n := false) (fun _ => op_in_seq) _ (.inr (by rw [strs?_eq h1]))
  · split at h
    · cases h; exact od_sign (by assumption)
    · cases h
  · split at h
    · rename_i hm
      cases h
      obtain ⟨h1, h2⟩ := Bool.and_eq_true_iff.mp hm
      exact od_inL h1 h2
    · cases h
  · obtain ⟨k, h1, h⟩ := op2_eq h
    cases h
    exact od_ndIn h1
  · cases h
end
def bi_abs : List D → O D
  | [.int i] => .ok (.int (if i < 0 then -i else i))
  | _ => .bad
def maxL : List Int → Option Int
  | [] => none
  | a :: r => some (r.foldl (fun m x => if x > m then x else m) a)
def minL : List Int → Option Int
  | [] => none
  | a :: r => some (r.foldl (fun m x => if x < m then x else m) a)
def bi_max : List D → O D
  | [.int i, .int j] => .ok (.int (if j > i then j else i))
  | [.lst ds] => op2 (ints? ds) fun is => op2 (maxL is) fun m => .ok (.int m)
  | _ => .bad
def bi_min : List D → O D
  | [.int i, .int j] => .ok (.int (if j < i then j else i))
  | [.lst ds] => op2 (ints? ds) fun is => op2 (minL is) fun m => .ok (.int m)
  | _ => .bad
def bi_len : List D → O D
  | [.tup ds] => .ok (.int ds.length)
  | [.lst ds] => .ok (.int ds.length)
  | [.str t] => if t.length ≤ 1000000 then .ok (.int t.length) else .bad
  | [.dic kvs] => .ok (.int kvs.length)
  | _ => .bad
def bi_all : List D → O D
  | [.lst ds] => op2 (bls? ds) fun bs => .ok (.bl (bs.all id))
  | _ => .bad
def bi_int : List D → O D
  | [.int i] => .ok (.int i)
  | [.bl b] => .ok (.int (if b then 1 else 0))
  | [.str t] => if t.length ≤ 640 then op2 (intText? t) fun n => .ok (.int n) else .bad
  | _ => .bad
def bi_str : List D → O D
  | [.int i] => if i.natAbs.log2 < 1920 then .ok (.str (toString i)) else .bad
  | [.str t] => .ok (.str t)
  | _ => .bad
def bi_tuple : List D → O D
  | [.lst ds] => .ok (.tup ds)
  | [.tup ds] => .ok (.tup ds)
  | _ => .bad
def repB (d : D) : Bool := isSeqD d && okP d && (toP d).showable && (toP d).leavesShort 100 && !(toP d).hasDict && decide ((toP d).depth ≤ 60) && decide ((toP d).weight ≤ 100000) && (toP d).canLay0
def bi_repr : List D → O D
  | [d] => if repB d then .ok (.str (toP d).shown) else .bad
  | _ => .bad
theorem maxL_is {is : List Int} {m : Int} (h : maxL is = some m) : m ∈ is ∧ ∀ y ∈ is, y ≤ m := by
  cases is with
  | nil => cases h
  | cons a r =>
    cases h
    have key : ∀ (l : List Int) (m0 : Int), (l.foldl (fun m x => if x > m then x else m) m0 = m0 ∨ l.foldl (fun m x => if x > m then x else m) m0 ∈ l) ∧ m0 ≤ l.foldl (fun m x => if x > m then x else m) m0 ∧ ∀ y ∈ l, y ≤ l.foldl (fun m x => if x > m then x else m) m0 := by
      intro l
      induction l with
      | nil => intro m0; simp
      | cons x l ih =>
        intro m0
        obtain ⟨h1, h2, h3⟩ := ih (if x > m0 then x else m0)
        rw [List.foldl_cons]
        refine ⟨?_, ?_, ?_⟩
        · rcases h1 with h1 | h1
          · by_cases hx : x > m0
            · rw [if_pos hx] at h1 ⊢; right; rw [h1]; exact List.mem_cons_self
            · rw [if_neg hx] at h1 ⊢; left; exact h1
          · right; exact List.mem_cons_of_mem _ h1
        · refine Int.le_trans ?_ h2
          split <;> omega
        · intro y hy
          rcases List.mem_cons.mp hy with rfl | hy
          · refine Int.le_trans ?_ h2
            split <;> omega
          · exact h3 y hy
    obtain ⟨h1, h2, h3⟩ := key r a
    refine ⟨?_, ?_⟩
    · rcases h1 with h1 | h1
      · rw [h1]; exact List.mem_cons_self
      · exact List.mem_cons_of_mem _ h1
    · intro y hy
      rcases List.mem_cons.mp hy with rfl | hy
      · exact h2
      · exact h3 y hy
theorem minL_is {is : List Int} {m : Int} (h : minL is = some m) : m ∈ is ∧ ∀ y ∈ is, m ≤ y := by
  cases is with
  | nil => cases h
  | cons a r =>
    cases h
    have key : ∀ (l : List Int) (m0 : Int), (l.foldl (fun m x => if x < m then x else m) m0 = m0 ∨ l.foldl (fun m x => if x < m then x else m) m0 ∈ l) ∧ l.foldl (fun m x => if x < m then x else m) m0 ≤ m0 ∧ ∀ y ∈ l, l.foldl (fun m x => if x < m then x else m) m0 ≤ y := by
      intro l
      induction l with
      | nil => intro m0; simp
      | cons x l ih =>
        intro m0
        obtain ⟨h1, h2, h3⟩ := ih (if x < m0 then x else m0)
        rw [List.foldl_cons]
        refine ⟨?_, ?_, ?_⟩
        · rcases h1 with h1 | h1
          · by_cases hx : x < m0
            · rw [if_pos hx] at h1 ⊢; right; rw [h1]; exact List.mem_cons_self
            · rw [if_neg hx] at h1 ⊢; left; exact h1
          · right; exact List.mem_cons_of_mem _ h1
        · refine Int.le_trans h2 ?_
          split <;> omega
        · intro y hy
          rcases List.mem_cons.mp hy with rfl | hy
          · refine Int.le_trans h2 ?_
            split <;> omega
          · exact h3 y hy
    obtain ⟨h1, h2, h3⟩ := key r a
    refine ⟨?_, ?_⟩
    · rcases h1 with h1 | h1
      · rw [h1]; exact List.mem_cons_self
      · exact List.mem_cons_of_mem _ h1
    · intro y hy
      rcases List.mem_cons.mp hy with rfl | hy
      · exact h2
      · exact h3 y hy
section
variable {F : Fam}
theorem s_abs : CaS F (.builtin "abs") bi_abs := fun ds z h => by
  unfold bi_abs at h
  split at h
  · cases h; exact ca_abs
  · cases h
theorem ca_maxL [Calm F] {is : List Int} {m : Int} (h : maxL is = some m) : CaD F (.builtin "max") [.lst (is.map D.int)] (.int m) := ⟨rMax F.C.K, fun i => by have := cr_max (X := F.X i) (F.calm i); rw [F.hK i] at this; exact this, fun G H us s hu Q q => by
  cases hu with
  | cons h0 l => cases h0 with
    | @lst a vs _ h1 h2 =>
      cases l
      have e := denL_int h2
      subst e
      obtain ⟨z1, z2⟩ := maxL_is h
      refine ⟨a, is, rfl, s.seq h1, List.length_pos_of_mem z1, fun m' y1 y2 => ?_⟩
      have : m' = m := Int.le_antisymm (z2 m' y1) (y2 m z1)
      rw [this]
      exact q _ _ _ (.refl s) (.int _)⟩
theorem ca_minL [Calm F] {is : List Int} {m : Int} (h : minL is = some m) : CaD F (.builtin "min") [.lst (is.map D.int)] (.int m) := ⟨rMin F.C.K, fun i => by have := cr_min (X := F.X i) (F.calm i); rw [F.hK i] at this; exact this, fun G H us s hu Q q => by
  cases hu with
  | cons h0 l => cases h0 with
    | @lst a vs _ h1 h2 =>
      cases l
      have e := denL_int h2
      subst e
      obtain ⟨z1, z2⟩ := minL_is h
      refine ⟨a, is, rfl, s.seq h1, List.length_pos_of_mem z1, fun m' y1 y2 => ?_⟩
      have : m' = m := Int.le_antisymm (y2 m z1) (z2 m' y1)
      rw [this]
      exact q _ _ _ (.refl s) (.int _)⟩
theorem s_max [Calm F] : CaS F (.builtin "max") bi_max := fun ds z h => by
  unfold bi_max at h
  split at h
  · cases h; exact ca_max
  · obtain ⟨is, h1, h⟩ := op2_eq h
    obtain ⟨m, h2, h⟩ := op2_eq h
    cases h
    rw [ints?_eq h1]
    exact ca_maxL h2
  · cases h
theorem s_min [Calm F] : CaS F (.builtin "min") bi_min := fun ds z h => by
  unfold bi_min at h
  split at h
  · cases h; exact ca_min
  · obtain ⟨is, h1, h⟩ := op2_eq h
    obtain ⟨m, h2, h⟩ := op2_eq h
    cases h
    rw [ints?_eq h1]
    exact ca_minL h2
  · cases h
theorem s_len : CaS F (.builtin "len") bi_len := fun ds z h => by
  unfold bi_len at h
  split at h
  · cases h; exact ca_lenT
  · cases h; exact ca_lenL
  · split at h
    · cases h; exact ca_lenS (sl6 (by assumption))
    · cases h
  · cases h; exact ca_lenN
  · cases h
theorem s_all [Calm F] : CaS F (.builtin "all") bi_all := fun ds z h => by
  unfold bi_all at h
  split at h
  · obtain ⟨bs, h1, h⟩ := op2_eq h
    cases h
    rw [bls?_eq h1]
    exact ca_all
  · cases h
theorem ca_intS {t : Str} {n : Int} (h1 : t.length ≤ 640) (h2 : intText? t = some n) : CaD F (.type "int") [.str t] (.int n) := ⟨_, fun _ => call_int_str, fun G H us s h Q q => by
  cases h with
  | cons h l => cases h; cases l; exact ⟨t, n, rfl, h2, h1, q _ _ _ (.refl s) (.int _)⟩⟩
theorem s_int : CaS F (.type "int") bi_int := fun ds z h => by
  unfold bi_int at h
  split at h
  · cases h; exact ca_int
  · cases h; exact ca_intB
  · split at h
    · obtain ⟨n, h1, h⟩ := op2_eq h
      cases h
      exact ca_intS (by assumption) h1
    · cases h
  · cases h
theorem ca_strS {t : Str} : CaD F (.type "str") [.str t] (.str t) := ⟨_, fun _ => SkE.call_str_str, fun G H us s h Q q => by
  cases h with
  | cons h l => cases h; cases l; exact ⟨t, rfl, q _ _ _ (.refl s) (.str _)⟩⟩
theorem s_str : CaS F (.type "str") bi_str := fun ds z h => by
  unfold bi_str at h
  split at h
  · split at h
    · cases h; exact ca_strI (by assumption)
    · cases h
  · cases h; exact ca_strS
  · cases h
theorem s_tuple : CaS F (.type "tuple") bi_tuple := fun ds z h => by
  unfold bi_tuple at h
  split at h
  · cases h; exact ca_tupL
  · cases h; exact ca_tupT
  · cases h
theorem repB_of {d : D} (h : repB d = true) : isSeqD d = true ∧ Rep 60 100000 d := by
  unfold repB at h
  simp only [Bool.and_eq_true, decide_eq_true_eq, Bool.not_eq_true'] at h
  obtain ⟨⟨⟨⟨⟨⟨⟨h1, h2⟩, h3⟩, h4⟩, h5⟩, h6⟩, h7⟩, h8⟩ := h
  exact ⟨h1, h2, h3, h4, h5, h6, h7, h8⟩
theorem s_repr (hG : ∀ i, (F.X i).A.guards = some []) : CaS F (.builtin "repr") bi_repr := fun ds z h => by
  unfold bi_repr at h
  split at h
  · split at h
    · rename_i hm
      cases h
      obtain ⟨h1, h2⟩ := repB_of hm
      exact ca_repr hG h2 h1
    · cases h
  · cases h
end
def tyN : D → Option String
  | .non => some "NoneType"
  | .bl _ => some "bool"
  | .int _ => some "int"
  | .str _ => some "str"
  | .tup _ => some "tuple"
  | .lst _ => some "list"
  | .dic _ => some "dict"
  | _ => none
def isiB (T : String) (d : D) : O Bool := match d with
  | .obj _ _ => .ok false
  | .cst _ => .bad
  | .dic _ => op2 (kitB "dict" T) fun b => .ok b
  | d => op2 (tyN d) fun t => op2 (kitB t T) fun b => .ok b
def isiC (c : Nat) (d : D) : O Bool := match d with
  | .obj c' _ => .ok (decide (c' = c))
  | .cst _ => .bad
  | .dik _ => .bad
  | .dim _ => .bad
  | .fn _ _ => .bad
  | .dic _ => .ok false
  | _ => .ok false
def ix : D → D → O D
  | .tup ds, .int i => op2 (atI ds i) .ok
  | .lst ds, .int i => op2 (atI ds i) .ok
  | .str t, .int i => if t.length ≤ 1000000 then op2 (atI t.cps.toList i) fun c => .ok (.str ⟨#[c]⟩) else .bad
  | _, _ => .bad
def cut (d : D) (lo hi : Option Int) : O D := match d with
  | .tup ds => .ok (.tup (cutD ds lo hi))
  | .lst ds => .ok (.lst (cutD ds lo hi))
  | .str t => if t.length ≤ 1000000 then .ok (.str (cutS t lo hi)) else .bad
  | _ => .bad
def fld (f : Str) (cs : List Nat) (d : D) : O D := match d with
  | .obj c fs => if c ∈ cs then op2 (fs.lookup f) .ok else .bad
  | _ => .bad
def asI : D → O Int
  | .int i => .ok i
  | _ => .bad
@[simp] theorem asI_int (i : Int) : asI (.int i) = .ok i := rfl
theorem asI_eq {d : D} {i : Int} (h : asI d = .ok i) : d = .int i := by
  cases d <;> first | (cases h; rfl) | cases h
section
variable {F : Fam} {S : ST} {e a b c : Expr} {pos p p2 : Pos} {oa ob : O D} {lo hi : Option Expr} {ol oh : O (Option Int)}
theorem p_ix (ha : DEp F a S oa) (hb : DEp F b S ob) (hs : PlainIx b := by intro _ _; rfl) : DEp F (.Subscript a b pos) S (oa.bind fun x => ob.bind fun y => ix x y) := fun d h => by
  obtain ⟨x, h1, h⟩ := O.bind_eq h
  obtain ⟨y, h2, h⟩ := O.bind_eq h
  unfold ix at h
  split at h
  · obtain ⟨z, h3, h⟩ := op2_eq h
    cases h
    exact de_ixT (ha _ h1) (hb _ h2) h3 hs
  · obtain ⟨z, h3, h⟩ := op2_eq h
    cases h
    exact de_ixL (ha _ h1) (hb _ h2) h3 hs
  · split at h
    · obtain ⟨z, h3, h⟩ := op2_eq h
      cases h
      exact de_ixS (ha _ h1) (hb _ h2) (sl6 (by assumption)) h3 hs
    · cases h
  · cases h
def DXp (F : Fam) (o : Option Expr) (S : ST) (r : O (Option Int)) : Prop := ∀ i, r = .ok i → DL.DOp F o S S i
theorem x_none : DXp F none S (.ok none) := fun i h => by cases h; exact do_none
theorem x_some (h : DEp F e S oa) : DXp F (some e) S (oa.bind fun x => (asI x).bind fun i => .ok (some i)) := fun i q => by
  obtain ⟨x, h1, q⟩ := O.bind_eq q
  obtain ⟨j, h2, q⟩ := O.bind_eq q
  cases asI_eq h2
  cases q
  exact do_some (h _ h1)
theorem p_slice (ha : DEp F a S oa) (hl : DXp F lo S ol) (hh : DXp F hi S oh) : DEp F (.Subscript a (.Slice lo hi none p2) pos) S (oa.bind fun x => ol.bind fun l => oh.bind fun h => cut x l h) := fun d q => by
  obtain ⟨x, h1, q⟩ := O.bind_eq q
  obtain ⟨l, h2, q⟩ := O.bind_eq q
  obtain ⟨h, h3, q⟩ := O.bind_eq q
  unfold cut at q
  split at q
  · cases q; exact de_sliceT (ha _ h1) (hl _ h2) (hh _ h3)
  · cases q; exact de_sliceL (ha _ h1) (hl _ h2) (hh _ h3)
  · split at q
    · cases q; exact de_sliceS (ha _ h1) (hl _ h2) (hh _ h3) (sl6 (by assumption))
    · cases q
  · cases q
theorem de_fldH {cs : List Nat} {f : Str} {cn : Nat} {fs : List (Str × D)} {d : D} (hT : ∀ c ∈ cs, F.C.has c = true → Cls F.C.K (F.C.cl c) ∧ NoAttr F.C.K (F.C.cl c) f) (h : DE F e S S (.obj cn fs)) (hc : cn ∈ cs) (hl : fs.lookup f = some d)
    (hb : ∀ i, attributeBase e f (F.X i).env (eval e (F.X i).env) = eval e (F.X i).env) : DE F (.Attribute e f pos) S S d :=
  de_of (te := tFld F.C.K (anyE F e) f) (fun i => by have := pe_fld (pos := pos) (anyE_ok (e := e) i) (hb i); rw [F.hK i] at this; exact this) fun σ G H cx Q q => h σ G H cx _ fun v G1 H1 m dv => by
    cases dv with
    | @obj a dx _ vs _ hq ha hf =>
      obtain ⟨w, h1, h2⟩ := hf.look hl
      obtain ⟨t1, t2⟩ := hT cn hc hq
      exact ⟨a, _, dx, vs, w, rfl, m.cx.sub _ _ ha, t1, t2, h1, q _ _ _ m h2⟩
theorem p_fld {cs : List Nat} {f : Str} (hT : ∀ c ∈ cs, F.C.has c = true → Cls F.C.K (F.C.cl c) ∧ NoAttr F.C.K (F.C.cl c) f) (ha : DEp F e S oa)
    (hb : ∀ i, attributeBase e f (F.X i).env (eval e (F.X i).env) = eval e (F.X i).env := by intro _; rfl) : DEp F (.Attribute e f pos) S (oa.bind (fld f cs)) := fun d h => by
  obtain ⟨x, h1, h⟩ := O.bind_eq h
  unfold fld at h
  split at h
  · split at h
    · obtain ⟨y, h2, h⟩ := op2_eq h
      cases h
      exact de_fldH hT (ha _ h1) (by assumption) h2 hb
    · cases h
  · cases h
theorem isi_ok {T : String} {x : D} {k : Bool} (hI : ∀ c, F.C.has c = true → InsF F.C.K (F.C.cl c)) (hO : ∀ c, F.C.has c = true → PySem.W.kitOne F.C.K (.ref (F.C.cl c)) (.type T) = some false) (h : isiB T x = .ok k) : CaD F (.builtin "isinstance") [x, .cst (.ty T)] (.bl k) := by
  unfold isiB at h
  split at h
  · rename_i c fs
    cases h
    by_cases hc : F.C.has c = true
    · exact ca_isi (.ty T) (fun _ _ e q => hI _ q) rfl (hO c hc)
    · refine ⟨fun _ _ _ => False, fun _ => fun _ _ _ _ _ _ _ _ _ z => z.elim, fun G H us s hu Q q => ?_⟩
      cases hu with
      | cons h0 _ => cases h0 with
        | obj hq => exact hc hq
  · cases h
  · obtain ⟨b, h4, h⟩ := op2_eq h
    cases h
    exact ca_isiD (.ty T) (kit_ty h4)
  · rename_i h1 h2 h2'
    have hp : plD x = true := by cases x <;> first | rfl | exact absurd rfl (h2 _) | exact absurd rfl (h2' _) | (exfalso; simp [tyN, op2] at h)
    obtain ⟨t, h3, h⟩ := op2_eq h
    obtain ⟨b, h4, h⟩ := op2_eq h
    cases h
    refine ca_isi (.ty T) (fun c fs e _ => absurd e (h1 c fs)) hp ?_
    have : tyD F.C x = .type t := by cases x <;> first | (cases h3; rfl) | cases h3
    rw [this]
    exact kit_ty h4
theorem isi_own {cn : Nat} {x : D} {k : Bool} (hI : ∀ c, F.C.has c = true → InsF F.C.K (F.C.cl c)) (hh : F.C.has cn = true) (hO : ∀ c, F.C.has c = true → c ≠ cn → PySem.W.kitOne F.C.K (.ref (F.C.cl c)) (.ref (F.C.cl cn)) = some false)
    (hB : ∀ T ∈ ["NoneType", "bool", "int", "str", "tuple", "list", "dict"], PySem.W.kitOne F.C.K (.type T) (.ref (F.C.cl cn)) = some false) (h : isiC cn x = .ok k) : CaD F (.builtin "isinstance") [x, .cst (.ref (F.C.cl cn))] (.bl k) := by
  unfold isiC at h
  split at h
  · rename_i c fs
    cases h
    by_cases hc : F.C.has c = true
    · refine ca_isi (.own _) (fun _ _ e q => hI _ q) rfl ?_
      by_cases e : c = cn
      · subst e
        rw [decide_eq_true rfl]
        show (if (Value.ref (F.C.cl c) == Value.ref (F.C.cl c)) = true then some true else _) = _
        rw [if_pos (by simp)]
      · rw [decide_eq_false e]
        exact hO c hc e
    · refine ⟨fun _ _ _ => False, fun _ => fun _ _ _ _ _ _ _ _ _ z => z.elim, fun G H us s hu Q q => ?_⟩
      cases hu with
      | cons h0 _ => cases h0 with
        | obj hq => exact hc hq
  · cases h
  · cases h
  · cases h
  · cases h
  · cases h
    exact ca_isiD (.own _) (hB "dict" (by decide))
  · rename_i h1 h2 h3 h4 h5 h2'
    have hp : plD x = true := by cases x <;> first | rfl | exact absurd rfl (h2 _) | exact absurd rfl (h3 _) | exact absurd rfl (h4 _) | exact absurd rfl (h5 _ _) | exact absurd rfl (h2' _)
    cases h
    refine ca_isi (.own _) (fun c fs e _ => absurd e (h1 c fs)) hp ?_
    cases x <;> first | exact hB _ (by decide) | exact absurd rfl (h1 _ _) | exact absurd rfl (h2 _) | exact absurd rfl (h3 _) | exact absurd rfl (h4 _) | exact absurd rfl (h5 _ _) | exact absurd rfl (h2' _)
end
end SL
namespace DL
open PySem L2
variable [TabL]
section
variable {F : Fam} {S S1 S2 S3 : ST} {e a b c tg iter : Expr} {pos : Pos} {P : Po} {rest body : List Stmt} {M : ST → Prop}
inductive WkL : List (Option DV) → List (Option DV) → Prop where
  | nil : WkL [] []
  | keep {x : Option DV} {xs ys : List (Option DV)} : WkL xs ys → WkL (x :: xs) (x :: ys)
  | drop {x : Option DV} {xs ys : List (Option DV)} : WkL xs ys → WkL (x :: xs) (none :: ys)
structure Wk (S S' : ST) : Prop where
  s : WkL S.s S'.s
  g : S.g = S'.g
theorem WkL.refl : ∀ xs, WkL xs xs
  | [] => .nil
  | _ :: xs => .keep (WkL.refl xs)
theorem Wk.refl (S : ST) : Wk S S := ⟨.refl _, rfl⟩
theorem WkL.len {xs ys : List (Option DV)} (h : WkL xs ys) : xs.length = ys.length := by
  induction h with
  | nil => rfl
  | keep _ ih => simp [ih]
  | drop _ ih => simp [ih]
theorem WkL.get {xs ys : List (Option DV)} (h : WkL xs ys) : ∀ {i : Nat} {o : DV}, ys[i]? = some (some o) → xs[i]? = some (some o) := by
  induction h with
  | nil => intro i o q; simp at q
  | keep _ ih =>
    intro i o q
    cases i with
    | zero => simpa using q
    | succ i => simpa using ih (by simpa using q)
  | drop _ ih =>
    intro i o q
    cases i with
    | zero => simp at q
    | succ i => simpa using ih (by simpa using q)
theorem Wk.mw {C : Kc} {G H : Hp} {σ : L2.St} (w : Wk S S1) (c : Ctx C G H σ S) : Mw C σ S G H σ S1 G H := by
  obtain ⟨w, g⟩ := w
  refine ⟨.refl, ⟨c.sub, c.len.trans w.len, fun i d h => c.im i d (w.get h), fun i m h => c.ow i m (w.get h), fun i j m n a h h' => c.apart i j m n a (w.get h) (w.get h'), fun i b o hg h => c.bg i b o (g.trans hg) (w.get h), g ▸ c.bag, fun i b o m hg h => c.nob i b o m (g.trans hg) (w.get h)⟩, fun a z => .inl ?_⟩
  rcases z with ⟨i, m, h, q⟩ | ⟨o, h⟩
  · exact .inl ⟨i, m, w.get h, q⟩
  · exact .inr ⟨o, g.trans h⟩
theorem ds_wk {sts : List Stmt} (w : Wk S S1) (h : DS F sts S1 P) : DS F sts S P := fun σ G H c E m =>
  let mw := w.mw c
  h σ G H mw.cx E (m.move mw)
theorem dg_wk {d : D} {js : List Nat} (w : Wk S S1) (h : DG F tg d S1 S2 js) : DG F tg d S S2 js := fun σ G H v c dv Q q =>
  let mw := w.mw c
  h σ G H v mw.cx dv Q fun σ2 G2 H2 m o => q σ2 G2 H2 (mw.trans m) o
theorem Wk.mv {C : Kc} {G H : Hp} {σ : L2.St} (w : Wk S S1) (c : Ctx C G H σ S) : Mv C σ S G H S1 G H := by
  have m := w.mw c
  refine ⟨m.go, m.cx, fun a z => ?_⟩
  obtain ⟨w, g⟩ := w
  rcases z with ⟨i, m, h, q⟩ | ⟨o, h⟩
  · exact .inl ⟨i, m, w.get h, q⟩
  · exact .inr ⟨o, g.trans h⟩
end
end DL
namespace SL
open PySem L2 DL
variable [TabL]
def atomB : D → Bool
  | .non => true
  | .bl _ => true
  | .int _ => true
  | .str _ => true
  | _ => false
def atomO (o : O D) : O D := o.bind fun d => bif atomB d then .ok d else .bad
@[simp] theorem atomO_non : atomO (.ok .non) = .ok .non := rfl
@[simp] theorem atomO_bl (b : Bool) : atomO (.ok (.bl b)) = .ok (.bl b) := rfl
@[simp] theorem atomO_int (i : Int) : atomO (.ok (.int i)) = .ok (.int i) := rfl
@[simp] theorem atomO_str (i : Str) : atomO (.ok (.str i)) = .ok (.str i) := rfl
def DSk {R : Type} (F : Fam) (sts : List Stmt) (S : ST) (m : O R) (P : R → Po) : Prop := ∀ r, m = .ok r → DS F sts S (P r)
def PF : D → Po := fun r => { rt := fun d' _ => d' = r, nx := fun _ => r = .non }
def PN : List D → Po := fun r => { ro := fun es' _ => es' = r }
def PI (b : Addr) (c : Nat) : List (Str × D) → Po := fun r => { nx := fun S => S.g = some (b, .ins c r) }
def PJ {T : Type} (mk : T → ST) : T → Po := fun t => { nx := fun S' => Wk S' (mk t) }
def PB {T : Type} (mk : T → ST) : T → Po := fun t => { nx := fun S' => Wk S' (mk t), ct := fun S' => Wk S' (mk t) }
inductive Fl (T R : Type) where
  | nx (t : T) | bk (t : T) | rt (r : R)
def forO {T : Type} (f : T → D → O T) : List D → T → O T
  | [], t => .ok t
  | d :: ds, t => (f t d).bind fun t' => forO f ds t'
def thenO {T R : Type} (o : O (Fl T R)) (k : T → O R) : O R := o.bind fun
  | .nx t => k t
  | .bk t => k t
  | .rt r => .ok r
@[simp] theorem thenO_nx {T R : Type} (t : T) (k : T → O R) : thenO (.ok (.nx t)) k = k t := rfl
@[simp] theorem thenO_bk {T R : Type} (t : T) (k : T → O R) : thenO (.ok (.bk t)) k = k t := rfl
@[simp] theorem thenO_rt {T R : Type} (r : R) (k : T → O R) : thenO (.ok (.rt r)) k = .ok r := rfl
def whileO {T : Type} (c : T → O Bool) (f : T → O T) : Nat → T → O T
  | 0, _ => .bad
  | n + 1, t => O.ite (c t) ((f t).bind fun t' => whileO c f n t') (.ok t)
def sized {α : Type} (n : Nat) (m : O α) : O α := if n ≤ 1000000 then m else .bad
theorem sized_eq {α : Type} {n : Nat} {m : O α} {a : α} (h : sized n m = .ok a) : n ≤ 1000000 ∧ m = .ok a := by
  unfold sized at h
  split at h
  · exact ⟨by assumption, h⟩
  · cases h
theorem sized_ok {α : Type} {n : Nat} {m : O α} (h : n ≤ 1000000) : sized n m = m := if_pos h
theorem forO_take {T : Type} {f : T → D → O T} : ∀ {ds : List D} {t0 te : T}, forO f ds t0 = .ok te → ∀ i, ∃ t, forO f (ds.take i) t0 = .ok t
  | ds, t0, te, h, 0 => ⟨t0, rfl⟩
  | [], t0, te, h, i + 1 => ⟨t0, rfl⟩
  | d :: ds, t0, te, h, i + 1 => by
    obtain ⟨t', h1, h2⟩ := O.bind_eq (show (f t0 d).bind (fun t' => forO f ds t') = _ from h)
    obtain ⟨t, ht⟩ := forO_take h2 i
    exact ⟨t, by show (f t0 d).bind (fun t' => forO f (ds.take i) t') = _; rw [h1]; exact ht⟩
theorem forO_append {T : Type} {f : T → D → O T} : ∀ (xs ys : List D) (t0 : T), forO f (xs ++ ys) t0 = (forO f xs t0).bind fun t => forO f ys t
  | [], ys, t0 => rfl
  | d :: xs, ys, t0 => by
    show (f t0 d).bind (fun t' => forO f (xs ++ ys) t') = ((f t0 d).bind fun t' => forO f xs t').bind fun t => forO f ys t
    rw [O.bind_assoc]
    congr 1
    funext t'
    exact forO_append xs ys t'
section
variable {F : Fam} {S S1 : ST} {e a b c tg iter : Expr} {d : D} {pos p q1 cpos apos : Pos} {oa ob oe : O D} {ot : O Bool} {es : List Expr} {os oi : O (List D)} {rest t u body sts : List Stmt} {R T B : Type} {m m1 m2 : O R} {P : R → Po}
theorem k_raise {cn : Nat} : DSk F sts S (os.bind fun ds => (.exc cn ds : O R)) P := fun r q => by
  obtain ⟨_, _, q⟩ := O.bind_eq q
  cases q
theorem k_retA {P : D → Po} (h : DEp F e S oe) (hP : ∀ d, (P d).rt d S := by intro _; rfl) : DSk F (.Return (some e) pos :: rest) S oe P := fun r q => ds_ret (h r q) (hP r)
theorem k_nilF : DSk F [] S (.ok .non) PF := fun r q => by cases q; exact ds_nil rfl
theorem k_retN (h : DOp F e S os) : DSk F (.Return (some e) pos :: rest) S os PN := fun r q => ds_retO (h r q) rfl
theorem k_expr {mr : O R} (h : DEp F e S oe) (hr : DSk F rest S mr P) (hs : ∀ i, swapsWith e none pos.line (F.X i).env = pure false := by intro _; rfl) : DSk F (.Expr e pos :: rest) S (oe.bind fun _ => mr) P := fun r q => by
  obtain ⟨d, h1, q⟩ := O.bind_eq q
  exact ds_expr (h d h1) (hr r q) hs
theorem k_ifr (ht : DTp F c S ot) (h1 : DSk F t S m1 (fun r => { P r with nx := fun _ => False })) (h2 : DSk F rest S m2 P) : DSk F (.If c t [] pos :: rest) S (O.ite ot m1 m2) P := fun r q => by
  rcases O.ite_eq q with ⟨h3, q⟩ | ⟨h3, q⟩
  · exact ds_ifr (k := true) (ht _ h3) (fun _ => h1 r q) (fun z => nomatch z)
  · exact ds_ifr (k := false) (ht _ h3) (fun z => nomatch z) (fun _ => h2 r q)
theorem k_nilB {mk : T → ST} {x : T} (w : Wk S (mk x)) : DSk F [] S (.ok x) (PB mk) := fun r q => by cases q; exact ds_nil w
theorem k_set {j : Nat} {x : Str} {pos' : Pos} {mr : D → O R} (he : DEp F e S oe) (hr : ∀ d, DSk F rest (S.set j d) (mr d) P) (hN : ∀ i, (F.X i).N[j]? = some x := by intro _; rfl) (hx : ∀ i, Loc (F.X i).env.scope x := by intro _; first | exact Or.inl rfl | exact Or.inr rfl)
    (hs : ∀ i, swapsWith e (some (.Name x pos')) pos.line (F.X i).env = pure false := by intro _; rfl) (hf : ∀ i, (F.X i).fn x = true ∨ (F.X i).env.scope.names.lookup x = some .local := by intro _; first | exact .inl rfl | exact .inr rfl) : DSk F (.Assign [.Name x pos'] e pos :: rest) S (oe.bind mr) P := fun r q => by
  obtain ⟨d, h1, q⟩ := O.bind_eq q
  exact ds_set (he d h1) (hr d r q) hN hx hs hf
theorem k_asg3 [Calm F] {i j l k2 : Nat} {n1 n2 n3 : Str} {px py pz pt : Pos} {mr : D → D → D → O R} (he : DEp F e S oe) (hr : ∀ x y z, DSk F rest (((S.set i x).set j y).set l z) (mr x y z) P)
    (h1 : ∀ o, (F.X o).N[i]? = some n1 := by intro _; rfl) (h2 : ∀ o, (F.X o).N[j]? = some n2 := by intro _; rfl) (h3 : ∀ o, (F.X o).N[l]? = some n3 := by intro _; rfl)
    (x1 : ∀ o, Loc (F.X o).env.scope n1 := by intro _; first | exact Or.inl rfl | exact Or.inr rfl) (x2 : ∀ o, Loc (F.X o).env.scope n2 := by intro _; first | exact Or.inl rfl | exact Or.inr rfl) (x3 : ∀ o, Loc (F.X o).env.scope n3 := by intro _; first | exact Or.inl rfl | exact Or.inr rfl)
    (f1 : ∀ o, (F.X o).fn n1 = true ∨ (F.X o).env.scope.names.lookup n1 = some .local := by intro _; first | exact .inl rfl | exact .inr rfl) (f2 : ∀ o, (F.X o).fn n2 = true ∨ (F.X o).env.scope.names.lookup n2 = some .local := by intro _; first | exact .inl rfl | exact .inr rfl) (f3 : ∀ o, (F.X o).fn n3 = true ∨ (F.X o).env.scope.names.lookup n3 = some .local := by intro _; first | exact .inl rfl | exact .inr rfl)
    (ho : ∀ o, PS (F.X o) (.Assign [.Tuple [.Name n1 px, .Name n2 py, .Name n3 pz] k2 pt] e pos) (tAsg (anyE F e) (anyG F (.Tuple [.Name n1 px, .Name n2 py, .Name n3 pz] k2 pt))) := by intro o; exact ps_asg (anyE_ok o) (anyG_ok o)) :
    DSk F (.Assign [.Tuple [.Name n1 px, .Name n2 py, .Name n3 pz] k2 pt] e pos :: rest) S (oe.bind fun d => un3 d mr) P := fun r q => by
  obtain ⟨d, g1, q⟩ := O.bind_eq q
  unfold un3 at q
  split at q
  · exact ds_asg (he _ g1) (dg_tup (dgs_cons (dg_name (j := i) h1 x1 f1) (dgs_cons (dg_name (j := j) h2 x2 f2) (dgs_cons (dg_name (j := l) h3 x3 f3) dgs_nil)))) (hr _ _ _ r q) ho
  · exact ds_asg (he _ g1) (dg_lst (dgs_cons (dg_name (j := i) h1 x1 f1) (dgs_cons (dg_name (j := j) h2 x2 f2) (dgs_cons (dg_name (j := l) h3 x3 f3) dgs_nil)))) (hr _ _ _ r q) ho
  · cases q
theorem k_for (mk : T → ST) {t0 : T} {β : D → O B} {st : T → B → ST} {mb : T → B → O T} {mr : T → O R} (hi : DIp F tg iter S oi) (w : Wk S (mk t0)) (hg : ∀ x d y, β d = .ok y → ∃ js, DG F tg d (mk x) (st x y) js)
    (hb : ∀ x y, DSk F body (st x y) (mb x y) (PB mk)) (hr : ∀ x, DSk F rest (mk x) (mr x) P)
    (hp : ∀ i, PassesOwn (model (F.X i).prog (F.X i).w) (F.X i).A (F.X i).env (F.X i).xe := by intro _; exact PassesOwn.never)
    (hf : ∀ i, PS (F.X i) (.For tg iter body [] pos) (tFor (anyI F tg iter) (anyG F tg) (anyS F body)) := by intro i; exact ps_for PassesOwn.never (Fam.calm _ i) (anyI_ok i) (anyG_ok i) (anyS_ok i)) :
    DSk F (.For tg iter body [] pos :: rest) S (oi.bind fun ds => (forO (fun x d => (β d).bind fun y => mb x y) ds t0).bind mr) P := fun r q => by
  obtain ⟨ds, h1, q⟩ := O.bind_eq q
  obtain ⟨te, h2, q⟩ := O.bind_eq q
  refine ds_for (fun i S' => ∃ x, forO (fun x d => (β d).bind fun y => mb x y) (ds.take i) t0 = .ok x ∧ Wk S' (mk x)) (fun S' => Wk S' (mk te)) (hi ds h1) ⟨t0, rfl, w⟩ (fun i S' d hd hI => ?_) (fun S' hI => ?_) (fun S' z => ds_wk z (hr te r q)) hp hf
  · obtain ⟨x, e1, wx⟩ := hI
    obtain ⟨x', e2⟩ := forO_take h2 (i + 1)
    have e3 := e2
    rw [take_one hd, forO_append, e1] at e3
    obtain ⟨x2, e4, e5⟩ := O.bind_eq (show ((β d).bind fun y => mb x y).bind (fun t' => forO _ [] t') = _ from e3)
    cases e5
    obtain ⟨y, e6, e7⟩ := O.bind_eq e4
    obtain ⟨js, g⟩ := hg x d y e6
    refine ⟨_, js, dg_wk wx g, ds_mono (hb x y _ e7) (fun S2 z => ⟨_, e2, z⟩) (fun _ _ z => z.elim) (fun _ z => z.elim) (fun S2 z => ⟨_, e2, z⟩) (fun _ _ z => z.elim)⟩
  · obtain ⟨x, e1, wx⟩ := hI
    rw [List.take_length, h2] at e1
    cases e1
    exact wx
end
end SL
namespace SL
open PySem L2 DL
variable [TabL]
def itD : D → O (List D)
  | .lst ds => .ok ds
  | .tup ds => .ok ds
  | .str t => .ok (signsD t)
  | _ => .bad
@[simp] theorem itD_lst (ds : List D) : itD (.lst ds) = .ok ds := rfl
@[simp] theorem itD_tup (ds : List D) : itD (.tup ds) = .ok ds := rfl
@[simp] theorem itD_str (t : Str) : itD (.str t) = .ok (signsD t) := rfl
def rg1 (d : D) : O (List D) := (asI d).bind fun i => if -(2 ^ 62) ≤ i ∧ i < 2 ^ 62 then .ok (rangeD 0 i.toNat) else .bad
def enT : D → O (List D)
  | .tup ds => .ok (enumD ds)
  | .lst ds => .ok (enumD ds)
  | _ => .bad
section
variable {F : Fam} {S S1 S2 S3 : ST} {e : Expr} {p : Pos} {ds : List D}
theorem itd_enumL {C : Kc} {G0 : Hp} {a : Addr} {vs : List V} (h : SqL C.K G0 a vs) (dl : DenL C G0 vs ds) : ItD C (Ite C.K a) G0 (enumD ds) where
  go := fun i G H hi s s2 => by
    rw [enumD_length] at hi
    obtain ⟨v, h1, _⟩ := dl.get (List.getElem?_eq_getElem hi)
    exact ⟨vs, v, s2.seq (s.seq h), h1⟩
  yld := fun i d G H x H' hd s s2 hy => by
    obtain ⟨y, hy1, rfl⟩ := enumD_get hd
    obtain ⟨T, v, rfl, hT, rfl, hv⟩ := hy
    obtain ⟨v', h1, h2⟩ := dl.get hy1
    have e1 := hv vs (s2.seq (s.seq h))
    rw [h1] at e1
    cases e1
    refine ⟨_, Pu.new s2 hT, .tup (SqT.of upd_same) ?_⟩
    exact .cons (.int _) (.cons ((h2.mono s).mono (Pu.new s2 hT).gg) .nil)
  stop := fun i G H hi s s2 => ⟨vs, s2.seq (s.seq h), by rw [dl.length, ← enumD_length]; exact hi⟩
theorem di_enumL {elts : List Expr} {kk : Nat} {tpos q1 : Pos} (hm : F.mg "enumerate" = none) (h : DE F e S S1 (.lst ds)) (hg : ∀ l, Gl (F.X l) "enumerate" := by intro _; rfl) (hs : ∀ l, starEach [e] (F.X l).env = [(false, eval e (F.X l).env)] := by intro _; rfl) :
    DI F (.Tuple elts kk tpos) (.Call (.Name "enumerate" p) [e] [] q1) S S1 (enumD ds) :=
  di_of (wi := iEnum F.C.K (tCons (anyE F e) tNil)) (fun l => by have := pi_enum (X := F.X l) (elts := elts) (kk := kk) (tpos := tpos) (p := p) (pos := q1) (hg l) (by rw [F.hmg l]; exact hm) (pa_cons (anyE_ok (e := e) l) pa_nil (hs l)) (hs l); rw [F.hK l] at this; exact this) fun σ G H c R q => h σ G H c _ fun v G1 H1 m dv => by
    cases dv with
    | @lst a vs _ h1 h2 => exact ⟨a, vs, rfl, m.cx.sub.seq h1, q _ _ _ m (itd_enumL h1 h2)⟩
end
theorem un2_bind {α β : Type} (d : D) (f : D → D → O α) (g : α → O β) : (un2 d f).bind g = un2 d fun a b => (f a b).bind g := by
  unfold un2
  split <;> rfl
theorem un2_eq {α : Type} {d : D} {f : D → D → O α} {z : α} (h : un2 d f = .ok z) : ∃ a b, (d = .tup [a, b] ∨ d = .lst [a, b]) ∧ f a b = .ok z := by
  unfold un2 at h
  split at h
  · exact ⟨_, _, .inl rfl, h⟩
  · exact ⟨_, _, .inr rfl, h⟩
  · cases h
def lcO (g : D → O (Option D)) : List D → O (List D)
  | [] => .ok []
  | d :: ds => (g d).bind fun o => (lcO g ds).bind fun r => .ok (o.toList ++ r)
def mapO (f : D → O D) (ds : List D) : O (List D) := sized ds.length (lcO (fun d => (f d).bind fun x => .ok (some x)) ds)
def filO (t : D → O Bool) (f : D → O D) (ds : List D) : O (List D) := sized ds.length (lcO (fun d => O.ite (t d) ((f d).bind fun x => .ok (some x)) (.ok none)) ds)
theorem lcO_append {g : D → O (Option D)} : ∀ (xs ys : List D), lcO g (xs ++ ys) = (lcO g xs).bind fun r => (lcO g ys).bind fun s => .ok (r ++ s)
  | [], ys => by
    show lcO g ys = (lcO g ys).bind fun s => .ok s
    cases lcO g ys <;> rfl
  | d :: xs, ys => by
    show (g d).bind _ = ((g d).bind _).bind _
    rw [O.bind_assoc]
    congr 1
    funext o
    rw [show lcO g (xs.append ys) = _ from lcO_append xs ys, O.bind_assoc, O.bind_assoc]
    congr 1
    funext r
    rw [O.bind_assoc]
    show _ = (lcO g ys).bind fun s => .ok ((o.toList ++ r) ++ s)
    congr 1
    funext s
    show O.ok (o.toList ++ (r ++ s)) = _
    rw [List.append_assoc]
theorem lcO_len {g : D → O (Option D)} : ∀ {xs r : List D}, lcO g xs = .ok r → r.length ≤ xs.length
  | [], r, h => by cases h; exact Nat.le_refl _
  | d :: xs, r, h => by
    obtain ⟨o, h1, h⟩ := O.bind_eq (show (g d).bind _ = _ from h)
    obtain ⟨s, h2, h⟩ := O.bind_eq h
    cases h
    have := lcO_len h2
    cases o <;> simp <;> omega
theorem lcO_take {g : D → O (Option D)} {ds r : List D} (h : lcO g ds = .ok r) (i : Nat) : ∃ s, lcO g (ds.take i) = .ok s := by
  have e : ds = ds.take i ++ ds.drop i := (List.take_append_drop i ds).symm
  rw [e, lcO_append] at h
  obtain ⟨s, h1, _⟩ := O.bind_eq h
  exact ⟨s, h1⟩
theorem lcO_map {f : D → O D} {g : D → D} : ∀ {ds : List D}, (∀ d ∈ ds, f d = .ok (g d)) → lcO (fun d => (f d).bind fun x => .ok (some x)) ds = .ok (ds.map g)
  | [], _ => rfl
  | d :: ds, h => by
    show ((f d).bind _).bind _ = _
    rw [h d List.mem_cons_self, lcO_map fun x hx => h x (List.mem_cons_of_mem _ hx)]
    rfl
theorem mapO_ok {f : D → O D} (g : D → D) {ds : List D} (h : ∀ d ∈ ds, f d = .ok (g d)) (hl : ds.length ≤ 1000000) : mapO f ds = .ok (ds.map g) := by
  unfold mapO
  rw [sized_ok hl, lcO_map h]
def noOwns (s : List (Option DV)) : List Nat → Bool
  | [] => true
  | v :: vs => (match s[v]? with
    | some (some (.own _)) => false
    | _ => true) && noOwns s vs
theorem noOwns_of {s : List (Option DV)} {i : Nat} {m : MO} : ∀ {vs : List Nat}, noOwns s vs = true → s[i]? = some (some (.own m)) → i ∉ vs
  | [], _, _ => by simp
  | v :: vs, h, q => by
    unfold noOwns at h
    rw [Bool.and_eq_true] at h
    simp only [List.mem_cons, not_or]
    refine ⟨fun e => ?_, noOwns_of h.2 q⟩
    subst e
    rw [q] at h
    exact absurd h.1 (by simp)
section
variable {F : Fam} {S S1 : ST} {e a b c tg iter elt : Expr} {d : D} {pos p p2 q1 cpos apos : Pos} {oa ob oe : O D} {ot : O Bool} {es : List Expr} {os oi : O (List D)} {rest t u body sts : List Stmt} {R T B : Type} {P : R → Po} {scope : Scope}
theorem i_val (h : DEp F iter S oe) : DIp F tg iter S (oe.bind itD) := fun ds q => by
  obtain ⟨x, h1, q⟩ := O.bind_eq q
  unfold itD at q
  split at q
  · cases q; exact di_list (h _ h1)
  · cases q; exact di_tup (h _ h1)
  · cases q; exact di_str (h _ h1)
  · cases q
theorem i_range1 (hm : F.mg "range" = none) (h : DEp F e S oe) (hg : ∀ l, Gl (F.X l) "range" := by intro _; rfl) (hs : ∀ l, starEach [e] (F.X l).env = [(false, eval e (F.X l).env)] := by intro _; rfl) : DIp F tg (.Call (.Name "range" p) [e] [] q1) S (oe.bind rg1) := fun ds q => by
  obtain ⟨x, h1, q⟩ := O.bind_eq q
  obtain ⟨i, h2, qq⟩ := O.bind_eq (show O.bind _ _ = _ from q)
  split at qq
  · rename_i hb
    have e0 := asI_eq h2
    subst e0
    rw [← O.ok.inj qq]
    exact di_range1 hm (h _ h1) hb.1 hb.2 hg hs
  · cases qq
theorem i_enumT {elts : List Expr} {kk : Nat} {tpos : Pos} (hm : F.mg "enumerate" = none) (h : DEp F e S oe) (hg : ∀ l, Gl (F.X l) "enumerate" := by intro _; rfl) (hs : ∀ l, starEach [e] (F.X l).env = (false, eval e (F.X l).env) :: starEach [] (F.X l).env := by intro _; rfl) : DIp F (.Tuple elts kk tpos) (.Call (.Name "enumerate" p) [e] [] q1) S (oe.bind enT) := fun ds q => by
  obtain ⟨x, h1, q⟩ := O.bind_eq q
  unfold enT at q
  split at q
  · cases q; exact di_enumT hm (h _ h1) hg hs
  · cases q; exact di_enumL hm (h _ h1) hg hs
  · cases q
def DTsp (F : Fam) (ifs : List Expr) (S : ST) (o : O Bool) : Prop := ∀ b, o = .ok b → DTs F ifs S S b
theorem ts_nil : DTsp F [] S (.ok true) := fun b q => by cases q; exact dts_nil
theorem ts_one (h : DTp F c S ot) : DTsp F [c] S ot := fun b q => dts_one (h b q)
theorem ev_lcG {ifs : List Expr} {vs : List Nat} {js : List Nat} {β : D → O B} {st : B → ST} {tt : B → O Bool} {el : B → O D} {ds r : List D} (hi : DI F tg iter S S ds)
    (hg : ∀ d y, β d = .ok y → DG (F.blk scope) tg d ⟨hidS S.s vs, S.g⟩ (st y) js) (hjs : ∀ j ∈ js, j ∈ vs) (hk : ∀ y, KeepOwn S.s vs (st y)) (hG : ∀ y, (st y).g = S.g)
    (ht : ∀ y, DTsp (F.blk scope) ifs (st y) (tt y)) (he : ∀ y, DEp (F.blk scope) elt (st y) (el y)) (hl : ds.length ≤ 1000000)
    (h : lcO (fun d => (β d).bind fun y => O.ite (tt y) ((el y).bind fun x => .ok (some x)) (.ok none)) ds = .ok r) :
    EvO F.C (tLc (anyI F tg iter) (anyG (F.blk scope) tg) (anyTs (F.blk scope) ifs) (anyE (F.blk scope) elt) vs) S S r := by
  have key : ∀ i, ∃ s, lcO (fun d => (β d).bind fun y => O.ite (tt y) ((el y).bind fun x => .ok (some x)) (.ok none)) (ds.take i) = .ok s := lcO_take h
  have out : ∃ out : Nat → List D, ∀ i, lcO (fun d => (β d).bind fun y => O.ite (tt y) ((el y).bind fun x => .ok (some x)) (.ok none)) (ds.take i) = .ok (out i) := ⟨fun i => (key i).choose, fun i => (key i).choose_spec⟩
  obtain ⟨out, ho⟩ := out
  have o0 : out 0 = [] := by have := ho 0; rw [List.take_zero] at this; exact (O.ok.inj this).symm
  have oe : out ds.length = r := by have := ho ds.length; rw [List.take_length, h] at this; exact (O.ok.inj this).symm
  have := ev_lc (elt := elt) (ifs := ifs) (scope := scope) (vs0 := vs) hi (fun _ => S.g) out rfl o0 (fun _ => rfl) (fun i d hd => by
    have e1 := ho (i + 1)
    rw [take_one hd, lcO_append, ho i] at e1
    obtain ⟨s, e2, e3⟩ := O.bind_eq (show (lcO _ [d]).bind _ = _ from e1)
    obtain ⟨o, e4, e5⟩ := O.bind_eq (show O.bind _ _ = _ from e2)
    obtain ⟨s0, e6, e7⟩ := O.bind_eq e5
    cases e6
    have e7' : s = o.toList := by cases e7; simp
    have e3' : out (i + 1) = out i ++ o.toList := by rw [← e7']; exact (O.ok.inj e3).symm
    obtain ⟨y, e8, e9⟩ := O.bind_eq e4
    have hlt : i < ds.length := (List.getElem?_eq_some_iff.mp hd).1
    have hlen : (out i).length < sizeLine := Nat.lt_of_le_of_lt (lcO_len (ho i)) (by rw [List.length_take]; exact Nat.lt_of_le_of_lt (Nat.le_trans (Nat.min_le_left _ _) (Nat.le_trans (Nat.le_of_lt hlt) hl)) (by decide))
    rcases O.ite_eq e9 with ⟨z1, z2⟩ | ⟨z1, z2⟩
    · obtain ⟨x, z3, z4⟩ := O.bind_eq z2
      cases z4
      exact ⟨_, _, true, js, hg d y e8, hjs, ht y _ z1, fun _ => ⟨_, x, he y x z3, hG y, hk y, e3', hlen⟩, fun z => nomatch z⟩
    · cases z2
      exact ⟨_, _, false, js, hg d y e8, hjs, ht y _ z1, fun z => (nomatch z), fun _ => ⟨hG y, hk y, by rw [e3']; simp⟩⟩)
  rw [oe] at this
  exact this
theorem keep_name {vs : List Nat} {j : Nat} {y : D} (hn : noOwns S.s vs = true) (hj : j ∈ vs) : KeepOwn S.s vs ((⟨hidS S.s vs, S.g⟩ : ST).set j y) := fun i m h => by
  have n := noOwns_of hn h
  refine ⟨n, ?_⟩
  show ((hidS S.s vs).set j (some (.imm y)))[i]? = _
  rw [List.getElem?_set_ne (show j ≠ i from fun z => n (by rw [← z]; exact hj)), hidS_keep n]
  exact h
def LcE (F : Fam) (scope : Scope) (S : ST) (elt tg iter : Expr) (ifs : List Expr) (own : List (Str × Nat)) (os : O (List D)) : Prop := ∀ r, os = .ok r → EvO F.C (tLc (anyI F tg iter) (anyG (F.blk scope) tg) (anyTs (F.blk scope) ifs) (anyE (F.blk scope) elt) (own.map (·.2))) S S r
theorem lc_map {x : Str} {xp : Pos} {j : Nat} {own : List (Str × Nat)} {f : D → O D} (hi : DIp F (.Name x xp) iter S oi) (he : ∀ d, DEp (F.blk scope) elt ((⟨hidS S.s (own.map (·.2)), S.g⟩ : ST).set j d) (f d)) (hn : noOwns S.s (own.map (·.2)) = true := by rfl) (hj : j ∈ own.map (·.2) := by decide)
    (hN : ∀ i, ((F.blk scope).X i).N[j]? = some x := by intro _; rfl) (hx : ∀ i, Loc ((F.blk scope).X i).env.scope x := by intro _; first | exact Or.inl rfl | exact Or.inr rfl)
    (hf : ∀ i, ((F.blk scope).X i).fn x = true ∨ ((F.blk scope).X i).env.scope.names.lookup x = some .local := by intro _; first | exact .inl rfl | exact .inr rfl) : LcE F scope S elt (.Name x xp) iter [] own (oi.bind (mapO f)) := fun r q => by
  obtain ⟨ds, h1, q⟩ := O.bind_eq q
  obtain ⟨h2, q⟩ := sized_eq q
  exact ev_lcG (β := .ok) (st := fun d => (⟨hidS S.s (own.map (·.2)), S.g⟩ : ST).set j d) (tt := fun _ => .ok true) (js := [j]) (hi ds h1) (fun d y z => by cases z; exact dg_name hN hx hf) (fun i z => by rw [List.mem_singleton.mp z]; exact hj) (fun y => keep_name hn hj) (fun y => rfl) (fun y => ts_nil) he h2 q
theorem lc_fil {x : Str} {xp : Pos} {j : Nat} {own : List (Str × Nat)} {k : D → O Bool} {f : D → O D} (hi : DIp F (.Name x xp) iter S oi) (ht : ∀ d, DTp (F.blk scope) c ((⟨hidS S.s (own.map (·.2)), S.g⟩ : ST).set j d) (k d)) (he : ∀ d, DEp (F.blk scope) elt ((⟨hidS S.s (own.map (·.2)), S.g⟩ : ST).set j d) (f d)) (hn : noOwns S.s (own.map (·.2)) = true := by rfl) (hj : j ∈ own.map (·.2) := by decide)
    (hN : ∀ i, ((F.blk scope).X i).N[j]? = some x := by intro _; rfl) (hx : ∀ i, Loc ((F.blk scope).X i).env.scope x := by intro _; first | exact Or.inl rfl | exact Or.inr rfl)
    (hf : ∀ i, ((F.blk scope).X i).fn x = true ∨ ((F.blk scope).X i).env.scope.names.lookup x = some .local := by intro _; first | exact .inl rfl | exact .inr rfl) : LcE F scope S elt (.Name x xp) iter [c] own (oi.bind (filO k f)) := fun r q => by
  obtain ⟨ds, h1, q⟩ := O.bind_eq q
  obtain ⟨h2, q⟩ := sized_eq q
  exact ev_lcG (β := .ok) (st := fun d => (⟨hidS S.s (own.map (·.2)), S.g⟩ : ST).set j d) (js := [j]) (hi ds h1) (fun d y z => by cases z; exact dg_name hN hx hf) (fun i z => by rw [List.mem_singleton.mp z]; exact hj) (fun y => keep_name hn hj) (fun y => rfl) (fun y => ts_one (ht y)) he h2 q
theorem dg_un2 {F : Fam} [Calm F] {S : ST} {i j k2 : Nat} {n1 n2 : Str} {px py pt : Pos} {d : D} {y : D × D} (h : (un2 d fun a b => .ok (a, b)) = .ok y) (g1 : ∀ (d : D) (S : ST), DG F (.Name n1 px) d S (S.set i d) [i]) (g2 : ∀ (d : D) (S : ST), DG F (.Name n2 py) d S (S.set j d) [j]) : DG F (.Tuple [.Name n1 px, .Name n2 py] k2 pt) d S ((S.set i y.1).set j y.2) [i, j] := by
  obtain ⟨a, b, hd, h⟩ := un2_eq h
  cases h
  rcases hd with rfl | rfl
  · exact dg_tup (dgs_cons (g1 a S) (dgs_cons (g2 b _) dgs_nil))
  · exact dg_lst (dgs_cons (g1 a S) (dgs_cons (g2 b _) dgs_nil))
theorem o_lc [Calm F] {ifs : List Expr} {own : List (Str × Nat)} (ok : ∀ i, BlkOk (F.X i).N (F.X i).env.scope scope own) (h : LcE F scope S elt tg iter ifs own os) (hs : ∀ i x, foldedSetIterable iter (F.X i).env x = pure x := by intro _ _; rfl) : DOp F (.ListComp elt [⟨tg, iter, ifs, 0⟩] scope pos) S os := fun r q =>
  do_of (fun i => pe_lc (F.calm i) (by rw [F.hN i]; exact F.nd) (anyI_ok i) (ok i) (fun s H C cl fp => anyG_ok (F := F.blk scope) (i, s, H, C, cl, fp)) (fun s H C cl fp => anyTs_ok (F := F.blk scope) (i, s, H, C, cl, fp)) (fun s H C cl fp => anyE_ok (F := F.blk scope) (i, s, H, C, cl, fp)) (hs i)) (h r q)
theorem k_for1 (mk : T → ST) {t0 : T} {x : Str} {xp : Pos} {j : Nat} {mb : T → D → O T} {mr : T → O R} (hi : DIp F (.Name x xp) iter S oi) (w : Wk S (mk t0)) (hb : ∀ t d, DSk F body ((mk t).set j d) (mb t d) (PB mk)) (hr : ∀ t, DSk F rest (mk t) (mr t) P)
    (g1 : ∀ (d : D) (S : ST), DG F (.Name x xp) d S (S.set j d) [j] := by intro _ _; exact dg_name)
    (hp : ∀ i, PassesOwn (model (F.X i).prog (F.X i).w) (F.X i).A (F.X i).env (F.X i).xe := by intro _; first | exact PassesOwn.never | exact passes_of rfl)
    (hf : ∀ i, PS (F.X i) (.For (.Name x xp) iter body [] pos) (tFor (anyI F (.Name x xp) iter) (anyG F (.Name x xp)) (anyS F body)) := by intro i; first | exact ps_for PassesOwn.never (Fam.calm _ i) (anyI_ok i) (anyG_ok i) (anyS_ok i) | exact ps_for (passes_of rfl) (Fam.calm _ i) (anyI_ok i) (anyG_ok i) (anyS_ok i)) :
    DSk F (.For (.Name x xp) iter body [] pos :: rest) S (oi.bind fun ds => (forO mb ds t0).bind mr) P :=
  k_for mk (β := .ok) (st := fun t d => (mk t).set j d) (mb := mb) hi w (fun t d y z => by cases z; exact ⟨_, g1 _ _⟩) hb hr hp hf
theorem k_for2 [Calm F] (mk : T → ST) {t0 : T} {n1 n2 : Str} {px py pt : Pos} {i j k2 : Nat} {mb : T → D → D → O T} {mr : T → O R} (hi : DIp F (.Tuple [.Name n1 px, .Name n2 py] k2 pt) iter S oi) (w : Wk S (mk t0)) (hb : ∀ t x y, DSk F body (((mk t).set i x).set j y) (mb t x y) (PB mk)) (hr : ∀ t, DSk F rest (mk t) (mr t) P)
    (g1 : ∀ (d : D) (S : ST), DG F (.Name n1 px) d S (S.set i d) [i] := by intro _ _; exact dg_name) (g2 : ∀ (d : D) (S : ST), DG F (.Name n2 py) d S (S.set j d) [j] := by intro _ _; exact dg_name)
    (hp : ∀ i, PassesOwn (model (F.X i).prog (F.X i).w) (F.X i).A (F.X i).env (F.X i).xe := by intro _; first | exact PassesOwn.never | exact passes_of rfl)
    (hf : ∀ i, PS (F.X i) (.For (.Tuple [.Name n1 px, .Name n2 py] k2 pt) iter body [] pos) (tFor (anyI F (.Tuple [.Name n1 px, .Name n2 py] k2 pt) iter) (anyG F (.Tuple [.Name n1 px, .Name n2 py] k2 pt)) (anyS F body)) := by intro i; first | exact ps_for PassesOwn.never (Fam.calm _ i) (anyI_ok i) (anyG_ok i) (anyS_ok i) | exact ps_for (passes_of rfl) (Fam.calm _ i) (anyI_ok i) (anyG_ok i) (anyS_ok i)) :
    DSk F (.For (.Tuple [.Name n1 px, .Name n2 py] k2 pt) iter body [] pos :: rest) S (oi.bind fun ds => (forO (fun t d => un2 d (mb t)) ds t0).bind mr) P := by
  have := k_for mk (β := fun d => un2 d fun a b => .ok (a, b)) (st := fun t y => ((mk t).set i y.1).set j y.2) (mb := fun t y => mb t y.1 y.2) hi w (fun t d y z => ⟨_, dg_un2 z g1 g2⟩) (fun t y => hb t y.1 y.2) hr hp hf
  have e : (fun (x : T) (d : D) => (un2 d fun a b => O.ok (a, b)).bind fun y => mb x y.1 y.2) = fun t d => un2 d (mb t) := by
    funext t d
    rw [un2_bind]
    rfl
  rw [e] at this
  exact this
end
end SL
namespace DL
open PySem L2
variable [TabL]
inductive StV (C : Kc) (G H0 H : Hp) : V → DV → Prop where
  | imm {v : V} {d : D} : Den C G v d → StV C G H0 H v (.imm d)
  | own {q : Addr} {o : HO} {m : MO} : H0 q = none → G q = none → H q = some o → MOk C G q o m → StV C G H0 H (.ref q) (.own m)
theorem fresh_oa {C : Kc} {G H : Hp} {σ : L2.St} {S : ST} (c : Ctx C G H σ S) {q : Addr} (h : H q = none) : ¬ OA C σ S q := fun z => by
  rcases z with ⟨j, es, r1, r2⟩ | ⟨o, r⟩
  · obtain ⟨a, _, q1, _, q3, _⟩ := c.ow j es r1
    rw [r2] at q1; cases q1; rw [h] at q3; cases q3
  · have z := c.bag
    rw [r] at z
    cases o with
    | lst => obtain ⟨_, _, h3, _⟩ := z; rw [h] at h3; cases h3
    | ins => obtain ⟨_, _, _, h3, _⟩ := z; rw [h] at h3; cases h3
    | xd => obtain ⟨_, _, h3, _⟩ := z; rw [h] at h3; cases h3
theorem StV.step {C : Kc} {G H0 H G2 H2 : Hp} {σ : L2.St} {S S2 : ST} {v : V} {x : DV} (h : StV C G H0 H v x) (n : ∀ q, H0 q = none → ¬ OA C σ S q) (m : Mv C σ S G H S2 G2 H2) : StV C G2 H0 H2 v x := by
  cases h with
  | imm h => exact .imm (h.mono m.go.gg)
  | own h1 h2 h3 h4 => exact .own h1 (m.go.fr _ (n _ h1) (.inl ⟨_, h3, h4.nt, h4.nc⟩) h2) (m.go.keep _ _ (n _ h1) h4.nt h3) (h4.mono m.go.gg)
theorem Ctx.storeV {C : Kc} {G H0 H : Hp} {σ : L2.St} {S : ST} {i : Nat} {v : V} {x : DV} (c : Ctx C G H σ S) (h : StV C G H0 H v x) (hi : i < S.s.length) (n : ∀ q, v = .ref q → H0 q = none → ¬ OA C σ S q) : Ctx C G H (σ.set i (some v)) ⟨S.s.set i (some x), S.g⟩ := by
  cases h with
  | imm h => exact (c.store h).cx
  | own h1 h2 h3 h4 => exact c.storeO h2 h3 h4 hi (fun j es r z => n _ rfl h1 (.inl ⟨j, es, r, z⟩)) fun o r => n _ rfl h1 (.inr ⟨o, r⟩)
theorem oa_storeV {C : Kc} {σ : L2.St} {S : ST} {i : Nat} {v : V} {x : DV} {a : Addr} (z : OA C (σ.set i (some v)) ⟨S.s.set i (some x), S.g⟩ a) : OA C σ S a ∨ (v = .ref a ∧ ∃ m, x = .own m) := by
  rcases z with ⟨j, es, r1, r2⟩ | ⟨o, r⟩
  · by_cases ij : i = j
    · subst ij
      have l1 : i < S.s.length := by
        rcases Nat.lt_or_ge i S.s.length with z | z
        · exact z
        · rw [List.getElem?_eq_none (by simpa using z)] at r1; cases r1
      have l2 : i < σ.length := by
        rcases Nat.lt_or_ge i σ.length with z | z
        · exact z
        · rw [List.getElem?_eq_none (by simpa using z)] at r2; cases r2
      rw [List.getElem?_set_self l1] at r1
      rw [List.getElem?_set_self l2] at r2
      cases r1
      cases r2
      exact .inr ⟨rfl, _, rfl⟩
    · rw [List.getElem?_set_ne ij] at r1 r2
      exact .inl (.inl ⟨j, es, r1, r2⟩)
  · exact .inl (.inr ⟨o, r⟩)
def EvV (C : Kc) (te : TE) (S S1 : ST) (x : DV) : Prop := ∀ σ G H, Ctx C G H σ S → ∀ Q : VK, (∀ v G2 H2, Mv C σ S G H S1 G2 H2 → StV C G2 H H2 v x → Q v H2) → te σ H Q
theorem evv_m {C : Kc} {te : TE} {S S1 : ST} {d : D} (h : EvM C te S S1 d) : EvV C te S S1 (.imm d) := fun σ G H c Q q => h σ G H c Q fun v G2 H2 m dv => q v G2 H2 m (.imm dv)
theorem par2 {C : Kc} {ta tb : TE} {S S1 S2 : ST} {x y : DV} {i j : Nat} {σ : L2.St} {G H : Hp} (c : Ctx C G H σ S) (ha : EvV C ta S S1 x) (hb : EvV C tb S1 S2 y) (hi : i < S2.s.length) (hj : j < S2.s.length) {K : V → V → Hp → Prop}
    (k : ∀ v w G2 H2, Same H2 H2 → Mw C σ S G H ((σ.set i (some v)).set j (some w)) ⟨(S2.s.set i (some x)).set j (some y), S2.g⟩ G2 H2 → K v w H2) : ta σ H fun v H1 => tb σ H1 fun w H2 => K v w H2 :=
  ha σ G H c _ fun v G1 H1 m1 s1 => hb σ G1 H1 m1.cx _ fun w G2 H2 m2 s2 => by
    have n0 : ∀ q, H q = none → ¬ OA C σ S q := fun q h => fresh_oa c h
    have n1 : ∀ q, H q = none → ¬ OA C σ S1 q := fun q h z => n0 q h (m1.oa q z)
    have n2 : ∀ q, H q = none → ¬ OA C σ S2 q := fun q h z => n1 q h (m2.oa q z)
    have n3 : ∀ q, H1 q = none → ¬ OA C σ S2 q := fun q h z => fresh_oa m1.cx h (m2.oa q z)
    have b0 : ∀ q, H1 q = none → H q = none := fun q h => by
      cases r : H q with
      | none => rfl
      | some o => exact absurd h (m1.go.dom q (by rw [r]; simp))
    have t1 := s1.step n1 m2
    have c1 := m2.cx.storeV (i := i) t1 hi (fun q _ h => n2 q h)
    have c2 := c1.storeV (i := j) s2 (by simpa using hj) (fun q e h z => by
      rcases oa_storeV z with z | ⟨e2, m, e3⟩
      · exact n3 q h z
      · subst e2 e3
        cases s1 with
        | own _ _ h3 _ => rw [h] at h3; cases h3)
    refine k v w G2 H2 (fun _ _ h => h) ⟨(m1.trans m2).go, c2, fun a z => ?_⟩
    rcases oa_storeV (S := ⟨S2.s.set i (some x), S2.g⟩) z with z | ⟨e, m, e2⟩
    · rcases oa_storeV z with z | ⟨e, m, e2⟩
      · exact .inl (m1.oa a (m2.oa a z))
      · subst e e2
        cases t1 with
        | own h => exact .inr h
    · subst e e2
      cases s2 with
      | own h => exact .inr (b0 _ h)
theorem Mw.side {C : Kc} {σ σ2 : L2.St} {S S2 : ST} {G H G2 H2 : Hp} {p : Addr} {o : HO} (m : Mw C σ S G H σ2 S2 G2 H2) (hp : H2 p = none) : Mw C σ S G H σ2 S2 G2 (upd H2 p o) := by
  have sm : Same H2 (upd H2 p o) := fun a u h => by rw [upd_ne (ne_of_none h hp)]; exact h
  exact m.trans (m.cx.mv (Same.kt sm) (fun _ _ h => h) (m.cx.sub.trans sm) fun _ _ h => h).mw
end DL
namespace SL
open PySem L2 DL
variable [TabL]
def DVp {α : Type} (F : Fam) (e : Expr) (S : ST) (κ : α → DV) (o : O α) : Prop := ∀ x, o = .ok x → EvV F.C (anyE F e) S S (κ x)
def kI : D → DV := .imm
section
variable {F : Fam} {S S1 : ST} {e a b c : Expr} {pos p : Pos} {oe : O D} {os : O (List D)} {rest : List Stmt} {R α β γ : Type} {P : R → Po} {κ : α → DV} {κ' : β → DV} {κ'' : γ → DV} {oa : O α} {ob : O β} {oc : O γ}
theorem v_e (h : DEp F e S oe) : DVp F e S kI oe := fun x q => evv_m (h x q)
theorem k_par2 [Calm F] {i j : Nat} {n1 n2 : Str} {px py pt : Pos} {kt k2 : Nat} {pt2 : Pos} {mr : α → β → O R} (ha : DVp F a S κ oa) (hb : DVp F b S κ' ob) (hr : ∀ x y, DSk F rest ⟨(S.s.set i (some (κ x))).set j (some (κ' y)), S.g⟩ (mr x y) P)
    (hi : i < S.s.length := by exact Nat.le_of_ble_eq_true rfl) (hj : j < S.s.length := by exact Nat.le_of_ble_eq_true rfl) (h1 : ∀ l, (F.X l).N[i]? = some n1 := by intro _; rfl) (h2 : ∀ l, (F.X l).N[j]? = some n2 := by intro _; rfl) (hij : i ≠ j := by decide)
    (hx : ∀ l, (F.X l).env.scope.names.lookup n1 = some .local := by intro _; rfl) (hy : ∀ l, (F.X l).env.scope.names.lookup n2 = some .local := by intro _; rfl)
    (hw : ∀ l, swappedStores [.Tuple [.Name n1 px, .Name n2 py] kt pt] (.Tuple [a, b] k2 pt2) (F.X l).env = pure (some [n1, n2]) := by intro _; rfl)
    (hs : ∀ l, swapsWithSole [.Tuple [.Name n1 px, .Name n2 py] kt pt] (.Tuple [a, b] k2 pt2) pos.line (F.X l).env = pure false := by intro _; rfl)
    (hst : ∀ i, starEach [a, b] (F.X i).env = (false, eval a (F.X i).env) :: starEach [b] (F.X i).env := by intro _; rfl) (hst2 : ∀ i, starEach [b] (F.X i).env = (false, eval b (F.X i).env) :: starEach [] (F.X i).env := by intro _; rfl) :
    DSk F (.Assign [.Tuple [.Name n1 px, .Name n2 py] kt pt] (.Tuple [a, b] k2 pt2) pos :: rest) S (oa.bind fun x => ob.bind fun y => mr x y) P := fun r q => by
  obtain ⟨x, q1, q⟩ := O.bind_eq q
  obtain ⟨y, q2, q⟩ := O.bind_eq q
  refine ds_cons (M := fun S3 => S3 = ⟨(S.s.set i (some (κ x))).set j (some (κ' y)), S.g⟩) (d1_of (te := tPar i j (tCons (anyE F a) (tCons (anyE F b) tNil))) (fun l => ps_par (F.calm l) (by rw [F.hN l]; exact F.nd) (h1 l) (h2 l) hij (hx l) (hy l) (pa_cons (anyE_ok l) (pa_cons (anyE_ok l) pa_nil (hst2 l)) (hst l)) (hw l) (hs l)) ?_) fun _ z => z ▸ hr x y r q
  intro σ G H c E m
  exact par2 c (ha x q1) (hb y q2) hi hj fun v w G2 H2 _ mw => ⟨v, w, rfl, m.nx _ _ _ _ mw rfl⟩
theorem k_parT2 {i j : Nat} {n1 n2 : Str} {px py pt : Pos} {kt k2 : Nat} {pt2 : Pos} {mr : α → β → O R} (ha : DVp F a S κ oa) (hb : DVp F b S κ' ob) (hr : ∀ x y, DSk F rest ⟨(S.s.set i (some (κ x))).set j (some (κ' y)), S.g⟩ (mr x y) P)
    (hi : i < S.s.length := by exact Nat.le_of_ble_eq_true rfl) (hj : j < S.s.length := by exact Nat.le_of_ble_eq_true rfl)
    (hp : ∀ o, PS (F.X o) (.Assign [.Tuple [.Name n1 px, .Name n2 py] kt pt] (.Tuple [a, b] k2 pt2) pos) (tAsg (tTup (tCons (anyE F a) (tCons (anyE F b) tNil))) (gTup (F.X o).K 2 (gCons (gName i) (gCons (gName j) gNil)))) := by
      intro o; exact ps_asg (pe_tup (pa_cons (anyE_ok o) (pa_cons (anyE_ok o) pa_nil))) (pg_tup (Fam.calm _ o) (pgs_cons (pg_name (Fam.ndX _ o) rfl (by first | exact Or.inl rfl | exact Or.inr rfl)) (pgs_cons (pg_name (Fam.ndX _ o) rfl (by first | exact Or.inl rfl | exact Or.inr rfl)) pgs_nil)))) :
    DSk F (.Assign [.Tuple [.Name n1 px, .Name n2 py] kt pt] (.Tuple [a, b] k2 pt2) pos :: rest) S (oa.bind fun x => ob.bind fun y => mr x y) P := fun r q => by
  obtain ⟨x, q1, q⟩ := O.bind_eq q
  obtain ⟨y, q2, q⟩ := O.bind_eq q
  refine ds_cons (M := fun S3 => S3 = ⟨(S.s.set i (some (κ x))).set j (some (κ' y)), S.g⟩) (d1_of (te := tAsg (tTup (tCons (anyE F a) (tCons (anyE F b) tNil))) (gTup F.C.K 2 (gCons (gName i) (gCons (gName j) gNil)))) (fun o => by have := hp o; rw [F.hK o] at this; exact this) ?_) fun _ z => z ▸ hr x y r q
  intro σ G H c E m
  exact par2 c (ha x q1) (hb y q2) hi hj fun v w G2 H2 _ mw => ⟨by show 2 ≤ sizeLine; decide, fun p hp => ⟨p, [v, w], rfl, SqT.of upd_same, rfl, v, [w], rfl, w, [], rfl, rfl, m.nx _ _ _ _ (mw.side hp) rfl⟩⟩
end
section
variable {P : Program} {w : World} {C : Kc} {mg : Str → Option Value} {base : Heap} {x qual : Str} {st : Stmt} {f : Addr} {fd : FuncData} {N ps : List Str} {k : Nat}
theorem fx {φ : List D → O D} (F : Fun C.K x qual st f fd) (Sc : FnScope N ps (defScope st)) (len : ∀ ds d, φ ds = .ok d → ds.length = ps.length)
    (body : ∀ ds cdv A outer s H E hr, DSk (famD C mg base N Sc.nd qual (defScope st) f cdv A outer s H E k hr) (defBody st) ⟨DL.start N ds, none⟩ (φ ds) PF) : FnOk C.P C.w C.K mg base CX0 (k + 1) f fd ps (spF C φ) :=
  fnP F Sc len fun ds d h cdv A outer s H E hr => body ds cdv A outer s H E hr d h
theorem fxG {φ : List D → O D} (F : Fun C.K x qual st f fd) (Sc : FnScope N ps (defScope st)) (len : ∀ ds d, φ ds = .ok d → ds.length = ps.length)
    (body : ∀ ds cdv A outer s H E hr, (A.guards = some [] ∧ fd.code = cdv) → DSk (famD C mg base N Sc.nd qual (defScope st) f cdv A outer s H E k hr) (defBody st) ⟨DL.start N ds, none⟩ (φ ds) PF) : FnG C.P C.w C.K mg base (k + 1) f fd ps (spF C φ) :=
  fnPG F Sc len fun ds d h cdv A outer s H E hr hA => body ds cdv A outer s H E hr hA d h
def spFN (C : Kc) (φ : List D → O (List D)) : Sp := spO C fun ds es => φ ds = .ok es
theorem fxN {φ : List D → O (List D)} (F : Fun C.K x qual st f fd) (Sc : FnScope N ps (defScope st)) (len : ∀ ds d, φ ds = .ok d → ds.length = ps.length)
    (body : ∀ ds cdv A outer s H E hr, DSk (famD C mg base N Sc.nd qual (defScope st) f cdv A outer s H E k hr) (defBody st) ⟨DL.start N ds, none⟩ (φ ds) PN) : FnOk C.P C.w C.K mg base CX0 (k + 1) f fd ps (spFN C φ) :=
  fnO F Sc len fun ds d h cdv A outer s H E hr => body ds cdv A outer s H E hr d h
theorem fxI {c : Nat} {n : Str} {ψ : List D → O (List (Str × D))} (F : Fun C.K x qual st f fd) (Sc : FnScope (n :: N) ps (defScope st)) (len : ∀ ds fs, ψ ds = .ok fs → ds.length + 1 = ps.length)
    (body : ∀ ds b cdv A outer s H E hr, DSk (famD C mg base (n :: N) Sc.nd qual (defScope st) f cdv A outer s H E k hr) (defBody st) ⟨DL.startB (n :: N) ds, some (b, .ins c [])⟩ (ψ ds) (PI b c)) : FnOk C.P C.w C.K mg base CX0 (k + 1) f fd ps (spI C c fun ds fs => ψ ds = .ok fs) :=
  fnI F Sc len fun ds fs h b cdv A outer s H E hr => body ds b cdv A outer s H E hr fs h
end
theorem l1_len {α : Type} {f : D → O α} {ds : List D} {d : α} (h : l1 f ds = .ok d) : ds.length = 1 := by unfold l1 at h; split at h <;> first | rfl | cases h
theorem l2_len {α : Type} {f : D → D → O α} {ds : List D} {d : α} (h : l2 f ds = .ok d) : ds.length = 2 := by unfold l2 at h; split at h <;> first | rfl | cases h
theorem l3_len {α : Type} {f : D → D → D → O α} {ds : List D} {d : α} (h : l3 f ds = .ok d) : ds.length = 3 := by unfold l3 at h; split at h <;> first | rfl | cases h
section
variable {F : Fam} {sts : List Stmt} {R α : Type} {P : R → Po} {S : List D → ST}
theorem ar1 {f : D → O R} (h : ∀ a, DSk F sts (S [a]) (f a) P) : ∀ ds, DSk F sts (S ds) (l1 f ds) P := fun ds r q => by
  unfold l1 at q; split at q
  · exact h _ r q
  · cases q
theorem ar2 {f : D → D → O R} (h : ∀ a b, DSk F sts (S [a, b]) (f a b) P) : ∀ ds, DSk F sts (S ds) (l2 f ds) P := fun ds r q => by
  unfold l2 at q; split at q
  · exact h _ _ r q
  · cases q
theorem ar3 {f : D → D → D → O R} (h : ∀ a b c, DSk F sts (S [a, b, c]) (f a b c) P) : ∀ ds, DSk F sts (S ds) (l3 f ds) P := fun ds r q => by
  unfold l3 at q; split at q
  · exact h _ _ _ r q
  · cases q
end
end SL
namespace SL
open PySem L2 DL
variable [TabL]
abbrev M (α : Type) : Type := List D → O (α × List D)
def M.ret {α : Type} (a : α) : M α := fun g => .ok (a, g)
def M.up {α : Type} (o : O α) : M α := fun g => o.bind fun a => .ok (a, g)
def M.bind {α β : Type} (m : M α) (f : α → M β) : M β := fun g => (m g).bind fun r => f r.1 r.2
def M.ite {α : Type} (m : M Bool) (x y : M α) : M α := m.bind fun b => bif b then x else y
def M.cons (m : M D) (ms : M (List D)) : M (List D) := m.bind fun d => ms.bind fun ds => M.ret (d :: ds)
def M.tr (m : M Bool) : M D := m.bind fun b => M.ret (.bl b)
@[simp] theorem M.ret_ap {α : Type} (a : α) (g : List D) : M.ret a g = .ok (a, g) := rfl
@[simp] theorem M.up_ok {α : Type} (a : α) : M.up (.ok a) = M.ret a := rfl
@[simp] theorem M.up_ap {α : Type} (o : O α) (g : List D) : M.up o g = o.bind fun a => .ok (a, g) := rfl
@[simp] theorem M.bind_ap {α β : Type} (m : M α) (f : α → M β) (g : List D) : M.bind m f g = (m g).bind fun r => f r.1 r.2 := rfl
@[simp] theorem M.ret_bind {α β : Type} (a : α) (f : α → M β) : M.bind (M.ret a) f = f a := rfl
@[simp] theorem M.ite_ret {α : Type} (b : Bool) (x y : M α) : M.ite (M.ret b) x y = bif b then x else y := rfl
@[simp] theorem M.cons_ret (a : D) (as : List D) : M.cons (M.ret a) (M.ret as) = M.ret (a :: as) := rfl
@[simp] theorem M.tr_ret (b : Bool) : M.tr (M.ret b) = M.ret (.bl b) := rfl
theorem M.bind_eq {α β : Type} {m : M α} {f : α → M β} {g g' : List D} {b : β} (h : M.bind m f g = .ok (b, g')) : ∃ a g1, m g = .ok (a, g1) ∧ f a g1 = .ok (b, g') := by
  obtain ⟨⟨a, g1⟩, h1, h2⟩ := O.bind_eq h
  exact ⟨a, g1, h1, h2⟩
theorem M.up_eq {α : Type} {o : O α} {g g' : List D} {a : α} (h : M.up o g = .ok (a, g')) : o = .ok a ∧ g' = g := by
  obtain ⟨x, h1, h2⟩ := O.bind_eq h
  cases h2
  exact ⟨h1, rfl⟩
theorem M.ret_eq {α : Type} {x a : α} {g g' : List D} (h : M.ret x g = .ok (a, g')) : a = x ∧ g' = g := by
  have h' : O.ok (x, g) = .ok (a, g') := h
  cases h'
  exact ⟨rfl, rfl⟩
theorem M.ite_eq {α : Type} {m : M Bool} {x y : M α} {g g' : List D} {a : α} (h : M.ite m x y g = .ok (a, g')) : ∃ g1, (m g = .ok (true, g1) ∧ x g1 = .ok (a, g')) ∨ (m g = .ok (false, g1) ∧ y g1 = .ok (a, g')) := by
  obtain ⟨b, g1, h1, h2⟩ := M.bind_eq h
  cases b with
  | true => exact ⟨g1, .inl ⟨h1, h2⟩⟩
  | false => exact ⟨g1, .inr ⟨h1, h2⟩⟩
abbrev gB (s : List (Option DV)) (bb : Addr) (g : List D) : ST := ⟨s, some (bb, .lst g)⟩
def DEm (F : Fam) (bb : Addr) (e : Expr) (s : List (Option DV)) (m : M D) : Prop := ∀ g d g', m g = .ok (d, g') → DE F e (gB s bb g) (gB s bb g') d
def DTm (F : Fam) (bb : Addr) (e : Expr) (s : List (Option DV)) (m : M Bool) : Prop := ∀ g d g', m g = .ok (d, g') → DT F e (gB s bb g) (gB s bb g') d
def DAm (F : Fam) (bb : Addr) (es : List Expr) (s : List (Option DV)) (m : M (List D)) : Prop := ∀ g d g', m g = .ok (d, g') → DA F es (gB s bb g) (gB s bb g') d ∧ d.length = es.length
def DIm (F : Fam) (bb : Addr) (tg e : Expr) (s : List (Option DV)) (m : M (List D)) : Prop := ∀ g d g', m g = .ok (d, g') → DI F tg e (gB s bb g) (gB s bb g') d
def DVm {α : Type} (F : Fam) (bb : Addr) (e : Expr) (s : List (Option DV)) (κ : α → DV) (m : M α) : Prop := ∀ g x g', m g = .ok (x, g') → EvV F.C (anyE F e) (gB s bb g) (gB s bb g') (κ x)
def DSm {R : Type} (F : Fam) (bb : Addr) (sts : List Stmt) (s : List (Option DV)) (m : M R) (P : R × List D → Po) : Prop := ∀ g, DSk F sts (gB s bb g) (m g) P
section
variable {F : Fam} {bb : Addr} {s : List (Option DV)} {e a b c tg iter elt : Expr} {pos p p2 q1 cpos apos : Pos} {ma mb mc me : M D} {oe : O D} {mt mu : M Bool} {ot : O Bool} {es : List Expr} {ms mi : M (List D)} {os : O (List D)} {rest t u body sts : List Stmt} {R T α β γ : Type} {P : R × List D → Po} {scope : Scope}
theorem e_up (h : ∀ g, DEp F e (gB s bb g) oe) : DEm F bb e s (M.up oe) := fun g d g' q => by
  obtain ⟨h1, rfl⟩ := M.up_eq q
  exact h _ d h1
theorem t_up (h : ∀ g, DTp F e (gB s bb g) ot) : DTm F bb e s (M.up ot) := fun g d g' q => by
  obtain ⟨h1, rfl⟩ := M.up_eq q
  exact h _ d h1
theorem a_up (h : ∀ g, DAp F es (gB s bb g) os) : DAm F bb es s (M.up os) := fun g d g' q => by
  obtain ⟨h1, rfl⟩ := M.up_eq q
  exact h _ d h1
theorem i_up (h : ∀ g, DIp F tg e (gB s bb g) os) : DIm F bb tg e s (M.up os) := fun g d g' q => by
  obtain ⟨h1, rfl⟩ := M.up_eq q
  exact h _ d h1
theorem me_op {op : Operator} {q : D → D → O D} (hr : OpS F op q) (ha : DEm F bb a s ma) (hb : DEm F bb b s mb) : DEm F bb (.BinOp a op b pos) s (ma.bind fun x => mb.bind fun y => M.up (q x y)) := fun g z g' h => by
  obtain ⟨x, g1, h1, h⟩ := M.bind_eq h
  obtain ⟨y, g2, h2, h⟩ := M.bind_eq h
  obtain ⟨h', e⟩ := M.up_eq h
  clear h
  subst e
  have h := h'
  exact de_op (ha _ _ _ h1) (hb _ _ _ h2) (hr x y z h)
theorem mt_cmp {op : CmpOp} {q : D → D → O Bool} (hr : CmS F op q) (ha : DEm F bb a s ma) (hb : DEm F bb b s mb) (hm : behindInMarks op b = false := by first | exact nomark _ | rfl) : DTm F bb (.Compare a [op] [b] pos) s (ma.bind fun x => mb.bind fun y => M.up (q x y)) := fun g z g' h => by
  obtain ⟨x, g1, h1, h⟩ := M.bind_eq h
  obtain ⟨y, g2, h2, h⟩ := M.bind_eq h
  obtain ⟨h', e⟩ := M.up_eq h
  clear h
  subst e
  have h := h'
  exact dt_cmp (ha _ _ _ h1) (hb _ _ _ h2) (hr x y z h) hm
theorem ma_cons (h : DEm F bb e s me) (hr : DAm F bb es s ms) (hs : ∀ i, starEach (e :: es) (F.X i).env = (false, eval e (F.X i).env) :: starEach es (F.X i).env := by intro _; rfl) : DAm F bb (e :: es) s (M.cons me ms) := fun g d g' q => by
  obtain ⟨x, g1, h1, q⟩ := M.bind_eq q
  obtain ⟨xs, g2, h2, q⟩ := M.bind_eq q
  obtain ⟨e1, e2⟩ := M.ret_eq q
  subst e1 e2
  obtain ⟨h3, h4⟩ := hr _ _ _ h2
  exact ⟨da_cons (h _ _ _ h1) h3 hs, by rw [List.length_cons, List.length_cons, h4]⟩
theorem me_ix (ha : DEm F bb a s ma) (hb : DEm F bb b s mb) (hs : PlainIx b := by intro _ _; rfl) : DEm F bb (.Subscript a b pos) s (ma.bind fun x => mb.bind fun y => M.up (ix x y)) := fun g d g' h => by
  obtain ⟨x, g1, h1, h⟩ := M.bind_eq h
  obtain ⟨y, g2, h2, h⟩ := M.bind_eq h
  obtain ⟨h', e⟩ := M.up_eq h
  clear h
  subst e
  have h := h'
  unfold ix at h
  split at h
  · obtain ⟨z, h3, h⟩ := op2_eq h
    cases h
    exact de_ixT (ha _ _ _ h1) (hb _ _ _ h2) h3 hs
  · obtain ⟨z, h3, h⟩ := op2_eq h
    cases h
    exact de_ixL (ha _ _ _ h1) (hb _ _ _ h2) h3 hs
  · split at h
    · obtain ⟨z, h3, h⟩ := op2_eq h
      cases h
      exact de_ixS (ha _ _ _ h1) (hb _ _ _ h2) (sl6 (by assumption)) h3 hs
    · cases h
  · cases h
section
variable {k : Nat} {nm : Str} {φ : List D → O D}
theorem me_callTy {T : String} (hm : F.mg nm = none) (hv : bootBuiltins nm = some (.type T)) (hr : CaS F (.type T) φ) (ha : DAm F bb (e :: es) s ms)
    (hg : ∀ i, Gl (F.X i) nm := by intro _; rfl) (hn : nm ≠ "__name__" := by decide) (hdb : (nm == ("__debug__" : Str)) = false := by decide)
    (he : ∀ i, starEach (e :: es) (F.X i).env = (false, eval e (F.X i).env) :: starEach es (F.X i).env := by intro _; rfl) (hpl : ∀ i, (backTo pos (starEach es (F.X i).env)).any (·.1) = false := by intro _; rfl) : DEm F bb (.Call (.Name nm p) (e :: es) [] pos) s (ms.bind fun ds => M.up (φ ds)) := fun g d g' q => by
  obtain ⟨ds, g1, h1, q⟩ := M.bind_eq q
  obtain ⟨q', e⟩ := M.up_eq q
  clear q
  subst e
  have q := q'
  exact de_callTy hm hv (ha _ _ _ h1).1 (hr ds d q) hg hn hdb he hpl
def spFB (C : Kc) (φ : List D → M D) : Sp := spB C fun ds gs d gs' => φ ds gs = .ok (d, gs')
theorem me_bag [Calm F] {φ : List D → M D} {j : Nat} {x : Str} {q' : Pos} (cl : Cal F.P F.w F.C F.mg F.base k nm (spFB F.C φ)) (hj : s[j]? = some (some .bag)) (ha : DAm F bb es s ms) (hk : k ≤ F.k := by exact Nat.le_of_ble_eq_true rfl)
    (hN : ∀ i, (F.X i).N[j]? = some x := by intro _; rfl) (hv : ∀ i, Vis (F.X i).env.scope x := by intro _; first | exact Or.inl rfl | exact Or.inr (Or.inl rfl) | exact Or.inr (Or.inr rfl))
    (hd : (x == ("__debug__" : Str)) = false := by decide) (hcd : (x == ("__classdict__" : Str)) = false := by decide)
    (hgl : ∀ i, Gl (F.X i) nm := by intro _; rfl) (hdb : (nm == ("__debug__" : Str)) = false := by decide)
    (he : ∀ i, starEach (.Name x q' :: es) (F.X i).env = (false, eval (.Name x q') (F.X i).env) :: starEach es (F.X i).env := by intro _; rfl) (hpl : ∀ i, (backTo pos (starEach es (F.X i).env)).any (·.1) = false := by intro _; rfl) :
    DEm F bb (.Call (.Name nm p) (.Name x q' :: es) [] pos) s (ms.bind φ) := fun g d g' q => by
  obtain ⟨ds, g1, h1, q⟩ := M.bind_eq q
  exact de_callBag (S1 := gB s bb g1) cl hj rfl (ha _ _ _ h1).1 rfl q hk hN hv hd hcd hgl hdb he hpl
theorem p_callNewG [Calm F] {S : ST} {φ : List D → M D} (hG : ∀ i, (F.X i).A.guards = some []) (cl : CalG F.P F.w F.C F.mg F.base k nm (spFB F.C φ)) (ha : DOp F e S os) (hk : k ≤ F.k := by exact Nat.le_of_ble_eq_true rfl)
    (hg : ∀ i, Gl (F.X i) nm := by intro _; rfl) (hdb : (nm == ("__debug__" : Str)) = false := by decide)
    (he : ∀ i, starEach [e] (F.X i).env = (false, eval e (F.X i).env) :: starEach [] (F.X i).env := by intro _; rfl) (hpl : ∀ i, (backTo pos (starEach [] (F.X i).env)).any (·.1) = false := by intro _; rfl) : DEp F (.Call (.Name nm p) [e] [] pos) S (os.bind fun gs => (φ [] gs).bind fun r => .ok r.1) := fun d q => by
  obtain ⟨gs, h1, q⟩ := O.bind_eq q
  obtain ⟨⟨r, g'⟩, h2, q⟩ := O.bind_eq q
  cases q
  exact de_callNewG hG cl (ha gs h1) h2 hk hg hdb he hpl
theorem o_call [Calm F] {S : ST} {φ : List D → O (List D)} {os : O (List D)} (cl : Cal F.P F.w F.C F.mg F.base k nm (spFN F.C φ)) (ha : DAp F (e :: es) S os) (hk : k ≤ F.k := by exact Nat.le_of_ble_eq_true rfl)
    (hg : ∀ i, Gl (F.X i) nm := by intro _; rfl) (hdb : (nm == ("__debug__" : Str)) = false := by decide)
    (he : ∀ i, starEach (e :: es) (F.X i).env = (false, eval e (F.X i).env) :: starEach es (F.X i).env := by intro _; rfl) (hpl : ∀ i, (backTo pos (starEach es (F.X i).env)).any (·.1) = false := by intro _; rfl) : DOp F (.Call (.Name nm p) (e :: es) [] pos) S (os.bind φ) := fun d q => by
  obtain ⟨ds, h1, q⟩ := O.bind_eq q
  exact do_call cl (ha ds h1).1 q hk hg hdb he hpl
end
def MF (bb : Addr) : D × List D → Po := fun r => { rt := fun d S => d = r.1 ∧ S.g = some (bb, .lst r.2), nx := fun S => r.1 = .non ∧ S.g = some (bb, .lst r.2) }
def forM (f : T → D → M T) (ds : List D) (t : T) : M T := fun g => forO (fun x d => f x.1 d x.2) ds (t, g)
def loopM (f : T → D → M (Fl T R)) : List D → T → M (Fl T R)
  | [], t => M.ret (.nx t)
  | d :: ds, t => (f t d).bind fun
    | .nx t' => loopM f ds t'
    | .bk t' => M.ret (.bk t')
    | .rt r => M.ret (.rt r)
def thenM (m : M (Fl T R)) (k : T → M R) : M R := m.bind fun
  | .nx t => k t
  | .bk t => k t
  | .rt r => M.ret r
@[simp] theorem forM_nil (f : T → D → M T) (t : T) : forM f [] t = M.ret t := rfl
@[simp] theorem forM_cons (f : T → D → M T) (d : D) (ds : List D) (t : T) : forM f (d :: ds) t = (f t d).bind fun t' => forM f ds t' := rfl
theorem m_retA {P : D × List D → Po} (h : DEm F bb e s me) (hP : ∀ d g, (P (d, g)).rt d (gB s bb g) := by intro _ _; exact ⟨rfl, rfl⟩) : DSm F bb (.Return (some e) pos :: rest) s me P := fun g r q => by
  obtain ⟨d, g'⟩ := r
  exact ds_ret (h _ _ _ q) (hP _ _)
theorem m_ret {ret : D → R} (h : DEm F bb e s me) (hP : ∀ d g, (P (ret d, g)).rt d (gB s bb g)) : DSm F bb (.Return (some e) pos :: rest) s (me.bind fun d => M.ret (ret d)) P := fun g r q => by
  obtain ⟨r, g'⟩ := r
  obtain ⟨d, g1, h1, q⟩ := M.bind_eq q
  obtain ⟨e1, e2⟩ := M.ret_eq q
  subst e1 e2
  exact ds_ret (h _ _ _ h1) (hP d _)
theorem m_set {j : Nat} {x : Str} {pos' : Pos} {mr : D → M R} (he : DEm F bb e s me) (hr : ∀ d, DSm F bb rest (s.set j (some (.imm d))) (mr d) P) (hN : ∀ i, (F.X i).N[j]? = some x := by intro _; rfl) (hx : ∀ i, Loc (F.X i).env.scope x := by intro _; first | exact Or.inl rfl | exact Or.inr rfl)
    (hs : ∀ i, swapsWith e (some (.Name x pos')) pos.line (F.X i).env = pure false := by intro _; rfl) (hf : ∀ i, (F.X i).fn x = true ∨ (F.X i).env.scope.names.lookup x = some .local := by intro _; first | exact .inl rfl | exact .inr rfl) : DSm F bb (.Assign [.Name x pos'] e pos :: rest) s (me.bind mr) P := fun g r q => by
  obtain ⟨d, g1, h1, q⟩ := M.bind_eq q
  exact ds_set (he _ _ _ h1) (hr d g1 r q) hN hx hs hf
theorem m_ifr {m1 m2 : M R} (ht : DTm F bb c s mt) (h1 : DSm F bb t s m1 (fun r => { P r with nx := fun _ => False })) (h2 : DSm F bb rest s m2 P) : DSm F bb (.If c t [] pos :: rest) s (M.ite mt m1 m2) P := fun g r q => by
  obtain ⟨r, g'⟩ := r
  obtain ⟨g1, ⟨h3, q⟩ | ⟨h3, q⟩⟩ := M.ite_eq q
  · exact ds_ifr (k := true) (ht _ _ _ h3) (fun _ => h1 g1 _ q) (fun z => nomatch z)
  · exact ds_ifr (k := false) (ht _ _ _ h3) (fun z => nomatch z) (fun _ => h2 g1 _ q)
def MLo (P : R × List D → Po) (bb : Addr) (mk : T → List (Option DV)) : Fl T R × List D → Po
  | (.nx t, g) => { nx := fun S' => Wk S' (gB (mk t) bb g), ct := fun S' => Wk S' (gB (mk t) bb g) }
  | (.bk t, g) => { bk := fun S' => Wk S' (gB (mk t) bb g) }
  | (.rt r, g) => { P (r, g) with nx := fun _ => False, bk := fun _ => False, ct := fun _ => False }
theorem m_nilL {mk : T → List (Option DV)} {x : T} (w : WkL s (mk x)) : DSm F bb [] s (M.ret (.nx x)) (MLo P bb mk) := fun g r q => by
  obtain ⟨r, g'⟩ := r
  obtain ⟨e1, e2⟩ := M.ret_eq q
  subst e1 e2
  exact ds_nil ⟨w, rfl⟩
theorem loopM_take {f : T → D → M (Fl T R)} : ∀ {ds : List D} {t0 : T} {g g' : List D} {z : Fl T R}, loopM f ds t0 g = .ok (z, g') → ∀ {i : Nat} {d : D} {x : T} {g1 : List D}, ds[i]? = some d → loopM f (ds.take i) t0 g = .ok (.nx x, g1) → ∃ y g2, f x d g1 = .ok (y, g2) ∧ loopM f (ds.take (i + 1)) t0 g = .ok (y, g2) ∧ (∀ t', y = .bk t' → z = .bk t' ∧ g' = g2) ∧ ∀ r, y = .rt r → z = .rt r ∧ g' = g2
  | [], t0, g, g', z, h, i, d, x, g1, hd, hx => by simp at hd
  | e :: ds, t0, g, g', z, h, 0, d, x, g1, hd, hx => by
    have hd' : e = d := by simpa using hd
    subst hd'
    obtain ⟨e1, e2⟩ := M.ret_eq (show (M.ret (Fl.nx t0) : M (Fl T R)) g = _ from hx)
    have e1 : x = t0 := by cases e1; rfl
    subst e1
    subst e2
    obtain ⟨y, g2, h1, h2⟩ := M.bind_eq (show M.bind (f x e) _ _ = _ from h)
    refine ⟨y, g2, h1, ?_, ?_, ?_⟩
    · show M.bind (f x e) _ _ = _
      rw [M.bind_ap, h1]
      cases y <;> rfl
    · intro t' q; subst q
      obtain ⟨q1, q2⟩ := M.ret_eq h2
      exact ⟨q1, q2⟩
    · intro r q; subst q
      obtain ⟨q1, q2⟩ := M.ret_eq h2
      exact ⟨q1, q2⟩
  | e :: ds, t0, g, g', z, h, i + 1, d, x, g1, hd, hx => by
    obtain ⟨y, g2, h1, h2⟩ := M.bind_eq (show M.bind (f t0 e) _ _ = _ from h)
    obtain ⟨y', g3, h3, h4⟩ := M.bind_eq (show M.bind (f t0 e) _ _ = _ from hx)
    rw [h1] at h3
    cases h3
    cases y with
    | nx t1 =>
      obtain ⟨y2, g4, k1, k2, k3, k4⟩ := loopM_take (show loopM f ds t1 g2 = _ from h2) (i := i) (d := d) (by simpa using hd) (show loopM f (ds.take i) t1 g2 = _ from h4)
      refine ⟨y2, g4, k1, ?_, k3, k4⟩
      show M.bind (f t0 e) _ _ = _
      rw [M.bind_ap, h1]
      exact k2
    | bk t1 => obtain ⟨q1, _⟩ := M.ret_eq h4; cases q1
    | rt r => obtain ⟨q1, _⟩ := M.ret_eq h4; cases q1
theorem m_for1R (mk : T → List (Option DV)) {t0 : T} {x : Str} {xp : Pos} {j : Nat} {mo : T → D → M (Fl T R)} {mr : T → M R} (hi : DIm F bb (.Name x xp) iter s mi) (w : WkL s (mk t0)) (hb : ∀ t d, DSm F bb body ((mk t).set j (some (.imm d))) (mo t d) (MLo P bb mk)) (hr : ∀ t, DSm F bb rest (mk t) (mr t) P)
    (g1 : ∀ (d : D) (S : ST), DG F (.Name x xp) d S (S.set j d) [j] := by intro _ _; exact dg_name)
    (hp : ∀ i, PassesOwn (model (F.X i).prog (F.X i).w) (F.X i).A (F.X i).env (F.X i).xe := by intro _; exact PassesOwn.never)
    (hf : ∀ i, PS (F.X i) (.For (.Name x xp) iter body [] pos) (tFor (anyI F (.Name x xp) iter) (anyG F (.Name x xp)) (anyS F body)) := by intro i; exact ps_for PassesOwn.never (Fam.calm _ i) (anyI_ok i) (anyG_ok i) (anyS_ok i)) :
    DSm F bb (.For (.Name x xp) iter body [] pos :: rest) s (mi.bind fun ds => thenM (loopM mo ds t0) mr) P := fun g r q => by
  obtain ⟨r, gr⟩ := r
  obtain ⟨ds, ga, h1, q⟩ := M.bind_eq q
  obtain ⟨z, gb, h2, q⟩ := M.bind_eq (show M.bind _ _ _ = _ from q)
  refine ds_for (fun i S' => ∃ x gx, loopM mo (ds.take i) t0 ga = .ok (.nx x, gx) ∧ Wk S' (gB (mk x) bb gx)) (fun S' => ∃ x gx, mr x gx = .ok (r, gr) ∧ Wk S' (gB (mk x) bb gx)) (hi _ _ _ h1) ⟨t0, ga, rfl, ⟨w, rfl⟩⟩ (fun i S' d hd hI => ?_) (fun S' hI => ?_) (fun S' ⟨x, gx, e, z⟩ => ds_wk z (hr x gx (r, gr) e)) hp hf
  · obtain ⟨x, gx, e1, wx⟩ := hI
    obtain ⟨y, gy, e2, e3, e4, e5⟩ := loopM_take h2 hd e1
    refine ⟨_, [j], dg_wk wx (g1 d _), ?_⟩
    have := hb x d gx (y, gy) e2
    cases y with
    | nx t' => exact ds_mono this (fun S2 z => ⟨_, _, e3, z⟩) (fun _ _ z => z.elim) (fun _ z => z.elim) (fun S2 z => ⟨_, _, e3, z⟩) (fun _ _ z => z.elim)
    | bk t' =>
      obtain ⟨k1, k2⟩ := e4 t' rfl
      subst k1 k2
      exact ds_mono this (fun S2 z => z.elim) (fun _ _ z => z.elim) (fun S2 z => ⟨t', _, q, z⟩) (fun S2 z => z.elim) (fun _ _ z => z.elim)
    | rt r' =>
      obtain ⟨k1, k2⟩ := e5 r' rfl
      subst k1 k2
      obtain ⟨k3, k4⟩ := M.ret_eq q
      subst k3 k4
      exact ds_mono this (fun S2 z => z.elim) (fun _ _ z => z) (fun S2 z => z.elim) (fun S2 z => z.elim) (fun _ _ z => z)
  · obtain ⟨x, gx, e1, wx⟩ := hI
    rw [List.take_length, h2] at e1
    cases e1
    exact ⟨_, _, q, wx⟩
def bagIx (ob : O D) : M D := fun g => (ob.bind fun y => ix (.lst g) y).bind fun d => .ok (d, g)
@[simp] theorem bagIx_ap (ob : O D) (g : List D) : bagIx ob g = (ob.bind fun y => ix (.lst g) y).bind fun d => .ok (d, g) := rfl
theorem e_bagIx {j : Nat} {x : Str} {ob : O D} (hj : s[j]? = some (some .bag)) (hb : ∀ g, DEp F b (gB s bb g) ob) (hs : PlainIx b := by intro _ _; rfl)
    (hN : ∀ i, (F.X i).N[j]? = some x := by intro _; rfl) (hv : ∀ i, Vis (F.X i).env.scope x := by intro _; first | exact Or.inl rfl | exact Or.inr (Or.inl rfl) | exact Or.inr (Or.inr rfl))
    (hd : (x == ("__debug__" : Str)) = false := by decide) (hcd : (x == ("__classdict__" : Str)) = false := by decide) : DEm F bb (.Subscript (.Name x p) b pos) s (bagIx ob) := fun g d g' q => by
  obtain ⟨z, q1, q⟩ := O.bind_eq (show O.bind _ _ = _ from q)
  cases q
  obtain ⟨y, h2, q1⟩ := O.bind_eq q1
  cases y with
  | int i =>
    obtain ⟨z, h3, q2⟩ := op2_eq (show op2 (atI g i) O.ok = _ from q1)
    cases q2
    exact de_bagIx (S := gB s bb g) (S1 := gB s bb g) hj (hb g _ h2) rfl rfl h3 hs hN hv hd hcd
  | _ => cases q1
theorem m_bagSet {j : Nat} {x : Str} {i : Int} {mr : M R} (he : DEm F bb e s me) (hj : s[j]? = some (some .bag)) (hb : ∀ g, DEp F b (gB s bb g) (.ok (.int i))) (hr : DSm F bb rest s mr P)
    (hN : ∀ i, (F.X i).N[j]? = some x := by intro _; rfl) (hv : ∀ i, Vis (F.X i).env.scope x := by intro _; first | exact Or.inl rfl | exact Or.inr (Or.inl rfl) | exact Or.inr (Or.inr rfl))
    (hd : (x == ("__debug__" : Str)) = false := by decide) (hcd : (x == ("__classdict__" : Str)) = false := by decide)
    (hp : ∀ i, PS (F.X i) (.Assign [.Subscript (.Name x q1) b p] e pos) (tAsg (anyE F e) (gSub (tVar j) (anyE F b) rSetL)) := by
      intro i; exact ps_asg (anyE_ok i) (pg_sub (pv _) (anyE_ok i) set_list)) :
    DSm F bb (.Assign [.Subscript (.Name x q1) b p] e pos :: rest) s (me.bind fun d g => op2 (ixN g.length i) fun n => mr (g.set n d)) P := fun g r q => by
  obtain ⟨d, g1, h1, q⟩ := M.bind_eq (g' := r.2) (b := r.1) q
  obtain ⟨n, h3, q⟩ := op2_eq q
  exact ds_bagSet (S1 := gB s bb g1) (he _ _ _ h1) hj (hb g1 _ rfl) rfl h3 (hr _ r q) hN hv hd hcd hp
theorem vm_e (h : DEm F bb e s me) : DVm F bb e s kI me := fun g x g' q => evv_m (h _ _ _ q)
theorem m_par2 [Calm F] {κ : α → DV} {κ' : β → DV} {m1 : M α} {m2 : M β} {i j : Nat} {n1 n2 : Str} {px py pt : Pos} {kt k2 : Nat} {pt2 : Pos} {mr : α → β → M R} (ha : DVm F bb a s κ m1) (hb : DVm F bb b s κ' m2) (hr : ∀ x y, DSm F bb rest ((s.set i (some (κ x))).set j (some (κ' y))) (mr x y) P)
    (hi : i < s.length := by exact Nat.le_of_ble_eq_true rfl) (hj : j < s.length := by exact Nat.le_of_ble_eq_true rfl) (h1 : ∀ l, (F.X l).N[i]? = some n1 := by intro _; rfl) (h2 : ∀ l, (F.X l).N[j]? = some n2 := by intro _; rfl) (hij : i ≠ j := by decide)
    (hx : ∀ l, (F.X l).env.scope.names.lookup n1 = some .local := by intro _; rfl) (hy : ∀ l, (F.X l).env.scope.names.lookup n2 = some .local := by intro _; rfl)
    (hw : ∀ l, swappedStores [.Tuple [.Name n1 px, .Name n2 py] kt pt] (.Tuple [a, b] k2 pt2) (F.X l).env = pure (some [n1, n2]) := by intro _; rfl)
    (hs : ∀ l, swapsWithSole [.Tuple [.Name n1 px, .Name n2 py] kt pt] (.Tuple [a, b] k2 pt2) pos.line (F.X l).env = pure false := by intro _; rfl)
    (hst : ∀ i, starEach [a, b] (F.X i).env = (false, eval a (F.X i).env) :: starEach [b] (F.X i).env := by intro _; rfl) (hst2 : ∀ i, starEach [b] (F.X i).env = (false, eval b (F.X i).env) :: starEach [] (F.X i).env := by intro _; rfl) :
    DSm F bb (.Assign [.Tuple [.Name n1 px, .Name n2 py] kt pt] (.Tuple [a, b] k2 pt2) pos :: rest) s (m1.bind fun x => m2.bind fun y => mr x y) P := fun g r q => by
  obtain ⟨x, ga, q1, q⟩ := M.bind_eq (g' := r.2) (b := r.1) q
  obtain ⟨y, gb, q2, q⟩ := M.bind_eq q
  refine ds_cons (M := fun S3 => S3 = gB ((s.set i (some (κ x))).set j (some (κ' y))) bb gb) (d1_of (te := tPar i j (tCons (anyE F a) (tCons (anyE F b) tNil))) (fun l => ps_par (F.calm l) (by rw [F.hN l]; exact F.nd) (h1 l) (h2 l) hij (hx l) (hy l) (pa_cons (anyE_ok l) (pa_cons (anyE_ok l) pa_nil (hst2 l)) (hst l)) (hw l) (hs l)) ?_) fun _ z => z ▸ hr x y gb r q
  intro σ G H c E m
  exact par2 c (ha _ _ _ q1) (hb _ _ _ q2) hi hj fun v w G2 H2 _ mw => ⟨v, w, rfl, m.nx _ _ _ _ mw rfl⟩
theorem m_parT2 {κ : α → DV} {κ' : β → DV} {m1 : M α} {m2 : M β} {i j : Nat} {n1 n2 : Str} {px py pt : Pos} {kt k2 : Nat} {pt2 : Pos} {mr : α → β → M R} (ha : DVm F bb a s κ m1) (hb : DVm F bb b s κ' m2) (hr : ∀ x y, DSm F bb rest ((s.set i (some (κ x))).set j (some (κ' y))) (mr x y) P)
    (hi : i < s.length := by exact Nat.le_of_ble_eq_true rfl) (hj : j < s.length := by exact Nat.le_of_ble_eq_true rfl)
    (hp : ∀ o, PS (F.X o) (.Assign [.Tuple [.Name n1 px, .Name n2 py] kt pt] (.Tuple [a, b] k2 pt2) pos) (tAsg (tTup (tCons (anyE F a) (tCons (anyE F b) tNil))) (gTup (F.X o).K 2 (gCons (gName i) (gCons (gName j) gNil)))) := by
      intro o; exact ps_asg (pe_tup (pa_cons (anyE_ok o) (pa_cons (anyE_ok o) pa_nil))) (pg_tup (Fam.calm _ o) (pgs_cons (pg_name (Fam.ndX _ o) rfl (by first | exact Or.inl rfl | exact Or.inr rfl)) (pgs_cons (pg_name (Fam.ndX _ o) rfl (by first | exact Or.inl rfl | exact Or.inr rfl)) pgs_nil)))) :
    DSm F bb (.Assign [.Tuple [.Name n1 px, .Name n2 py] kt pt] (.Tuple [a, b] k2 pt2) pos :: rest) s (m1.bind fun x => m2.bind fun y => mr x y) P := fun g r q => by
  obtain ⟨x, ga, q1, q⟩ := M.bind_eq (g' := r.2) (b := r.1) q
  obtain ⟨y, gb, q2, q⟩ := M.bind_eq q
  refine ds_cons (M := fun S3 => S3 = gB ((s.set i (some (κ x))).set j (some (κ' y))) bb gb) (d1_of (te := tAsg (tTup (tCons (anyE F a) (tCons (anyE F b) tNil))) (gTup F.C.K 2 (gCons (gName i) (gCons (gName j) gNil)))) (fun o => by have := hp o; rw [F.hK o] at this; exact this) ?_) fun _ z => z ▸ hr x y gb r q
  intro σ G H c E m
  exact par2 c (ha _ _ _ q1) (hb _ _ _ q2) hi hj fun v w G2 H2 _ mw => ⟨by show 2 ≤ sizeLine; decide, fun p hp => ⟨p, [v, w], rfl, SqT.of upd_same, rfl, v, [w], rfl, w, [], rfl, rfl, m.nx _ _ _ _ (mw.side hp) rfl⟩⟩
end
section
variable {P : Program} {w : World} {C : Kc} {mg : Str → Option Value} {base : Heap} {x qual : Str} {st : Stmt} {f : Addr} {fd : FuncData} {N ps : List Str} {k : Nat} {n : Str} {φ : List D → M D}
theorem fxB (F : Fun C.K x qual st f fd) (Sc : FnScope (n :: N) ps (defScope st)) (len : ∀ ds g r, φ ds g = .ok r → ds.length + 1 = ps.length)
    (body : ∀ b cdv A outer s H E hr ds, DSm (famD C mg base (n :: N) Sc.nd qual (defScope st) f cdv A outer s H E k hr) b (defBody st) (DL.startB (n :: N) ds) (φ ds) (MF b)) : FnOk C.P C.w C.K mg base CX0 (k + 1) f fd ps (spFB C φ) :=
  fnB F Sc (fun ds gs d gs' h => len ds gs _ h) fun ds gs d gs' h b cdv A outer s H E hr => body b cdv A outer s H E hr ds gs (d, gs') h
theorem fxBG (F : Fun C.K x qual st f fd) (Sc : FnScope (n :: N) ps (defScope st)) (len : ∀ ds g r, φ ds g = .ok r → ds.length + 1 = ps.length)
    (body : ∀ b cdv A outer s H E hr, (A.guards = some [] ∧ fd.code = cdv) → ∀ ds, DSm (famD C mg base (n :: N) Sc.nd qual (defScope st) f cdv A outer s H E k hr) b (defBody st) (DL.startB (n :: N) ds) (φ ds) (MF b)) : FnG C.P C.w C.K mg base (k + 1) f fd ps (spFB C φ) :=
  fnBG F Sc (fun ds gs d gs' h => len ds gs _ h) fun ds gs d gs' h b cdv A outer s H E hr hA => body b cdv A outer s H E hr hA ds gs (d, gs') h
end
def m0 (f : M D) (ds : List D) : M D := fun g => match ds with
  | [] => f g
  | _ => .bad
def m1 (f : D → M D) (ds : List D) : M D := fun g => match ds with
  | [a] => f a g
  | _ => .bad
def m2 (f : D → D → M D) (ds : List D) : M D := fun g => match ds with
  | [a, b] => f a b g
  | _ => .bad
def m3 (f : D → D → D → M D) (ds : List D) : M D := fun g => match ds with
  | [a, b, c] => f a b c g
  | _ => .bad
def m4 (f : D → D → D → D → M D) (ds : List D) : M D := fun g => match ds with
  | [a, b, c, d] => f a b c d g
  | _ => .bad
@[simp] theorem m0_ap (f : M D) : m0 f [] = f := rfl
@[simp] theorem m1_ap (f : D → M D) (a : D) : m1 f [a] = f a := rfl
@[simp] theorem m2_ap (f : D → D → M D) (a b : D) : m2 f [a, b] = f a b := rfl
@[simp] theorem m3_ap (f : D → D → D → M D) (a b c : D) : m3 f [a, b, c] = f a b c := rfl
@[simp] theorem m4_ap (f : D → D → D → D → M D) (a b c d : D) : m4 f [a, b, c, d] = f a b c d := rfl
theorem m0_len {f : M D} {ds g : List D} {r : D × List D} (h : m0 f ds g = .ok r) : ds.length = 0 := by unfold m0 at h; split at h <;> first | rfl | cases h
theorem m1_len {f : D → M D} {ds g : List D} {r : D × List D} (h : m1 f ds g = .ok r) : ds.length = 1 := by unfold m1 at h; split at h <;> first | rfl | cases h
section
variable {F : Fam} {bb : Addr} {sts : List Stmt} {P : D × List D → Po} {S : List D → List (Option DV)}
theorem am0 {f : M D} (h : DSm F bb sts (S []) f P) : ∀ ds, DSm F bb sts (S ds) (m0 f ds) P := fun ds g r q => by
  unfold m0 at q; split at q
  · exact h g r q
  · cases q
theorem am1 {f : D → M D} (h : ∀ a, DSm F bb sts (S [a]) (f a) P) : ∀ ds, DSm F bb sts (S ds) (m1 f ds) P := fun ds g r q => by
  unfold m1 at q; split at q
  · exact h _ g r q
  · cases q
end
end SL
namespace SL
open PySem L2 DL
variable [TabL]
def clsName : Nat → Str
  | 0 => "Ratio"
  | 1 => "Fold"
  | 2 => "Raisin"
  | 3 => "Way"
  | 4 => "Watch"
  | 5 => "Track"
  | 6 => "Console"
  | _ => "?"
def clsFields : Nat → List Str
  | 0 => ["top", "bottom"]
  | 1 => ["cells"]
  | 2 => ["place", "side"]
  | 3 => ["lead", "ring"]
  | 4 => ["letters", "moves", "good"]
  | 5 => ["cells", "is_odd", "begin"]
  | 6 => ["fold", "colours"]
  | _ => []
def tyNames : List String := ["NoneType", "bool", "int", "str", "tuple", "list", "dict"]
def isiNames : List String := ["int", "bool", "str", "tuple"]
def bltNames : List Str := ["isinstance", "len", "int", "bool", "str", "tuple", "list", "range", "enumerate", "abs", "max", "min", "all", "any", "sum", "repr", "sorted", "set", "dict", "zip"]
structure Tx (C : Kc) (mg : Str → Option Value) : Prop where
  nb : ∀ n ∈ bltNames, mg n = none
  cn : ∀ c, C.has c = true → mg (clsName c) = some (.ref (C.cl c))
  ins : ∀ c, C.has c = true → InsF C.K (C.cl c)
  na : ∀ c, C.has c = true → ∀ f ∈ clsFields c, NoAttr C.K (C.cl c) f
  kO : ∀ c, C.has c = true → ∀ T ∈ isiNames, PySem.W.kitOne C.K (.ref (C.cl c)) (.type T) = some false
  kB : ∀ c, C.has c = true → ∀ T ∈ tyNames, PySem.W.kitOne C.K (.type T) (.ref (C.cl c)) = some false
  kC : ∀ c c', C.has c = true → C.has c' = true → c ≠ c' → PySem.W.kitOne C.K (.ref (C.cl c)) (.ref (C.cl c')) = some false
  nf : ∀ c c', C.has c = true → C.has c' = true → PySem.W.notFirst C.K (C.cl c) (.ref (C.cl c')) = true
  nfT : ∀ c, C.has c = true → ∀ T ∈ tyNames, PySem.W.notFirst C.K (C.cl c) (.type T) = true
  ne : ∀ c, C.has c = true → PySem.W.findIn C.K (.ref (C.cl c)) "__ne__" = some (some (.builtin "object.__ne__"))
  opf : C.has 0 = true → OpF C.K (C.cl 0)
  iA : C.has 0 = true → IntF C.K .Add
  iS : C.has 0 = true → IntF C.K .Sub
  iM : C.has 0 = true → IntF C.K .Mult
section
variable {F : Fam} {S : ST} {e a b c : Expr} {pos p p2 q1 q2 apos : Pos} {oa ob oe : O D} {es : List Expr} {os : O (List D)} {R : Type} {P : R → Po} {rest : List Stmt}
theorem Tx.bl {C : Kc} {mg : Str → Option Value} (T : Tx C mg) (n : Str) (h : n ∈ bltNames := by decide) : mg n = none := T.nb n h
theorem Tx.fl {C : Kc} {mg : Str → Option Value} (T : Tx C mg) {cs : List Nat} {f : Str} (h : ∀ c ∈ cs, f ∈ clsFields c := by decide) : ∀ c ∈ cs, C.has c = true → Cls C.K (C.cl c) ∧ NoAttr C.K (C.cl c) f := fun c hc hh => ⟨(T.ins c hh).cl, T.na c hh f (h c hc)⟩
theorem x_isiB {T : String} {x : Str} {xp : Pos} (t : Tx F.C F.mg) (ha : DEp F a S oa) (hv : bootBuiltins x = some (.type T)) (hx : x ∈ bltNames := by decide) (hT : T ∈ isiNames := by decide) (hg : ∀ i, Gl (F.X i) x := by intro _; rfl) (hn : x ≠ "__name__" := by decide) (hb : (x == ("__debug__" : Str)) = false := by decide)
    (hgi : ∀ i, Gl (F.X i) "isinstance" := by intro _; rfl)
    (he : ∀ i, starEach [a, .Name x xp] (F.X i).env = (false, eval a (F.X i).env) :: starEach [.Name x xp] (F.X i).env := by intro _; rfl) (hpl : ∀ i, (backTo pos (starEach [.Name x xp] (F.X i).env)).any (·.1) = false := by intro _; rfl) : DEp F (.Call (.Name "isinstance" p) [a, .Name x xp] [] pos) S (tr (oa.bind (isiB T))) :=
  p_isi (t.bl "isinstance") (de_bltn (t.nb x hx) hv (v := .ty T) rfl hg hn hb) (fun y k h => isi_ok t.ins (fun c hc => t.kO c hc T hT) h) ha hgi he (fun _ => rfl) hpl
theorem x_isiC {cn : Nat} {x : Str} {xp : Pos} (t : Tx F.C F.mg) (hh : F.C.has cn = true) (ha : DEp F a S oa) (hx : clsName cn = x := by rfl) (hg : ∀ i, Gl (F.X i) x := by intro _; rfl) (hb : (x == ("__debug__" : Str)) = false := by decide)
    (hgi : ∀ i, Gl (F.X i) "isinstance" := by intro _; rfl)
    (he : ∀ i, starEach [a, .Name x xp] (F.X i).env = (false, eval a (F.X i).env) :: starEach [.Name x xp] (F.X i).env := by intro _; rfl) (hpl : ∀ i, (backTo pos (starEach [.Name x xp] (F.X i).env)).any (·.1) = false := by intro _; rfl) : DEp F (.Call (.Name "isinstance" p) [a, .Name x xp] [] pos) S (tr (oa.bind (isiC cn))) :=
  p_isi (t.bl "isinstance") (de_glob (by rw [← hx]; exact t.cn cn hh) (v := .ref (F.C.cl cn)) rfl (fun _ => .cst _) hg hb) (fun y k h => isi_own t.ins hh (fun c hc n => t.kC c cn hc hh n) (t.kB cn hh) h) ha hgi he (fun _ => rfl) hpl
theorem putD_lt {f : Str} {d : D} : ∀ {fs : List (Str × D)} {n : Nat}, fs.length < n → (putD f d fs).length < n + 1
  | [], n, h => by show 1 < n + 1; have : 0 < n := h; omega
  | (g, x) :: r, n, h => by
    unfold putD
    split
    · show r.length + 1 < n + 1; have : r.length + 1 < n := h; omega
    · have h' : r.length + 1 < n := h
      show (putD f d r).length + 1 < n + 1
      have := putD_lt (f := f) (d := d) (fs := r) (n := n - 1) (by omega)
      omega
theorem k_fld {j : Nat} {x f : Str} {bb : Addr} {cn : Nat} {fs : List (Str × D)} {mr : D → O R} (hc : Cls F.C.K (F.C.cl cn) ∧ NoAttr F.C.K (F.C.cl cn) f) (he : DEp F e S oe) (hj : S.s[j]? = some (some .bag)) (hg : S.g = some (bb, .ins cn fs)) (hr : ∀ d, DSk F rest ⟨S.s, some (bb, .ins cn (putD f d fs))⟩ (mr d) P) (hl : fs.length < 1000 := by first | decide | exact putD_lt (n := 999) (by decide) | exact putD_lt (n := 999) (putD_lt (n := 998) (by decide)) | exact putD_lt (n := 999) (putD_lt (n := 998) (putD_lt (n := 997) (by decide))))
    (hN : ∀ i, (F.X i).N[j]? = some x := by intro _; rfl) (hv : ∀ i, Vis (F.X i).env.scope x := by intro _; first | exact Or.inl rfl | exact Or.inr (Or.inl rfl) | exact Or.inr (Or.inr rfl))
    (hd : (x == ("__debug__" : Str)) = false := by decide) (hcd : (x == ("__classdict__" : Str)) = false := by decide)
    (hs : ∀ i, swapsWith e (some (.Attribute (.Name x q1) f q2)) pos.line (F.X i).env = pure false := by intro _; rfl) : DSk F (.Assign [.Attribute (.Name x q1) f q2] e pos :: rest) S (oe.bind mr) P := fun r q => by
  obtain ⟨d, h1, q⟩ := O.bind_eq q
  exact ds_fld (he d h1) hj hg hc.1 hc.2 (hr d r q) hl hN hv hd hcd hs
theorem k_nilI {b : Addr} {cn : Nat} {fs : List (Str × D)} (hg : S.g = some (b, .ins cn fs)) : DSk F [] S (.ok fs) (PI b cn) := fun r q => by cases q; exact ds_nil hg
theorem cm_none {op : CmpOp} {x y z : D} (h : ∀ G u v, Den F.C G u x → Den F.C G v y → False) : OpD F (compareOp op) x y z :=
  ⟨fun _ _ _ _ => False, fun _ => fun _ _ _ _ _ _ _ _ _ _ _ _ z => z.elim, fun G H u v s hu hv Q q => h G u v hu hv⟩
theorem den_has {C : Kc} {G : Hp} {v : V} {c : Nat} {fs : List (Str × D)} (h : Den C G v (.obj c fs)) : C.has c = true := by
  cases h with
  | obj q _ _ => exact q
def ownEq (eqs : Nat → Option (D → D → O D)) (x y : D) : O Bool := match x with
  | .obj c _ => if isCst y then .bad else op2 (eqs c) fun f => (f x y).bind asB
  | x => match x, y with
    | .int _, .obj 0 _ => op2 (eqs 0) fun f => (f y x).bind asB
    | x, y => c_eq x y
def ownNe (eqs : Nat → Option (D → D → O D)) (x y : D) : O Bool := match x with
  | .obj c _ => if isCst y then .bad else op2 (eqs c) fun f => ((f x y).bind asB).bind fun b => .ok (!b)
  | x => c_ne x y
theorem tyD_in {C : Kc} {y : D} (hc : isCst y = false) : (∃ c fs, y = .obj c fs ∧ tyD C y = .ref (C.cl c)) ∨ ∃ T ∈ tyNames, tyD C y = .type T := by
  cases y <;> first | exact .inl ⟨_, _, rfl, rfl⟩ | exact .inr ⟨_, by decide, rfl⟩ | cases hc
theorem nf_of {C : Kc} {mg : Str → Option Value} (T : Tx C mg) {c : Nat} {y : D} (hh : C.has c = true) (hy : ∀ c' fs, y = .obj c' fs → C.has c' = true) (hc : isCst y = false) : PySem.W.notFirst C.K (C.cl c) (tyD C y) = true := by
  rcases tyD_in (C := C) hc with ⟨c', fs, e, q⟩ | ⟨t, ht, q⟩
  · rw [q]; exact T.nf c c' hh (hy c' fs e)
  · rw [q]; exact T.nfT c hh t ht
def EqF (F : Fam) (eqs : Nat → Option (D → D → O D)) : Prop := ∀ c f, eqs c = some f → F.C.has c = true → ∃ k, k + 1 ≤ F.k ∧ Met F.P F.w F.C F.mg F.base k c "__eq__" (spF F.C (l2 f))
theorem s_one [Calm F] {eqs : Nat → Option (D → D → O D)} (T : Tx F.C F.mg) (E : EqF F eqs) : CmS F .NotEq (ownNe eqs) := fun x y z h => by
  unfold ownNe at h
  split at h
  · split at h
    · cases h
    · rename_i c fs hcst
      have hcst : isCst y = false := by simpa using hcst
      obtain ⟨f, hf, h⟩ := op2_eq h
      obtain ⟨b, q, e⟩ := O.bind_eq h
      have e1 := O.ok.inj e
      subst e1
      obtain ⟨d, q1, q2⟩ := O.bind_eq q
      have e0 := asB_eq q2
      subst e0
      by_cases hh : F.C.has c = true
      · by_cases hy : ∀ c' fs, y = .obj c' fs → F.C.has c' = true
        · obtain ⟨k, hk, mt⟩ := E c f hf hh
          exact od_neO mt hk (fun c' fs' e q => T.ins c' q) (by cases y <;> first | rfl | cases hcst) (nf_of T hh hy hcst) (T.ins c hh) (T.ne c hh) q1
        · refine cm_none fun G u v h1 h2 => hy fun c' fs' e => ?_
          subst e
          exact den_has h2
      · exact cm_none fun G u v h1 h2 => hh (den_has h1)
  · exact s_ne _ _ _ h
def ownLen (lens : Nat → Option (D → O D)) : List D → O D
  | [.obj c fs] => op2 (lens c) fun f => (f (.obj c fs)).bind fun d => (asI d).bind fun i => if 0 ≤ i ∧ i < 2 ^ 63 then .ok (.int i) else .bad
  | ds => bi_len ds
def ownStr (sts : Nat → Option (D → O D)) : List D → O D
  | [.obj c fs] => op2 (sts c) fun f => (f (.obj c fs)).bind fun d => match d with
    | .str t => .ok (.str t)
    | _ => .bad
  | ds => bi_str ds
def LenF (F : Fam) (m : Str) (n : Nat) (lens : Nat → Option (D → O D)) : Prop := ∀ c f, lens c = some f → F.C.has c = true → ∃ k, k + n ≤ F.k ∧ Met F.P F.w F.C F.mg F.base k c m (spF F.C (l1 f))
theorem ca_none {f : Value} {c : Nat} {fs : List (Str × D)} {ds : List D} {z : D} (h : ¬ F.C.has c = true) : CaD F f (.obj c fs :: ds) z :=
  ⟨fun _ _ _ => False, fun _ => fun _ _ _ _ _ _ _ _ _ z => z.elim, fun G H us s hu Q q => by
    cases hu with
    | cons h0 _ => exact h (den_has h0)⟩
theorem s_olen [Calm F] {lens : Nat → Option (D → O D)} (L : LenF F "__len__" 1 lens) : CaS F (.builtin "len") (ownLen lens) := fun ds z h => by
  unfold ownLen at h
  split at h
  · obtain ⟨f, h1, h⟩ := op2_eq h
    obtain ⟨d, h2, h⟩ := O.bind_eq h
    obtain ⟨i, h3, h4⟩ := O.bind_eq h
    have e0 := asI_eq h3
    subst e0
    split at h4
    · rename_i hi
      have e1 := O.ok.inj h4
      subst e1
      rename_i c fs _ _
      by_cases hh : F.C.has c = true
      · obtain ⟨k, hk, mt⟩ := L c f h1 hh
        exact ca_lenO mt hk h2 hi.1 hi.2
      · exact ca_none hh
    · cases h4
  · exact s_len _ _ h
theorem s_ostr [Calm F] {sts : Nat → Option (D → O D)} (L : LenF F "__str__" 2 sts) : CaS F (.type "str") (ownStr sts) := fun ds z h => by
  unfold ownStr at h
  split at h
  · obtain ⟨f, h1, h⟩ := op2_eq h
    obtain ⟨d, h2, h3⟩ := O.bind_eq h
    split at h3
    · have e1 := O.ok.inj h3
      subst e1
      rename_i c fs _ _ _
      by_cases hh : F.C.has c = true
      · obtain ⟨k, hk, mt⟩ := L c f h1 hh
        exact ca_strO mt hk h2
      · exact ca_none hh
    · cases h3
  · exact s_str _ _ h
end
end SL
namespace SL
open PySem L2 DL
variable [TabL]
def clF (c0 c1 c2 c3 c4 c5 c6 : Addr) : Nat → Addr
  | 0 => c0
  | 1 => c1
  | 2 => c2
  | 3 => c3
  | 4 => c4
  | 5 => c5
  | _ => c6
def hasF (b0 b1 b2 b3 b4 b5 b6 : Bool) : Nat → Bool
  | 0 => b0
  | 1 => b1
  | 2 => b2
  | 3 => b3
  | 4 => b4
  | 5 => b5
  | 6 => b6
  | _ => false
end SL
namespace SLR
open PySem PyProof.Rows
section
variable {prog : Program} {w : World} {A : Around} {E : Value → Shared → Prop} {s : Shared}
end
end SLR
namespace L2
open PySem PySem.Spec PyProof.Rows
section
variable {X : Cx}
end
end L2
namespace SL
open PySem L2 DL
variable [TabL]
section
variable {F : Fam} {S : ST} {e : Expr} {pos p1 p2 p3 : Pos} {oa : O D} {k : Nat}
end
end SL
namespace SL
open PySem L2 DL
variable [TabL]
section
variable {F : Fam} {S : ST} {o e : Expr} {pos apos : Pos} {oa ob : O D}
theorem p_tm1 {id : String} {name : Str} {r : V → List V → Hp → VK → Prop} {φ : D → D → O D} (slot : Slot "str" name id) (ty : typeOf (.builtin id) = pure (.type "method_descriptor")) (rule : ∀ i, MtR (F.X i) id r)
    (hr : ∀ x y z, φ x y = .ok z → (∃ a, x = .str a) ∧ ∀ G H u v, DL.Sub G H → Den F.C G u x → Den F.C G v y → ∀ Q : VK, (∀ w G2 H2, Pu G H G2 H2 → Den F.C G2 w z → Q w H2) → r u [v] H Q)
    (ho : DEp F o S oa) (he : DEp F e S ob)
    (hs : ∀ i, starEach [e] (F.X i).env = [(false, eval e (F.X i).env)]) (hbase : ∀ i, attributeBase o name (F.X i).env (eval o (F.X i).env) = eval o (F.X i).env) (hline : (apos.endLine == pos.line) = true) :
    DEp F (.Call (.Attribute o name apos) [e] [] pos) S (oa.bind fun x => ob.bind fun y => φ x y) := fun d q => by
  obtain ⟨x, h1, q⟩ := O.bind_eq q
  obtain ⟨y, h2, q⟩ := O.bind_eq q
  obtain ⟨⟨a, ea⟩, h3⟩ := hr x y d q
  subst ea
  refine de_of (te := tM1 r (anyE F o) (anyE F e)) (fun i => pe_m1 slot ty (rule i) (anyE_ok i) (anyE_ok i) (hs i) (hbase i) hline) fun σ G H c Q q => ?_
  refine (ho _ h1) σ G H c _ fun u G1 H1 m1 d1 => ⟨?_, (he _ h2) σ G1 H1 m1.cx _ fun v G2 H2 m2 d2 => ?_⟩
  · cases d1; exact ⟨_, rfl⟩
  · exact h3 G2 H2 u v m2.cx.sub (d1.mono m2.go.gg) d2 Q fun w G3 H3 p d3 => q w G3 H3 ((m1.trans m2).pu p) d3
theorem denL_strs {C : Kc} {G : Hp} : ∀ (ys : List Str), DenL C G (ys.map V.str) (ys.map D.str)
  | [] => .nil
  | y :: ys => .cons (.str y) (denL_strs ys)
def t_split : D → D → O D
  | .str a, .str b => if (b.length == 0) = false ∧ a.length + 2 ≤ 1000000 then .ok (.lst ((Txt.split a b).map D.str)) else .bad
  | _, _ => .bad
def t_part : D → D → O D
  | .str a, .str b => if (b.length == 0) = false ∧ a.length ≤ 1000000 then .ok (.tup [.str (Txt.partition a b).1, .str (Txt.partition a b).2.1, .str (Txt.partition a b).2.2]) else .bad
  | _, _ => .bad
def joinOk (a : Str) (ys : List Str) : Bool := decide ((ys.map (·.length)).sum + ys.length * a.length ≤ 1000000)
def t_join : D → D → O D
  | .str a, .lst ds => op2 (strs? ds) fun ys => if joinOk a ys then .ok (.str (Txt.join a ys)) else .bad
  | .str a, .tup ds => op2 (strs? ds) fun ys => if joinOk a ys then .ok (.str (Txt.join a ys)) else .bad
  | _, _ => .bad
def t_index : D → D → O D
  | .str a, .str b => match Builtin.Str.occurrences a b 0 a.length 1 with
    | i :: _ => .ok (.int (i : Nat))
    | [] => .bad
  | _, _ => .bad
theorem p_split (ho : DEp F o S oa) (he : DEp F e S ob)
    (hs : ∀ i, starEach [e] (F.X i).env = [(false, eval e (F.X i).env)] := by intro _; rfl) (hbase : ∀ i, attributeBase o "split" (F.X i).env (eval o (F.X i).env) = eval o (F.X i).env := by intro _; rfl) (hline : (apos.endLine == pos.line) = true := by rfl) :
    DEp F (.Call (.Attribute o "split" apos) [e] [] pos) S (oa.bind fun x => ob.bind fun y => t_split x y) :=
  p_tm1 PySem.F.slot_str_split PySem.F.type_str_split (fun i => mt_split) (fun x y z h => by
    unfold t_split at h
    split at h
    · split at h
      · rename_i a b c
        cases h
        exact ⟨⟨a, rfl⟩, fun G H u v s hu hv Q q => by
          cases hu; cases hv
          exact ⟨a, b, rfl, rfl, c.1, sl6 c.2, fun p hp => q _ _ _ (Pu.new s hp) (.lst (SqL.of upd_same) (denL_strs _))⟩⟩
      · cases h
    · cases h) ho he hs hbase hline
theorem p_part (ho : DEp F o S oa) (he : DEp F e S ob)
    (hs : ∀ i, starEach [e] (F.X i).env = [(false, eval e (F.X i).env)] := by intro _; rfl) (hbase : ∀ i, attributeBase o "partition" (F.X i).env (eval o (F.X i).env) = eval o (F.X i).env := by intro _; rfl) (hline : (apos.endLine == pos.line) = true := by rfl) :
    DEp F (.Call (.Attribute o "partition" apos) [e] [] pos) S (oa.bind fun x => ob.bind fun y => t_part x y) :=
  p_tm1 PySem.F.slot_str_partition PySem.F.type_str_partition (fun i => mt_partition) (fun x y z h => by
    unfold t_part at h
    split at h
    · split at h
      · rename_i a b c
        cases h
        exact ⟨⟨a, rfl⟩, fun G H u v s hu hv Q q => by
          cases hu; cases hv
          exact ⟨a, b, rfl, rfl, c.1, sl6 c.2, fun p hp => q _ _ _ (Pu.new s hp) (.tup (SqT.of upd_same) (.cons (.str _) (.cons (.str _) (.cons (.str _) .nil))))⟩⟩
      · cases h
    · cases h) ho he hs hbase hline
theorem p_sindex (ho : DEp F o S oa) (he : DEp F e S ob)
    (hs : ∀ i, starEach [e] (F.X i).env = [(false, eval e (F.X i).env)] := by intro _; rfl) (hbase : ∀ i, attributeBase o "index" (F.X i).env (eval o (F.X i).env) = eval o (F.X i).env := by intro _; rfl) (hline : (apos.endLine == pos.line) = true := by rfl) :
    DEp F (.Call (.Attribute o "index" apos) [e] [] pos) S (oa.bind fun x => ob.bind fun y => t_index x y) :=
  p_tm1 PySem.F.slot_str_index PySem.F.type_str_index (fun i => mt_sindex) (fun x y z h => by
    unfold t_index at h
    split at h
    · rename_i a b
      split at h
      · rename_i i r c
        cases h
        exact ⟨⟨a, rfl⟩, fun G H u v s hu hv Q q => by
          cases hu; cases hv
          exact ⟨a, b, _, _, rfl, rfl, c, q _ _ _ (.refl s) (.int _)⟩⟩
      · cases h
    · cases h) ho he hs hbase hline
theorem denL_strs_eq {C : Kc} {G : Hp} : ∀ {vs : List V} {ys : List Str}, DenL C G vs (ys.map D.str) → vs = ys.map V.str
  | _, [], .nil => rfl
  | _, y :: ys, .cons h t => by cases h; rw [denL_strs_eq t]; rfl
theorem p_join (ho : DEp F o S oa) (he : DEp F e S ob)
    (hs : ∀ i, starEach [e] (F.X i).env = [(false, eval e (F.X i).env)] := by intro _; rfl) (hbase : ∀ i, attributeBase o "join" (F.X i).env (eval o (F.X i).env) = eval o (F.X i).env := by intro _; rfl) (hline : (apos.endLine == pos.line) = true := by rfl) :
    DEp F (.Call (.Attribute o "join" apos) [e] [] pos) S (oa.bind fun x => ob.bind fun y => t_join x y) :=
  p_tm1 (r := fun x xs H Q => ∃ a p, ∃ ys : List Str, x = .str a ∧ xs = [.ref p] ∧ (SqL F.C.K H p (ys.map V.str) ∨ SqT F.C.K H p (ys.map V.str)) ∧ (ys.map (·.length)).sum + ys.length * a.length ≤ 16777216 ∧ Q (.str (Txt.join a ys)) H)
    PySem.F.slot_str_join PySem.F.type_str_join (fun i => by have := mt_join (X := F.X i); rw [F.hK i] at this; exact this) (fun x y z h => by
    unfold t_join at h
    split at h
    · rename_i a ds
      obtain ⟨ys, h1, h⟩ := op2_eq h
      split at h
      · rename_i c
        cases h
        have e := strs?_eq h1
        subst e
        have c := of_decide_eq_true c
        exact ⟨⟨a, rfl⟩, fun G H u v s hu hv Q q => by
          cases hu
          cases hv with
          | lst h1 h2 =>
            have := denL_strs_eq h2
            subst this
            exact ⟨a, _, ys, rfl, rfl, .inl (s.seq h1), by omega, q _ _ _ (.refl s) (.str _)⟩⟩
      · cases h
    · rename_i a ds
      obtain ⟨ys, h1, h⟩ := op2_eq h
      split at h
      · rename_i c
        cases h
        have e := strs?_eq h1
        subst e
        have c := of_decide_eq_true c
        exact ⟨⟨a, rfl⟩, fun G H u v s hu hv Q q => by
          cases hu
          cases hv with
          | tup h1 h2 =>
            have := denL_strs_eq h2
            subst this
            exact ⟨a, _, ys, rfl, rfl, .inr (same_t s h1), by omega, q _ _ _ (.refl s) (.str _)⟩⟩
      · cases h
    · cases h) ho he hs hbase hline
def fmtO : D → O D
  | .int i => if i.natAbs.log2 < 1920 then .ok (.str (toString i)) else .bad
  | .str t => if t.length ≤ 1000000 then .ok (.str t) else .bad
  | _ => .bad
theorem p_fmt (he : DEp F e S oa) : DEp F (.FormattedValue e (-1) none pos) S (oa.bind fmtO) := fun d q => by
  obtain ⟨x, h1, q⟩ := O.bind_eq q
  unfold fmtO at q
  split at q
  · split at q
    · cases q; exact de_fmtI (he _ h1) (by assumption)
    · cases q
  · split at q
    · cases q; exact de_fmtS (he _ h1) (sl6 (by assumption))
    · cases q
  · cases q
def jO : List (O D) → Str → O D
  | [], acc => .ok (.str acc)
  | o :: os, acc => o.bind fun d => match d with
    | .str t => if (acc ++ t).length ≤ 1000000 then jO os (acc ++ t) else .bad
    | _ => .bad
def DJp (F : Fam) (es : List Expr) (S : ST) (os : List (O D)) : Prop := ∀ acc d, jO os acc = .ok d → ∃ out, d = .str out ∧ DJ F es acc S S out
theorem j_nil : DJp F [] S [] := fun acc d q => by cases q; exact ⟨acc, rfl, dj_nil⟩
theorem j_cons {es : List Expr} {os : List (O D)} (he : DEp F e S oa) (h : DJp F es S os) : DJp F (e :: es) S (oa :: os) := fun acc d q => by
  obtain ⟨x, h1, q⟩ := O.bind_eq q
  cases x with
  | str t =>
    have q : (if (acc ++ t).length ≤ 1000000 then jO os (acc ++ t) else .bad) = .ok d := q
    split at q
    · obtain ⟨out, e1, e2⟩ := h _ _ q
      exact ⟨out, e1, dj_cons (he _ h1) (sl6 (by assumption)) e2⟩
    · cases q
  | _ => cases q
theorem p_js {v1 v2 : Expr} {es : List Expr} {os : List (O D)} (h : DJp F (v1 :: v2 :: es) S os) : DEp F (.JoinedStr (v1 :: v2 :: es) pos) S (jO os Str.empty) := fun d q => by
  obtain ⟨out, e1, e2⟩ := h _ _ q
  subst e1
  exact de_join e2
end
structure SMet (K : PySem.W.Frag) (C : Addr) (m : Str) (f : Addr) : Prop where
  rd : ClX.CRead K C (.type "type")
  at_ : ∃ p rest, PySem.W.findCls K (.ref C) (.type "type") m = some (.get (.builtin "staticmethod.__get__") (.ref p) .none (.ref C)) ∧ PySem.W.recIn K p "staticmethod" = some (.ref f :: rest)
  kp : PySem.W.keepIn K (.ref f) = true
def tSMeth (C : Addr) (sp : Sp) (E : XK) (ta : TE) (t : TA) : TE := fun σ H Q => ta σ H fun x H1 => x = .ref C ∧ t σ H1 fun vs H2 => sp vs H2 Q E
theorem pe_smeth {X : Cx} {CX : CXT} {k : Nat} {C f : Addr} {fd : FuncData} {ps : List Str} {sp : Sp} {E : XK} {o e : Expr} {es : List Expr} {m : Str} {pos apos : Pos} {ta : TE} {t : TA} {pl : Sem Bool}
    (he : PE X o ta) (c : SMet X.K C m f) (F : FnOk X.prog X.w X.K X.mg X.base CX k f fd ps sp) (hr : Room k X.A) (hb : Binds X.K fd ps []) (hx : Passes CX X E) (ha : PA X (e :: es) t)
    (hst : starEach (e :: es) X.env = (false, eval e X.env) :: starEach es X.env) (hpl : (backTo pos (starEach es X.env)).any (·.1) = false)
    (ht : eval (.Call (.Attribute o m apos) (e :: es) [] pos) X.env = (do
      let ov ← eval o X.env
      standAt apos.atName
      let (f, first) ← holding [ov] (getMethod ov m pl)
      callWith pos f first (backTo pos (starEach (e :: es) X.env)) (backToKw pos (keywordEach [] X.env)))) :
    PE X (.Call (.Attribute o m apos) (e :: es) [] pos) (tSMeth C sp E ta t) := by
  refine ⟨fun pins s σ H Q I h => ?_⟩
  refine PySem.W.methodCall_KW (pl := pl) (thn (he.run pins s σ H _ I h) fun u s1 ⟨x, H1, I1, rx, ex, q⟩ => ?_) ht
  subst ex
  obtain rfl : u = Value.ref C := rx
  obtain ⟨p, rest, h1, h2⟩ := c.at_
  refine PySem.W.method_cls I1.kIn c.rd.ga (PySem.W.cls_bind I1.kIn c.rd.rd h1 (wpAny_call (PySem.W.sm_get (s := { s1 with toks := s1.toks + 1 }) I1.kIn h2 (PySem.W.handed_on rfl ?_))))
  have I2 := I1.tok (s1.toks + 1)
  refine PySem.W.callWith_K (h₀ := X.base) I2.ok.mod.kin c.kp (thn (ha.run pos pins _ σ H1 _ I2 q) fun us s3 ⟨vs, H2, I3, r, q⟩ => ⟨I3.kIn, ?_⟩) hst hpl
  have hq : sp (vs ++ []) H2 Q E := by rw [List.append_nil]; exact q
  exact run_fn F hr hb .nil hx I3 r hq
def Sta (P : Program) (w : World) (C : Kc) (mg : Str → Option Value) (base : Heap) (k c : Nat) (m : Str) (sp : Sp) : Prop := ∃ f fd ps, FnOk P w C.K mg base CX0 k f fd ps sp ∧ mg (clsName c) = some (.ref (C.cl c)) ∧ SMet C.K (C.cl c) m f ∧ Binds C.K fd ps []
theorem p_static {F : Fam} [Calm F] {S : ST} {e : Expr} {es : List Expr} {pos apos p : Pos} {os : O (List D)} {k c : Nat} {m nm : Str} {φ : List D → O D} {pl : F.I → Sem Bool} (cl : Sta F.P F.w F.C F.mg F.base k c m (spF F.C φ)) (ha : DAp F (e :: es) S os) (hn : nm = clsName c := by rfl) (hk : k ≤ F.k := by exact Nat.le_of_ble_eq_true rfl)
    (hg : ∀ i, Gl (F.X i) nm := by intro _; rfl) (hdb : (nm == ("__debug__" : Str)) = false := by decide)
    (he : ∀ i, starEach (e :: es) (F.X i).env = (false, eval e (F.X i).env) :: starEach es (F.X i).env := by intro _; rfl) (hpl : ∀ i, (backTo pos (starEach es (F.X i).env)).any (·.1) = false := by intro _; rfl)
    (ht : ∀ i, eval (.Call (.Attribute (.Name nm p) m apos) (e :: es) [] pos) (F.X i).env = (do
      let ov ← eval (.Name nm p) (F.X i).env
      standAt apos.atName
      let (f, first) ← holding [ov] (getMethod ov m (pl i))
      callWith pos f first (backTo pos (starEach (e :: es) (F.X i).env)) (backToKw pos (keywordEach [] (F.X i).env))) := by intro _; rfl) :
    DEp F (.Call (.Attribute (.Name nm p) m apos) (e :: es) [] pos) S (os.bind φ) := fun d q => by
  obtain ⟨ds, h1, q⟩ := O.bind_eq q
  obtain ⟨f, fd, ps, G, hm, sm, hb⟩ := cl
  subst hn
  have dn : DE F (.Name (clsName c) p) S S (.cst (.ref (F.C.cl c))) := de_glob hm (v := .ref (F.C.cl c)) rfl (fun _ => .cst _) hg hdb
  refine de_of (te := tSMeth (F.C.cl c) (spF F.C φ) E0 (anyE F (.Name (clsName c) p)) (anyA F (e :: es))) (fun i => pe_smeth (pl := pl i) (anyE_ok i) (by rw [F.hK i]; exact sm) (fn_at G) ((F.room i).mono hk) (by rw [F.hK i]; exact hb) pass0 (anyA_ok i) (he i) (hpl i) (ht i)) fun σ G H cx Q q' => ?_
  refine dn σ G H cx _ fun v G1 H1 m1 dv => ?_
  cases dv
  refine ⟨rfl, (ha ds h1).1 σ G1 H1 m1.cx _ fun vs G2 H2 m2 dl => ?_⟩
  exact ⟨G2, ds, d, q, m2.cx.sub, dl, fun v G3 H3 p dv => q' v G3 H3 ((m1.trans m2).pu p) dv⟩
def noxF (F : Fam) : Fam where
  I := F.I
  X := fun i => (F.X i).nox
  P := F.P
  w := F.w
  C := F.C
  mg := F.mg
  base := F.base
  N := F.N
  k := F.k
  hP := F.hP
  hw := F.hw
  hK := F.hK
  hmg := F.hmg
  hbase := F.hbase
  hN := F.hN
  nd := F.nd
  roomH := F.roomH
  cP := F.cP
  cw := F.cw
instance {F : Fam} [Calm F] : Calm (noxF F) := ⟨fun i => F.calm i, fun i => Calm.h (F := F) i⟩
theorem k_try {R : Type} {F : Fam} {body rest : List Stmt} {h₀ : ExceptHandler} {hs : List ExceptHandler} {S : ST} {m : O R} {P : R → Po} {pos : Pos} (h : DSk (noxF F) body S m (fun r => { P r with nx := fun S' => DS F rest S' (P r) })) : DSk F (.Try body (h₀ :: hs) [] [] pos :: rest) S m P := fun r q =>
  ds_cons (M := fun S' => DS F rest S' (P r)) (d1_of (te := anyS (noxF F) body) (fun i => ps_try_thru0 (anyS_ok (F := noxF F) i)) (h r q)) fun _ z => z
theorem k_nilT {R : Type} {F : Fam} {rest : List Stmt} {S : ST} {m : O R} {P : R → Po} (h : DSk F rest S m P) : DSk (noxF F) [] S m (fun r => { P r with nx := fun S' => DS F rest S' (P r) }) := fun r q => ds_nil (h r q)
end SL
namespace SL
open PySem L2 DL
variable [TabL]
section
variable {F : Fam} {S S1 S2 : ST} {a e : Expr} {es : List Expr} {kws : List Keyword} {pos apos : Pos} {m : Str} {c : Nat} {fs : List (Str × D)} {d : D} {oa : O D} {os : O (List D)} {φ : List D → O D}
end
end SL
namespace SetL
open PySem PySem.Spec PyProof.Rows L2
section
variable {P : Program} {w : World} {A : Around} {E : Value → Shared → Prop} {s : Shared}
end
end SetL
namespace SetX
open PySem PySem.Spec PyProof.Rows L2
def keyS (e : Int × Value) : Str := match e.2 with | .str k _ => k | _ => ⟨#[]⟩
def GoodS (w : World) (e : Int × Value) : Prop := ∃ k tk, e.2 = Value.str k tk ∧ e.1 = hashStr w k
def SetS (w : World) (h : Heap) (a : Addr) (S : Str → Bool) (n : Nat) : Prop :=
  ∃ o es ep t, h.get? a = some o ∧ o.ExactSet ∧ o.data = .set es ep t ∧ (∀ e ∈ es.toList, GoodS w e) ∧ (es.toList.map keyS).Nodup ∧ (∀ k, S k = true ↔ k ∈ es.toList.map keyS) ∧
    es.size < scanBound ∧ t.fits es.size = true ∧ es.size = n ∧ Ris t.place.toList ∧ (w.params.followText "set-order" = true ∨ t.led = true)
section
variable {P : Program} {w : World} {h h' : Heap} {a : Addr} {S : Str → Bool} {n : Nat}
theorem SetS.at (R : SetS w h a S n) (k : ∀ o, h.get? a = some o → h'.get? a = some o) : SetS w h' a S n := by
  obtain ⟨o, es, ep, t, ho, r⟩ := R
  exact ⟨o, es, ep, t, k o ho, r⟩
theorem SetS.lt (R : SetS w h a S n) : a < h.objs.size := by
  obtain ⟨o, es, ep, t, ho, r⟩ := R
  exact Heap.lt_size ho
theorem SetS.congr {S' : Str → Bool} (R : SetS w h a S n) (e : ∀ k, S' k = S k) : SetS w h a S' n := by
  have q : S' = S := funext e
  rw [q]; exact R
end
section
variable {P : Program} {w : World} {A : Around} {E : Value → Shared → Prop} {s : Shared} {a : Addr} {S : Str → Bool} {n : Nat}
end
section
variable {P : Program} {w : World} {A : Around} {E : Value → Shared → Prop} {s : Shared}
end
end SetX
namespace DL
open PySem L2
variable [TabL]
section
variable {F : Fam} {S S1 : ST} {e : Expr} {pos p p2 q1 cpos apos : Pos} {rest : List Stmt} {P : Po}
end
end DL
namespace SL
open PySem L2 DL
variable [TabL]
section
variable {F : Fam} {S : ST} {o e : Expr} {pos p p2 q1 cpos apos : Pos} {oa oe : O D} {os : O (List D)} {rest : List Stmt} {R : Type} {P : R → Po}
end
section
variable {F : Fam} {bb : Addr} {s : List (Option DV)} {o e : Expr} {pos apos : Pos} {ma mb : M D}
end
end SL
namespace SL
open PySem L2 DL
variable [TabL]
section
variable {F : Fam} {S : ST} {iter elt : Expr} {oi : O (List D)} {scope : Scope}
end
end SL
namespace SL
open PySem L2 DL
variable [TabL]
section
variable {F : Fam} {S S1 : ST} {e a b c : Expr} {pos p q1 : Pos} {oe ob : O D} {rest : List Stmt} {R : Type} {P : R → Po}
theorem evv_nd {F : Fam} {pos : Pos} : EvV F.C (anyE F (.Dict [] [] pos)) S S (.own (.dic [])) := fun σ G H c Q q =>
  ⟨ND.tNNew F.C.P F.C.w, fun i => by have := ND.pe_nnew (X := F.X i) (pos := pos); rw [F.hP i, F.hw i] at this; rw [F.cP, F.cw]; exact this, fun p od hp => by
    have gp : G p = none := c.sub.free hp
    have sm : Same H (upd H p (ND.NDO F.C.P F.C.w p od [])) := fun a u h => by rw [upd_ne (ne_of_none h hp)]; exact h
    exact q _ G _ (c.mv (Same.kt sm) (fun _ _ h => h) (c.sub.trans sm) fun _ _ h => h) (.own hp gp upd_same (.dN .nil))⟩
end
end SL
namespace SL
open PySem L2 DL
variable [TabL]
section
variable {F : Fam} {bb : Addr} {s : List (Option DV)} {c : Expr} {pos : Pos} {rest body : List Stmt} {R T : Type} {P : R × List D → Po}
end
end SL
namespace SL
open PySem L2 DL
variable [TabL]
section
variable {F : Fam} {S S1 : ST} {e a b c kx vx tg iter : Expr} {pos p q1 apos vpos : Pos} {oe oa ob : O D} {os oi : O (List D)} {rest : List Stmt} {R : Type} {P : R → Po} {scope : Scope} {es : List Expr} {nm : Str}
end
end SL
namespace SetX
open PySem PySem.Spec PyProof.Rows L2
section
variable {P : Program} {w : World} {A : Around} {E : Value → Shared → Prop} {s : Shared}
end
end SetX
namespace DL
open PySem L2
variable [TabL]
section
variable {F : Fam} {S S1 : ST} {e : Expr} {pos p p2 cpos : Pos}
end
end DL
namespace SL
open PySem L2 DL
variable [TabL]
section
variable {F : Fam} {S : ST} {e : Expr} {pos p p2 cpos : Pos} {oe : O D}
end
end SL
namespace SL
open PySem L2 DL
variable [TabL]
def bi_reprX : List D → O D
  | [.bl b] => .ok (.str (if b then "True" else "False"))
  | [.non] => .ok (.str "None")
  | ds => bi_repr ds
section
variable {F : Fam}
theorem ca_reprB (b : Bool) : CaD F (.builtin "repr") [.bl b] (.str (if b then "True" else "False")) :=
  ⟨fun xs H Q => xs = [.bl b] ∧ Q (.str (if b then "True" else "False")) H, fun i => by
    intro pins s σ H xs us Q I r h
    obtain ⟨rfl, q⟩ := h
    obtain ⟨u, rfl, rx⟩ := vals1 r
    cases rx
    exact PySem.P.repr_of_bool ⟨.str _, H, I.tok _, ⟨_, rfl⟩, q⟩, fun G H us s h Q q => by
    cases h with
    | cons h l => cases h; cases l; exact ⟨rfl, q _ _ _ (.refl s) (.str _)⟩⟩
theorem ca_reprN : CaD F (.builtin "repr") [.non] (.str "None") :=
  ⟨fun xs H Q => xs = [.non] ∧ Q (.str "None") H, fun i => by
    intro pins s σ H xs us Q I r h
    obtain ⟨rfl, q⟩ := h
    obtain ⟨u, rfl, rx⟩ := vals1 r
    cases rx
    exact PySem.P.repr_of_none ⟨.str _, H, I.tok _, ⟨_, rfl⟩, q⟩, fun G H us s h Q q => by
    cases h with
    | cons h l => cases h; cases l; exact ⟨rfl, q _ _ _ (.refl s) (.str _)⟩⟩
theorem s_reprX (hG : ∀ i, (F.X i).A.guards = some []) : CaS F (.builtin "repr") bi_reprX := fun ds z h => by
  unfold bi_reprX at h
  split at h
  · cases h; exact ca_reprB _
  · cases h; exact ca_reprN
  · exact s_repr hG _ _ h
end
end SL
namespace SLR
open PySem PyProof.Rows
end SLR
namespace L2
open PySem PySem.Spec PyProof.Rows
section
variable {X : Cx}
end
end L2
namespace SL
open PySem L2 DL
variable [TabL]
section
variable {F : Fam} {S : ST} {e : Expr} {pos p1 p2 p3 : Pos} {oa : O D} {k : Nat}
end
end SL
namespace SL
open PySem L2 DL
variable [TabL]
section
variable {F : Fam} {S S1 : ST} {e a b iter tg : Expr} {pos p q1 : Pos} {oe oa ob : O D}
end
end SL
namespace SL
open PySem L2 DL
variable [TabL]
section
variable {F : Fam} {S : ST} {e : Expr} {pos : Pos} {oe : O D} {rest : List Stmt} {R : Type} {P : R → Po}
end
section
variable {F : Fam} {bb : Addr} {e : Expr} {pos p p2 cpos : Pos} {s : List (Option DV)} {me : M D}
end
end SL
namespace SL
open PySem L2 DL
variable [TabL]
section
variable {F : Fam} {S S1 : ST} {a : Expr} {pos p p2 q1 : Pos} {oa : O D}
end
end SL
namespace L2
open PySem PySem.Spec PyProof.Rows
variable {X : Cx}
end L2
namespace SL
open PySem L2 DL
variable [TabL]
variable {F : Fam}
end SL
namespace SL
open PySem L2 DL
variable [TabL]
variable {F : Fam} {S S1 : ST} {e a b c tg iter elt : Expr} {d : D} {pos p p2 q1 cpos apos : Pos} {oa ob oe : O D} {ot : O Bool} {es : List Expr} {os oi : O (List D)} {rest t u body sts : List Stmt} {R T B : Type} {P : R → Po} {scope : Scope}
end SL
namespace DL
open PySem L2
variable [TabL]
variable {F : Fam} {S S1 S2 S3 : ST} {elt tg iter : Expr} {ds : List D} {P : Po} {rest : List Stmt} {pos p : Pos}
end DL
namespace SL
open PySem L2 DL
variable [TabL]
end SL
namespace L2
open PySem PySem.Spec PyProof.Rows
section
variable {prog : Program} {w : World} {A : Around} {E : Value → Shared → Prop} {s : Shared} {l : Addr} {its : List Value} {xs : List Str} {Q : Value → Shared → Prop}
end
end L2
namespace SL
open PySem L2 DL
variable [TabL]
variable {F : Fam}
def bi_reprY : List D → O D
  | [.str x] => if (reprText x).length ≤ 1000000 then .ok (.str (reprText x)) else .bad
  | ds => bi_reprX ds
theorem ca_reprT (x : Str) (hz : (reprText x).length ≤ sizeLine) : CaD F (.builtin "repr") [.str x] (.str (reprText x)) :=
  ⟨fun xs H Q => xs = [.str x] ∧ Q (.str (reprText x)) H, fun i => by
    intro pins s σ H xs us Q I r h
    obtain ⟨rfl, q⟩ := h
    obtain ⟨u, rfl, rx⟩ := vals1 r
    obtain ⟨t, rfl⟩ := rx
    exact PySem.P.repr_of_str ⟨.str _, H, I.tok _, ⟨_, rfl⟩, q⟩ hz, fun G H us s h Q q => by
    cases h with
    | cons h l => cases h; cases l; exact ⟨rfl, q _ _ _ (.refl s) (.str _)⟩⟩
theorem s_reprY (hG : ∀ i, (F.X i).A.guards = some []) : CaS F (.builtin "repr") bi_reprY := fun ds z h => by
  unfold bi_reprY at h
  split at h
  · split at h
    · cases h; exact ca_reprT _ (sl6 (by assumption))
    · cases h
  · exact s_reprX hG _ _ h
end SL
namespace L2
open PySem PySem.Spec PyProof.Rows ND
end L2
namespace DL
open PySem L2
variable [TabL]
end DL
namespace SL
open PySem L2 DL
variable [TabL]
variable {F : Fam}
end SL
namespace SL
open PySem L2 DL
variable [TabL]
variable {F : Fam} {bb : Addr} {s : List (Option DV)} {tg iter elt : Expr} {scope : Scope} {mi : M (List D)} {B : Type}
end SL
namespace DL
open PySem L2
variable [TabL]
variable {F : Fam} {S S1 S2 : ST} {o e : Expr}
end DL
namespace SL
open PySem L2 DL
variable [TabL]
variable {F : Fam} {S : ST} {o e : Expr} {oa ob : O D} {apos pos : Pos}
end SL
namespace SL
open PySem L2 DL
variable [TabL]
section
variable {F : Fam} {S S1 : ST} {e a b iter tg : Expr} {pos p q1 : Pos} {oe oa ob : O D}
end
end SL
namespace KD
open PySem PySem.Spec PyProof.Rows L2
section
variable {X : Cx}
end
end KD
namespace DL
open PySem L2 PyProof.Rows
variable [TabL]
section
variable {F : Fam} {S S1 S2 S3 : ST} {kx vx tg iter elt e : Expr} {pos p apos : Pos} {ds : List D} {P : Po} {rest : List Stmt} {ifs : List Expr} {scope : Scope} {own : List (Str × Nat)} {d : D}
def kdrop (kds : List (Key × D)) (k : Key) : List (Key × D) := kds.filter fun kv => decide (kv.1 ≠ k)
theorem DenK.drop {C : Kc} {G : Hp} (k : Key) : ∀ {xs : List (Key × V)} {kds : List (Key × D)}, DenK C G xs kds → DenK C G (dropK xs k) (kdrop kds k)
  | _, _, .nil => .nil
  | _, _, .cons (k := j) (v := v) (d := d) (vs := vs) (ds := ds) h l => by
    have ih := DenK.drop k l
    unfold dropK kdrop at ih ⊢
    rw [List.filter_cons, List.filter_cons]
    by_cases z : j = k
    · simp only [z, ne_eq, not_true_eq_false, decide_false]; exact ih
    · simp only [ne_eq, z, not_false_eq_true, decide_true, if_true]; exact .cons h ih
end
end DL
namespace SL
open PySem L2 DL
variable [TabL]
section
variable {F : Fam} {S S1 : ST} {e a b c kx vx elt iter tg : Expr} {pos p apos : Pos} {oe : O D} {oi os : O (List D)} {rest : List Stmt} {R : Type} {P : R → Po} {scope : Scope}
end
end SL
namespace KN
open PySem PySem.Spec PyProof.Rows L2
section
variable {X : Cx}
end
end KN
namespace DL
open PySem L2 PyProof.Rows
variable [TabL]
section
variable {F : Fam} {S S1 S2 : ST} {e : Expr} {p pos q1 cpos apos : Pos} {d : D} {P : Po} {rest : List Stmt}
theorem pe_callGz {X : Cx} {x : Str} {p pos : Pos} {k : Nat} {f : Addr} {fd : FuncData} {ps : List Str} {sp : Sp} (hA : X.A.guards = some []) (Fn : FnG X.prog X.w X.K X.mg X.base k f fd ps sp) (hr : Room k X.A) (hg : Gl X x) (hm : X.mg x = some (.ref f)) (hk : PySem.W.keepIn X.K (.ref f) = true) (hb : Binds X.K fd ps [])
    (hdb : (x == ("__debug__" : Str)) = false) : PE X (.Call (.Name x p) [] [] pos) (tCall sp [] E0 tNil) :=
  ⟨fun pins s σ H Q I h => wpAny_Call_Name_kw (ld_glob I hg hm (PySem.W.callWith_K0 I.kIn hk (run_fnG (us := []) hA Fn hr hb I .nil h)) hdb)⟩
theorem de_callGz [Calm F] (hG : ∀ i, (F.X i).A.guards = some []) {k : Nat} {nm : Str} {R : List D → D → Prop} (c : CalG F.P F.w F.C F.mg F.base k nm (spP F.C R)) (hR : R [] d) (hk : k ≤ F.k) (hg : ∀ i, Gl (F.X i) nm) (hdb : (nm == ("__debug__" : Str)) = false) : DE F (.Call (.Name nm p) [] [] pos) S S d := by
  obtain ⟨f, fd, ps, Fn, hm, hkp, hb⟩ := c
  refine de_of (te := tCall (spP F.C R) [] E0 tNil) (fun i => pe_callGz (hG i) (fn_atG Fn) ((F.room i).mono hk) (hg i) (by rw [F.hmg i]; exact hm) (by rw [F.hK i]; exact hkp) (by rw [F.hK i]; exact hb) hdb) ?_
  intro σ G H cx Q q
  exact ⟨G, [], d, hR, cx.sub, .nil, fun v G2 H2 p dv => q v G2 H2 ((Mv.refl cx).pu p) dv⟩
inductive DispC : List (Option Expr) → List Expr → List (Key × D) → Prop where
  | nil : DispC [] [] []
  | cons {k : Str} {i : Int} {n1 n2 : Nat} {p1 p2 : Pos} {ks : List (Option Expr)} {vs : List Expr} {kds : List (Key × D)} : DispC ks vs kds → DispC (some (.Constant (.str k) n1 p1) :: ks) (.Constant (.int i) n2 p2 :: vs) ((.inr k, .int i) :: kds)
def trsC (kds : List (Key × D)) : List (TE × TE) := kds.map fun kv => (tC (kV kv.1), tC (match kv.2 with | .int i => .int i | _ => .non))
def kvsC (kds : List (Key × D)) : List (Key × V) := kds.map fun kv => (kv.1, match kv.2 with | .int i => .int i | _ => .non)
theorem DispC.all : ∀ {ks : List (Option Expr)} {vs : List Expr} {kds : List (Key × D)}, DispC ks vs kds → ks.all (·.isSome) = true ∧ ks.length = vs.length ∧ ks.length = kds.length
  | _, _, _, .nil => ⟨rfl, rfl, rfl⟩
  | _, _, _, .cons h => by
    obtain ⟨h1, h2, h3⟩ := h.all
    exact ⟨by rw [List.all_cons, h1]; rfl, by rw [List.length_cons, List.length_cons, h2], by rw [List.length_cons, List.length_cons, h3]⟩
theorem DispC.run {σ : L2.St} {H : Hp} : ∀ {ks : List (Option Expr)} {vs : List Expr} {kds : List (Key × D)} {Q : List (V × V) → Hp → Prop}, DispC ks vs kds → Q ((kvsC kds).map fun kv => (kV kv.1, kv.2)) H → tPairs (trsC kds) σ H Q
  | _, _, _, _, .nil, q => q
  | _, _, _, Q, @DispC.cons k i _ _ _ _ ks vs kds h, q => DispC.run (kds := kds) (Q := fun ps H3 => Q ((kV (.inr k), .int i) :: ps) H3) h q
theorem DispC.den {C : Kc} {G : Hp} : ∀ {ks : List (Option Expr)} {vs : List Expr} {kds : List (Key × D)}, DispC ks vs kds → DenK C G (kvsC kds) kds
  | _, _, _, .nil => .nil
  | _, _, _, .cons h => .cons (.int _) h.den
end
end DL
namespace SL
open PySem L2 DL
variable [TabL]
def l0 {α : Type} (f : O α) : List D → O α
  | [] => f
  | _ => .bad
theorem l0_len {α : Type} {f : O α} {ds : List D} {d : α} (h : l0 f ds = .ok d) : ds.length = 0 := by unfold l0 at h; split at h <;> first | rfl | cases h
theorem ar0 {F : Fam} {sts : List Stmt} {R : Type} {P : R → Po} {S : List D → ST} {f : O R} (h : DSk F sts (S []) f P) : ∀ ds, DSk F sts (S ds) (l0 f ds) P := fun ds r q => by
  unfold l0 at q; split at q
  · exact h r q
  · cases q
section
variable {F : Fam} {S S1 : ST} {e : Expr} {pos p q1 cpos apos : Pos} {oe : O D} {rest : List Stmt} {R : Type} {P : R → Po}
theorem p_callGz [Calm F] (hG : ∀ i, (F.X i).A.guards = some []) {k : Nat} {nm : Str} {φ : List D → O D} (cl : CalG F.P F.w F.C F.mg F.base k nm (spF F.C φ)) (hk : k ≤ F.k := by exact Nat.le_of_ble_eq_true rfl) (hg : ∀ i, Gl (F.X i) nm := by intro _; rfl) (hdb : (nm == ("__debug__" : Str)) = false := by decide) :
    DEp F (.Call (.Name nm p) [] [] pos) S ((O.ok []).bind φ) := fun d q => de_callGz hG cl q hk hg hdb
end
end SL
namespace L2
open PySem PySem.Spec PyProof.Rows
variable {X : Cx}
end L2
namespace DL
open PySem L2
variable [TabL]
variable {F : Fam} {S S1 S2 : ST} {o e : Expr}
end DL
namespace SL
open PySem L2 DL
section
variable [TabL]
variable {F : Fam} {S : ST} {o e : Expr} {oa ob : O D} {apos pos : Pos}
end
def M.op {α β : Type} (o : Option α) (f : α → M β) : M β := fun g => op2 o fun a => f a g
section
variable [TabL]
variable {F : Fam} {rest : List Stmt} {R : Type}
end
end SL
namespace EX
open PySem L2 DL
variable [TabL]
theorem KF_in {hp : Heap} : (KF hp.get?).In hp := He.frG_in
theorem staB_ok {K : PySem.W.Frag} {x m : Str} (h : staB K x m = true) : ∃ p rest, PySem.W.findCls K (.ref (He.ga K x)) (.type "type") m = some (.get (.builtin "staticmethod.__get__") (.ref p) .none (.ref (He.ga K x))) ∧ PySem.W.recIn K p "staticmethod" = some (.ref (stA K x m) :: rest) := by
  unfold staB at h
  unfold stA
  split at h
  · rename_i b p c e
    obtain ⟨h1, h2⟩ := He.ba h
    obtain ⟨h3, h4⟩ := He.ba h2
    split at h4
    · rename_i f r e2
      have e3 := of_decide_eq_true h1
      have e4 := of_decide_eq_true h3
      subst e3 e4
      refine ⟨p, r, e, ?_⟩
      rw [e]
      simp only [e2]
    · cases h4
  · cases h
theorem funD_at {K : PySem.W.Frag} {a : Addr} {name qual : Str} {params : Arguments} {body : List Stmt} {scope : Scope} {dvs : List V} (e : fnAt K a = some (name, qual, params, .stmts body, scope, mainGlobals, [], builtinsNs)) (ok : okAt K a qual dvs = true) : ∃ fd, FunD K name qual params body scope dvs [] a fd := by
  obtain ⟨kp, ok2⟩ := He.ba ok
  unfold fnAt at e
  cases lk : K.lookup a with
  | none => rw [lk] at ok2; cases ok2
  | some ob =>
    obtain ⟨oc, od, dt, sl⟩ := ob
    rw [lk] at ok2 e
    cases dt with
    | func u =>
      obtain ⟨u1, u2, u3, u4, u5, u6, u7, u8, u9, u10, u11, u12, u13, u14, u15⟩ := u
      have z : (some (u1, u2, u3, u4, u5, u6, u7, u15) : He.FnW) = some (name, qual, params, .stmts body, scope, mainGlobals, [], builtinsNs) := e
      simp only [Option.some.injEq, Prod.mk.injEq] at z
      obtain ⟨z1, z2, z3, z4, z5, z6, z7, z8⟩ := z
      subst z1 z2 z3 z4 z5 z6 z7 z8
      obtain ⟨k1, k2⟩ := He.ba (show (PySem.W.codeIn K u13 u2 && He.dflB K u8 dvs) = true from ok2)
      exact ⟨_, ⟨oc, od, u8, u9, u10, u11, u12, u13, u14, sl, rfl, lk, k1, He.dflB_ok k2, .inl rfl⟩, kp⟩
    | _ => cases ok2
theorem fun_ofD {K : PySem.W.Frag} {x qual : Str} {st : Stmt} {f : Addr} {fd : FuncData} (F : FunD K x qual (defArgs st) (defBody st) (defScope st) [] [] f fd) : Fun K x qual st f fd := by
  obtain ⟨oc, od, dV, kV, doc, pm, an, cdv, ct, osl, e, lk, hcd, hD, _⟩ := F.ex
  rcases hD with ⟨_, rfl⟩ | ⟨z, _⟩
  · exact ⟨⟨oc, od, kV, doc, pm, an, cdv, ct, osl, e, lk, hcd⟩, F.kp⟩
  · exact absurd rfl z
def hookY (rs : List DR) (exs : PySem.W.Frag → List Bool) : PySem.W.Hook where
  α := Bool × List He.FnW
  obs := fun s => obsY rs exs (KF s.heap.get?)
  val := fun _ => valY rs
  says := fun _ hp => ∃ K : PySem.W.Frag, K.In hp ∧ obsY rs exs K = valY rs
  of := fun _ _ e => ⟨_, KF_in, e⟩
  keeps := fun _ _ _ ⟨K, hK, e⟩ k => ⟨K, PySem.W.Frag.In.keeps hK k, e⟩
def obY (rs : List DR) (exs : PySem.W.Frag → List Bool) (s : PySem.W.SharedT) : Bool × List He.FnW := obsY rs exs (KF (HandSHeadRun.getT s))
theorem obY_eq (rs : List DR) (exs : PySem.W.Frag → List Bool) (s : PySem.W.SharedT) : obY rs exs s = (hookY rs exs).obs s.abs := by
  have e : HandSHeadRun.getT s = s.abs.heap.get? := funext (HandSHeadRun.getT_eq s)
  unfold obY
  rw [e]
  rfl
section
variable {rs : List DR} {exs : PySem.W.Frag → List Bool} {K : PySem.W.Frag}
theorem fact (c : obsY rs exs K = valY rs) (i : Nat) {b : Bool} (h : (exs K)[i]? = some b) : b = true := by
  have c1 := (He.ba (show ((exs K).all id && rs.all fun d => okAt K (d.adr K) d.qual d.dfl) = true from congrArg Prod.fst c)).1
  exact List.all_eq_true.mp c1 b (List.mem_of_getElem? h)
theorem defAt (c : obsY rs exs K = valY rs) (i : Nat) {d : DR} (h : rs[i]? = some d) : ∃ fd, FunD K d.name d.qual d.params d.body d.scope d.dfl [] (d.adr K) fd := by
  have c2 := (He.ba (show ((exs K).all id && rs.all fun d => okAt K (d.adr K) d.qual d.dfl) = true from congrArg Prod.fst c)).2
  have e : rs.map (fun d => fnAt K (d.adr K)) = rs.map DR.val := congrArg Prod.snd c
  have e2 : (rs.map fun d => fnAt K (d.adr K))[i]? = (rs.map DR.val)[i]? := by rw [e]
  rw [List.getElem?_map, List.getElem?_map, h] at e2
  exact funD_at (Option.some.inj e2) (List.all_eq_true.mp c2 d (List.mem_of_getElem? h))
end
section
variable {K : PySem.W.Frag}
theorem eqB_ok {o : Option Bool} {b : Bool} (h : eqB o b = true) : o = some b := by
  cases o with
  | none => cases h
  | some c => rw [eq_of_beq (show (c == b) = true from h)]
theorem eqO_ok {a b : Option (Option Value)} (h : He.eqO a b = true) : a = b := He.eqO_ok h
theorem ins_of {x : Str} (c : (He.Fa.cls x).ok K = true) (h1 : insB K (He.ga K x) = true) (h2 : getB K = true) : InsF K (He.ga K x) :=
  ⟨He.cls_ok c, eqO_ok (He.ba h1).1, eqO_ok (He.ba h2).1, eqB_ok (He.ba h2).2, eqB_ok (He.ba h1).2⟩
theorem read_of {c : Addr} (h : readB K c = true) : ClX.CRead K c (.type "type") := ⟨(He.ba h).1, eqO_ok (He.ba h).2⟩
theorem mk_of {x : Str} (h : (He.Fa.mkr x).ok K = true) : Mk K (He.ga K x) (He.ma K (He.ga K x) "__init__") := He.mkr_ok h
theorem meth_of {x m : Str} (h : (He.Fa.meth x m).ok K = true) : Meth K (He.ga K x) m (He.ma K (He.ga K x) m) := He.meth_ok h
end
theorem walkGE {l : PySem.W.OpenLaw} {q : Program} {loose : List Str} {XP : (Str → Option Value) → Heap → Prop} {YP : World → Heap → Prop} {d : DefRec} {k : Nat} (x : Str) (hk : k ≤ 100) (t0 : TabL.T = [] := by rfl) (hn : l.most = some 63) (hdf : d.params.defaults = [])
    (F : ∀ (w : World) (mg : Str → Option Value) (fa : Addr) (hp : Heap), YP w hp → hp.Ns mainGlobals mg → mg d.name = some (.ref fa) →
      ∃ (K : PySem.W.Frag) (fd : FuncData), K.In hp ∧ (∀ (s : Shared) (u : Value), BindsTo s fd ⟨[u], []⟩ [(x, u)]) ∧ ∀ base : Heap, K.In base → base.Ns mainGlobals mg → FnG l.prog w K mg base k fa fd [x] (spLaw K)) :
    PySem.W.WalkO q loose XP YP l.row.toRowW d [] (fun f vs => PySem.call f vs) := by
  refine Att.attach_call hn hdf fun w s₀ s₁ mg mb fa o pm cd doc a vs ns Z Y ho hd hcd hmg hobj hints hlen hg => ?_
  obtain ⟨K, fd, h0, h1, h2⟩ := F w mg fa _ Y Z.T.g hmg
  exact law_callG t0 h0 Z.T.g Z.T.b Z.T.builtins Z.T.nolimit hg hobj hints hlen (Room.mono (k := 100) ⟨rfl, by decide, by decide⟩ hk) h2 h1
end EX
namespace ZL
open PySem PySem.W PySem.Calls PyProof.Rows PyProof.V PySem.Spec
structure ZG (xs ys : Array Value) (lo : Addr) (h : Heap) (as : List Addr) : Prop where
  rise : as.Pairwise (· < ·)
  above : ∀ a ∈ as, lo < a
  pairs : ∀ (j : Nat) (a : Addr), as[j]? = some a → ∃ x y, xs[j]? = some x ∧ ys[j]? = some y ∧ h.get? a = some { cls := .type "tuple", data := .seq #[x, y] }
structure ZSt (z TI TO i1 i2 l1 l2 S : Addr) (xs ys : Array Value) (h : Heap) (i : Nat) : Prop where
  ti : IsPair h TI (.ref i1) (.ref i2)
  h1 : h.IsListIter i1 l1 i
  h2 : h.IsListIter i2 l2 i
  l1 : h.IsList l1 xs
  l2 : h.IsList l2 ys
  hz : (IsZip h z TI TO .none ∧ ∃ a b, IsPair h TO a b) ∨ ∃ T f oT, IsZipHeld h z TI TO T f ∧ h.get? T = some oT ∧ T ≠ z ∧ T ≠ i1 ∧ T ≠ i2 ∧ T ≠ S
structure ZLt (z TI TO i1 i2 l1 l2 S : Addr) : Prop where
  z : z < S
  TI : TI < S
  TO : TO < S
  i1 : i1 < S
  i2 : i2 < S
  l1 : l1 < S
  l2 : l2 < S
section
variable {prog : Program} {w : World} {A : Around} {E : Value → Shared → Prop} {s : Shared} {z TI TO i1 i2 l1 l2 S : Addr} {xs ys : Array Value}
theorem ZSt.upd {h h' : Heap} {i : Nat} (lt : ZLt z TI TO i1 i2 l1 l2 S) (st : ZSt z TI TO i1 i2 l1 l2 S xs ys h i) (up : ∀ b o, b ≠ S → h.get? b = some o → h'.get? b = some o) : ZSt z TI TO i1 i2 l1 l2 S xs ys h' i where
  ti := up _ _ (Nat.ne_of_lt lt.TI) st.ti
  h1 := st.h1.at fun o e => up _ o (Nat.ne_of_lt lt.i1) e
  h2 := st.h2.at fun o e => up _ o (Nat.ne_of_lt lt.i2) e
  l1 := st.l1.at fun o e => up _ o (Nat.ne_of_lt lt.l1) e
  l2 := st.l2.at fun o e => up _ o (Nat.ne_of_lt lt.l2) e
  hz := by
    rcases st.hz with ⟨hz, a, b, hTO⟩ | ⟨T, f, oT, hz, hT, r1, r2, r3, r4⟩
    · exact .inl ⟨up _ _ (Nat.ne_of_lt lt.z) hz, a, b, up _ _ (Nat.ne_of_lt lt.TO) hTO⟩
    · exact .inr ⟨T, f, oT, up _ _ (Nat.ne_of_lt lt.z) hz, up _ _ r4 hT, r1, r2, r3, r4⟩
end
section
variable {prog : Program} {w : World} {A : Around} {s : Shared} {R : Result → Shared → Prop} {z TI TO i1 i2 l1 l2 S : Addr} {xs ys : Array Value}
end
section
variable {prog : Program} {w : World} {A : Around} {E : Value → Shared → Prop} {s : Shared} {z TI TO i1 i2 l1 l2 S : Addr} {xs ys : Array Value}
end
end ZL
namespace L2
open PySem PySem.Spec PyProof.Rows
def updL (H : Hp) : List (Addr × HO) → Hp
  | [] => H
  | (a, o) :: l => updL (upd H a o) l
theorem updL_not : ∀ {l : List (Addr × HO)} {H : Hp} {b : Addr}, b ∉ l.map (·.1) → updL H l b = H b
  | [], _, _, _ => rfl
  | (a, o) :: l, H, b, h => by
    rw [List.map_cons, List.mem_cons, not_or] at h
    show updL (upd H a o) l b = H b
    rw [updL_not h.2, upd_ne h.1]
theorem updL_in : ∀ {l : List (Addr × HO)} {H : Hp} {b : Addr} {o : HO}, (l.map (·.1)).Nodup → (b, o) ∈ l → updL H l b = some o
  | [], _, _, _, _, h => nomatch h
  | (a, u) :: l, H, b, o, nd, h => by
    rw [List.map_cons, List.nodup_cons] at nd
    show updL (upd H a u) l b = some o
    rcases List.mem_cons.mp h with e | h
    · cases e
      rw [updL_not nd.1, upd_same]
    · exact updL_in nd.2 h
theorem updL_is {l : List (Addr × HO)} {H : Hp} {b : Addr} {o : HO} (nd : (l.map (·.1)).Nodup) (h : updL H l b = some o) : (b, o) ∈ l ∨ (b ∉ l.map (·.1) ∧ H b = some o) := by
  by_cases z : b ∈ l.map (·.1)
  · obtain ⟨⟨b', u⟩, hm, e⟩ := List.mem_map.mp z
    cases e
    rw [updL_in nd hm] at h
    cases h
    exact .inl hm
  · rw [updL_not z] at h
    exact .inr ⟨z, h⟩
theorem Inv.laidL {X : Cx} {pins : List (Addr × Obj)} {σ : St} {H : Hp} {s : Shared} {h' : Heap} {t' : Nat} (I : Inv X pins σ H s) {l : List (Addr × HO)} (nd : (l.map (·.1)).Nodup) (k : ∀ b u, s.heap.get? b = some u → h'.get? b = some u) (hp : ∀ p ∈ l, s.heap.objs.size ≤ p.1)
    (new : ∀ a o, (a, o) ∈ l → ObjOk X.prog X.w (updL H l) h' a o) : Inv X pins σ (updL H l) { s with heap := h', toks := t' } := by
  have off : ∀ b u, s.heap.get? b = some u → b ∉ l.map (·.1) := fun b u e z => by
    obtain ⟨p, hm, rfl⟩ := List.mem_map.mp z
    exact absurd (Heap.lt_size e) (Nat.not_lt.mpr (hp p hm))
  have offH : ∀ b u, H b = some u → b ∉ l.map (·.1) := fun b u e z => by
    obtain ⟨p, hm, rfl⟩ := List.mem_map.mp z
    exact absurd (I.hok.lt e) (Nat.not_lt.mpr (hp p hm))
  refine I.un ⟨fun b u q _ _ _ => k b u q, fun b u q _ _ _ => ⟨u.slots, k b u q⟩, fun b u q n _ => by rw [updL_not (off b u q)]; exact n, fun b u q _ => ⟨u, k b u q⟩, fun b xs q => by rw [updL_not (offH b _ q)]; exact q, fun b u xs q => by rw [updL_not (offH b _ q)]; exact q, fun b ps q => ⟨#[], by rw [updL_not (offH b _ q), q]; simp⟩⟩ fun b o e => ?_
  rcases updL_is nd e with hm | ⟨hm, e⟩
  · exact new b o hm
  · exact (I.hok b o e).stay (fun c v _ q => k c v q) (fun c q => by rw [updL_not (offH c _ q)]; exact q) fun c xs q => by rw [updL_not (offH c _ q)]; exact q
end L2
namespace DL
open PySem L2
variable [TabL]
end DL
namespace SL
open PySem L2 DL
section
variable [TabL]
variable {F : Fam} {S : ST} {a b e e2 : Expr} {oa ob : O D} {pos p p2 q1 : Pos}
end
end SL
namespace ND
open PySem PySem.Spec PyProof.Rows L2
section
variable {X : Cx}
end
end ND
namespace SL
open PySem L2 DL
variable [TabL]
variable {F : Fam} {S : ST} {ke ve : Expr} {ok ov : O D} {pos : Pos} {R : Type} {rest : List Stmt} {P : R → Po}
end SL
namespace FV
open PySem PySem.Spec PyProof.Rows L2 DL LamX NdefX
def OneO (a : Addr) (o : Obj) : HO := .ext fun h => h.get? a = some o
theorem oneO_nt {a : Addr} {o : Obj} : NT (OneO a o) := fun _ z => by unfold OneO at z; nomatch z
def trk (cs : List (Addr × Obj)) (H : Hp) : Hp := fun a => match cs.lookup a with
  | some o => some (OneO a o)
  | none => H a
structure Fre (cs : List (Addr × Obj)) (H : Hp) (h : Heap) : Prop where
  n : ∀ a o, cs.lookup a = some o → H a = none
  g : ∀ a o, cs.lookup a = some o → h.get? a = some o
def Tra (cs : List (Addr × Obj)) (H : Hp) : Prop := ∀ a o, cs.lookup a = some o → H a = some (OneO a o)
section
variable {P : Program} {w : World} {K : PySem.W.Frag} {mg : Str → Option Value} {base : Heap} {A : Around} {outer : List Env} {s s' : Shared} {H : Hp} {cs : List (Addr × Obj)} {Q : VK} {E : XK} {u : Value}
end
end FV
namespace FV
open PySem PySem.Spec PyProof.Rows L2 DL LamX NdefX
variable [TabL]
def CF (o : Obj) : Prop := (∃ v, o.data = .cell v) ∨ ∃ fd, o.data = .func fd
theorem CF.live {o : Obj} (h : CF o) : o.isFreed = false := by
  obtain ⟨c, d, dt, sl⟩ := o
  rcases h with ⟨v, h⟩ | ⟨fd, h⟩
  · cases h; rfl
  · cases h; rfl
structure Nod (o : HO) : Prop where
  l : ∀ xs, o ≠ .lst xs
  t : ∀ xs, o ≠ .tup xs
  z : ∀ x u, o ≠ .frz x u
  i : ∀ c d fs, o ≠ .ins c d fs
  k : ∀ xs, o ≠ .dK xs
  n : ∀ P w a x xs, o ≠ ND.NDO P w a x xs
mutual
def nofn : D → Bool
  | .fn _ _ => false
  | .tup xs => nofns xs
  | .lst xs => nofns xs
  | .obj _ fs => nofnF fs
  | .dic kvs => nofnN kvs
  | .dik kvs => nofnK kvs
  | .dim kvs => nofnK kvs
  | _ => true
def nofns : List D → Bool
  | [] => true
  | d :: ds => nofn d && nofns ds
def nofnF : List (Str × D) → Bool
  | [] => true
  | (_, d) :: ds => nofn d && nofnF ds
def nofnN : List (D × D) → Bool
  | [] => true
  | (k, d) :: ds => nofn k && nofn d && nofnN ds
def nofnK : List (Key × D) → Bool
  | [] => true
  | (_, d) :: ds => nofn d && nofnK ds
end
section
variable {C : Kc} {G G' : Hp}
theorem sqT_less (hl : ∀ a o, G a = some o → G' a = some o ∨ Nod o) {a : Addr} {xs : List V} (h : SqT C.K G a xs) : SqT C.K G' a xs := by
  rcases h with (h | ⟨o, h⟩) | h
  · rcases hl _ _ h with z | z
    · exact .inl (.inl z)
    · exact (z.t _ rfl).elim
  · rcases hl _ _ h with z | z
    · exact .inl (.inr ⟨o, z⟩)
    · exact (z.z _ _ rfl).elim
  · exact .inr h
theorem sqL_less (hl : ∀ a o, G a = some o → G' a = some o ∨ Nod o) {a : Addr} {xs : List V} (h : SqL C.K G a xs) : SqL C.K G' a xs := by
  rcases h with (h | ⟨o, h⟩) | h
  · rcases hl _ _ h with z | z
    · exact .inl (.inl z)
    · exact (z.l _ rfl).elim
  · rcases hl _ _ h with z | z
    · exact .inl (.inr ⟨o, z⟩)
    · exact (z.z _ _ rfl).elim
  · exact .inr h
mutual
theorem den_less (hl : ∀ a o, G a = some o → G' a = some o ∨ Nod o) : ∀ {v : V} {d : D}, Den C G v d → nofn d = true → Den C G' v d
  | _, _, .non, _ => .non
  | _, _, .bl b, _ => .bl b
  | _, _, .int i, _ => .int i
  | _, _, .str x, _ => .str x
  | _, _, .tup h l, k => .tup (sqT_less hl h) (denL_less hl l (by unfold nofn at k; exact k))
  | _, _, .lst h l, k => .lst (sqL_less hl h) (denL_less hl l (by unfold nofn at k; exact k))
  | _, _, .obj q h l, k => .obj q ((hl _ _ h).elim id fun z => (z.i _ _ _ rfl).elim) (denF_less hl l (by unfold nofn at k; exact k))
  | _, _, .cst v, _ => .cst v
  | _, _, .dN h l, k => .dN ((hl _ _ h).elim id fun z => (z.n _ _ _ _ _ rfl).elim) (denN_less hl l (by unfold nofn at k; exact k))
  | _, _, .dK h l, k => .dK ((hl _ _ h).elim id fun z => (z.z _ _ rfl).elim) (denK_less hl l (by unfold nofn at k; exact k))
  | _, _, .dM h l, k => .dM ((hl _ _ h).elim id fun z => (z.k _ rfl).elim) (denK_less hl l (by unfold nofn at k; exact k))
  | _, _, .fn _ _, k => by unfold nofn at k; cases k
theorem denK_less (hl : ∀ a o, G a = some o → G' a = some o ∨ Nod o) : ∀ {v : List (Key × V)} {d : List (Key × D)}, DenK C G v d → nofnK d = true → DenK C G' v d
  | _, _, .nil, _ => .nil
  | _, _, .cons h l, k => by
    unfold nofnK at k
    rw [Bool.and_eq_true] at k
    exact .cons (den_less hl h k.1) (denK_less hl l k.2)
theorem denL_less (hl : ∀ a o, G a = some o → G' a = some o ∨ Nod o) : ∀ {v : List V} {d : List D}, DenL C G v d → nofns d = true → DenL C G' v d
  | _, _, .nil, _ => .nil
  | _, _, .cons h l, k => by
    unfold nofns at k
    rw [Bool.and_eq_true] at k
    exact .cons (den_less hl h k.1) (denL_less hl l k.2)
theorem denF_less (hl : ∀ a o, G a = some o → G' a = some o ∨ Nod o) : ∀ {v : List (Str × V)} {d : List (Str × D)}, DenF C G v d → nofnF d = true → DenF C G' v d
  | _, _, .nil, _ => .nil
  | _, _, .cons h l, k => by
    unfold nofnF at k
    rw [Bool.and_eq_true] at k
    exact .cons (den_less hl h k.1) (denF_less hl l k.2)
theorem denN_less (hl : ∀ a o, G a = some o → G' a = some o ∨ Nod o) : ∀ {v : List ND.NEnt} {d : List (D × D)}, DenN C G v d → nofnN d = true → DenN C G' v d
  | _, _, .nil, _ => .nil
  | _, _, .cons h1 h2 h3 h4 h5 l, k => by
    unfold nofnN at k
    rw [Bool.and_eq_true, Bool.and_eq_true] at k
    exact .cons h1 h2 (den_less hl h3 k.1.1) h4 (den_less hl h5 k.1.2) (denN_less hl l k.2)
end
end
structure FT where
  name : Str
  params : Arguments
  body : FuncBody
  scope : Scope
  ps : List Str
  fr : List Str
  N : List Str
def FT.fd (t : FT) (q : Str) (cl : List (Str × Addr)) (c' : Addr) (doc pm ctv : Value) : FuncData :=
  { name := t.name, qualname := q, params := t.params, body := t.body, scope := t.scope, globals := mainGlobals, closure := cl, defaults := .none, kwdefaults := .none, doc := doc, pyModule := pm, annotations := none, code := .ref c', closureTuple := ctv, builtins := builtinsNs }
structure FAt (t : FT) (G : Hp) (f : Addr) (q : Str) (cl : List (Str × Addr)) (c' : Addr) : Prop where
  f : ∃ φ, G f = some (.ext φ) ∧ ∀ h : Heap, φ h → ∃ (od : Option Addr) (sl : Array (Option Value)) (doc pm ctv : Value), h.get? f = some (⟨.type "function", od, .func (t.fd q cl c' doc pm ctv), sl⟩ : Obj)
  c : G c' = some (CodeO c' q)
structure CAt (cl : List (Str × Addr)) (fr : List Str) (vs : List V) (G : Hp) (cs : List (Addr × Obj)) : Prop where
  len : vs.length = fr.length
  tra : Tra cs G
  all : ∀ y c, cl.lookup y = some c → ∃ o v, cs.lookup c = some o ∧ o.data = .cell v
  inj : ∀ x y c, cl.lookup x = some c → cl.lookup y = some c → x = y
  has : ∀ (i : Nat) (y : Str), fr[i]? = some y → ∃ c, cl.lookup y = some c ∧ ∀ v, vs[i]? = some v → ∃ o u, cs.lookup c = some o ∧ o.data = .cell (some u) ∧ L2.RelV v u
  onl : ∀ c o, cs.lookup c = some o → ∃ y, cl.lookup y = some c
  nm : ∀ y c, cl.lookup y = some c → y ∈ fr
abbrev FT.nf (t : FT) (q : Str) (cl : List (Str × Addr)) (c' : Addr) : NF := ⟨t.name, q, t.params, [], t.scope, cl, c'⟩
section
variable {P : Program} {w : World} {K : PySem.W.Frag} {mg : Str → Option Value} {base : Heap} {k : Nat} {t : FT}
end
end FV
namespace FV
open PySem PySem.Spec PyProof.Rows L2 DL LamX NdefX
variable [TabL]
section
variable {cs : List (Addr × Obj)} {G H : Hp}
end
structure FvOk (P : Program) (w : World) (C : Kc) (mg : Str → Option Value) (base : Heap) (k kk : Nat) (R : List D → List D → D → Prop) : Prop where
  at_ : ∀ G f vs, C.fq kk G f vs → ∃ φ, G f = some (.ext φ) ∧ ∀ h, φ h → PySem.W.FnAt f h
  run : ∀ (A : Around) (outer : List Env) (s : Shared) (H G : Hp) (E : XK) (f : Addr) (us : List Value) (ws vs : List V) (es ds : List D) (d : D) (Q : VK), Room k A → Env0 P w C.K mg base A outer s H → Sub G H → C.fq kk G f vs → DenL C G vs es → nofns es = true → DenL C G ws ds → nofns ds = true → Vals ws us → R es ds d →
    (∀ v G2 H2, Pu G H G2 H2 → Den C G2 v d → Q v H2) → codeAny (model P w) A (.call (.ref f) ⟨us, []⟩) (CR CX0 outer P w H s Q E) s
def famF (C : Kc) (mg : Str → Option Value) (base : Heap) (t : FT) (nd : t.N.Nodup) (q : Str) (cl : List (Str × Addr)) (c' f : Addr) (A : Around) (outer : List Env) (s : Shared) (H : Hp) (E : XK) (k : Nat) (hr : Room k (A.deeper (envF (t.nf q cl c') f s.heap.objs.size))) : Fam where
  I := Unit
  X := fun _ => ncx CX0 C.P C.w C.K mg base t.N (t.nf q cl c') f A outer s H E
  P := C.P
  w := C.w
  C := C
  mg := mg
  base := base
  N := t.N
  k := k
  hP := fun _ => rfl
  hw := fun _ => rfl
  hK := fun _ => rfl
  hmg := fun _ => rfl
  hbase := fun _ => rfl
  hN := fun _ => rfl
  nd := nd
  roomH := fun _ => ⟨hr.dp, hr.un⟩
  cP := rfl
  cw := rfl
instance {C : Kc} {mg : Str → Option Value} {base : Heap} {t : FT} {nd : t.N.Nodup} {q : Str} {cl : List (Str × Addr)} {c' f : Addr} {A : Around} {outer : List Env} {s : Shared} {H : Hp} {E : XK} {k : Nat} {hr : Room k (A.deeper (envF (t.nf q cl c') f s.heap.objs.size))} : Calm (famF C mg base t nd q cl c' f A outer s H E k hr) := ⟨fun _ => rfl, fun _ => hr.hd⟩
section
variable {C : Kc} {mg : Str → Option Value} {base : Heap} {t : FT} {k kk : Nat} {R : List D → List D → D → Prop}
end
section
variable {X : Cx} {C : Kc} {P : Program} {w : World} {k kk j : Nat} {R : List D → List D → D → Prop} {x : Str} {p pos : Pos} {e : Expr} {es : List Expr} {t : TA}
end
section
variable {F : Fam} {S S1 S2 : ST} {k kk j : Nat} {R : List D → List D → D → Prop} {x : Str} {p pos : Pos} {e : Expr} {es : List Expr} {ds env : List D} {d : D}
end
end FV
namespace FV
open PySem PySem.Spec PyProof.Rows L2 DL LamX NdefX
variable [TabL]
structure Grw (P : Addr) (H H1 : Hp) : Prop where
  d : ∀ a, H a ≠ none → H1 a ≠ none
  k : ∀ a o, a ≠ P → H a = some o → H1 a = some o
  e : ExtN H H1
def LamAt (params : Arguments) (body : Expr) (scope : Scope) (q : Str) (cl : List (Str × Addr)) (H : Hp) (f : Addr) : Prop :=
  ∃ (c' : Addr) (pm ctv : Value), H f = some (OneO f (PySem.W.kla_obj "<lambda>" q params body scope cl pm c' ctv)) ∧ H c' = some (CodeO c' q)
theorem LamAt.mono {params : Arguments} {body : Expr} {scope : Scope} {q : Str} {cl : List (Str × Addr)} {H H1 : Hp} {f : Addr} (h : LamAt params body scope q cl H f) (k : ∀ a o, NT o → H a = some o → H1 a = some o) : LamAt params body scope q cl H1 f := by
  obtain ⟨c', pm, ctv, h1, h2⟩ := h
  exact ⟨c', pm, ctv, k _ _ oneO_nt h1, k _ _ (fun ps => codeO_ne ps) h2⟩
section
variable {X : Cx} {pins : List (Addr × Obj)} {σ : L2.St} {H : Hp} {s : Shared}
end
structure Capt (cl : List (Str × Addr)) (fr : List Str) (js : List Nat) (σ : L2.St) (cs : List (Addr × Obj)) (H : Hp) : Prop where
  n : ∀ a o, cs.lookup a = some o → H a = none
  lenJ : js.length = fr.length
  all : ∀ y c, cl.lookup y = some c → ∃ o v, cs.lookup c = some o ∧ o.data = .cell v
  inj : ∀ x y c, cl.lookup x = some c → cl.lookup y = some c → x = y
  has : ∀ (i : Nat) (y : Str), fr[i]? = some y → ∃ c, cl.lookup y = some c ∧ ∀ j v, js[i]? = some j → σ[j]? = some (some v) → ∃ o u, cs.lookup c = some o ∧ o.data = .cell (some u) ∧ L2.RelV v u
  onl : ∀ c o, cs.lookup c = some o → ∃ y, cl.lookup y = some c
  nm : ∀ y c, cl.lookup y = some c → y ∈ fr
section
variable {X : Cx} {pins : List (Addr × Obj)} {σ : L2.St} {H : Hp} {s : Shared} {fr : List Str} {js : List Nat}
end
end FV
namespace FV
open PySem PySem.Spec PyProof.Rows L2 DL LamX NdefX
variable [TabL]
structure MkF (F : Fam) (c P : Addr) (nm : Nat → Nat → Str) (qual : Str) : Prop where
  tb : TabB F.base F.mg c P
  cd : ∀ i, (F.X i).env.code = .ref c
  qu : ∀ i, (F.X i).env.qual = qual
  mem : (P, nm) ∈ TabL.T
  un : ∀ q ∈ TabL.T, q.1 = P → q.2 = nm
structure LamF (F : Fam) (scope : Scope) (cl : List (Str × Addr)) (fr : List Str) (js : List Nat) : Prop where
  free : ∀ i, ∀ y ∈ scope.names, y.2 = .free → (F.X i).env.scope.names.lookup y.1 = some .cell ∨ (F.X i).env.scope.names.lookup y.1 = some .free
  frk : ∀ y ∈ fr, (y, NameKind.free) ∈ scope.names
  inn : ∀ y ∈ scope.names, y.2 = .free → y.1 ∈ fr
  js : js.map (fun j => F.N[j]?) = fr.map some
  low : ∀ i, ∀ y c, (F.X i).env.cells.lookup y = some c → (F.X i).s_0.heap.objs.size ≤ c
  cl : ∀ i, cloFrom (F.X i).env.cells scope.names [] = cl
section
variable {F : Fam} {S S1 S2 : ST} {e body : Expr} {d : D} {ds env : List D} {pos p lpos : Pos} {k kk : Nat} {params : Arguments} {scope : Scope} {c P0 : Addr} {nm : Nat → Nat → Str} {qual : Str} {es : List Expr} {cl : List (Str × Addr)} {fr : List Str} {js : List Nat} {L : Hp → Addr → Prop}
end
end FV
namespace FV
open PySem PySem.Spec PyProof.Rows L2 DL LamX NdefX
variable [TabL]
section
variable {X : Cx} {pins : List (Addr × Obj)} {σ : L2.St} {H : Hp} {s : Shared}
end
section
variable {F : Fam} {S : ST} {rest : List Stmt} {P : Po} {k kk i : Nat} {c P0 : Addr} {nm : Nat → Nat → Str} {qual name : Str} {params : Arguments} {body : List Stmt} {scope : Scope} {pos : Pos} {ps N : List Str}
end
end FV
namespace FV
open PySem PySem.Spec PyProof.Rows L2 DL LamX NdefX
variable [TabL]
theorem FAt.mono {t : FT} {G G' : Hp} (e : ∀ a o, G a = some o → G' a = some o) {f : Addr} {q : Str} {cl : List (Str × Addr)} {c' : Addr} (h : FAt t G f q cl c') : FAt t G' f q cl c' := by
  obtain ⟨⟨φ, h1, h2⟩, h3⟩ := h
  exact ⟨⟨φ, e _ _ h1, h2⟩, e _ _ h3⟩
section
variable {F : Fam} {S : ST} {rest : List Stmt} {P : Po} {k kk i : Nat} {c P0 : Addr} {nm : Nat → Nat → Str} {qual name : Str} {params : Arguments} {body : List Stmt} {scope : Scope} {pos : Pos} {ps N fr : List Str} {cl : List (Str × Addr)} {js : List Nat}
end
section
variable {F : Fam} {S S1 S2 : ST} {e : Expr} {d : D} {ds env : List D} {pos p bp : Pos} {k kk kl j : Nat} {scope : Scope} {es : List Expr} {cl : List (Str × Addr)} {fr : List Str} {js : List Nat} {t : FT} {b : Str}
end
end FV
namespace FV
open PySem PySem.Spec PyProof.Rows L2 DL LamX NdefX
variable [TabL]
section
variable {X : Cx} {C : Kc} {P : Program} {w : World} {k kk j : Nat} {R : List D → List D → D → Prop} {x : Str} {p pos : Pos} {e : Expr} {es : List Expr} {t : TA} {scope : Scope} {fr : List Str} {js : List Nat}
end
section
variable {F : Fam} {S S1 : ST} {e : Expr} {d : D} {ds env : List D} {p pos : Pos} {k kk kl j : Nat} {scope : Scope} {es : List Expr} {cl : List (Str × Addr)} {fr : List Str} {js : List Nat} {t : FT} {x : Str}
end
end FV
namespace FV
open PySem PySem.Spec PyProof.Rows L2 DL LamX NdefX
variable [TabL]
section
variable {P : Program} {w : World} {K : PySem.W.Frag} {mg : Str → Option Value} {base : Heap} {k : Nat} {t : FT}
end
section
variable {C : Kc} {mg : Str → Option Value} {base : Heap} {t tb : FT} {k kk kb : Nat} {R : List D → List D → D → Prop}
end
end FV
namespace SL
open PySem L2 DL FV
variable [TabL]
section
variable {F : Fam} {S : ST} {k kk j : Nat} {x : Str} {p pos lpos : Pos} {e body : Expr} {es : List Expr} {oe : O D} {os : O (List D)} {dx : D} {ap : Nat → List D → List D → O D} {φ : List D → O D} {params : Arguments} {scope : Scope} {c P0 : Addr} {nm : Nat → Nat → Str} {qual : Str} {cl : List (Str × Addr)} {fr : List Str} {js : List Nat} {L : Hp → Addr → Prop} {ps N : List Str} {env : List D}
end
section
variable {F : Fam} {S : ST} {k kk kl j : Nat} {x b : Str} {p pos bp : Pos} {e : Expr} {es : List Expr} {oe : O D} {os : O (List D)} {φ : List D → O D} {scope : Scope} {cl : List (Str × Addr)} {fr ps : List Str} {js : List Nat} {t : FT} {env : List D}
end
section
variable {C : Kc} {mg : Str → Option Value} {base : Heap} {k : Nat} {x qual : Str} {st : Stmt} {f : Addr} {fd : FuncData} {N ps : List Str}
end
end SL
namespace DL
open PySem L2 SL
variable [TabL]
section
variable {F : Fam} {S S1 S2 S3 : ST} {kx vx tg iter : Expr} {pos p : Pos} {ds : List D} {P : Po} {rest : List Stmt} {ifs : List Expr} {scope : Scope} {own : List (Str × Nat)}
end
mutual
def nol : D → Bool
  | .fn _ _ => false
  | .tup xs => nols xs
  | .lst _ => false
  | .obj _ fs => nolF fs
  | .dic kvs => nolN kvs
  | .dik kvs => nolK kvs
  | .dim kvs => nolK kvs
  | _ => true
def nols : List D → Bool
  | [] => true
  | d :: ds => nol d && nols ds
def nolF : List (Str × D) → Bool
  | [] => true
  | (_, d) :: ds => nol d && nolF ds
def nolN : List (D × D) → Bool
  | [] => true
  | (k, d) :: ds => nol k && nol d && nolN ds
def nolK : List (Key × D) → Bool
  | [] => true
  | (_, d) :: ds => nol d && nolK ds
end
section
variable {C : Kc} {G G' : Hp}
theorem sqT_nol (hl : ∀ a o, G a = some o → G' a = some o ∨ ∃ xs, o = .lst xs) {a : Addr} {xs : List V} (h : SqT C.K G a xs) : SqT C.K G' a xs := by
  rcases h with (h | ⟨o, h⟩) | h
  · rcases hl _ _ h with z | ⟨_, z⟩
    · exact .inl (.inl z)
    · nomatch z
  · rcases hl _ _ h with z | ⟨_, z⟩
    · exact .inl (.inr ⟨o, z⟩)
    · nomatch z
  · exact .inr h
mutual
theorem den_nol (hl : ∀ a o, G a = some o → G' a = some o ∨ ∃ xs, o = .lst xs) : ∀ {v : V} {d : D}, Den C G v d → nol d = true → Den C G' v d
  | _, _, .non, _ => .non
  | _, _, .bl b, _ => .bl b
  | _, _, .int i, _ => .int i
  | _, _, .str x, _ => .str x
  | _, _, .tup h l, k => .tup (sqT_nol hl h) (denL_nol hl l (by unfold nol at k; exact k))
  | _, _, .lst h l, k => by unfold nol at k; cases k
  | _, _, .obj q h l, k => .obj q ((hl _ _ h).elim id fun ⟨_, z⟩ => (nomatch z)) (denF_nol hl l (by unfold nol at k; exact k))
  | _, _, .cst v, _ => .cst v
  | _, _, .dN h l, k => .dN ((hl _ _ h).elim id fun ⟨_, z⟩ => (by unfold ND.NDO at z; nomatch z)) (denN_nol hl l (by unfold nol at k; exact k))
  | _, _, .dK h l, k => .dK ((hl _ _ h).elim id fun ⟨_, z⟩ => (nomatch z)) (denK_nol hl l (by unfold nol at k; exact k))
  | _, _, .dM h l, k => .dM ((hl _ _ h).elim id fun ⟨_, z⟩ => (nomatch z)) (denK_nol hl l (by unfold nol at k; exact k))
  | _, _, .fn _ _, k => by unfold nol at k; cases k
theorem denK_nol (hl : ∀ a o, G a = some o → G' a = some o ∨ ∃ xs, o = .lst xs) : ∀ {v : List (Key × V)} {d : List (Key × D)}, DenK C G v d → nolK d = true → DenK C G' v d
  | _, _, .nil, _ => .nil
  | _, _, .cons h l, k => by
    unfold nolK at k
    rw [Bool.and_eq_true] at k
    exact .cons (den_nol hl h k.1) (denK_nol hl l k.2)
theorem denL_nol (hl : ∀ a o, G a = some o → G' a = some o ∨ ∃ xs, o = .lst xs) : ∀ {v : List V} {d : List D}, DenL C G v d → nols d = true → DenL C G' v d
  | _, _, .nil, _ => .nil
  | _, _, .cons h l, k => by
    unfold nols at k
    rw [Bool.and_eq_true] at k
    exact .cons (den_nol hl h k.1) (denL_nol hl l k.2)
theorem denF_nol (hl : ∀ a o, G a = some o → G' a = some o ∨ ∃ xs, o = .lst xs) : ∀ {v : List (Str × V)} {d : List (Str × D)}, DenF C G v d → nolF d = true → DenF C G' v d
  | _, _, .nil, _ => .nil
  | _, _, .cons h l, k => by
    unfold nolF at k
    rw [Bool.and_eq_true] at k
    exact .cons (den_nol hl h k.1) (denF_nol hl l k.2)
theorem denN_nol (hl : ∀ a o, G a = some o → G' a = some o ∨ ∃ xs, o = .lst xs) : ∀ {v : List ND.NEnt} {d : List (D × D)}, DenN C G v d → nolN d = true → DenN C G' v d
  | _, _, .nil, _ => .nil
  | _, _, .cons h1 h2 h3 h4 h5 l, k => by
    unfold nolN at k
    rw [Bool.and_eq_true, Bool.and_eq_true] at k
    exact .cons h1 h2 (den_nol hl h3 k.1.1) h4 (den_nol hl h5 k.1.2) (denN_nol hl l k.2)
end
end
end DL
namespace SL
open PySem L2 DL
variable [TabL]
section
variable {F : Fam} {S : ST} {scope : Scope} {kx vx tg iter : Expr} {p : Pos} {oi : O (List D)}
end
end SL
namespace SL
open PySem L2 DL
variable [TabL]
section
variable {F : Fam} {S : ST} {x : Str} {p pos : Pos} {e : Expr} {oe : O D} {t : List (Str × Str)}
end
end SL
namespace SL
open PySem L2 DL FV
variable [TabL]
section
variable {F : Fam} {S : List D → ST} {e : Expr} {sts : List Stmt} {R : Type} {P : R → Po}
end
end SL
namespace ZN
open PySem PySem.W PySem.Calls PyProof.Rows PyProof.V PySem.Spec
section
variable {prog : Program} {w : World} {A : Around} {E : Value → Shared → Prop} {s : Shared}
end
structure Ap (z TI TO : Addr) (its ls : List Addr) : Prop where
  TIz : TI ≠ z
  TOz : TO ≠ z
  TITO : TI ≠ TO
  iz : ∀ i ∈ its, i ≠ z
  iTI : ∀ i ∈ its, i ≠ TI
  iTO : ∀ i ∈ its, i ≠ TO
  nd : its.Nodup
  lz : ∀ l ∈ ls, l ≠ z
  lTO : ∀ l ∈ ls, l ≠ TO
  li : ∀ l ∈ ls, ∀ i ∈ its, l ≠ i
abbrev IsTupL (h : Heap) (T : Addr) (vs : List Value) : Prop := h.get? T = some { cls := .type "tuple", data := .seq vs.toArray }
structure Its (h : Heap) (its ls : List Addr) (xss : List (Array Value)) (k m : Nat) : Prop where
  n1 : ls.length = its.length
  n2 : xss.length = its.length
  it : ∀ (j : Nat) i l xs, its[j]? = some i → ls[j]? = some l → xss[j]? = some xs → h.IsListIter i l (if j < m then k + 1 else k)
  ls : ∀ (j : Nat) l xs, ls[j]? = some l → xss[j]? = some xs → h.IsList l xs
def rowAt (xss : List (Array Value)) (k : Nat) : List Value := xss.map fun xs => (xs[k]?).getD .none
section
variable {z TI TO : Addr} {its ls : List Addr} {xss : List (Array Value)} {k m : Nat}
theorem Its.upd {h h' : Heap} (st : Its h its ls xss k m) (up : ∀ b o, (b ∈ its ∨ b ∈ ls) → h.get? b = some o → h'.get? b = some o) : Its h' its ls xss k m where
  n1 := st.n1
  n2 := st.n2
  it := fun j i l xs h1 h2 h3 => (st.it j i l xs h1 h2 h3).at fun o e => up _ o (.inl (List.mem_of_getElem? h1)) e
  ls := fun j l xs h2 h3 => (st.ls j l xs h2 h3).at fun o e => up _ o (.inr (List.mem_of_getElem? h2)) e
theorem Its.at_ {h : Heap} (st : Its h its ls xss k m) {i : Addr} (hi : its[m]? = some i) : ∃ l xs, ls[m]? = some l ∧ xss[m]? = some xs ∧ h.IsListIter i l k ∧ h.IsList l xs := by
  have hm := (List.getElem?_eq_some_iff.mp hi).1
  obtain ⟨l, h1⟩ : ∃ l, ls[m]? = some l := ⟨_, List.getElem?_eq_getElem (by rw [st.n1]; exact hm)⟩
  obtain ⟨xs, h2⟩ : ∃ xs, xss[m]? = some xs := ⟨_, List.getElem?_eq_getElem (by rw [st.n2]; exact hm)⟩
  have h3 := st.it m i _ _ hi h1 h2
  rw [if_neg (Nat.lt_irrefl m)] at h3
  exact ⟨_, _, h1, h2, h3, st.ls m _ _ h1 h2⟩
theorem Its.next {h : Heap} (st : Its h its ls xss k its.length) : Its h its ls xss (k + 1) 0 where
  n1 := st.n1
  n2 := st.n2
  it := fun j i l xs a b c => by
    have := st.it j i l xs a b c
    rw [if_pos (List.getElem?_eq_some_iff.mp a).1] at this
    rw [if_neg (Nat.not_lt_zero j)]
    exact this
  ls := st.ls
end
section
variable {prog : Program} {w : World} {A : Around} {E : Value → Shared → Prop} {s : Shared} {z TI TO T : Addr} {its ls : List Addr} {xss : List (Array Value)} {k : Nat} {f : Bool} {oT : Obj}
structure ZSt (z TI TO : Addr) (its ls : List Addr) (S : Addr) (xss : List (Array Value)) (h : Heap) (i : Nat) : Prop where
  ti : IsTupL h TI (its.map Value.ref)
  st : Its h its ls xss i 0
  hz : (IsZip h z TI TO .none ∧ ∃ olds, IsTupL h TO olds ∧ olds.length = its.length) ∨ ∃ T f oT, IsZipHeld h z TI TO T f ∧ h.get? T = some oT ∧ T ≠ z ∧ T ∉ its ∧ T ≠ S
structure ZLt (z TI TO : Addr) (its ls : List Addr) (S : Addr) : Prop where
  z : z < S
  TI : TI < S
  TO : TO < S
  its : ∀ i ∈ its, i < S
  ls : ∀ l ∈ ls, l < S
theorem ZSt.upd {S : Addr} {h h' : Heap} {i : Nat} (lt : ZLt z TI TO its ls S) (st : ZSt z TI TO its ls S xss h i) (up : ∀ b o, b ≠ S → h.get? b = some o → h'.get? b = some o) : ZSt z TI TO its ls S xss h' i where
  ti := up _ _ (Nat.ne_of_lt lt.TI) st.ti
  st := st.st.upd fun b o hb e => up b o (by
    rcases hb with hb | hb
    · exact Nat.ne_of_lt (lt.its b hb)
    · exact Nat.ne_of_lt (lt.ls b hb)) e
  hz := by
    rcases st.hz with ⟨hz, olds, hTO, ol⟩ | ⟨T, f, oT, hz, hT, r1, r2, r4⟩
    · exact .inl ⟨up _ _ (Nat.ne_of_lt lt.z) hz, olds, up _ _ (Nat.ne_of_lt lt.TO) hTO, ol⟩
    · exact .inr ⟨T, f, oT, up _ _ (Nat.ne_of_lt lt.z) hz, up _ _ r4 hT, r1, r2, r4⟩
structure ZG (xss : List (Array Value)) (lo : Addr) (h : Heap) (as : List Addr) : Prop where
  rise : as.Pairwise (· < ·)
  above : ∀ a ∈ as, lo < a
  rows : ∀ (j : Nat) (a : Addr), as[j]? = some a → IsTupL h a (rowAt xss j)
end
section
variable {prog : Program} {w : World} {A : Around} {s : Shared} {R : Result → Shared → Prop} {z TI TO S : Addr} {its ls : List Addr} {xss : List (Array Value)} {n : Nat}
end
end ZN
namespace ZN
open PySem PySem.W PySem.Calls PyProof.Rows PyProof.V PySem.Spec
section
variable {prog : Program} {w : World} {A : Around} {E : Value → Shared → Prop} {s : Shared} {z TI TO S : Addr} {its ls : List Addr} {xss : List (Array Value)} {n : Nat}
structure NewZip (h h' : Heap) (ls : List Addr) : Prop where
  z : IsZip h' (h.objs.size + ls.length + 2) (h.objs.size + ls.length) (h.objs.size + ls.length + 1) .none
  ti : IsTupL h' (h.objs.size + ls.length) ((List.range ls.length).map fun j => Value.ref (h.objs.size + j))
  to : ∃ olds, IsTupL h' (h.objs.size + ls.length + 1) olds ∧ olds.length = ls.length
  it : ∀ (j : Nat) l, ls[j]? = some l → h'.IsListIter (h.objs.size + j) l 0
  sz : h'.objs.size = h.objs.size + ls.length + 3
  kp : ∀ c o, h.get? c = some o → h'.get? c = some o
end
end ZN
namespace L2
open PySem PySem.W PySem.Calls PySem.Spec PyProof.Rows
end L2
namespace DL
open PySem L2
variable [TabL]
inductive RwD (C : Kc) (G : Hp) : List Addr → List (List V) → List (List D) → Prop
  | nil : RwD C G [] [] []
  | cons {l : Addr} {w : List V} {r : List D} {ls : List Addr} {vss : List (List V)} {rs : List (List D)} : SqL C.K G l w → DenL C G w r → RwD C G ls vss rs → RwD C G (l :: ls) (w :: vss) (r :: rs)
theorem RwD.len {C : Kc} {G : Hp} {ls : List Addr} {vss : List (List V)} {rs : List (List D)} (h : RwD C G ls vss rs) : vss.length = ls.length ∧ rs.length = ls.length := by
  induction h with
  | nil => exact ⟨rfl, rfl⟩
  | cons _ _ _ ih => exact ⟨by rw [List.length_cons, ih.1, List.length_cons], by rw [List.length_cons, ih.2, List.length_cons]⟩
theorem RwD.all {C : Kc} {G : Hp} {ls : List Addr} {vss : List (List V)} {rs : List (List D)} {n : Nat} (h : RwD C G ls vss rs) (hn : ∀ r ∈ rs, r.length = n) : ∀ vs ∈ vss, vs.length = n := by
  induction h with
  | nil => intro _ h; cases h
  | @cons l w r _ _ _ _ dl _ ih =>
    intro vs hm
    rcases List.mem_cons.mp hm with e | hm
    · rw [e, dl.length]; exact hn r List.mem_cons_self
    · exact ih (fun r hr => hn r (List.mem_cons_of_mem _ hr)) vs hm
theorem RwD.mono {C : Kc} {G G' : Hp} (e : Same G G') {ls : List Addr} {vss : List (List V)} {rs : List (List D)} (h : RwD C G ls vss rs) : RwD C G' ls vss rs := by
  induction h with
  | nil => exact .nil
  | cons s1 d1 _ ih => exact .cons (by rcases s1 with (h | ⟨o, h⟩) | h; exact .inl (.inl (e _ _ h)); exact .inl (.inr ⟨o, e _ _ h⟩); exact .inr h) (d1.mono e) ih
theorem denL_getD {C : Kc} {G : Hp} : ∀ {w : List V} {r : List D} {j : Nat}, DenL C G w r → j < r.length → Den C G (w.getD j .non) (r.getD j .non)
  | _, _, _, .nil, h => absurd h (Nat.not_lt_zero _)
  | _, _, 0, .cons h _, _ => h
  | _, _, j + 1, .cons _ t, h => denL_getD (j := j) t (by simpa using h)
theorem RwD.col {C : Kc} {G : Hp} {ls : List Addr} {vss : List (List V)} {rs : List (List D)} {n j : Nat} (h : RwD C G ls vss rs) (hn : ∀ r ∈ rs, r.length = n) (hj : j < n) : DenL C G (vss.map fun vs => vs.getD j .non) (rs.map fun r => r.getD j .non) := by
  induction h with
  | nil => exact .nil
  | @cons l w r _ _ _ _ dl _ ih => exact .cons (denL_getD dl (by rw [hn r List.mem_cons_self]; exact hj)) (ih fun r hr => hn r (List.mem_cons_of_mem _ hr))
end DL
namespace SL
open PySem L2 DL
section
variable [TabL]
variable {F : Fam} {S : ST} {e : Expr} {oe : O D} {pos p p2 q1 sp : Pos}
end
end SL
namespace ZM
open PySem PySem.W PySem.Calls PySem.Spec PyProof.Rows L2
section
variable {prog : Program} {w : World} {A : Around} {E : Value → Shared → Prop} {s : Shared} {zz TT TW i1 l1 : Addr} {i2 : Value} {k : Nat} {xs : Array Value}
end
end ZM
namespace DL
open PySem L2
variable [TabL]
section
variable {F : Fam} {S S1 S2 S3 : ST} {e e2 : Expr} {p : Pos} {ds es : List D}
end
end DL
namespace ZE
open PySem PySem.W PySem.Calls PySem.Spec PyProof.Rows L2
section
variable {X : Cx} {pins : List (Addr × Obj)} {σ : L2.St} {H : Hp} {s : Shared} {a : Addr} {xs ys : List V}
end
end ZE
namespace SL
open PySem L2 DL
section
variable [TabL]
variable {F : Fam} {S : ST} {e e2 : Expr} {pos p q1 tpos : Pos} {elts : List Expr} {kk : Nat}
end
end SL
namespace DL
open PySem L2
variable [TabL]
end DL
namespace SL
open PySem L2 DL
section
variable [TabL]
variable {F : Fam} {S : ST} {e e2 e3 : Expr} {pos p q1 tpos : Pos} {elts : List Expr} {kk : Nat}
end
end SL
namespace DL
open PySem L2
variable [TabL]
inductive Xr where
  | r (d : D)
  | x (c : Nat) (fs : List D)
variable {C : Kc} {mg : Str → Option Value} {base : Heap}
def famX (C : Kc) (mg : Str → Option Value) (base : Heap) (N : List Str) (nd : N.Nodup) (qual : Str) (sc : Scope) (f : Addr) (cdv : Value) (A : Around) (outer : List Env) (s : Shared) (H : Hp) (E : XK) (k : Nat) (hr : Room k (A.deeper (PyProof.Rows.envOfC qual sc s.heap.objs.size f cdv))) : Fam where
  I := Unit
  X := fun _ => cxOf (L2.CX C.P C.w) C.P C.w C.K mg base N qual sc f cdv A outer s H E
  P := C.P
  w := C.w
  C := C
  mg := mg
  base := base
  N := N
  k := k
  hP := fun _ => rfl
  hw := fun _ => rfl
  hK := fun _ => rfl
  hmg := fun _ => rfl
  hbase := fun _ => rfl
  hN := fun _ => rfl
  nd := nd
  roomH := fun _ => ⟨hr.dp, hr.un⟩
  cP := rfl
  cw := rfl
instance {N : List Str} {nd : N.Nodup} {qual : Str} {sc : Scope} {f : Addr} {cdv : Value} {A : Around} {outer : List Env} {s : Shared} {H : Hp} {E : XK} {k : Nat} {hr : Room k (A.deeper (PyProof.Rows.envOfC qual sc s.heap.objs.size f cdv))} : Calm (famX C mg base N nd qual sc f cdv A outer s H E k hr) := ⟨fun _ => rfl, fun _ => hr.hd⟩
end DL
namespace PySem
namespace XvX
open PySem.W PySem.Calls PyProof.Rows PySem.HandSPX Builtin Builtin.ObjectAttr
def refsT (tl : List Value) : List Value → Bool
  | .ref _ :: r => refsT tl r
  | l => l == tl
theorem refsT_split {tl : List Value} : ∀ l : List Value, refsT tl l = true → (∃ c r, l = .ref c :: r ∧ refsT tl r = true) ∨ l = tl := by
  intro l
  cases l with
  | nil => intro z; exact .inr (beq_iff_eq.mp z)
  | cons v r => cases v <;> intro z <;> first | exact .inl ⟨_, r, rfl, z⟩ | exact .inr (beq_iff_eq.mp z)
theorem refsT_goes {tl : List Value} {self : Value} (ht : refuseLoop self "__setattr__" tl = pure ()) : ∀ l : List Value, refsT tl l = true → refuseLoop self "__setattr__" l = pure () := by
  intro l
  induction l with
  | nil =>
    intro z
    have e : ([] : List Value) = tl := beq_iff_eq.mp z
    rw [e]; exact ht
  | cons v r ih =>
    intro z
    rcases refsT_split (v :: r) z with ⟨c, r', e, hr⟩ | e
    · obtain ⟨rfl, rfl⟩ := List.cons.inj e
      rw [refuseLoop_ref]; exact ih hr
    · rw [e]; exact ht
theorem refsT_has {tl : List Value} (T : String) : ∀ l : List Value, refsT tl l = true → l.contains (.type T) = tl.contains (.type T) := by
  intro l
  induction l with
  | nil =>
    intro z
    have e : ([] : List Value) = tl := beq_iff_eq.mp z
    rw [e]
  | cons v r ih =>
    intro z
    rcases refsT_split (v :: r) z with ⟨c, r', e, hr⟩ | e
    · obtain ⟨rfl, rfl⟩ := List.cons.inj e
      rw [List.contains_cons, ih hr]; rfl
    · rw [e]
structure ChainB (newId : String) (bm : List Value) : Prop where
  made : ∃ B initId tl, ExcBaseFacts B newId initId tl ∧ ∀ T : String, bm.contains (.type T) = tl.contains (.type T)
  pass : ∀ self, refuseLoop self "__setattr__" bm = pure ()
  obj : bm.contains (.type "object") = true
abbrev leTail : List Value := [.type "LookupError", .type "Exception", .type "BaseException", .type "object"]
abbrev aeTail : List Value := [.type "ArithmeticError", .type "Exception", .type "BaseException", .type "object"]
theorem chain_VE {bm : List Value} (h : refsT veTail bm = true) : ChainB "ValueError.__new__" bm :=
  ⟨⟨_, _, _, F.excBase_ValueError, fun T => refsT_has T bm h⟩, fun self => refsT_goes (F.store_ValueError.passes self) bm h, (refsT_has "object" bm h).trans (by decide +kernel)⟩
theorem chain_LE {bm : List Value} (h : refsT leTail bm = true) : ChainB "LookupError.__new__" bm :=
  ⟨⟨_, _, _, F.excBase_LookupError, fun T => refsT_has T bm h⟩, fun self => refsT_goes (F.store_LookupError.passes self) bm h, (refsT_has "object" bm h).trans (by decide +kernel)⟩
theorem chain_AE {bm : List Value} (h : refsT aeTail bm = true) : ChainB "ArithmeticError.__new__" bm :=
  ⟨⟨_, _, _, F.excBase_ArithmeticError, fun T => refsT_has T bm h⟩, fun self => refsT_goes (F.store_ArithmeticError.passes self) bm h, (refsT_has "object" bm h).trans (by decide +kernel)⟩
def chainB (nid : String) (bm : List Value) : Bool := (decide (nid = "ValueError.__new__") && refsT veTail bm) || ((decide (nid = "LookupError.__new__") && refsT leTail bm) || (decide (nid = "ArithmeticError.__new__") && refsT aeTail bm))
theorem chainB_ok {nid : String} {bm : List Value} (h : chainB nid bm = true) : ChainB nid bm := by
  unfold chainB at h
  simp only [Bool.or_eq_true, Bool.and_eq_true, decide_eq_true_eq] at h
  rcases h with ⟨rfl, h⟩ | ⟨rfl, h⟩ | ⟨rfl, h⟩
  · exact chain_VE h
  · exact chain_LE h
  · exact chain_AE h
theorem ChainB.passC {nid : String} {bm : List Value} (h : ChainB nid bm) (C : Addr) (self : Value) : refuseLoop self "__setattr__" (.ref C :: bm) = pure () := by
  rw [refuseLoop_ref]; exact h.pass self
theorem ChainB.objC {nid : String} {bm : List Value} (h : ChainB nid bm) (C : Addr) : (Value.ref C :: bm).contains (.type "object") = true := by
  rw [List.contains_cons, h.obj, Bool.or_true]
section
variable {prog : Program} {w : World} {A : Around} {E : Value → Shared → Prop} {R : Result → Shared → Prop} {hp : Heap} {g : Array GenState} {d : Drawn} {t : Nat} {os : OsState}
theorem osa_first {K : W.Frag} {name : Str} {tk : Tok} {v : Value} {x C : Addr} {fv : Array Value} {cd : ClassData}
    (KI : K.In hp) (ax : hp.get? x = some { cls := .ref C, data := .fields fv }) (cx : W.clsIn K C = some cd) (px : ∀ self, refuseLoop self "__setattr__" cd.mro = pure ()) (ob : cd.mro.contains (.type "object") = true) (hd1 : cd.hasDict = true) (na : W.findIn K (.ref C) name = some none)
    (back : ∀ h' tk' dx, (∀ b o, b ≠ x → hp.get? b = some o → h'.get? b = some o) → hp.objs.size ≤ dx → dx ≠ x → h'.get? x = some { cls := .ref C, dict := some dx, data := .fields fv } →
      h'.Ns1 dx (fun y => if y = name then some v else none) → R (.ok (.ret .none)) ⟨h', g, d, tk', os⟩) :
    codeAny (model prog w) A (.call (.builtin "object.__setattr__") ⟨[.ref x, .str name tk, v], []⟩) R ⟨hp, g, d, t, os⟩ := by
  have IA : W.InstAt hp x { cls := .ref C, data := .fields fv } C none := ⟨ax, rfl, rfl, trivial⟩
  have ST := F.store_object
  have nem : cd.mro.isEmpty = false := by
    cases q : cd.mro with
    | nil => rw [q] at ob; cases ob
    | cons _ _ => rfl
  have xne : x ≠ hp.objs.size := Nat.ne_of_lt (Heap.lt_size ax)
  have isO : W.Looks (model prog w) hp (isInstance (.ref x) (.type "object")) true := IA.type.andThen (W.looks_mroIn KI (by unfold W.mroIn; rw [cx, Option.bind_some, if_neg (by rw [nem]; decide), ob]))
  refine codeAny_call_builtin ST.slot.plain ST.entry (@W.check_slot (model prog w) _ _ ⟨hp, g, d, t, os⟩ "object.__setattr__" "object" "__setattr__" (.ref x) [.str name tk, v] [] _ ST.kind ST.split isO (ST.args (.ref x) (.str name tk) v) ?_)
  have mr : W.Looks (model prog w) hp (mroOf (.ref C)) cd.mro := (W.looks_clsIn KI cx).andThen .now
  have st0 : W.Looks (model prog w) hp (storeTaker? none) none := .now
  have cl0 : W.Looks (model prog w) hp (classData C) cd := W.looks_clsIn KI cx
  rw [W.osa_eq, refuse_eq]
  refine wpAny_bind (wpAny_bind (IA.type.at (wpAny_bind (mr.at ?_))))
  rw [px]
  refine wpAny_pure (wpAny_bind (IA.type.at (wpAny_bind ((W.looks_findIn KI na).at (wpAny_bind (st0.at ?_))))))
  show wpAny _ _ (storeInOwnDict (.ref x) (.ref C) (.str name tk) name v false) _ _ _
  obtain ⟨nm, bs, mro, ns, qn, hdd, sn, sb, ab, col, dl⟩ := cd
  dsimp only at hd1
  subst hd1
  unfold storeInOwnDict ownDictForStores
  repeat (first | with_reducible refine store_in_new ?_ ?_ | with_reducible refine wpAny_loadPart_at ax ?_ | with_reducible refine cl0.at ?_ | wp_step)
  · exact ⟨_, #[], _, (Heap.get?_update_ne _ _ _ _ xne.symm).trans (Heap.get?_push_at rfl rfl), rfl, fun e he => absurd he (by simp), fun _ => rfl⟩
  · intro h' tk' nsN sb
    have ax1 : (hp.push { cls := .type "dict", data := .dict #[] }).get? x = some { cls := .ref C, data := .fields fv } := Heap.get?_push_of_some _ ax
    refine back h' tk' hp.objs.size (fun b o nb bo => ?_) (Nat.le_refl _) xne.symm ?_ nsN
    · exact (sb.2 b (Nat.ne_of_lt (Heap.lt_size bo))).trans ((Heap.get?_update_ne _ _ _ _ nb).trans (Heap.get?_push_of_some _ bo))
    · exact (sb.2 x xne).trans (Heap.get?_update_self _ ax1 rfl)
end
end XvX
end PySem
namespace PySem
namespace XvX
open PySem.W PySem.Calls PyProof.Rows PySem.HandSPX
def iA (p1 p2 : Pos) : Arguments := { posonlyargs := [], args := [{ arg := "self", annotation := none, pos := p1 }, { arg := "value", annotation := none, pos := p2 }], vararg := none, kwonlyargs := [], kw_defaults := [], kwarg := none, defaults := [] }
def iB (q1 q2 q3 q4 : Pos) : List Stmt := [.Assign [.Attribute (.Name "self" q1) "value" q2] (.Name "value" q3) q4]
def iS : Scope := { kind := .function, names := [(PySem.Str.ofString "self", .local), (PySem.Str.ofString "value", .local)], isGenerator := false, isCoroutine := false, more := [] }
structure XvTxt (K : Frag) (mg : Str → Option Value) (cn : Str) (qn : Str) (C fI : Addr) : Prop where
  gC : mg cn = some (.ref C)
  cls : ∃ nid nm q N bs bm sn sub ab col dd k0 k1 k2 k3 k5, K.lookup C = some (excClassObj nm q C N bs bm true sn sub ab col dd k0 k1 k2 k3 k5 nid) ∧ ChainB nid bm
  sa : findIn K (.ref C) "__setattr__" = some (some (.builtin "object.__setattr__"))
  ga : findIn K (.ref C) "__getattribute__" = some (some (.builtin "BaseException.__getattribute__"))
  gg : findIn K (.ref C) "__getattr__" = some none
  noN : findIn K (.ref C) "value" = some none
  iC : findIn K (.ref C) "__init__" = some (some (.ref fI))
  tC : typeIn K (.ref fI) = some (.type "function")
  kC : keepIn K (.ref C) = true
  exC : subIn K (.ref C) (.type "BaseException") = some true
  tyC : typeIn K (.ref C) = some (.type "type")
  hdC : hasDictIn K C = true
  te : exmOne K (.ref C) (.ref C) = some true
  fn : ∃ (oc : Value) (od : Option Addr) (kV doc pm : Value) (an : Option Addr) (cdv ct : Value) (osl : Array (Option Value)) (p1 p2 q1 q2 q3 q4 : Pos),
    K.lookup fI = some ⟨oc, od, .func (fnOf "__init__" qn (iA p1 p2) (iB q1 q2 q3 q4) iS .none kV doc pm an cdv ct), osl⟩ ∧ codeIn K cdv qn = true
theorem xv_one (v : Value) : [v].length ≤ sizeLine := by
  rw [sizeLine_eq]
  exact (by decide : 1 ≤ 16777216)
theorem xvLd {M : Model} {s : Shared} {name : Str} {scope : Scope} {L a : Addr} {cd : Value} {m : Str → Option Value} {x : Str} {pos : Pos} {v : Value} {Q : Value → Shared → Prop} {A : Around} {E : Value → Shared → Prop} (hn : s.heap.Ns L m) (hv : m x = some v) (h : Q v s)
    (hk : scope.kind = .function := by rfl) (hl : (envOfC name scope L a cd).kindOf x = some .local := by rfl) (hd : (x == ("__debug__" : Str)) = false := by decide) :
    wpAny M A (eval (.Name x pos) (envOfC name scope L a cd)) Q E s := wpAny_Name (wpAny_loadName_local hk hl hn hv h) hd
structure XvEnd (h h' : Heap) (x C dx t1 : Addr) (v : Value) : Prop where
  keep : ∀ b o, b ≠ x → h.get? b = some o → h'.get? b = some o
  obj : h'.get? x = some { cls := .ref C, dict := some dx, data := .fields #[.ref t1, .none, .none, .none, .bool false, .none] }
  dbig : h.objs.size ≤ dx
  dne : dx ≠ x
  ns : h'.Ns1 dx (fun y => if y = "value" then some v else none)
structure XvMade (h h' : Heap) (e C d : Addr) (v : Value) : Prop where
  keep : ∀ b o, h.get? b = some o → h'.get? b = some o
  new : h.objs.size ≤ e
  obj : ∃ oe vs, h'.get? e = some oe ∧ oe.cls = .ref C ∧ oe.dict = some d ∧ oe.data = .fields vs ∧ vs[1]? = some .none ∧ vs[2]? = some .none ∧ 4 < vs.size
  dbig : h.objs.size ≤ d
  dne : d ≠ e
  ns : h'.Ns1 d (fun y => if y = "value" then some v else none)
section
variable {prog : Program} {w : World} {A : Around} {E : Value → Shared → Prop} {R : Result → Shared → Prop} {s : Shared} {K : Frag} {mg : Str → Option Value} {cn : Str} {qn : Str} {C fI : Addr}
theorem xv_init (T : XvTxt K mg cn qn C fI) {x t0 : Addr} {v : Value} (X : K.In s.heap) (hlim : s.heap.NoLimit) (hx : s.heap.get? x = some (excO C t0)) (hnx : K.lookup x = none) (hroom : A.depth < recursionLimit)
    (hq : ∀ h' tk dx, XvEnd s.heap h' x C dx t0 v → R (.ok (.ret .none)) { s with heap := h', toks := tk }) :
    codeAny (model prog w) A (.call (.ref fI) ⟨[.ref x, v], []⟩) R s := by
  obtain ⟨oc, od, kV, doc, pm, an, cdv, ct, osl, p1, p2, q1, q2, q3, q4, ho, hcd⟩ := T.fn
  obtain ⟨nid, nm, q, N, bs, bm, sn, sub, ab, col, dd, k0, k1, k2, k3, k5, hC, hbm⟩ := T.cls
  have hcl : clsIn K C = some { name := nm, bases := bs, mro := .ref C :: bm, ns := N, qualname := q, hasDict := true, slotNames := sn, subclasses := sub, abstract := ab, collection := col, hasDel := false } := by unfold clsIn; rw [hC] <;> rfl
  refine Att.call_fn (binds := [("self", .ref x), ("value", v)]) X hlim ho hcd hroom (BindsTo.of_eq (by first | rfl | with_unfolding_all rfl)) (by first | rfl | decide | with_unfolding_all rfl) (fun s₁ IC => ?_) rfl rfl rfl
  obtain ⟨h₁, tk₁, rfl⟩ := IC.toInCall.same
  have k : ∀ b o, s.heap.get? b = some o → h₁.get? b = some o := IC.toInCall.keep
  have hn := IC.toInCall.ns
  have hxL : s.heap.objs.size ≠ x := Nat.ne_of_gt (Heap.lt_size hx)
  have X₁ : K.In h₁ := X.keeps k
  have hx₁ := k _ _ hx
  -- self.by = by
  show wpAny _ _ (execs _ _) _ _ _
  refine wpAny_execs_cons (plainObj_wpAny_Assign_Attribute ?_)
  refine xvLd (v := v) hn (by first | rfl | with_unfolding_all rfl | kernel_rfl) (xvLd (v := .ref x) hn (by first | rfl | with_unfolding_all rfl | kernel_rfl) ?_)
  refine set_plain X₁ (ox := excO C t0) (od := none) ⟨hx₁, rfl, rfl, trivial⟩ T.sa ?_
  refine osa_first X₁ hx₁ hcl (hbm.passC C) (hbm.objC C) rfl T.noN (fun h₃ tk₃ dx k₃ dn dne hx₃ hn₃ => ?_)
  show wpAny _ _ (execs _ _) _ _ _
  have z : s.heap.objs.size < h₁.objs.size := hn.lt
  exact wpAny_execs_nil (hq h₃ tk₃ dx ⟨fun b o hb e => k₃ b o hb (k b o e), hx₃, Nat.le_of_lt (Nat.lt_of_lt_of_le z dn), dne, hn₃⟩)
end
end XvX
end PySem
namespace L2
open PySem PySem.Spec PyProof.Rows
section
variable {X : Cx} {cn : Str} {qn : Str} {C fI : Addr}
end
end L2
namespace DL
open PySem L2
variable [TabL]
variable {F : Fam} {S S1 : ST} {P : Po} {rest : List Stmt}
end DL
namespace SL
open PySem L2 DL
variable [TabL]
section
variable {C : Kc} {mg : Str → Option Value} {base : Heap} {x qual : Str} {st : Stmt} {f : Addr} {fd : FuncData} {N ps : List Str} {k : Nat}
end
section
variable {F : Fam} {S : ST} {a : Expr} {oe : O D} {rest : List Stmt} {R : Type} {P : R → Po}
end
end SL
namespace DL
open PySem L2
variable [TabL]
variable {F : Fam} {S S1 : ST} {P : Po} {rest : List Stmt} {e : Expr} {es : List Expr} {ds : List D}
end DL
namespace SL
open PySem L2 DL
variable [TabL]
variable {F : Fam} {S : ST} {R : Type} {P : R → Po} {rest : List Stmt} {e : Expr} {es : List Expr} {os : O (List D)} {oz : O Xr}
end SL
namespace HX
open PySem PySem.Spec PyProof.Rows L2
structure ExC (K : PySem.W.Frag) (D : Addr) : Prop where
  cl : (PySem.W.clsIn K D).isSome = true
  hg : PySem.W.findIn K (.ref D) "__getattribute__" = some (some (.builtin "BaseException.__getattribute__"))
  hk : PySem.W.findIn K (.ref D) "__getattr__" = some none
  hs : PySem.W.subIn K (.ref D) (.type "BaseException") = some true
  hd : PySem.W.hasDictIn K D = true
  ha : PySem.W.findIn K (.ref D) "__class__" = some (some (.builtin "object.__class__"))
  hn : PySem.W.specialIn K (.builtin "object.__class__") "__get__" = some (some (.builtin "getset_descriptor.__get__"))
  ht : PySem.W.takesIn K (.builtin "object.__class__") = some true
  hm : PySem.W.mroIn K D (.type "object") = some true
structure FnP (P : Program) (w : World) (K : PySem.W.Frag) (mg : Str → Option Value) (base : Heap) (CX : CXT) (k : Nat) (f : Addr) (fd : FuncData) (ps : List Str) (p : Addr × Obj) (sp : Sp) : Prop where
  len : ∀ vs H Q E, sp vs H Q E → vs.length = ps.length
  run : ∀ (A : Around) (outer : List Env) (s : Shared) (H : Hp) (args : Args) (us : List Value) (vs : List V) (Q : VK) (E : XK), L2H.RoomH k A → A.guards = some [] → L2H.PinOk outer H s p → Env0 P w K mg base A outer s H → BindsTo s fd args (ps.zip us) → Vals vs us → sp vs H Q E → codeAny (model P w) A (.call (.ref f) args) (CR CX outer P w H s Q E) s
end HX
namespace HX
open PySem PySem.Spec PyProof.Rows L2
section
variable {X : Cx} {x1 x2 x3 n : Str} {c1 c2 c3 : Value} {i kk : Nat} {body suite : List Stmt} {b₀ : Stmt} {p1 p2 p3 tp pos pos' : Pos} {tb : WX → TS} {ts : Addr → Value → Option Addr → TS}
end
end HX
namespace LamX
open PySem PySem.Spec PyProof.Rows L2 NdefX
structure GrowT (P : Addr) (H H1 : Hp) : Prop where
  e : ExtN H H1
  d : ∀ a, H a ≠ none → H1 a ≠ none
  k : ∀ a o, a ≠ P → H a = some o → H1 a = some o
section
variable {X : Cx} {pins : List (Addr × Obj)} {σ : L2.St} {H : Hp} {s : Shared}
end
section
variable {X : Cx}
end
end LamX
namespace DL
open PySem L2
variable [TabL]
def PLm (E : XK) : Po := { W := fun cls d _ H => E cls d H }
def famL (F : Fam) (sc : Scope) (E : XK) (k0 : Nat) : Fam where
  I := { j : F.I × Around × List Env × Shared × Hp × Addr × Addr // Room k0 (j.2.1.deeper (LamX.lamEnv (F.X j.1) sc j.2.2.2.1.heap.objs.size j.2.2.2.2.2.1 j.2.2.2.2.2.2)) }
  X := fun j => LamX.lamCx (F.X j.1.1) j.1.2.1 j.1.2.2.1 j.1.2.2.2.1 j.1.2.2.2.2.1 E sc j.1.2.2.2.2.2.1 j.1.2.2.2.2.2.2
  P := F.P
  w := F.w
  C := F.C
  mg := F.mg
  base := F.base
  N := F.N
  k := k0
  hP := fun j => F.hP j.1.1
  hw := fun j => F.hw j.1.1
  hK := fun j => F.hK j.1.1
  hmg := fun j => F.hmg j.1.1
  hbase := fun j => F.hbase j.1.1
  hN := fun j => F.hN j.1.1
  nd := F.nd
  roomH := fun j => ⟨j.2.dp, j.2.un⟩
  cP := F.cP
  cw := F.cw
instance {F : Fam} {sc : Scope} {E : XK} {k0 : Nat} : Calm (famL F sc E k0) := ⟨fun _ => rfl, fun j => j.2.hd⟩
section
variable {F : Fam} {S S1 S2 : ST} {e a : Expr} {es : List Expr} {kws : List Keyword} {ds : List D} {pos p apos : Pos} {E : XK} {k : Nat} {z : Xr} {nm : Str}
section
variable (P : Program) (w : World) (C : Kc) (mg : Str → Option Value) (base : Heap)
end
end
end DL
namespace DL
open PySem L2
variable [TabL]
section
variable {C : Kc} {mg : Str → Option Value} {base : Heap}
end
section
variable {F : Fam} {S : ST} {e T : Expr} {d : D} {pos p : Pos} {a dx C0 : Addr} {fs : List (Str × D)}
end
end DL
namespace DL
open PySem L2 PyProof.Rows
variable [TabL]
section
variable {P : Program} {w : World} {C : Kc} {mg : Str → Option Value} {base : Heap} {k : Nat}
end
end DL
namespace DL
open PySem L2 PyProof.Rows
variable [TabL]
section
variable {F : Fam} {S : ST} {e body : Expr} {d : D} {pos p lpos : Pos} {k : Nat} {x : Str} {ψ : Nat → List D → SL.O D} {params : Arguments} {scope : Scope} {z : Xr} {c P0 : Addr} {nm : Nat → Nat → Str}
structure LamT (F : Fam) (c P0 : Addr) (nm : Nat → Nat → Str) (qual : Str) : Prop where
  tb : LamX.TabB F.base F.mg c P0
  cd : ∀ i, (F.X i).env.code = .ref c
  qu : ∀ i, (F.X i).env.qual = qual
  mem : (P0, nm) ∈ TabL.T
  un : ∀ q ∈ TabL.T, q.1 = P0 → q.2 = nm
end
end DL
namespace SL
open PySem L2 DL
variable [TabL]
def excName : Nat → Str
  | 100 => "InvalidNumber" | 101 => "InvalidText" | 102 => "InvalidCells" | 103 => "InvalidPlace" | 104 => "InvalidSide" | 105 => "InvalidRow" | 106 => "InvalidColours" | 107 => "InvalidLetters" | 108 => "InvalidMoves" | 109 => "InvalidGood" | 110 => "InvalidKind" | 111 => "InvalidAmounts"
  | 112 => "InvalidGuards" | 113 => "InvalidDeeds" | 114 => "InvalidLine" | 115 => "NotAFold" | 116 => "NotARaisin" | 117 => "NotAWatch" | 118 => "Outside" | 119 => "OtherColours" | 120 => "Busy" | 121 => "NothingToUndo" | 122 => "Refused" | 123 => "TooMany"
  | 124 => "ShapeError" | 125 => "QuestionError" | 126 => "SizeError" | _ => ""
def excBase (c : Nat) : Nat := if c < 118 then 124 else if c < 123 then 125 else 126
def isE (c t : Nat) : Bool := Nat.beq c t || Nat.beq (excBase c) t
def baseName (c : Nat) : String := if c < 118 then "ValueError" else if c < 123 then "LookupError" else "ArithmeticError"
def isEB (c : Nat) (T : String) : Bool := baseName c == T
structure TxE (C : Kc) (mg : Str → Option Value) (L Lc : List Nat) : Prop where
  ex : ∀ c ∈ L, HX.ExC C.K (C.xc c)
  cn : ∀ t ∈ Lc, mg (excName t) = some (.ref (C.xc t))
  ki : ∀ c ∈ L, ∀ t ∈ Lc, PySem.W.kitOne C.K (.ref (C.xc c)) (.ref (C.xc t)) = some (isE c t)
  kb : ∀ c ∈ L, ∀ T ∈ ["ValueError", "LookupError", "ArithmeticError"], PySem.W.kitOne C.K (.ref (C.xc c)) (.type T) = some (isEB c T)
  fl : ∀ c ∈ L, ∀ f ∈ excFields c, PySem.W.findIn C.K (.ref (C.xc c)) f = some none
  tr : ∀ c ∈ L, PySem.W.exmAny C.K (.ref (C.xc c)) [.ref (C.xc 124), .ref (C.xc 125), .ref (C.xc 126)] = some true
  b3 : ∀ T ∈ [("ValueError" : Str), "LookupError", "ArithmeticError"], mg T = none
section
variable {C : Kc} {mg : Str → Option Value} {base : Heap} {x qual : Str} {st : Stmt} {f : Addr} {fd : FuncData} {n : Str} {N : List Str} {k : Nat} {L : List Nat}
end
section
variable {F : Fam} {S : ST} {e : Expr} {pos p q : Pos} {a dx : Addr} {fs : List D} {L Lc : List Nat} {c t : Nat} {nm : Str}
def fxO (c : Nat) (fs : List D) (f : Str) : O D := match ((excFields c).zip fs).lookup f with
  | some d => .ok d
  | none => .bad
theorem zip_mem {f : Str} {d : D} : ∀ {ns : List Str} {fs : List D}, (ns.zip fs).lookup f = some d → f ∈ ns
  | [], _, h => by simp at h
  | _ :: _, [], h => by simp at h
  | n :: ns, g :: fs, h => by
    rw [List.zip_cons_cons, List.lookup_cons] at h
    cases e : (f == n) with
    | true => rw [eq_of_beq e]; exact List.mem_cons_self
    | false => rw [e] at h; exact List.mem_cons_of_mem _ (zip_mem h)
end
def ansO (ψ : Nat → List D → O D) : Xr → O D
  | .r d => .ok (.lst [.str "returned", d])
  | .x c fs => ψ c fs
@[simp] theorem ansO_r (ψ : Nat → List D → O D) (d : D) : ansO ψ (.r d) = .ok (.lst [.str "returned", d]) := rfl
@[simp] theorem ansO_x (ψ : Nat → List D → O D) (c : Nat) (fs : List D) : ansO ψ (.x c fs) = ψ c fs := rfl
section
variable {F : Fam} {S : ST} {body : Expr} {pos p lpos : Pos} {k : Nat} {x : Str} {ψ : Nat → List D → O D} {params : Arguments} {scope : Scope} {oz : O Xr} {c P0 : Addr} {nm : Nat → Nat → Str} {qual : Str}
end
section
variable {F : Fam} {S : ST} {e a : Expr} {es : List Expr} {kws : List Keyword} {pos p apos : Pos} {E : XK} {k c : Nat} {m : Str} {φ : List D → O Xr} {oa : O D} {os : O (List D)}
end
end SL
namespace SL
open PySem L2 DL
variable [TabL]
section
variable {F : Fam} {S : ST} {pos : Pos}
theorem de_dic0 : DE F (.Dict [] [] pos) S S (.dic []) := fun σ G H c Q q => evv_nd (S := S) σ G H c Q fun v G2 H2 m st => by
  cases st with
  | @own p o mo h1 h2 h3 h4 =>
    have gg : Same G2 (upd G2 p o) := fun a u h => by rw [upd_ne (ne_of_none h h2)]; exact h
    exact q _ _ _ (Mv.freezeNew c m h1 h2 h3) ((h4.mono gg).den upd_same)
theorem p_dic0 : DEp F (.Dict [] [] pos) S (.ok (.dic [])) := fun d q => by cases q; exact de_dic0
def bi_reprZ : List D → O D
  | [.dic []] => .ok (.str "{}")
  | [.int i] => if i.natAbs.log2 < 1920 then .ok (.str (toString i)) else .bad
  | ds => bi_reprY ds
theorem ca_reprD0 (hG : ∀ i, (F.X i).A.guards = some []) : CaD F (.builtin "repr") [.dic []] (.str "{}") :=
  ⟨fun xs H Q => ∃ a o, xs = [.ref a] ∧ H a = some (ND.NDO F.C.P F.C.w a o []) ∧ Q (.str "{}") H, fun i => by
    intro pins s σ H xs us Q I r h
    obtain ⟨a, o, rfl, ha, q⟩ := h
    obtain ⟨u, rfl, rx⟩ := vals1 r
    cases (show u = Value.ref a from rx)
    obtain ⟨⟨_, hsm, _, es, ep, h4, h5, h6, h7⟩, _, _⟩ := I.hok a _ ha
    have e0 : es.toList = [] := h7
    have rd : Reads s.heap (.ref a) (.dict []) (a :: [] ++ []) := Reads.dict (kvs := []) h4 h5.1 h6 (by rw [e0]; exact .nil) (by rw [e0]; exact .nil)
    have hu := F.units i
    refine repr_of_reads' rd rfl (fun _ z => ?_) (hG i) ?_ (fun _ _ z => z) (fun h' t tk kp => ⟨.str "{}", H, I.kept kp, ⟨t, rfl⟩, q⟩) ?_
    · have e1 : sysModules = a := by simpa using z
      rw [e1] at hsm
      simp at hsm
    · show (F.X i).A.units + (0 + 1 + 1) < cLine
      omega
    · decide, fun G H us s h Q q => by
    cases h with
    | cons h l => cases l; cases h with
      | @dN a o xs kds h1 h3 => cases h3; exact ⟨a, o, rfl, s _ _ h1, q _ _ _ (.refl s) (.str _)⟩⟩
theorem ca_reprI {i : Int} (hi : i.natAbs.log2 < 1920) : CaD F (.builtin "repr") [.int i] (.str (toString i)) :=
  ⟨fun xs H Q => xs = [.int i] ∧ Q (.str (toString i)) H, fun k => by
    intro pins s σ H xs us Q I r h
    obtain ⟨rfl, q⟩ := h
    obtain ⟨u, rfl, rx⟩ := vals1 r
    obtain ⟨t, rfl⟩ := rx
    exact PySem.P.repr_of_int hi ⟨.str _, H, I.tok _, ⟨_, rfl⟩, q⟩, fun G H us s h Q q => by
    cases h with
    | cons h l => cases h; cases l; exact ⟨rfl, q _ _ _ (.refl s) (.str _)⟩⟩
theorem s_reprZ (hG : ∀ i, (F.X i).A.guards = some []) : CaS F (.builtin "repr") bi_reprZ := fun ds z h => by
  unfold bi_reprZ at h
  split at h
  · cases h; exact ca_reprD0 hG
  · split at h
    · cases h; exact ca_reprI (by assumption)
    · cases h
  · exact s_reprY hG _ _ h
end
end SL
namespace SL
open PySem L2 DL
variable [TabL]
section
variable {F : Fam} {S : ST} {a : Expr} {oe : O D} {rest : List Stmt} {R : Type} {P : R → Po}
end
end SL
namespace L2
open PySem PySem.Spec PyProof.Rows
variable {X : Cx}
end L2
namespace SL
open PySem L2 DL
variable [TabL]
variable {F : Fam}
end SL
namespace DL
open PySem L2 PyProof.Rows
variable [TabL]
inductive Xi where
  | r (fs : List (Str × D))
  | x (c : Nat) (fs : List D)
section
variable {C : Kc} {mg : Str → Option Value} {base : Heap}
end
section
variable (P : Program) (w : World) (C : Kc) (mg : Str → Option Value) (base : Heap)
end
section
variable {F : Fam} {S S1 : ST} {e a : Expr} {es : List Expr} {kws : List Keyword} {ds : List D} {pos p : Pos} {E : XK} {k : Nat} {nm : Str}
end
end DL
namespace SL
open PySem L2 DL
variable [TabL]
section
variable {C : Kc} {mg : Str → Option Value} {base : Heap} {x qual : Str} {st : Stmt} {f : Addr} {fd : FuncData} {n : Str} {N ps : List Str} {k c : Nat}
end
section
variable {F : Fam} {S : ST} {e : Expr} {es : List Expr} {kws : List Keyword} {os : O (List D)} {pos p : Pos} {E : XK} {k c : Nat} {nm : Str} {ψ : List D → O Xi}
end
end SL
namespace PySem
namespace XvI
open PySem.W PySem.Calls PyProof.Rows PySem.HandSPX PySem.XvX
def iA (p1 p2 : Pos) : Arguments := { posonlyargs := [], args := [{ arg := "self", annotation := none, pos := p1 }, { arg := "index", annotation := none, pos := p2 }], vararg := none, kwonlyargs := [], kw_defaults := [], kwarg := none, defaults := [] }
def iB (q1 q2 q3 q4 : Pos) : List Stmt := [.Assign [.Attribute (.Name "self" q1) "index" q2] (.Name "index" q3) q4]
def iS : Scope := { kind := .function, names := [(PySem.Str.ofString "self", .local), (PySem.Str.ofString "index", .local)], isGenerator := false, isCoroutine := false, more := [] }
structure XiTxt (K : Frag) (mg : Str → Option Value) (cn : Str) (qn : Str) (C fI : Addr) : Prop where
  gC : mg cn = some (.ref C)
  cls : ∃ nid nm q N bs bm sn sub ab col dd k0 k1 k2 k3 k5, K.lookup C = some (excClassObj nm q C N bs bm true sn sub ab col dd k0 k1 k2 k3 k5 nid) ∧ ChainB nid bm
  sa : findIn K (.ref C) "__setattr__" = some (some (.builtin "object.__setattr__"))
  ga : findIn K (.ref C) "__getattribute__" = some (some (.builtin "BaseException.__getattribute__"))
  gg : findIn K (.ref C) "__getattr__" = some none
  noN : findIn K (.ref C) "index" = some none
  iC : findIn K (.ref C) "__init__" = some (some (.ref fI))
  tC : typeIn K (.ref fI) = some (.type "function")
  kC : keepIn K (.ref C) = true
  exC : subIn K (.ref C) (.type "BaseException") = some true
  tyC : typeIn K (.ref C) = some (.type "type")
  hdC : hasDictIn K C = true
  te : exmOne K (.ref C) (.ref C) = some true
  fn : ∃ (oc : Value) (od : Option Addr) (kV doc pm : Value) (an : Option Addr) (cdv ct : Value) (osl : Array (Option Value)) (p1 p2 q1 q2 q3 q4 : Pos),
    K.lookup fI = some ⟨oc, od, .func (fnOf "__init__" qn (iA p1 p2) (iB q1 q2 q3 q4) iS .none kV doc pm an cdv ct), osl⟩ ∧ codeIn K cdv qn = true
theorem xi_one (v : Value) : [v].length ≤ sizeLine := by
  rw [sizeLine_eq]
  exact (by decide : 1 ≤ 16777216)
theorem xiLd {M : Model} {s : Shared} {name : Str} {scope : Scope} {L a : Addr} {cd : Value} {m : Str → Option Value} {x : Str} {pos : Pos} {v : Value} {Q : Value → Shared → Prop} {A : Around} {E : Value → Shared → Prop} (hn : s.heap.Ns L m) (hv : m x = some v) (h : Q v s)
    (hk : scope.kind = .function := by rfl) (hl : (envOfC name scope L a cd).kindOf x = some .local := by rfl) (hd : (x == ("__debug__" : Str)) = false := by decide) :
    wpAny M A (eval (.Name x pos) (envOfC name scope L a cd)) Q E s := wpAny_Name (wpAny_loadName_local hk hl hn hv h) hd
structure XiEnd (h h' : Heap) (x C dx t1 : Addr) (v : Value) : Prop where
  keep : ∀ b o, b ≠ x → h.get? b = some o → h'.get? b = some o
  obj : h'.get? x = some { cls := .ref C, dict := some dx, data := .fields #[.ref t1, .none, .none, .none, .bool false, .none] }
  dbig : h.objs.size ≤ dx
  dne : dx ≠ x
  ns : h'.Ns1 dx (fun y => if y = "index" then some v else none)
structure XiMade (h h' : Heap) (e C d : Addr) (v : Value) : Prop where
  keep : ∀ b o, h.get? b = some o → h'.get? b = some o
  new : h.objs.size ≤ e
  obj : ∃ oe vs, h'.get? e = some oe ∧ oe.cls = .ref C ∧ oe.dict = some d ∧ oe.data = .fields vs ∧ vs[1]? = some .none ∧ vs[2]? = some .none ∧ 4 < vs.size
  dbig : h.objs.size ≤ d
  dne : d ≠ e
  ns : h'.Ns1 d (fun y => if y = "index" then some v else none)
section
variable {prog : Program} {w : World} {A : Around} {E : Value → Shared → Prop} {R : Result → Shared → Prop} {s : Shared} {K : Frag} {mg : Str → Option Value} {cn : Str} {qn : Str} {C fI : Addr}
theorem xi_init (T : XiTxt K mg cn qn C fI) {x t0 : Addr} {v : Value} (X : K.In s.heap) (hlim : s.heap.NoLimit) (hx : s.heap.get? x = some (excO C t0)) (hnx : K.lookup x = none) (hroom : A.depth < recursionLimit)
    (hq : ∀ h' tk dx, XiEnd s.heap h' x C dx t0 v → R (.ok (.ret .none)) { s with heap := h', toks := tk }) :
    codeAny (model prog w) A (.call (.ref fI) ⟨[.ref x, v], []⟩) R s := by
  obtain ⟨oc, od, kV, doc, pm, an, cdv, ct, osl, p1, p2, q1, q2, q3, q4, ho, hcd⟩ := T.fn
  obtain ⟨nid, nm, q, N, bs, bm, sn, sub, ab, col, dd, k0, k1, k2, k3, k5, hC, hbm⟩ := T.cls
  have hcl : clsIn K C = some { name := nm, bases := bs, mro := .ref C :: bm, ns := N, qualname := q, hasDict := true, slotNames := sn, subclasses := sub, abstract := ab, collection := col, hasDel := false } := by unfold clsIn; rw [hC] <;> rfl
  refine Att.call_fn (binds := [("self", .ref x), ("index", v)]) X hlim ho hcd hroom (BindsTo.of_eq (by first | rfl | with_unfolding_all rfl)) (by first | rfl | decide | with_unfolding_all rfl) (fun s₁ IC => ?_) rfl rfl rfl
  obtain ⟨h₁, tk₁, rfl⟩ := IC.toInCall.same
  have k : ∀ b o, s.heap.get? b = some o → h₁.get? b = some o := IC.toInCall.keep
  have hn := IC.toInCall.ns
  have hxL : s.heap.objs.size ≠ x := Nat.ne_of_gt (Heap.lt_size hx)
  have X₁ : K.In h₁ := X.keeps k
  have hx₁ := k _ _ hx
  -- self.by = by
  show wpAny _ _ (execs _ _) _ _ _
  refine wpAny_execs_cons (plainObj_wpAny_Assign_Attribute ?_)
  refine xiLd (v := v) hn (by first | rfl | with_unfolding_all rfl | kernel_rfl) (xiLd (v := .ref x) hn (by first | rfl | with_unfolding_all rfl | kernel_rfl) ?_)
  refine set_plain X₁ (ox := excO C t0) (od := none) ⟨hx₁, rfl, rfl, trivial⟩ T.sa ?_
  refine osa_first X₁ hx₁ hcl (hbm.passC C) (hbm.objC C) rfl T.noN (fun h₃ tk₃ dx k₃ dn dne hx₃ hn₃ => ?_)
  show wpAny _ _ (execs _ _) _ _ _
  have z : s.heap.objs.size < h₁.objs.size := hn.lt
  exact wpAny_execs_nil (hq h₃ tk₃ dx ⟨fun b o hb e => k₃ b o hb (k b o e), hx₃, Nat.le_of_lt (Nat.lt_of_lt_of_le z dn), dne, hn₃⟩)
end
end XvI
end PySem
namespace L2
open PySem PySem.Spec PyProof.Rows
section
variable {X : Cx} {cn : Str} {qn : Str} {C fI : Addr}
end
end L2
namespace EXX
open PySem L2 DL EX
variable {K : PySem.W.Frag}
def tyB (K : PySem.W.Frag) (v : Value) (t : String) : Bool := match PySem.W.typeIn K v with
  | some (.type x) => decide (x = t)
  | _ => false
theorem tyB_ok {v : Value} {t : String} (h : tyB K v t = true) : PySem.W.typeIn K v = some (.type t) := by
  unfold tyB at h
  split at h
  · rename_i x e
    rw [e, of_decide_eq_true h]
  · cases h
def clsB (K : PySem.W.Frag) (C : Addr) : Bool := match K.lookup C with
  | some ⟨.type T, _, .cls cd, sl⟩ => decide (T = "type") && (!cd.hasDel && (cd.hasDict && (match cd.mro with
      | .ref c :: bm => decide (c = C) && (match sl.toList with
        | [_, _, _, _, some (.builtin nid), _] => PySem.XvX.chainB nid bm
        | _ => false)
      | _ => false)))
  | _ => false
theorem clsB_ok {C : Addr} (h : clsB K C = true) : ∃ nid nm q N bs bm sn sub ab col dd k0 k1 k2 k3 k5, K.lookup C = some (excClassObj nm q C N bs bm true sn sub ab col dd k0 k1 k2 k3 k5 nid) ∧ PySem.XvX.ChainB nid bm := by
  unfold clsB at h
  split at h
  · rename_i T dd cd sl e
    obtain ⟨h1, h⟩ := He.ba h
    obtain ⟨h2, h⟩ := He.ba h
    obtain ⟨h3, h4⟩ := He.ba h
    obtain ⟨nm, bs, mro, ns, qn, hdct, sn, sub, ab, col, hdel⟩ := cd
    dsimp only at h2 h3 h4
    rcases mro with _ | ⟨v, bm⟩
    · cases h4
    · obtain ⟨c, rfl⟩ : ∃ c, v = .ref c := by cases v <;> first | exact ⟨_, rfl⟩ | cases h4
      dsimp only at h4
      obtain ⟨h6, h5⟩ := He.ba h4
      split at h5
      · rename_i k0 k1 k2 k3 nid k5 es
        have e1 := of_decide_eq_true h1
        have e6 := of_decide_eq_true h6
        subst e1 e6 h3
        have e2 : hdel = false := by simpa using h2
        subst e2
        have e4 : sl = #[k0, k1, k2, k3, some (.builtin nid), k5] := by
          rw [← Array.toList_inj]
          exact es
        subst e4
        exact ⟨nid, nm, qn, ns, bs, bm, sn, sub, ab, col, dd, k0, k1, k2, k3, k5, e, PySem.XvX.chainB_ok h5⟩
      · cases h5
  · cases h
def xvB (K : PySem.W.Frag) (C fI : Addr) (f : Str) : Bool := clsB K C && (He.eqO (PySem.W.findIn K (.ref C) "__setattr__") (some (some (.builtin "object.__setattr__"))) && (He.eqO (PySem.W.findIn K (.ref C) "__getattribute__") (some (some (.builtin "BaseException.__getattribute__"))) &&
  (He.eqO (PySem.W.findIn K (.ref C) "__getattr__") (some none) && (He.eqO (PySem.W.findIn K (.ref C) f) (some none) && (He.eqO (PySem.W.findIn K (.ref C) "__init__") (some (some (.ref fI))) && (tyB K (.ref fI) "function" && (PySem.W.keepIn K (.ref C) &&
  (eqB (PySem.W.subIn K (.ref C) (.type "BaseException")) true && (tyB K (.ref C) "type" && (PySem.W.hasDictIn K C && eqB (PySem.W.exmOne K (.ref C) (.ref C)) true))))))))))
theorem xv_of {mg : Str → Option Value} {cn qn : Str} {C fI : Addr} {fd : FuncData} {p1 p2 q1 q2 q3 q4 : Pos} (g : mg cn = some (.ref C)) (h : xvB K C fI "value" = true) (F : FunD K "__init__" qn (PySem.XvX.iA p1 p2) (PySem.XvX.iB q1 q2 q3 q4) PySem.XvX.iS [] [] fI fd) : PySem.XvX.XvTxt K mg cn qn C fI := by
  obtain ⟨h1, h⟩ := He.ba h
  obtain ⟨h2, h⟩ := He.ba h
  obtain ⟨h3, h⟩ := He.ba h
  obtain ⟨h4, h⟩ := He.ba h
  obtain ⟨h5, h⟩ := He.ba h
  obtain ⟨h6, h⟩ := He.ba h
  obtain ⟨h7, h⟩ := He.ba h
  obtain ⟨h8, h⟩ := He.ba h
  obtain ⟨h9, h⟩ := He.ba h
  obtain ⟨h10, h⟩ := He.ba h
  obtain ⟨h11, h12⟩ := He.ba h
  obtain ⟨oc, od, dV, kV, doc, pm, an, cdv, ct, osl, e, lk, hcd, hD, _⟩ := F.ex
  rcases hD with ⟨_, rfl⟩ | ⟨z, _⟩
  · subst e
    exact ⟨g, clsB_ok h1, eqO_ok h2, eqO_ok h3, eqO_ok h4, eqO_ok h5, eqO_ok h6, tyB_ok h7, h8, eqB_ok h9, tyB_ok h10, h11, eqB_ok h12, ⟨oc, od, kV, doc, pm, an, cdv, ct, osl, p1, p2, q1, q2, q3, q4, lk, hcd⟩⟩
  · exact absurd rfl z
theorem xv_at {mg : Str → Option Value} {cn qn : Str} {C fI : Addr} {fd : FuncData} {st : Stmt} (hs : ∃ p1 p2 q1 q2 q3 q4, defArgs st = PySem.XvX.iA p1 p2 ∧ defBody st = PySem.XvX.iB q1 q2 q3 q4 ∧ defScope st = PySem.XvX.iS) (g : mg cn = some (.ref C)) (h : xvB K C fI "value" = true) (F : FunD K "__init__" qn (defArgs st) (defBody st) (defScope st) [] [] fI fd) :
    ∃ qn fI, PySem.XvX.XvTxt K mg cn qn C fI := by
  obtain ⟨p1, p2, q1, q2, q3, q4, e1, e2, e3⟩ := hs
  rw [e1, e2, e3] at F
  exact ⟨qn, fI, xv_of g h F⟩
def exB (K : PySem.W.Frag) (C : Addr) : Bool := (PySem.W.clsIn K C).isSome && (He.eqO (PySem.W.findIn K (.ref C) "__getattribute__") (some (some (.builtin "BaseException.__getattribute__"))) && (He.eqO (PySem.W.findIn K (.ref C) "__getattr__") (some none) &&
  (eqB (PySem.W.subIn K (.ref C) (.type "BaseException")) true && (PySem.W.hasDictIn K C && (He.eqO (PySem.W.findIn K (.ref C) "__class__") (some (some (.builtin "object.__class__"))) && (getB K && eqB (PySem.W.mroIn K C (.type "object")) true))))))
theorem exB_ok {C : Addr} (h : exB K C = true) : HX.ExC K C := by
  obtain ⟨h1, h⟩ := He.ba h
  obtain ⟨h2, h⟩ := He.ba h
  obtain ⟨h3, h⟩ := He.ba h
  obtain ⟨h4, h⟩ := He.ba h
  obtain ⟨h5, h⟩ := He.ba h
  obtain ⟨h6, h⟩ := He.ba h
  obtain ⟨h7, h8⟩ := He.ba h
  exact ⟨h1, eqO_ok h2, eqO_ok h3, eqB_ok h4, h5, eqO_ok h6, eqO_ok (He.ba h7).1, eqB_ok (He.ba h7).2, eqB_ok h8⟩
def xa (K : PySem.W.Frag) (c : Nat) : Addr := He.ga K (SL.excName c)
def txB (K : PySem.W.Frag) (L Lc : List Nat) : Bool := (L.all fun c => exB K (xa K c)) && ((Lc.all fun t => (He.Fa.glo (SL.excName t)).ok K) && ((L.all fun c => Lc.all fun t => eqB (PySem.W.kitOne K (.ref (xa K c)) (.ref (xa K t))) (SL.isE c t)) &&
  ((L.all fun c => ["ValueError", "LookupError", "ArithmeticError"].all fun T => eqB (PySem.W.kitOne K (.ref (xa K c)) (.type T)) (SL.isEB c T)) && ((L.all fun c => (excFields c).all fun f => He.eqO (PySem.W.findIn K (.ref (xa K c)) f) (some none)) &&
  ((L.all fun c => eqB (PySem.W.exmAny K (.ref (xa K c)) [.ref (xa K 124), .ref (xa K 125), .ref (xa K 126)]) true) && ([("ValueError" : Str), "LookupError", "ArithmeticError"].all fun T => (He.Fa.free T).ok K))))))
theorem tx_of {C : Kc} {hp : Heap} {mg : Str → Option Value} {L Lc : List Nat} (hx : C.xc = xa C.K) (X : C.K.In hp) (G : hp.Ns mainGlobals mg) (h : txB C.K L Lc = true) : SL.TxE C mg L Lc := by
  obtain ⟨h1, h⟩ := He.ba h
  obtain ⟨h2, h⟩ := He.ba h
  obtain ⟨h3, h⟩ := He.ba h
  obtain ⟨h4, h⟩ := He.ba h
  obtain ⟨h5, h⟩ := He.ba h
  obtain ⟨h6, h7⟩ := He.ba h
  refine ⟨fun c hc => ?_, fun t ht => ?_, fun c hc t ht => ?_, fun c hc T hT => ?_, fun c hc f hf => ?_, fun c hc => ?_, fun T hT => ?_⟩
  · rw [hx]; exact exB_ok (List.all_eq_true.mp h1 c hc)
  · rw [hx]; exact He.glo_ok X G (List.all_eq_true.mp h2 t ht)
  · rw [hx]; exact eqB_ok (List.all_eq_true.mp (List.all_eq_true.mp h3 c hc) t ht)
  · rw [hx]; exact eqB_ok (List.all_eq_true.mp (List.all_eq_true.mp h4 c hc) T hT)
  · rw [hx]; exact eqO_ok (List.all_eq_true.mp (List.all_eq_true.mp h5 c hc) f hf)
  · rw [hx]; exact eqB_ok (List.all_eq_true.mp h6 c hc)
  · exact He.free_ok X G (List.all_eq_true.mp h7 T hT)
end EXX
namespace DL
open PySem L2
variable [TabL]
variable {F : Fam} {S S1 : ST} {P : Po} {rest : List Stmt}
end DL
namespace SL
open PySem L2 DL
variable [TabL]
section
variable {F : Fam} {S : ST} {a : Expr} {oe : O D} {rest : List Stmt} {R : Type} {P : R → Po}
end
end SL
namespace EXX
open PySem L2 DL EX
variable {K : PySem.W.Frag}
theorem xi_of {mg : Str → Option Value} {cn qn : Str} {C fI : Addr} {fd : FuncData} {p1 p2 q1 q2 q3 q4 : Pos} (g : mg cn = some (.ref C)) (h : xvB K C fI "index" = true) (F : FunD K "__init__" qn (PySem.XvI.iA p1 p2) (PySem.XvI.iB q1 q2 q3 q4) PySem.XvI.iS [] [] fI fd) : PySem.XvI.XiTxt K mg cn qn C fI := by
  obtain ⟨h1, h⟩ := He.ba h
  obtain ⟨h2, h⟩ := He.ba h
  obtain ⟨h3, h⟩ := He.ba h
  obtain ⟨h4, h⟩ := He.ba h
  obtain ⟨h5, h⟩ := He.ba h
  obtain ⟨h6, h⟩ := He.ba h
  obtain ⟨h7, h⟩ := He.ba h
  obtain ⟨h8, h⟩ := He.ba h
  obtain ⟨h9, h⟩ := He.ba h
  obtain ⟨h10, h⟩ := He.ba h
  obtain ⟨h11, h12⟩ := He.ba h
  obtain ⟨oc, od, dV, kV, doc, pm, an, cdv, ct, osl, e, lk, hcd, hD, _⟩ := F.ex
  rcases hD with ⟨_, rfl⟩ | ⟨z, _⟩
  · subst e
    exact ⟨g, clsB_ok h1, eqO_ok h2, eqO_ok h3, eqO_ok h4, eqO_ok h5, eqO_ok h6, tyB_ok h7, h8, eqB_ok h9, tyB_ok h10, h11, eqB_ok h12, ⟨oc, od, kV, doc, pm, an, cdv, ct, osl, p1, p2, q1, q2, q3, q4, lk, hcd⟩⟩
  · exact absurd rfl z
theorem xi_at {mg : Str → Option Value} {cn qn : Str} {C fI : Addr} {fd : FuncData} {st : Stmt} (hs : ∃ p1 p2 q1 q2 q3 q4, defArgs st = PySem.XvI.iA p1 p2 ∧ defBody st = PySem.XvI.iB q1 q2 q3 q4 ∧ defScope st = PySem.XvI.iS) (g : mg cn = some (.ref C)) (h : xvB K C fI "index" = true) (F : FunD K "__init__" qn (defArgs st) (defBody st) (defScope st) [] [] fI fd) :
    ∃ qn fI, PySem.XvI.XiTxt K mg cn qn C fI := by
  obtain ⟨p1, p2, q1, q2, q3, q4, e1, e2, e3⟩ := hs
  rw [e1, e2, e3] at F
  exact ⟨qn, fI, xi_of g h F⟩
end EXX
namespace DL
open PySem L2
variable [TabL]
variable {F : Fam} {S S1 : ST} {P : Po} {e : Expr} {d : D} {pos : Pos}
end DL
namespace SL
open PySem L2 DL
variable [TabL]
variable {F : Fam} {S : ST} {e : Expr} {oz : O Xr} {pos : Pos} {P : Po}
end SL
namespace L2
open PySem PySem.Spec PyProof.Rows
variable {X : Cx}
def rCntB (K : PySem.W.Frag) : V → List V → Hp → VK → Prop := fun x xs H Q => ∃ (p : Addr) (bs : List Bool) (k : Bool), x = .ref p ∧ xs = [.bl k] ∧ SqL K H p (bs.map V.bl) ∧ Q (.int (bs.count k : Nat)) H
theorem flat_bls (bs : List Bool) : (bs.map V.bl).all flatV = true := List.all_eq_true.mpr fun x hx => by
  obtain ⟨b, _, rfl⟩ := List.mem_map.mp hx
  rfl
theorem eqU_count {k : Bool} : ∀ {us : List Value} {bs : List Bool}, Vals (bs.map V.bl) us → us.countP (eqU (.bl k)) = bs.count k
  | _, [], .nil => rfl
  | _, b :: bs, .cons r h => by
    have ih := eqU_count (k := k) h
    cases r
    rw [List.countP_cons, List.count_cons, ih]
    rfl
theorem mt_bcount : MtR X "list.count" (rCntB X.K) := by
  intro pins s σ H x xs v us Q I rx rxs h
  obtain ⟨p, bs, k, rfl, rfl, hs, q⟩ := h
  cases rx
  obtain ⟨u, rfl, ru⟩ := rxs.one
  cases ru
  obtain ⟨its, rv, ⟨⟨cls, dd, data, sl⟩, n, ho, hc, hdn, hd⟩, hlen⟩ := I.list hs
  simp only at hc hd
  subst hc hd
  refine call_meets PySem.F.slot_list_count ⟨_, ho, rfl⟩ PySem.F.entry_list_count (PySem.F.args_list_count_2 _ _)
    (SeqAt.list_countAt p its.toArray n dd sl (.bool k) (eqU (.bl k))) ⟨ho, fun y hy => mem_eqAt (x := .bl k) rfl rfl rv (flat_bls bs) y (by simpa using hy), ?_⟩
  have ec : its.toArray.toList.countP (eqU (.bl k)) = bs.count k := eqU_count rv
  refine ⟨.int (bs.count k : Nat), H, I.tok _, ⟨s.toks, ?_⟩, q⟩
  show Value.int ((its.toArray.toList.countP (eqU (.bl k)) : Nat) : Int) s.toks = Value.int ((bs.count k : Nat) : Int) s.toks
  rw [ec]
end L2
namespace DL
open PySem L2
variable [TabL]
variable {F : Fam} {S S1 S2 : ST} {o e : Expr}
theorem de_lcount {apos pos : Pos} {bs : List Bool} {k : Bool} (ho : DE F o S S1 (.lst (bs.map D.bl))) (he : DE F e S1 S2 (.bl k))
    (hbase : ∀ i, attributeBase o "count" (F.X i).env (eval o (F.X i).env) = eval o (F.X i).env) (hline : (apos.endLine == pos.line) = true)
    (hfew : ∀ i, ((backTo pos (starEach [e] (F.X i).env)).all (fun x => !x.1) && (backToKw pos (keywordEach [] (F.X i).env)).all (fun x => x.1.isSome)
      && decide ([e].length + ([] : List Keyword).length + (if ([] : List Keyword).isEmpty then 0 else 1) < 30)) = true)
    (hs : ∀ i, starEach [e] (F.X i).env = (false, eval e (F.X i).env) :: starEach [] (F.X i).env) (hpl : ∀ i, (backTo pos (starEach [] (F.X i).env)).any (·.1) = false) :
    DE F (.Call (.Attribute o "count" apos) [e] [] pos) S S2 (.int (bs.count k : Nat)) :=
  de_of (te := tBM F.C.K "list" (rCntB F.C.K) (anyE F o) (tCons (anyE F e) tNil)) (fun i => by
    have := pe_bm (X := F.X i) PySem.F.plainAttrs_list PySem.F.slot_list_count PySem.F.type_list_count mt_bcount (anyE_ok (e := o) i) (pa_cons (anyE_ok (e := e) i) pa_nil (hs i)) (hbase i) (hfew i) hline (hs i) (hpl i)
    rw [F.hK i] at this
    exact this) fun σ G H c Q q => ho σ G H c _ fun v G1 H1 m1 dv => by
    cases dv with
    | @lst a vs _ h1 h2 =>
      have ev := denL_bl h2
      subst ev
      refine ⟨.inl ⟨rfl, _, m1.cx.sub.seq h1⟩, ?_⟩
      refine he σ G1 H1 m1.cx _ fun w G2 H2 m2 dw => ?_
      cases dw
      exact ⟨a, bs, k, rfl, rfl, (m1.trans m2).cx.sub.seq (m2.go.gg.seq h1), q _ _ _ (m1.trans m2) (.int _)⟩
end DL
namespace SL
open PySem L2 DL
variable [TabL]
variable {F : Fam} {S : ST} {o e : Expr} {oa ob : O D} {apos pos : Pos}
def t_count : D → D → O D
  | .lst ds, .bl k => op2 (bls? ds) fun bs => .ok (.int (bs.count k : Nat))
  | _, _ => .bad
theorem p_count (ho : DEp F o S oa) (he : DEp F e S ob)
    (hbase : ∀ i, attributeBase o "count" (F.X i).env (eval o (F.X i).env) = eval o (F.X i).env := by intro _; rfl) (hline : (apos.endLine == pos.line) = true := by rfl)
    (hfew : ∀ i, ((backTo pos (starEach [e] (F.X i).env)).all (fun x => !x.1) && (backToKw pos (keywordEach [] (F.X i).env)).all (fun x => x.1.isSome)
      && decide ([e].length + ([] : List Keyword).length + (if ([] : List Keyword).isEmpty then 0 else 1) < 30)) = true := by intro _; rfl)
    (hs2 : ∀ i, starEach [e] (F.X i).env = (false, eval e (F.X i).env) :: starEach [] (F.X i).env := by intro _; rfl) (hpl : ∀ i, (backTo pos (starEach [] (F.X i).env)).any (·.1) = false := by intro _; rfl) :
    DEp F (.Call (.Attribute o "count" apos) [e] [] pos) S (oa.bind fun x => ob.bind fun y => t_count x y) := fun d q => by
  obtain ⟨x, h1, q1⟩ := O.bind_eq q
  obtain ⟨y, h2, q2⟩ := O.bind_eq q1
  unfold t_count at q2
  split at q2
  · rename_i ds k
    obtain ⟨bs, c, q3⟩ := op2_eq q2
    cases q3
    rw [bls?_eq c] at h1
    exact de_lcount (ho _ h1) (he _ h2) hbase hline hfew hs2 hpl
  · cases q2
end SL
namespace SL
open PySem L2 DL
variable [TabL]
section
variable (P : Program) (w : World) (C : Kc) (mg : Str → Option Value) (base : Heap)
end
section
variable {F : Fam} {S : ST} {e : Expr} {es : List Expr} {kws : List Keyword} {pos apos p : Pos} {os : O (List D)} {k c : Nat} {m nm : Str} {φ : List D → O Xr} {pl : F.I → Sem Bool} {E : XK}
end
section
variable {F : Fam} {S : ST} {e : Expr} {pos p : Pos} {oz : O Xr} {nm : Str} {φ : List D → O D} {P : Po}
end
end SL
namespace HX
open PySem PySem.Spec PyProof.Rows L2
section
variable {X : Cx} {x1 x2 : Str} {c1 c2 : Value} {kk : Nat} {body suite : List Stmt} {b₀ : Stmt} {p1 p2 tp pos pos' : Pos} {tb : WX → TS} {ts : Addr → Value → Option Addr → TS}
end
end HX
namespace DL
open PySem L2 PyProof.Rows
variable [TabL]
def trF (F : Fam) (E : XK) : Fam where
  I := { j : F.I × List (Addr × Obj) × (Value → Shared → Prop) // Takes ((F.X j.1).tr j.2.1 j.2.2) (PLm E).W }
  X := fun j => (F.X j.1.1).tr j.1.2.1 j.1.2.2
  P := F.P
  w := F.w
  C := F.C
  mg := F.mg
  base := F.base
  N := F.N
  k := F.k
  hP := fun j => F.hP j.1.1
  hw := fun j => F.hw j.1.1
  hK := fun j => F.hK j.1.1
  hmg := fun j => F.hmg j.1.1
  hbase := fun j => F.hbase j.1.1
  hN := fun j => F.hN j.1.1
  nd := F.nd
  roomH := fun j => F.roomH j.1.1
  cP := F.cP
  cw := F.cw
instance {F : Fam} {E : XK} [Calm F] : Calm (trF F E) := ⟨fun j => F.calm j.1.1, fun j => Calm.h (F := F) j.1.1⟩
end DL
namespace DL
open PySem L2 PyProof.Rows
variable [TabL]
section
variable {F : Fam} {S : ST} {P : Po} {rest : List Stmt} {e : Expr} {z : Xr} {x1 x2 : Str} {c1 c2 : Value} {kk k0 : Nat} {p1 p2 tp pos pos' q q2 q3 : Pos}
end
end DL
namespace SL
open PySem L2 DL
variable [TabL]
structure Tx2 (C : Kc) (mg : Str → Option Value) (A B : Nat) : Prop where
  ga : mg (excName A) = some (.ref (C.xc A))
  gb : mg (excName B) = some (.ref (C.xc B))
  ea : PySem.W.exmAny C.K (.ref (C.xc A)) [.ref (C.xc A), .ref (C.xc B)] = some true
  eb : PySem.W.exmAny C.K (.ref (C.xc B)) [.ref (C.xc A), .ref (C.xc B)] = some true
section
variable {F : Fam} {S : ST} {R : Type} {P : R → Po} {rest : List Stmt} {e : Expr} {oz : O Xr} {x1 x2 : Str} {A B : Nat} {kk k0 : Nat} {p1 p2 tp pos pos' q q2 q3 : Pos} {ret : D → R}
end
end SL
namespace EXX
open PySem L2 DL EX
end EXX
namespace L2
open PySem PySem.Spec PyProof.Rows
section
variable {X : Cx} {cn : Str} {qn : Str} {C fI : Addr}
end
section
variable {X : Cx} {CX : CXT} {k : Nat} {f C : Addr} {fd : FuncData} {ps : List Str} {sp : Sp} {dvs : List V} {ds : List Value} {E : St → XK} {x m : Str} {p pos apos : Pos} {e o : Expr} {es : List Expr} {ta : TE} {t : TA}
end
end L2
namespace DL
open PySem L2 PyProof.Rows
variable [TabL]
section
variable {C : Kc} {mg : Str → Option Value} {base : Heap}
def famXN (C : Kc) (mg : Str → Option Value) (base : Heap) (N : List Str) (nd : N.Nodup) (qual : Str) (sc : Scope) (f : Addr) (cdv : Value) (A : Around) (outer : List Env) (s : Shared) (H : Hp) (E : XK) (k : Nat) (hr : Room k (A.deeper (PyProof.Rows.envOfC qual sc s.heap.objs.size f cdv))) : Fam where
  I := Unit
  X := fun _ => cxOf (L2N.CX C.P C.w) C.P C.w C.K mg base N qual sc f cdv A outer s H E
  P := C.P
  w := C.w
  C := C
  mg := mg
  base := base
  N := N
  k := k
  hP := fun _ => rfl
  hw := fun _ => rfl
  hK := fun _ => rfl
  hmg := fun _ => rfl
  hbase := fun _ => rfl
  hN := fun _ => rfl
  nd := nd
  roomH := fun _ => ⟨hr.dp, hr.un⟩
  cP := rfl
  cw := rfl
instance {N : List Str} {nd : N.Nodup} {qual : Str} {sc : Scope} {f : Addr} {cdv : Value} {A : Around} {outer : List Env} {s : Shared} {H : Hp} {E : XK} {k : Nat} {hr : Room k (A.deeper (PyProof.Rows.envOfC qual sc s.heap.objs.size f cdv))} : Calm (famXN C mg base N nd qual sc f cdv A outer s H E k hr) := ⟨fun _ => rfl, fun _ => hr.hd⟩
end
section
variable {F : Fam} {S S1 : ST} {P : Po} {rest : List Stmt} {e a : Expr} {es : List Expr} {ds : List D}
end
section
variable (P : Program) (w : World) (C : Kc) (mg : Str → Option Value) (base : Heap)
end
def PLw (W : WX) : Po := { W := W }
section
variable {F : Fam} {S S1 : ST} {e : Expr} {es : List Expr} {ds : List D} {pos p : Pos} {W : WX} {k : Nat} {nm : Str}
end
def trN (F : Fam) (W : WX) : Fam where
  I := { j : F.I × List (Addr × Obj) × (Value → Shared → Prop) // L2N.Takes ((F.X j.1).tr j.2.1 j.2.2) (PLw W).W }
  X := fun j => (F.X j.1.1).tr j.1.2.1 j.1.2.2
  P := F.P
  w := F.w
  C := F.C
  mg := F.mg
  base := F.base
  N := F.N
  k := F.k
  hP := fun j => F.hP j.1.1
  hw := fun j => F.hw j.1.1
  hK := fun j => F.hK j.1.1
  hmg := fun j => F.hmg j.1.1
  hbase := fun j => F.hbase j.1.1
  hN := fun j => F.hN j.1.1
  nd := F.nd
  roomH := fun j => F.roomH j.1.1
  cP := F.cP
  cw := F.cw
instance {F : Fam} {W : WX} [Calm F] : Calm (trN F W) := ⟨fun j => F.calm j.1.1, fun j => Calm.h (F := F) j.1.1⟩
section
variable {F : Fam} {S : ST} {P : Po} {rest : List Stmt} {e a : Expr} {z : Xr} {da : D} {x x1 cn qn : Str} {c1 : Value} {fI : Addr} {cE j k0 : Nat} {p1 p2 pos pos' q q1 q2 q3 q4 : Pos}
end
end DL
namespace SL
open PySem L2 DL
variable [TabL]
section
variable {C : Kc} {mg : Str → Option Value} {base : Heap} {x qual : Str} {st : Stmt} {f : Addr} {fd : FuncData} {n : Str} {N ps : List Str} {k c : Nat}
end
section
variable {F : Fam} {S : ST} {R : Type} {P : R → Po} {rest : List Stmt} {e a : Expr} {es : List Expr} {os : O (List D)} {oz : O Xr} {oe : O D}
end
section
variable {F : Fam} {S : ST} {R : Type} {P : R → Po} {rest : List Stmt} {e a : Expr} {es : List Expr} {os : O (List D)} {oz : O Xr} {oa : O D} {W : WX} {k c : Nat} {nm x x1 cn : Str} {A B j k0 : Nat} {p p1 p2 pos pos' q q1 q2 q3 q4 : Pos} {ψ : List D → O Xi} {mr : D → O R} {rx : Nat → List D → R}
end
end SL
namespace EXX
open PySem L2 DL EX
end EXX
namespace HX
open PySem PySem.Spec PyProof.Rows L2
section
variable {X : Cx} {x1 x2 x3 : Str} {c1 c2 c3 : Value} {kk : Nat} {body suite : List Stmt} {b₀ : Stmt} {p1 p2 p3 tp pos pos' : Pos} {tb : WX → TS} {ts : Addr → Value → Option Addr → TS}
end
end HX
namespace DL
open PySem L2 PyProof.Rows
variable [TabL]
section
variable {F : Fam} {S : ST} {P : Po} {rest : List Stmt} {e : Expr} {z : Xr} {x1 x2 x3 : Str} {c1 c2 c3 : Value} {kk k0 : Nat} {p1 p2 p3 tp pos pos' q q2 q3 : Pos}
end
end DL
namespace SL
open PySem L2 DL
variable [TabL]
structure Tx3 (C : Kc) (mg : Str → Option Value) (A B D : Nat) : Prop where
  ga : mg (excName A) = some (.ref (C.xc A))
  gb : mg (excName B) = some (.ref (C.xc B))
  gd : mg (excName D) = some (.ref (C.xc D))
  ea : PySem.W.exmAny C.K (.ref (C.xc A)) [.ref (C.xc A), .ref (C.xc B), .ref (C.xc D)] = some true
  eb : PySem.W.exmAny C.K (.ref (C.xc B)) [.ref (C.xc A), .ref (C.xc B), .ref (C.xc D)] = some true
  ed : PySem.W.exmAny C.K (.ref (C.xc D)) [.ref (C.xc A), .ref (C.xc B), .ref (C.xc D)] = some true
section
variable {F : Fam} {S : ST} {R : Type} {P : R → Po} {rest : List Stmt} {e : Expr} {oz : O Xr} {x1 x2 x3 : Str} {A B D' : Nat} {kk k0 : Nat} {p1 p2 p3 tp pos pos' q q2 q3 : Pos} {ret : D → R}
end
end SL
namespace HX
open PySem PySem.Spec PyProof.Rows L2
section
variable {X : Cx} {x1 : Str} {c1 : Value} {body suite : List Stmt} {b₀ : Stmt} {p1 pos pos' : Pos} {tb : WX → TS} {ts : Addr → Value → Option Addr → TS}
end
end HX
namespace DL
open PySem L2 PyProof.Rows
variable [TabL]
section
variable {F : Fam} {S : ST} {P : Po} {rest : List Stmt} {e : Expr} {z : Xr} {x1 : Str} {c1 : Value} {k0 : Nat} {p1 pos pos' q q2 q3 : Pos}
end
end DL
namespace SL
open PySem L2 DL
variable [TabL]
structure TxO (C : Kc) (mg : Str → Option Value) (A : Nat) : Prop where
  ga : mg (excName A) = some (.ref (C.xc A))
  ea : PySem.W.exmOne C.K (.ref (C.xc A)) (.ref (C.xc A)) = some true
section
variable {F : Fam} {S : ST} {R : Type} {P : R → Po} {rest : List Stmt} {e : Expr} {oz : O Xr} {x1 : Str} {A : Nat} {k0 : Nat} {p1 pos pos' q q2 q3 : Pos} {ret : D → R}
end
end SL
namespace EXX
open PySem L2 DL EX
end EXX
namespace PySem
namespace XvL
open PySem.W PySem.Calls PyProof.Rows PySem.HandSPX PySem.XvX
def iA (p1 p2 : Pos) : Arguments := { posonlyargs := [], args := [{ arg := "self", annotation := none, pos := p1 }, { arg := "limit", annotation := none, pos := p2 }], vararg := none, kwonlyargs := [], kw_defaults := [], kwarg := none, defaults := [] }
def iB (q1 q2 q3 q4 : Pos) : List Stmt := [.Assign [.Attribute (.Name "self" q1) "limit" q2] (.Name "limit" q3) q4]
def iS : Scope := { kind := .function, names := [(PySem.Str.ofString "self", .local), (PySem.Str.ofString "limit", .local)], isGenerator := false, isCoroutine := false, more := [] }
structure XlTxt (K : Frag) (mg : Str → Option Value) (cn : Str) (qn : Str) (C fI : Addr) : Prop where
  gC : mg cn = some (.ref C)
  cls : ∃ nid nm q N bs bm sn sub ab col dd k0 k1 k2 k3 k5, K.lookup C = some (excClassObj nm q C N bs bm true sn sub ab col dd k0 k1 k2 k3 k5 nid) ∧ ChainB nid bm
  sa : findIn K (.ref C) "__setattr__" = some (some (.builtin "object.__setattr__"))
  ga : findIn K (.ref C) "__getattribute__" = some (some (.builtin "BaseException.__getattribute__"))
  gg : findIn K (.ref C) "__getattr__" = some none
  noN : findIn K (.ref C) "limit" = some none
  iC : findIn K (.ref C) "__init__" = some (some (.ref fI))
  tC : typeIn K (.ref fI) = some (.type "function")
  kC : keepIn K (.ref C) = true
  exC : subIn K (.ref C) (.type "BaseException") = some true
  tyC : typeIn K (.ref C) = some (.type "type")
  hdC : hasDictIn K C = true
  te : exmOne K (.ref C) (.ref C) = some true
  fn : ∃ (oc : Value) (od : Option Addr) (kV doc pm : Value) (an : Option Addr) (cdv ct : Value) (osl : Array (Option Value)) (p1 p2 q1 q2 q3 q4 : Pos),
    K.lookup fI = some ⟨oc, od, .func (fnOf "__init__" qn (iA p1 p2) (iB q1 q2 q3 q4) iS .none kV doc pm an cdv ct), osl⟩ ∧ codeIn K cdv qn = true
theorem xl_one (v : Value) : [v].length ≤ sizeLine := by
  rw [sizeLine_eq]
  exact (by decide : 1 ≤ 16777216)
theorem xlLd {M : Model} {s : Shared} {name : Str} {scope : Scope} {L a : Addr} {cd : Value} {m : Str → Option Value} {x : Str} {pos : Pos} {v : Value} {Q : Value → Shared → Prop} {A : Around} {E : Value → Shared → Prop} (hn : s.heap.Ns L m) (hv : m x = some v) (h : Q v s)
    (hk : scope.kind = .function := by rfl) (hl : (envOfC name scope L a cd).kindOf x = some .local := by rfl) (hd : (x == ("__debug__" : Str)) = false := by decide) :
    wpAny M A (eval (.Name x pos) (envOfC name scope L a cd)) Q E s := wpAny_Name (wpAny_loadName_local hk hl hn hv h) hd
structure XlEnd (h h' : Heap) (x C dx t1 : Addr) (v : Value) : Prop where
  keep : ∀ b o, b ≠ x → h.get? b = some o → h'.get? b = some o
  obj : h'.get? x = some { cls := .ref C, dict := some dx, data := .fields #[.ref t1, .none, .none, .none, .bool false, .none] }
  dbig : h.objs.size ≤ dx
  dne : dx ≠ x
  ns : h'.Ns1 dx (fun y => if y = "limit" then some v else none)
structure XlMade (h h' : Heap) (e C d : Addr) (v : Value) : Prop where
  keep : ∀ b o, h.get? b = some o → h'.get? b = some o
  new : h.objs.size ≤ e
  obj : ∃ oe vs, h'.get? e = some oe ∧ oe.cls = .ref C ∧ oe.dict = some d ∧ oe.data = .fields vs ∧ vs[1]? = some .none ∧ vs[2]? = some .none ∧ 4 < vs.size
  dbig : h.objs.size ≤ d
  dne : d ≠ e
  ns : h'.Ns1 d (fun y => if y = "limit" then some v else none)
section
variable {prog : Program} {w : World} {A : Around} {E : Value → Shared → Prop} {R : Result → Shared → Prop} {s : Shared} {K : Frag} {mg : Str → Option Value} {cn : Str} {qn : Str} {C fI : Addr}
theorem xl_init (T : XlTxt K mg cn qn C fI) {x t0 : Addr} {v : Value} (X : K.In s.heap) (hlim : s.heap.NoLimit) (hx : s.heap.get? x = some (excO C t0)) (hnx : K.lookup x = none) (hroom : A.depth < recursionLimit)
    (hq : ∀ h' tk dx, XlEnd s.heap h' x C dx t0 v → R (.ok (.ret .none)) { s with heap := h', toks := tk }) :
    codeAny (model prog w) A (.call (.ref fI) ⟨[.ref x, v], []⟩) R s := by
  obtain ⟨oc, od, kV, doc, pm, an, cdv, ct, osl, p1, p2, q1, q2, q3, q4, ho, hcd⟩ := T.fn
  obtain ⟨nid, nm, q, N, bs, bm, sn, sub, ab, col, dd, k0, k1, k2, k3, k5, hC, hbm⟩ := T.cls
  have hcl : clsIn K C = some { name := nm, bases := bs, mro := .ref C :: bm, ns := N, qualname := q, hasDict := true, slotNames := sn, subclasses := sub, abstract := ab, collection := col, hasDel := false } := by unfold clsIn; rw [hC] <;> rfl
  refine Att.call_fn (binds := [("self", .ref x), ("limit", v)]) X hlim ho hcd hroom (BindsTo.of_eq (by first | rfl | with_unfolding_all rfl)) (by first | rfl | decide | with_unfolding_all rfl) (fun s₁ IC => ?_) rfl rfl rfl
  obtain ⟨h₁, tk₁, rfl⟩ := IC.toInCall.same
  have k : ∀ b o, s.heap.get? b = some o → h₁.get? b = some o := IC.toInCall.keep
  have hn := IC.toInCall.ns
  have hxL : s.heap.objs.size ≠ x := Nat.ne_of_gt (Heap.lt_size hx)
  have X₁ : K.In h₁ := X.keeps k
  have hx₁ := k _ _ hx
  -- self.by = by
  show wpAny _ _ (execs _ _) _ _ _
  refine wpAny_execs_cons (plainObj_wpAny_Assign_Attribute ?_)
  refine xlLd (v := v) hn (by first | rfl | with_unfolding_all rfl | kernel_rfl) (xlLd (v := .ref x) hn (by first | rfl | with_unfolding_all rfl | kernel_rfl) ?_)
  refine set_plain X₁ (ox := excO C t0) (od := none) ⟨hx₁, rfl, rfl, trivial⟩ T.sa ?_
  refine osa_first X₁ hx₁ hcl (hbm.passC C) (hbm.objC C) rfl T.noN (fun h₃ tk₃ dx k₃ dn dne hx₃ hn₃ => ?_)
  show wpAny _ _ (execs _ _) _ _ _
  have z : s.heap.objs.size < h₁.objs.size := hn.lt
  exact wpAny_execs_nil (hq h₃ tk₃ dx ⟨fun b o hb e => k₃ b o hb (k b o e), hx₃, Nat.le_of_lt (Nat.lt_of_lt_of_le z dn), dne, hn₃⟩)
end
end XvL
end PySem
namespace L2
open PySem PySem.Spec PyProof.Rows
section
variable {X : Cx} {cn : Str} {qn : Str} {C fI : Addr}
end
end L2
namespace DL
open PySem L2
variable [TabL]
variable {F : Fam} {S S1 : ST} {P : Po} {rest : List Stmt}
end DL
namespace SL
open PySem L2 DL
variable [TabL]
section
variable {F : Fam} {S : ST} {a : Expr} {oe : O D} {rest : List Stmt} {R : Type} {P : R → Po}
end
end SL
namespace EXX
open PySem L2 DL EX
variable {K : PySem.W.Frag}
theorem xl_of {mg : Str → Option Value} {cn qn : Str} {C fI : Addr} {fd : FuncData} {p1 p2 q1 q2 q3 q4 : Pos} (g : mg cn = some (.ref C)) (h : xvB K C fI "limit" = true) (F : FunD K "__init__" qn (PySem.XvL.iA p1 p2) (PySem.XvL.iB q1 q2 q3 q4) PySem.XvL.iS [] [] fI fd) : PySem.XvL.XlTxt K mg cn qn C fI := by
  obtain ⟨h1, h⟩ := He.ba h
  obtain ⟨h2, h⟩ := He.ba h
  obtain ⟨h3, h⟩ := He.ba h
  obtain ⟨h4, h⟩ := He.ba h
  obtain ⟨h5, h⟩ := He.ba h
  obtain ⟨h6, h⟩ := He.ba h
  obtain ⟨h7, h⟩ := He.ba h
  obtain ⟨h8, h⟩ := He.ba h
  obtain ⟨h9, h⟩ := He.ba h
  obtain ⟨h10, h⟩ := He.ba h
  obtain ⟨h11, h12⟩ := He.ba h
  obtain ⟨oc, od, dV, kV, doc, pm, an, cdv, ct, osl, e, lk, hcd, hD, _⟩ := F.ex
  rcases hD with ⟨_, rfl⟩ | ⟨z, _⟩
  · subst e
    exact ⟨g, clsB_ok h1, eqO_ok h2, eqO_ok h3, eqO_ok h4, eqO_ok h5, eqO_ok h6, tyB_ok h7, h8, eqB_ok h9, tyB_ok h10, h11, eqB_ok h12, ⟨oc, od, kV, doc, pm, an, cdv, ct, osl, p1, p2, q1, q2, q3, q4, lk, hcd⟩⟩
  · exact absurd rfl z
theorem xl_at {mg : Str → Option Value} {cn qn : Str} {C fI : Addr} {fd : FuncData} {st : Stmt} (hs : ∃ p1 p2 q1 q2 q3 q4, defArgs st = PySem.XvL.iA p1 p2 ∧ defBody st = PySem.XvL.iB q1 q2 q3 q4 ∧ defScope st = PySem.XvL.iS) (g : mg cn = some (.ref C)) (h : xvB K C fI "limit" = true) (F : FunD K "__init__" qn (defArgs st) (defBody st) (defScope st) [] [] fI fd) :
    ∃ qn fI, PySem.XvL.XlTxt K mg cn qn C fI := by
  obtain ⟨p1, p2, q1, q2, q3, q4, e1, e2, e3⟩ := hs
  rw [e1, e2, e3] at F
  exact ⟨qn, fI, xl_of g h F⟩
end EXX
namespace PySem
namespace XvG
open PySem.W PySem.Calls PyProof.Rows PySem.HandSPX PySem.XvX
def iA (p1 p2 : Pos) : Arguments := { posonlyargs := [], args := [{ arg := "self", annotation := none, pos := p1 }, { arg := "given", annotation := none, pos := p2 }], vararg := none, kwonlyargs := [], kw_defaults := [], kwarg := none, defaults := [] }
def iB (q1 q2 q3 q4 : Pos) : List Stmt := [.Assign [.Attribute (.Name "self" q1) "given" q2] (.Name "given" q3) q4]
def iS : Scope := { kind := .function, names := [(PySem.Str.ofString "self", .local), (PySem.Str.ofString "given", .local)], isGenerator := false, isCoroutine := false, more := [] }
structure XgTxt (K : Frag) (mg : Str → Option Value) (cn : Str) (qn : Str) (C fI : Addr) : Prop where
  gC : mg cn = some (.ref C)
  cls : ∃ nid nm q N bs bm sn sub ab col dd k0 k1 k2 k3 k5, K.lookup C = some (excClassObj nm q C N bs bm true sn sub ab col dd k0 k1 k2 k3 k5 nid) ∧ ChainB nid bm
  sa : findIn K (.ref C) "__setattr__" = some (some (.builtin "object.__setattr__"))
  ga : findIn K (.ref C) "__getattribute__" = some (some (.builtin "BaseException.__getattribute__"))
  gg : findIn K (.ref C) "__getattr__" = some none
  noN : findIn K (.ref C) "given" = some none
  iC : findIn K (.ref C) "__init__" = some (some (.ref fI))
  tC : typeIn K (.ref fI) = some (.type "function")
  kC : keepIn K (.ref C) = true
  exC : subIn K (.ref C) (.type "BaseException") = some true
  tyC : typeIn K (.ref C) = some (.type "type")
  hdC : hasDictIn K C = true
  te : exmOne K (.ref C) (.ref C) = some true
  fn : ∃ (oc : Value) (od : Option Addr) (kV doc pm : Value) (an : Option Addr) (cdv ct : Value) (osl : Array (Option Value)) (p1 p2 q1 q2 q3 q4 : Pos),
    K.lookup fI = some ⟨oc, od, .func (fnOf "__init__" qn (iA p1 p2) (iB q1 q2 q3 q4) iS .none kV doc pm an cdv ct), osl⟩ ∧ codeIn K cdv qn = true
theorem xg_one (v : Value) : [v].length ≤ sizeLine := by
  rw [sizeLine_eq]
  exact (by decide : 1 ≤ 16777216)
theorem xgLd {M : Model} {s : Shared} {name : Str} {scope : Scope} {L a : Addr} {cd : Value} {m : Str → Option Value} {x : Str} {pos : Pos} {v : Value} {Q : Value → Shared → Prop} {A : Around} {E : Value → Shared → Prop} (hn : s.heap.Ns L m) (hv : m x = some v) (h : Q v s)
    (hk : scope.kind = .function := by rfl) (hl : (envOfC name scope L a cd).kindOf x = some .local := by rfl) (hd : (x == ("__debug__" : Str)) = false := by decide) :
    wpAny M A (eval (.Name x pos) (envOfC name scope L a cd)) Q E s := wpAny_Name (wpAny_loadName_local hk hl hn hv h) hd
structure XgEnd (h h' : Heap) (x C dx t1 : Addr) (v : Value) : Prop where
  keep : ∀ b o, b ≠ x → h.get? b = some o → h'.get? b = some o
  obj : h'.get? x = some { cls := .ref C, dict := some dx, data := .fields #[.ref t1, .none, .none, .none, .bool false, .none] }
  dbig : h.objs.size ≤ dx
  dne : dx ≠ x
  ns : h'.Ns1 dx (fun y => if y = "given" then some v else none)
structure XgMade (h h' : Heap) (e C d : Addr) (v : Value) : Prop where
  keep : ∀ b o, h.get? b = some o → h'.get? b = some o
  new : h.objs.size ≤ e
  obj : ∃ oe vs, h'.get? e = some oe ∧ oe.cls = .ref C ∧ oe.dict = some d ∧ oe.data = .fields vs ∧ vs[1]? = some .none ∧ vs[2]? = some .none ∧ 4 < vs.size
  dbig : h.objs.size ≤ d
  dne : d ≠ e
  ns : h'.Ns1 d (fun y => if y = "given" then some v else none)
section
variable {prog : Program} {w : World} {A : Around} {E : Value → Shared → Prop} {R : Result → Shared → Prop} {s : Shared} {K : Frag} {mg : Str → Option Value} {cn : Str} {qn : Str} {C fI : Addr}
theorem xg_init (T : XgTxt K mg cn qn C fI) {x t0 : Addr} {v : Value} (X : K.In s.heap) (hlim : s.heap.NoLimit) (hx : s.heap.get? x = some (excO C t0)) (hnx : K.lookup x = none) (hroom : A.depth < recursionLimit)
    (hq : ∀ h' tk dx, XgEnd s.heap h' x C dx t0 v → R (.ok (.ret .none)) { s with heap := h', toks := tk }) :
    codeAny (model prog w) A (.call (.ref fI) ⟨[.ref x, v], []⟩) R s := by
  obtain ⟨oc, od, kV, doc, pm, an, cdv, ct, osl, p1, p2, q1, q2, q3, q4, ho, hcd⟩ := T.fn
  obtain ⟨nid, nm, q, N, bs, bm, sn, sub, ab, col, dd, k0, k1, k2, k3, k5, hC, hbm⟩ := T.cls
  have hcl : clsIn K C = some { name := nm, bases := bs, mro := .ref C :: bm, ns := N, qualname := q, hasDict := true, slotNames := sn, subclasses := sub, abstract := ab, collection := col, hasDel := false } := by unfold clsIn; rw [hC] <;> rfl
  refine Att.call_fn (binds := [("self", .ref x), ("given", v)]) X hlim ho hcd hroom (BindsTo.of_eq (by first | rfl | with_unfolding_all rfl)) (by first | rfl | decide | with_unfolding_all rfl) (fun s₁ IC => ?_) rfl rfl rfl
  obtain ⟨h₁, tk₁, rfl⟩ := IC.toInCall.same
  have k : ∀ b o, s.heap.get? b = some o → h₁.get? b = some o := IC.toInCall.keep
  have hn := IC.toInCall.ns
  have hxL : s.heap.objs.size ≠ x := Nat.ne_of_gt (Heap.lt_size hx)
  have X₁ : K.In h₁ := X.keeps k
  have hx₁ := k _ _ hx
  -- self.by = by
  show wpAny _ _ (execs _ _) _ _ _
  refine wpAny_execs_cons (plainObj_wpAny_Assign_Attribute ?_)
  refine xgLd (v := v) hn (by first | rfl | with_unfolding_all rfl | kernel_rfl) (xgLd (v := .ref x) hn (by first | rfl | with_unfolding_all rfl | kernel_rfl) ?_)
  refine set_plain X₁ (ox := excO C t0) (od := none) ⟨hx₁, rfl, rfl, trivial⟩ T.sa ?_
  refine osa_first X₁ hx₁ hcl (hbm.passC C) (hbm.objC C) rfl T.noN (fun h₃ tk₃ dx k₃ dn dne hx₃ hn₃ => ?_)
  show wpAny _ _ (execs _ _) _ _ _
  have z : s.heap.objs.size < h₁.objs.size := hn.lt
  exact wpAny_execs_nil (hq h₃ tk₃ dx ⟨fun b o hb e => k₃ b o hb (k b o e), hx₃, Nat.le_of_lt (Nat.lt_of_lt_of_le z dn), dne, hn₃⟩)
end
end XvG
end PySem
namespace L2
open PySem PySem.Spec PyProof.Rows
section
variable {X : Cx} {cn : Str} {qn : Str} {C fI : Addr}
end
end L2
namespace DL
open PySem L2
variable [TabL]
variable {F : Fam} {S S1 : ST} {P : Po} {rest : List Stmt}
end DL
namespace SL
open PySem L2 DL
variable [TabL]
section
variable {F : Fam} {S : ST} {a : Expr} {oe : O D} {rest : List Stmt} {R : Type} {P : R → Po}
end
end SL
namespace EXX
open PySem L2 DL EX
variable {K : PySem.W.Frag}
theorem xg_of {mg : Str → Option Value} {cn qn : Str} {C fI : Addr} {fd : FuncData} {p1 p2 q1 q2 q3 q4 : Pos} (g : mg cn = some (.ref C)) (h : xvB K C fI "given" = true) (F : FunD K "__init__" qn (PySem.XvG.iA p1 p2) (PySem.XvG.iB q1 q2 q3 q4) PySem.XvG.iS [] [] fI fd) : PySem.XvG.XgTxt K mg cn qn C fI := by
  obtain ⟨h1, h⟩ := He.ba h
  obtain ⟨h2, h⟩ := He.ba h
  obtain ⟨h3, h⟩ := He.ba h
  obtain ⟨h4, h⟩ := He.ba h
  obtain ⟨h5, h⟩ := He.ba h
  obtain ⟨h6, h⟩ := He.ba h
  obtain ⟨h7, h⟩ := He.ba h
  obtain ⟨h8, h⟩ := He.ba h
  obtain ⟨h9, h⟩ := He.ba h
  obtain ⟨h10, h⟩ := He.ba h
  obtain ⟨h11, h12⟩ := He.ba h
  obtain ⟨oc, od, dV, kV, doc, pm, an, cdv, ct, osl, e, lk, hcd, hD, _⟩ := F.ex
  rcases hD with ⟨_, rfl⟩ | ⟨z, _⟩
  · subst e
    exact ⟨g, clsB_ok h1, eqO_ok h2, eqO_ok h3, eqO_ok h4, eqO_ok h5, eqO_ok h6, tyB_ok h7, h8, eqB_ok h9, tyB_ok h10, h11, eqB_ok h12, ⟨oc, od, kV, doc, pm, an, cdv, ct, osl, p1, p2, q1, q2, q3, q4, lk, hcd⟩⟩
  · exact absurd rfl z
theorem xg_at {mg : Str → Option Value} {cn qn : Str} {C fI : Addr} {fd : FuncData} {st : Stmt} (hs : ∃ p1 p2 q1 q2 q3 q4, defArgs st = PySem.XvG.iA p1 p2 ∧ defBody st = PySem.XvG.iB q1 q2 q3 q4 ∧ defScope st = PySem.XvG.iS) (g : mg cn = some (.ref C)) (h : xvB K C fI "given" = true) (F : FunD K "__init__" qn (defArgs st) (defBody st) (defScope st) [] [] fI fd) :
    ∃ qn fI, PySem.XvG.XgTxt K mg cn qn C fI := by
  obtain ⟨p1, p2, q1, q2, q3, q4, e1, e2, e3⟩ := hs
  rw [e1, e2, e3] at F
  exact ⟨qn, fI, xg_of g h F⟩
end EXX
namespace PySem
namespace XvX
open PySem.W PySem.Calls PyProof.Rows PySem.HandSPX Builtin Builtin.ObjectAttr
section
variable {M : Model} {A : Around} {E : Value → Shared → Prop} {hp : Heap} {g : Array GenState} {d : Drawn} {t : Nat} {os : OsState}
variable {nm q : Str} {C N : Addr} {bs bm bmB : List Value} {hdct : Bool} {sn : List Str} {sub : List Value} {ab : Bool} {col : Option Bool} {dd : Option Addr} {k0 k1 k2 k3 k5 : Option Value} {B newId initId : String}
theorem newCheckK (FB : ExcBaseFacts B newId initId bmB) (same : ∀ T : String, bm.contains (.type T) = bmB.contains (.type T)) {rest : List Value} {kws : List (Str × Value)} {Q : Unit → Shared → Prop}
    (cC : hp.get? C = some (excClassObj nm q C N bs bm hdct sn sub ab col dd k0 k1 k2 k3 k5 newId)) (back : Q () ⟨hp, g, d, t, os⟩) : wpAny M A (checkBuiltinCall newId ⟨.ref C :: rest, kws⟩) Q E ⟨hp, g, d, t, os⟩ := by
  have over : (Value.ref C :: bm).contains (.type B) = true := by rw [List.contains_cons, same, FB.hasB, Bool.or_true]
  have noSt := FB.noStar
  simp only [checkBuiltinCall, FB.newKind, FB.newSplit, FB.newRow]
  repeat (first | refine wpAny_loadPart_at cC ?_ | (refine wpAny_isSubtype_exc cC ?_; rw [over]) | refine wpAny_staticBase_exc cC ?_ | refine wpAny_madeBy_exc cC ?_ | simp only [bne_self_eq_false, Bool.false_eq_true, if_false] | wp_step)
  exact back
theorem typeCheckK {rest : List Value} {kws : List (Str × Value)} {Q : Unit → Shared → Prop} (cC : hp.get? C = some (excClassObj nm q C N bs bm hdct sn sub ab col dd k0 k1 k2 k3 k5 newId))
    (back : Q () ⟨hp, g, d, t, os⟩) : wpAny M A (checkBuiltinCall "type.__call__" ⟨.ref C :: rest, kws⟩) Q E ⟨hp, g, d, t, os⟩ := by
  have s3 := tc_sub
  have isTy : (⟨hp, g, d, t, os⟩ : Shared).TypeIs (.ref C) "type" := ⟨_, cC, rfl⟩
  simp only [checkBuiltinCall, tc_kind, tc_split]
  repeat (any_goals (first | assumption | with_reducible refine wpAny_loadPart_at cC ?_ | with_reducible refine wpAny_onRaise ?_ | with_reducible refine wpAny_map ?_ | wp_step))
end
section
variable {prog : Program} {w : World} {A : Around} {E : Value → Shared → Prop} {R : Result → Shared → Prop} {hp : Heap} {g : Array GenState} {d : Drawn} {t : Nat} {os : OsState}
variable {nm q : Str} {C N : Addr} {bs bm bmB : List Value} {hdct : Bool} {sn : List Str} {sub : List Value} {ab : Bool} {col : Option Bool} {dd : Option Addr} {k0 k1 k2 k3 k5 : Option Value} {B newId initId : String}
theorem newK (FB : ExcBaseFacts B newId initId bmB) (same : ∀ T : String, bm.contains (.type T) = bmB.contains (.type T)) {rest : List Value} {kws : List (Str × Value)}
    (cC : hp.get? C = some (excClassObj nm q C N bs bm hdct sn sub ab col dd k0 k1 k2 k3 k5 newId))
    (back : R (.ok (.ret (.ref (hp.objs.size + 1)))) ⟨(hp.push (W.kdv_tup rest)).push (excO C hp.objs.size), g, d, t, os⟩) (few : rest.length ≤ sizeLine) :
    codeAny (model prog w) A (.builtin newId ⟨.ref C :: rest, kws⟩) R ⟨hp, g, d, t, os⟩ := by
  have en := FB.ends
  have over : (Value.ref C :: bm).contains (.type B) = true := by rw [List.contains_cons, same, FB.hasB, Bool.or_true]
  have noA : (Value.ref C :: bm).contains (.type "AttributeError") = false := by rw [List.contains_cons, same, FB.noAttr]; rfl
  have noN : (Value.ref C :: bm).contains (.type "NameError") = false := by rw [List.contains_cons, same, FB.noName]; rfl
  refine codeAny_builtinAt FB.entry ?_
  unfold Builtin.«BaseException.__new__»
  refine wpAt_bind ?_
  show wpAt _ _ _ (stack >>= _) _ _ _
  refine wpAt_bind (wpAt_stack fun p below => wpAt_of_wpAny ?_)
  wp_walk
  refine wpAt_of_wpAny ?_
  rw [FB.owner]
  repeat (first | with_reducible refine wpAny_madeHere_exc FB.canon cC ?_ | with_reducible refine wpAny_loadPart_at cC ?_ | (with_reducible refine wpAny_isSubtype_exc cC ?_; first | rw [over] | rw [noA] | rw [noN]) | wp_step)
  show R _ _
  rw [Heap.size_push]
  exact back
theorem typeCallK (FB : ExcBaseFacts B newId initId bmB) (same : ∀ T : String, bm.contains (.type T) = bmB.contains (.type T)) {rest : List Value} {kws : List (Str × Value)} {fI : Addr} {Q : Fin → Shared → Prop}
    (cC : hp.get? C = some (excClassObj nm q C N bs bm hdct sn sub ab col dd k0 k1 k2 k3 k5 newId))
    (lk : W.Looks (model prog w) hp (typeLookup (.ref C) "__init__") (some (.ref fI))) (bd : ∀ self, W.Looks (model prog w) hp (bindSpecial (.ref fI) self) (.ref fI, [self])) (few : rest.length ≤ sizeLine)
    (goes : codeAny (model prog w) A (.call (.ref fI) ⟨.ref (hp.objs.size + 1) :: rest, kws⟩)
      (fun r s' => match r with | .ok (.ret v) => v = .none ∧ Q (.done (.ret (.ref (hp.objs.size + 1)))) s' | .ok _ => False | .error e => E e s')
      ⟨(hp.push (W.kdv_tup rest)).push (excO C hp.objs.size), g, d, t, os⟩) :
    wpAny (model prog w) A (Builtin.«type.__call__» ⟨.ref C :: rest, kws⟩) Q E ⟨hp, g, d, t, os⟩ := by
  repeat (first | with_reducible refine wpAny_loadPart_at cC ?_ | with_reducible refine wpAny_madeBy_exc cC ?_ | wp_step)
  refine codeAny_call_builtin_code (Code.quiet_builtin _ FB.quiet) (newCheckK FB same cC ?_)
  refine newK FB same cC ?_ few
  show wpAny _ _ _ _ _ _
  have kk : ∀ b o, hp.get? b = some o → ((hp.push (W.kdv_tup rest)).push (excO C hp.objs.size)).get? b = some o := fun b o e => Heap.get?_push_of_some _ (Heap.get?_push_of_some _ e)
  have cC1 := kk _ _ cC
  have atE : ((hp.push (W.kdv_tup rest)).push (excO C hp.objs.size)).get? (hp.objs.size + 1) = some (excO C hp.objs.size) := by heap_get
  have isC : (Value.ref C :: bm).contains (.ref C) = true := by simp
  have lk1 := lk.keeps kk
  have bd1 := (bd (.ref (hp.objs.size + 1))).keeps kk
  unfold isInstance
  repeat (first | with_reducible refine wpAny_loadPart_at atE ?_ | (with_reducible refine wpAny_isSubtype_exc cC1 ?_; rw [isC]) | wp_step)
  show wpAny _ _ (typeLookup (.ref C) _) _ _ _
  refine lk1.at ?_
  refine wpAny_holding (wpAny_bind (bd1.at ?_))
  refine wpAny_bind (wpAny_call (codeAny_mono goes fun r s' z => ?_))
  rcases r with e | (v | _ | _ | _) <;> first | exact z | exact z.elim | skip
  obtain ⟨rfl, z⟩ := z
  first
    | exact wpAny_pure (wpAny_pure z)
    | (wp_walk; exact z)
theorem callK (FB : ExcBaseFacts B newId initId bmB) (same : ∀ T : String, bm.contains (.type T) = bmB.contains (.type T)) {rest : List Value} {kws : List (Str × Value)} {fI : Addr}
    (cC : hp.get? C = some (excClassObj nm q C N bs bm hdct sn sub ab col dd k0 k1 k2 k3 k5 newId))
    (lk : W.Looks (model prog w) hp (typeLookup (.ref C) "__init__") (some (.ref fI))) (bd : ∀ self, W.Looks (model prog w) hp (bindSpecial (.ref fI) self) (.ref fI, [self])) (few : rest.length ≤ sizeLine)
    (goes : codeAny (model prog w) (A.under (.builtin "type.__call__" ⟨.ref C :: rest, kws⟩)) (.call (.ref fI) ⟨.ref (hp.objs.size + 1) :: rest, kws⟩) (W.InitBack (hp.objs.size + 1) R)
      ⟨(hp.push (W.kdv_tup rest)).push (excO C hp.objs.size), g, d, t, os⟩) :
    codeAny (model prog w) A (.call (.ref C) ⟨rest, kws⟩) R ⟨hp, g, d, t, os⟩ := by
  have s1 := tc_lookup
  have s2 := tc_bind (.ref C)
  have isTy : (⟨hp, g, d, t, os⟩ : Shared).TypeIs (.ref C) "type" := ⟨_, cC, rfl⟩
  refine codeAny_of_tree ?_
  show wpAny _ _ (callAny (.ref C) _) _ _ _
  repeat (any_goals (first | assumption | with_reducible refine wpAny_loadPart_at cC ?_ | wp_step))
  refine ⟨rfl, ?_⟩
  refine codeAny_call_builtin_at (Code.quiet_builtin _ (by decide +kernel)) entry_typeCall (typeCheckK cC (typeCallK FB same cC lk bd few ?_))
  refine codeAny_mono goes fun r s' z => ?_
  rcases r with e | (v | _ | _ | _) <;> exact z
end
end XvX
end PySem
namespace PySem
namespace XvX
open PySem.W PySem.Calls PyProof.Rows PySem.HandSPX
structure MadeG (h h' : Heap) (e C d : Addr) (mA : Str → Option Value) : Prop where
  keep : ∀ b o, h.get? b = some o → h'.get? b = some o
  new : h.objs.size ≤ e
  obj : ∃ t1 : Addr, h'.get? e = some ({ cls := .ref C, dict := some d, data := .fields #[.ref t1, .none, .none, .none, .bool false, .none] } : Obj)
  dbig : h.objs.size ≤ d
  dne : d ≠ e
  ns : h'.Ns1 d mA
def MkPl (prog : Program) (w : World) (K : Frag) (C : Addr) (fl : List Str) : Prop := ∀ (A : Around) (R : Result → Shared → Prop) (s : Shared) (us : List Value), us.length = fl.length → K.In s.heap → s.heap.NoLimit → A.depth + 1 < recursionLimit →
  (∀ h' tk e d mA, MadeG s.heap h' e C d mA → (∀ f, mA f = (fl.zip us).lookup f) → R (.ok (.ret (.ref e))) { s with heap := h', toks := tk }) → codeAny (model prog w) A (.call (.ref C) ⟨us, []⟩) R s
def MkKy (prog : Program) (w : World) (K : Frag) (C : Addr) (fl ks : List Str) (g : List Value → List Value) : Prop := ∀ (A : Around) (R : Result → Shared → Prop) (s : Shared) (us : List Value), us.length = ks.length → K.In s.heap → s.heap.NoLimit → A.depth + 1 < recursionLimit →
  (∀ h' tk e d mA, MadeG s.heap h' e C d mA → (∀ f, mA f = (fl.zip (g us)).lookup f) → R (.ok (.ret (.ref e))) { s with heap := h', toks := tk }) → codeAny (model prog w) A (.call (.ref C) ⟨[], ks.zip us⟩) R s
theorem zip_one (n f : Str) (v : Value) : (if f = n then some v else none) = (([n] : List Str).zip [v]).lookup f := by
  show _ = List.lookup f [(n, v)]
  rw [List.lookup_cons]
  by_cases e : f = n
  · rw [if_pos e, beq_iff_eq.mpr e]
  · rw [if_neg e]
    have z : (f == n) = false := by simpa using e
    rw [z]; rfl
section
variable {prog : Program} {w : World} {A : Around} {E : Value → Shared → Prop} {R : Result → Shared → Prop} {s : Shared} {K : Frag} {mg : Str → Option Value} {cn : Str} {qn : Str} {C fI : Addr}
theorem xv_initK (T : XvTxt K mg cn qn C fI) {x t0 : Addr} {v : Value} (X : K.In s.heap) (hlim : s.heap.NoLimit) (hx : s.heap.get? x = some (excO C t0)) (hnx : K.lookup x = none) (hroom : A.depth < recursionLimit)
    (hq : ∀ h' tk dx, XvEnd s.heap h' x C dx t0 v → R (.ok (.ret .none)) { s with heap := h', toks := tk }) :
    codeAny (model prog w) A (.call (.ref fI) ⟨[.ref x], [(("value" : Str), v)]⟩) R s := by
  obtain ⟨oc, od, kV, doc, pm, an, cdv, ct, osl, p1, p2, q1, q2, q3, q4, ho, hcd⟩ := T.fn
  obtain ⟨nid, nm, q, N, bs, bm, sn, sub, ab, col, dd, k0, k1, k2, k3, k5, hC, hbm⟩ := T.cls
  have hcl : clsIn K C = some { name := nm, bases := bs, mro := .ref C :: bm, ns := N, qualname := q, hasDict := true, slotNames := sn, subclasses := sub, abstract := ab, collection := col, hasDel := false } := by unfold clsIn; rw [hC] <;> rfl
  refine Att.call_fn (binds := [("self", .ref x), ("value", v)]) X hlim ho hcd hroom (BindsTo.of_eq (by first | rfl | with_unfolding_all rfl)) (by first | rfl | decide | with_unfolding_all rfl) (fun s₁ IC => ?_) rfl rfl rfl
  obtain ⟨h₁, tk₁, rfl⟩ := IC.toInCall.same
  have k : ∀ b o, s.heap.get? b = some o → h₁.get? b = some o := IC.toInCall.keep
  have hn := IC.toInCall.ns
  have hxL : s.heap.objs.size ≠ x := Nat.ne_of_gt (Heap.lt_size hx)
  have X₁ : K.In h₁ := X.keeps k
  have hx₁ := k _ _ hx
  -- self.by = by
  show wpAny _ _ (execs _ _) _ _ _
  refine wpAny_execs_cons (plainObj_wpAny_Assign_Attribute ?_)
  refine xvLd (v := v) hn (by first | rfl | with_unfolding_all rfl | kernel_rfl) (xvLd (v := .ref x) hn (by first | rfl | with_unfolding_all rfl | kernel_rfl) ?_)
  refine set_plain X₁ (ox := excO C t0) (od := none) ⟨hx₁, rfl, rfl, trivial⟩ T.sa ?_
  refine osa_first X₁ hx₁ hcl (hbm.passC C) (hbm.objC C) rfl T.noN (fun h₃ tk₃ dx k₃ dn dne hx₃ hn₃ => ?_)
  show wpAny _ _ (execs _ _) _ _ _
  have z : s.heap.objs.size < h₁.objs.size := hn.lt
  exact wpAny_execs_nil (hq h₃ tk₃ dx ⟨fun b o hb e => k₃ b o hb (k b o e), hx₃, Nat.le_of_lt (Nat.lt_of_lt_of_le z dn), dne, hn₃⟩)
theorem xv_mkG (T : XvTxt K mg cn qn C fI) {v : Value} {rest : List Value} {kws : List (Str × Value)} (few : rest.length ≤ sizeLine) (X : K.In s.heap) (hlim : s.heap.NoLimit) (hroom : A.depth + 1 < recursionLimit)
    (ini : ∀ {A : Around} {R : Result → Shared → Prop} {s : Shared} {x t0 : Addr}, K.In s.heap → s.heap.NoLimit → s.heap.get? x = some (excO C t0) → K.lookup x = none → A.depth < recursionLimit → (∀ h' tk dx, XvEnd s.heap h' x C dx t0 v → R (.ok (.ret .none)) { s with heap := h', toks := tk }) → codeAny (model prog w) A (.call (.ref fI) ⟨.ref x :: rest, kws⟩) R s)
    (hq : ∀ h' tk e d, MadeG s.heap h' e C d (fun y => if y = "value" then some v else none) → R (.ok (.ret (.ref e))) { s with heap := h', toks := tk }) :
    codeAny (model prog w) A (.call (.ref C) ⟨rest, kws⟩) R s := by
  obtain ⟨nid, nm, q, N, bs, bm, sn, sub, ab, col, dd, k0, k1, k2, k3, k5, hC, hbm⟩ := T.cls
  obtain ⟨hp, g, dr, tk, os⟩ := s
  have k : ∀ b o, hp.get? b = some o → ((hp.push (kdv_tup rest)).push (excO C hp.objs.size)).get? b = some o := fun b o e => Heap.get?_push_of_some _ (Heap.get?_push_of_some _ e)
  have hget : ((hp.push (kdv_tup rest)).push (excO C hp.objs.size)).get? (hp.objs.size + 1) = some (excO C hp.objs.size) := by heap_get
  have hnx : K.lookup (hp.objs.size + 1) = none := by
    cases e : K.lookup (hp.objs.size + 1) with
    | none => rfl
    | some o =>
      have z : hp.get? (hp.objs.size + 1) = some o := X _ _ e
      exact absurd (Nat.lt_of_succ_lt (Heap.lt_size z)) (Nat.lt_irrefl _)
  obtain ⟨B0, i0, tl0, FB, hT⟩ := hbm.made
  refine callK FB hT (X _ _ hC) (looks_findIn X T.iC) (fun self => bind_fn X self T.tC) few ?_
  refine ini (s := ⟨(hp.push (kdv_tup rest)).push (excO C hp.objs.size), g, dr, tk, os⟩) (X.keeps k) (hlim.keeps k) hget hnx ?_ fun h' tk' dx ⟨k', hx, dn, dne, hns⟩ => ?_
  · show A.depth + 1 < recursionLimit
    exact hroom
  · have old : ∀ b o, hp.get? b = some o → h'.get? b = some o := fun b o e => k' b o (Nat.ne_of_lt (Nat.lt_succ_of_lt (Heap.lt_size e))) (k b o e)
    have z : hp.objs.size + 1 + 1 ≤ dx := by
      first
        | (simpa only [Heap.size_push] using dn)
        | exact dn
        | (have q := dn; rw [Heap.size_push, Heap.size_push] at q; exact q)
    exact ⟨rfl, hq h' tk' (hp.objs.size + 1) dx ⟨old, Nat.le_succ _, ⟨_, hx⟩, Nat.le_trans (Nat.le_trans (Nat.le_succ _) (Nat.le_succ _)) z, dne, hns⟩⟩
end
section
variable {prog : Program} {w : World} {K : Frag} {mg : Str → Option Value} {cn : Str} {qn : Str} {C fI : Addr}
theorem xv_mkP (T : XvTxt K mg cn qn C fI) : MkPl prog w K C ["value"] := fun A R s us hl X lim room q => by
  match us, hl with
  | [v], _ => exact xv_mkG T (xv_one v) X lim room (fun X1 l1 x1 n1 r1 q1 => xv_init T X1 l1 x1 n1 r1 q1) fun h' tk e d M => q h' tk e d _ M fun f => zip_one "value" f v
theorem xv_mkK (T : XvTxt K mg cn qn C fI) : MkKy prog w K C ["value"] ["value"] (DL.perm [0]) := fun A R s us hl X lim room q => by
  match us, hl with
  | [v], _ => exact xv_mkG T (show ([] : List Value).length ≤ sizeLine from Nat.zero_le _) X lim room (fun X1 l1 x1 n1 r1 q1 => xv_initK T X1 l1 x1 n1 r1 q1) fun h' tk e d M => q h' tk e d _ M fun f => zip_one "value" f v
end
end XvX
namespace XvI
open PySem.W PySem.Calls PyProof.Rows PySem.HandSPX PySem.XvX
section
variable {prog : Program} {w : World} {A : Around} {E : Value → Shared → Prop} {R : Result → Shared → Prop} {s : Shared} {K : Frag} {mg : Str → Option Value} {cn : Str} {qn : Str} {C fI : Addr}
theorem xi_initK (T : XiTxt K mg cn qn C fI) {x t0 : Addr} {v : Value} (X : K.In s.heap) (hlim : s.heap.NoLimit) (hx : s.heap.get? x = some (excO C t0)) (hnx : K.lookup x = none) (hroom : A.depth < recursionLimit)
    (hq : ∀ h' tk dx, XiEnd s.heap h' x C dx t0 v → R (.ok (.ret .none)) { s with heap := h', toks := tk }) :
    codeAny (model prog w) A (.call (.ref fI) ⟨[.ref x], [(("index" : Str), v)]⟩) R s := by
  obtain ⟨oc, od, kV, doc, pm, an, cdv, ct, osl, p1, p2, q1, q2, q3, q4, ho, hcd⟩ := T.fn
  obtain ⟨nid, nm, q, N, bs, bm, sn, sub, ab, col, dd, k0, k1, k2, k3, k5, hC, hbm⟩ := T.cls
  have hcl : clsIn K C = some { name := nm, bases := bs, mro := .ref C :: bm, ns := N, qualname := q, hasDict := true, slotNames := sn, subclasses := sub, abstract := ab, collection := col, hasDel := false } := by unfold clsIn; rw [hC] <;> rfl
  refine Att.call_fn (binds := [("self", .ref x), ("index", v)]) X hlim ho hcd hroom (BindsTo.of_eq (by first | rfl | with_unfolding_all rfl)) (by first | rfl | decide | with_unfolding_all rfl) (fun s₁ IC => ?_) rfl rfl rfl
  obtain ⟨h₁, tk₁, rfl⟩ := IC.toInCall.same
  have k : ∀ b o, s.heap.get? b = some o → h₁.get? b = some o := IC.toInCall.keep
  have hn := IC.toInCall.ns
  have hxL : s.heap.objs.size ≠ x := Nat.ne_of_gt (Heap.lt_size hx)
  have X₁ : K.In h₁ := X.keeps k
  have hx₁ := k _ _ hx
  -- self.by = by
  show wpAny _ _ (execs _ _) _ _ _
  refine wpAny_execs_cons (plainObj_wpAny_Assign_Attribute ?_)
  refine xiLd (v := v) hn (by first | rfl | with_unfolding_all rfl | kernel_rfl) (xiLd (v := .ref x) hn (by first | rfl | with_unfolding_all rfl | kernel_rfl) ?_)
  refine set_plain X₁ (ox := excO C t0) (od := none) ⟨hx₁, rfl, rfl, trivial⟩ T.sa ?_
  refine osa_first X₁ hx₁ hcl (hbm.passC C) (hbm.objC C) rfl T.noN (fun h₃ tk₃ dx k₃ dn dne hx₃ hn₃ => ?_)
  show wpAny _ _ (execs _ _) _ _ _
  have z : s.heap.objs.size < h₁.objs.size := hn.lt
  exact wpAny_execs_nil (hq h₃ tk₃ dx ⟨fun b o hb e => k₃ b o hb (k b o e), hx₃, Nat.le_of_lt (Nat.lt_of_lt_of_le z dn), dne, hn₃⟩)
theorem xi_mkG (T : XiTxt K mg cn qn C fI) {v : Value} {rest : List Value} {kws : List (Str × Value)} (few : rest.length ≤ sizeLine) (X : K.In s.heap) (hlim : s.heap.NoLimit) (hroom : A.depth + 1 < recursionLimit)
    (ini : ∀ {A : Around} {R : Result → Shared → Prop} {s : Shared} {x t0 : Addr}, K.In s.heap → s.heap.NoLimit → s.heap.get? x = some (excO C t0) → K.lookup x = none → A.depth < recursionLimit → (∀ h' tk dx, XiEnd s.heap h' x C dx t0 v → R (.ok (.ret .none)) { s with heap := h', toks := tk }) → codeAny (model prog w) A (.call (.ref fI) ⟨.ref x :: rest, kws⟩) R s)
    (hq : ∀ h' tk e d, MadeG s.heap h' e C d (fun y => if y = "index" then some v else none) → R (.ok (.ret (.ref e))) { s with heap := h', toks := tk }) :
    codeAny (model prog w) A (.call (.ref C) ⟨rest, kws⟩) R s := by
  obtain ⟨nid, nm, q, N, bs, bm, sn, sub, ab, col, dd, k0, k1, k2, k3, k5, hC, hbm⟩ := T.cls
  obtain ⟨hp, g, dr, tk, os⟩ := s
  have k : ∀ b o, hp.get? b = some o → ((hp.push (kdv_tup rest)).push (excO C hp.objs.size)).get? b = some o := fun b o e => Heap.get?_push_of_some _ (Heap.get?_push_of_some _ e)
  have hget : ((hp.push (kdv_tup rest)).push (excO C hp.objs.size)).get? (hp.objs.size + 1) = some (excO C hp.objs.size) := by heap_get
  have hnx : K.lookup (hp.objs.size + 1) = none := by
    cases e : K.lookup (hp.objs.size + 1) with
    | none => rfl
    | some o =>
      have z : hp.get? (hp.objs.size + 1) = some o := X _ _ e
      exact absurd (Nat.lt_of_succ_lt (Heap.lt_size z)) (Nat.lt_irrefl _)
  obtain ⟨B0, i0, tl0, FB, hT⟩ := hbm.made
  refine callK FB hT (X _ _ hC) (looks_findIn X T.iC) (fun self => bind_fn X self T.tC) few ?_
  refine ini (s := ⟨(hp.push (kdv_tup rest)).push (excO C hp.objs.size), g, dr, tk, os⟩) (X.keeps k) (hlim.keeps k) hget hnx ?_ fun h' tk' dx ⟨k', hx, dn, dne, hns⟩ => ?_
  · show A.depth + 1 < recursionLimit
    exact hroom
  · have old : ∀ b o, hp.get? b = some o → h'.get? b = some o := fun b o e => k' b o (Nat.ne_of_lt (Nat.lt_succ_of_lt (Heap.lt_size e))) (k b o e)
    have z : hp.objs.size + 1 + 1 ≤ dx := by
      first
        | (simpa only [Heap.size_push] using dn)
        | exact dn
        | (have q := dn; rw [Heap.size_push, Heap.size_push] at q; exact q)
    exact ⟨rfl, hq h' tk' (hp.objs.size + 1) dx ⟨old, Nat.le_succ _, ⟨_, hx⟩, Nat.le_trans (Nat.le_trans (Nat.le_succ _) (Nat.le_succ _)) z, dne, hns⟩⟩
end
section
variable {prog : Program} {w : World} {K : Frag} {mg : Str → Option Value} {cn : Str} {qn : Str} {C fI : Addr}
theorem xi_mkP (T : XiTxt K mg cn qn C fI) : MkPl prog w K C ["index"] := fun A R s us hl X lim room q => by
  match us, hl with
  | [v], _ => exact xi_mkG T (xi_one v) X lim room (fun X1 l1 x1 n1 r1 q1 => xi_init T X1 l1 x1 n1 r1 q1) fun h' tk e d M => q h' tk e d _ M fun f => zip_one "index" f v
theorem xi_mkK (T : XiTxt K mg cn qn C fI) : MkKy prog w K C ["index"] ["index"] (DL.perm [0]) := fun A R s us hl X lim room q => by
  match us, hl with
  | [v], _ => exact xi_mkG T (show ([] : List Value).length ≤ sizeLine from Nat.zero_le _) X lim room (fun X1 l1 x1 n1 r1 q1 => xi_initK T X1 l1 x1 n1 r1 q1) fun h' tk e d M => q h' tk e d _ M fun f => zip_one "index" f v
end
end XvI
namespace XvL
open PySem.W PySem.Calls PyProof.Rows PySem.HandSPX PySem.XvX
section
variable {prog : Program} {w : World} {A : Around} {E : Value → Shared → Prop} {R : Result → Shared → Prop} {s : Shared} {K : Frag} {mg : Str → Option Value} {cn : Str} {qn : Str} {C fI : Addr}
theorem xl_initK (T : XlTxt K mg cn qn C fI) {x t0 : Addr} {v : Value} (X : K.In s.heap) (hlim : s.heap.NoLimit) (hx : s.heap.get? x = some (excO C t0)) (hnx : K.lookup x = none) (hroom : A.depth < recursionLimit)
    (hq : ∀ h' tk dx, XlEnd s.heap h' x C dx t0 v → R (.ok (.ret .none)) { s with heap := h', toks := tk }) :
    codeAny (model prog w) A (.call (.ref fI) ⟨[.ref x], [(("limit" : Str), v)]⟩) R s := by
  obtain ⟨oc, od, kV, doc, pm, an, cdv, ct, osl, p1, p2, q1, q2, q3, q4, ho, hcd⟩ := T.fn
  obtain ⟨nid, nm, q, N, bs, bm, sn, sub, ab, col, dd, k0, k1, k2, k3, k5, hC, hbm⟩ := T.cls
  have hcl : clsIn K C = some { name := nm, bases := bs, mro := .ref C :: bm, ns := N, qualname := q, hasDict := true, slotNames := sn, subclasses := sub, abstract := ab, collection := col, hasDel := false } := by unfold clsIn; rw [hC] <;> rfl
  refine Att.call_fn (binds := [("self", .ref x), ("limit", v)]) X hlim ho hcd hroom (BindsTo.of_eq (by first | rfl | with_unfolding_all rfl)) (by first | rfl | decide | with_unfolding_all rfl) (fun s₁ IC => ?_) rfl rfl rfl
  obtain ⟨h₁, tk₁, rfl⟩ := IC.toInCall.same
  have k : ∀ b o, s.heap.get? b = some o → h₁.get? b = some o := IC.toInCall.keep
  have hn := IC.toInCall.ns
  have hxL : s.heap.objs.size ≠ x := Nat.ne_of_gt (Heap.lt_size hx)
  have X₁ : K.In h₁ := X.keeps k
  have hx₁ := k _ _ hx
  -- self.by = by
  show wpAny _ _ (execs _ _) _ _ _
  refine wpAny_execs_cons (plainObj_wpAny_Assign_Attribute ?_)
  refine xlLd (v := v) hn (by first | rfl | with_unfolding_all rfl | kernel_rfl) (xlLd (v := .ref x) hn (by first | rfl | with_unfolding_all rfl | kernel_rfl) ?_)
  refine set_plain X₁ (ox := excO C t0) (od := none) ⟨hx₁, rfl, rfl, trivial⟩ T.sa ?_
  refine osa_first X₁ hx₁ hcl (hbm.passC C) (hbm.objC C) rfl T.noN (fun h₃ tk₃ dx k₃ dn dne hx₃ hn₃ => ?_)
  show wpAny _ _ (execs _ _) _ _ _
  have z : s.heap.objs.size < h₁.objs.size := hn.lt
  exact wpAny_execs_nil (hq h₃ tk₃ dx ⟨fun b o hb e => k₃ b o hb (k b o e), hx₃, Nat.le_of_lt (Nat.lt_of_lt_of_le z dn), dne, hn₃⟩)
theorem xl_mkG (T : XlTxt K mg cn qn C fI) {v : Value} {rest : List Value} {kws : List (Str × Value)} (few : rest.length ≤ sizeLine) (X : K.In s.heap) (hlim : s.heap.NoLimit) (hroom : A.depth + 1 < recursionLimit)
    (ini : ∀ {A : Around} {R : Result → Shared → Prop} {s : Shared} {x t0 : Addr}, K.In s.heap → s.heap.NoLimit → s.heap.get? x = some (excO C t0) → K.lookup x = none → A.depth < recursionLimit → (∀ h' tk dx, XlEnd s.heap h' x C dx t0 v → R (.ok (.ret .none)) { s with heap := h', toks := tk }) → codeAny (model prog w) A (.call (.ref fI) ⟨.ref x :: rest, kws⟩) R s)
    (hq : ∀ h' tk e d, MadeG s.heap h' e C d (fun y => if y = "limit" then some v else none) → R (.ok (.ret (.ref e))) { s with heap := h', toks := tk }) :
    codeAny (model prog w) A (.call (.ref C) ⟨rest, kws⟩) R s := by
  obtain ⟨nid, nm, q, N, bs, bm, sn, sub, ab, col, dd, k0, k1, k2, k3, k5, hC, hbm⟩ := T.cls
  obtain ⟨hp, g, dr, tk, os⟩ := s
  have k : ∀ b o, hp.get? b = some o → ((hp.push (kdv_tup rest)).push (excO C hp.objs.size)).get? b = some o := fun b o e => Heap.get?_push_of_some _ (Heap.get?_push_of_some _ e)
  have hget : ((hp.push (kdv_tup rest)).push (excO C hp.objs.size)).get? (hp.objs.size + 1) = some (excO C hp.objs.size) := by heap_get
  have hnx : K.lookup (hp.objs.size + 1) = none := by
    cases e : K.lookup (hp.objs.size + 1) with
    | none => rfl
    | some o =>
      have z : hp.get? (hp.objs.size + 1) = some o := X _ _ e
      exact absurd (Nat.lt_of_succ_lt (Heap.lt_size z)) (Nat.lt_irrefl _)
  obtain ⟨B0, i0, tl0, FB, hT⟩ := hbm.made
  refine callK FB hT (X _ _ hC) (looks_findIn X T.iC) (fun self => bind_fn X self T.tC) few ?_
  refine ini (s := ⟨(hp.push (kdv_tup rest)).push (excO C hp.objs.size), g, dr, tk, os⟩) (X.keeps k) (hlim.keeps k) hget hnx ?_ fun h' tk' dx ⟨k', hx, dn, dne, hns⟩ => ?_
  · show A.depth + 1 < recursionLimit
    exact hroom
  · have old : ∀ b o, hp.get? b = some o → h'.get? b = some o := fun b o e => k' b o (Nat.ne_of_lt (Nat.lt_succ_of_lt (Heap.lt_size e))) (k b o e)
    have z : hp.objs.size + 1 + 1 ≤ dx := by
      first
        | (simpa only [Heap.size_push] using dn)
        | exact dn
        | (have q := dn; rw [Heap.size_push, Heap.size_push] at q; exact q)
    exact ⟨rfl, hq h' tk' (hp.objs.size + 1) dx ⟨old, Nat.le_succ _, ⟨_, hx⟩, Nat.le_trans (Nat.le_trans (Nat.le_succ _) (Nat.le_succ _)) z, dne, hns⟩⟩
end
section
variable {prog : Program} {w : World} {K : Frag} {mg : Str → Option Value} {cn : Str} {qn : Str} {C fI : Addr}
theorem xl_mkP (T : XlTxt K mg cn qn C fI) : MkPl prog w K C ["limit"] := fun A R s us hl X lim room q => by
  match us, hl with
  | [v], _ => exact xl_mkG T (xl_one v) X lim room (fun X1 l1 x1 n1 r1 q1 => xl_init T X1 l1 x1 n1 r1 q1) fun h' tk e d M => q h' tk e d _ M fun f => zip_one "limit" f v
theorem xl_mkK (T : XlTxt K mg cn qn C fI) : MkKy prog w K C ["limit"] ["limit"] (DL.perm [0]) := fun A R s us hl X lim room q => by
  match us, hl with
  | [v], _ => exact xl_mkG T (show ([] : List Value).length ≤ sizeLine from Nat.zero_le _) X lim room (fun X1 l1 x1 n1 r1 q1 => xl_initK T X1 l1 x1 n1 r1 q1) fun h' tk e d M => q h' tk e d _ M fun f => zip_one "limit" f v
end
end XvL
namespace XvG
open PySem.W PySem.Calls PyProof.Rows PySem.HandSPX PySem.XvX
section
variable {prog : Program} {w : World} {A : Around} {E : Value → Shared → Prop} {R : Result → Shared → Prop} {s : Shared} {K : Frag} {mg : Str → Option Value} {cn : Str} {qn : Str} {C fI : Addr}
theorem xg_initK (T : XgTxt K mg cn qn C fI) {x t0 : Addr} {v : Value} (X : K.In s.heap) (hlim : s.heap.NoLimit) (hx : s.heap.get? x = some (excO C t0)) (hnx : K.lookup x = none) (hroom : A.depth < recursionLimit)
    (hq : ∀ h' tk dx, XgEnd s.heap h' x C dx t0 v → R (.ok (.ret .none)) { s with heap := h', toks := tk }) :
    codeAny (model prog w) A (.call (.ref fI) ⟨[.ref x], [(("given" : Str), v)]⟩) R s := by
  obtain ⟨oc, od, kV, doc, pm, an, cdv, ct, osl, p1, p2, q1, q2, q3, q4, ho, hcd⟩ := T.fn
  obtain ⟨nid, nm, q, N, bs, bm, sn, sub, ab, col, dd, k0, k1, k2, k3, k5, hC, hbm⟩ := T.cls
  have hcl : clsIn K C = some { name := nm, bases := bs, mro := .ref C :: bm, ns := N, qualname := q, hasDict := true, slotNames := sn, subclasses := sub, abstract := ab, collection := col, hasDel := false } := by unfold clsIn; rw [hC] <;> rfl
  refine Att.call_fn (binds := [("self", .ref x), ("given", v)]) X hlim ho hcd hroom (BindsTo.of_eq (by first | rfl | with_unfolding_all rfl)) (by first | rfl | decide | with_unfolding_all rfl) (fun s₁ IC => ?_) rfl rfl rfl
  obtain ⟨h₁, tk₁, rfl⟩ := IC.toInCall.same
  have k : ∀ b o, s.heap.get? b = some o → h₁.get? b = some o := IC.toInCall.keep
  have hn := IC.toInCall.ns
  have hxL : s.heap.objs.size ≠ x := Nat.ne_of_gt (Heap.lt_size hx)
  have X₁ : K.In h₁ := X.keeps k
  have hx₁ := k _ _ hx
  -- self.by = by
  show wpAny _ _ (execs _ _) _ _ _
  refine wpAny_execs_cons (plainObj_wpAny_Assign_Attribute ?_)
  refine xgLd (v := v) hn (by first | rfl | with_unfolding_all rfl | kernel_rfl) (xgLd (v := .ref x) hn (by first | rfl | with_unfolding_all rfl | kernel_rfl) ?_)
  refine set_plain X₁ (ox := excO C t0) (od := none) ⟨hx₁, rfl, rfl, trivial⟩ T.sa ?_
  refine osa_first X₁ hx₁ hcl (hbm.passC C) (hbm.objC C) rfl T.noN (fun h₃ tk₃ dx k₃ dn dne hx₃ hn₃ => ?_)
  show wpAny _ _ (execs _ _) _ _ _
  have z : s.heap.objs.size < h₁.objs.size := hn.lt
  exact wpAny_execs_nil (hq h₃ tk₃ dx ⟨fun b o hb e => k₃ b o hb (k b o e), hx₃, Nat.le_of_lt (Nat.lt_of_lt_of_le z dn), dne, hn₃⟩)
theorem xg_mkG (T : XgTxt K mg cn qn C fI) {v : Value} {rest : List Value} {kws : List (Str × Value)} (few : rest.length ≤ sizeLine) (X : K.In s.heap) (hlim : s.heap.NoLimit) (hroom : A.depth + 1 < recursionLimit)
    (ini : ∀ {A : Around} {R : Result → Shared → Prop} {s : Shared} {x t0 : Addr}, K.In s.heap → s.heap.NoLimit → s.heap.get? x = some (excO C t0) → K.lookup x = none → A.depth < recursionLimit → (∀ h' tk dx, XgEnd s.heap h' x C dx t0 v → R (.ok (.ret .none)) { s with heap := h', toks := tk }) → codeAny (model prog w) A (.call (.ref fI) ⟨.ref x :: rest, kws⟩) R s)
    (hq : ∀ h' tk e d, MadeG s.heap h' e C d (fun y => if y = "given" then some v else none) → R (.ok (.ret (.ref e))) { s with heap := h', toks := tk }) :
    codeAny (model prog w) A (.call (.ref C) ⟨rest, kws⟩) R s := by
  obtain ⟨nid, nm, q, N, bs, bm, sn, sub, ab, col, dd, k0, k1, k2, k3, k5, hC, hbm⟩ := T.cls
  obtain ⟨hp, g, dr, tk, os⟩ := s
  have k : ∀ b o, hp.get? b = some o → ((hp.push (kdv_tup rest)).push (excO C hp.objs.size)).get? b = some o := fun b o e => Heap.get?_push_of_some _ (Heap.get?_push_of_some _ e)
  have hget : ((hp.push (kdv_tup rest)).push (excO C hp.objs.size)).get? (hp.objs.size + 1) = some (excO C hp.objs.size) := by heap_get
  have hnx : K.lookup (hp.objs.size + 1) = none := by
    cases e : K.lookup (hp.objs.size + 1) with
    | none => rfl
    | some o =>
      have z : hp.get? (hp.objs.size + 1) = some o := X _ _ e
      exact absurd (Nat.lt_of_succ_lt (Heap.lt_size z)) (Nat.lt_irrefl _)
  obtain ⟨B0, i0, tl0, FB, hT⟩ := hbm.made
  refine callK FB hT (X _ _ hC) (looks_findIn X T.iC) (fun self => bind_fn X self T.tC) few ?_
  refine ini (s := ⟨(hp.push (kdv_tup rest)).push (excO C hp.objs.size), g, dr, tk, os⟩) (X.keeps k) (hlim.keeps k) hget hnx ?_ fun h' tk' dx ⟨k', hx, dn, dne, hns⟩ => ?_
  · show A.depth + 1 < recursionLimit
    exact hroom
  · have old : ∀ b o, hp.get? b = some o → h'.get? b = some o := fun b o e => k' b o (Nat.ne_of_lt (Nat.lt_succ_of_lt (Heap.lt_size e))) (k b o e)
    have z : hp.objs.size + 1 + 1 ≤ dx := by
      first
        | (simpa only [Heap.size_push] using dn)
        | exact dn
        | (have q := dn; rw [Heap.size_push, Heap.size_push] at q; exact q)
    exact ⟨rfl, hq h' tk' (hp.objs.size + 1) dx ⟨old, Nat.le_succ _, ⟨_, hx⟩, Nat.le_trans (Nat.le_trans (Nat.le_succ _) (Nat.le_succ _)) z, dne, hns⟩⟩
end
section
variable {prog : Program} {w : World} {K : Frag} {mg : Str → Option Value} {cn : Str} {qn : Str} {C fI : Addr}
theorem xg_mkP (T : XgTxt K mg cn qn C fI) : MkPl prog w K C ["given"] := fun A R s us hl X lim room q => by
  match us, hl with
  | [v], _ => exact xg_mkG T (xg_one v) X lim room (fun X1 l1 x1 n1 r1 q1 => xg_init T X1 l1 x1 n1 r1 q1) fun h' tk e d M => q h' tk e d _ M fun f => zip_one "given" f v
theorem xg_mkK (T : XgTxt K mg cn qn C fI) : MkKy prog w K C ["given"] ["given"] (DL.perm [0]) := fun A R s us hl X lim room q => by
  match us, hl with
  | [v], _ => exact xg_mkG T (show ([] : List Value).length ≤ sizeLine from Nat.zero_le _) X lim room (fun X1 l1 x1 n1 r1 q1 => xg_initK T X1 l1 x1 n1 r1 q1) fun h' tk e d M => q h' tk e d _ M fun f => zip_one "given" f v
end
end XvG
end PySem
namespace PySem
namespace XvX
open PySem.W PySem.Calls PyProof.Rows PySem.HandSPX Builtin Builtin.ObjectAttr
section
variable {prog : Program} {w : World} {A : Around} {E : Value → Shared → Prop} {R : Result → Shared → Prop} {hp : Heap} {g : Array GenState} {d : Drawn} {t : Nat} {os : OsState}
theorem osa_next {K : W.Frag} {name : Str} {tk : Tok} {v : Value} {x C dx : Addr} {fv : Array Value} {cd : ClassData} {m0 : Str → Option Value} {nl : List Str}
    (KI : K.In hp) (ax : hp.get? x = some { cls := .ref C, dict := some dx, data := .fields fv }) (nsx : hp.Ns1 dx m0) (wi : Within m0 nl) (few : nl.length ≤ 1000) (cx : W.clsIn K C = some cd) (px : ∀ self, refuseLoop self "__setattr__" cd.mro = pure ()) (ob : cd.mro.contains (.type "object") = true) (hd1 : cd.hasDict = true) (na : W.findIn K (.ref C) name = some none)
    (back : ∀ h' tk', (∀ b o, b ≠ dx → hp.get? b = some o → h'.get? b = some o) → h'.Ns1 dx (fun y => if y = name then some v else m0 y) → R (.ok (.ret .none)) ⟨h', g, d, tk', os⟩) :
    codeAny (model prog w) A (.call (.builtin "object.__setattr__") ⟨[.ref x, .str name tk, v], []⟩) R ⟨hp, g, d, t, os⟩ := by
  obtain ⟨oD, esD, epD, od1, od2, _⟩ := nsx.count wi
  have IA : W.InstAt hp x { cls := .ref C, dict := some dx, data := .fields fv } C (some oD) := ⟨ax, rfl, rfl, od1⟩
  have ST := F.store_object
  have nem : cd.mro.isEmpty = false := by
    cases q : cd.mro with
    | nil => rw [q] at ob; cases ob
    | cons _ _ => rfl
  have isO : W.Looks (model prog w) hp (isInstance (.ref x) (.type "object")) true := IA.type.andThen (W.looks_mroIn KI (by unfold W.mroIn; rw [cx, Option.bind_some, if_neg (by rw [nem]; decide), ob]))
  refine codeAny_call_builtin ST.slot.plain ST.entry (@W.check_slot (model prog w) _ _ ⟨hp, g, d, t, os⟩ "object.__setattr__" "object" "__setattr__" (.ref x) [.str name tk, v] [] _ ST.kind ST.split isO (ST.args (.ref x) (.str name tk) v) ?_)
  have mr : W.Looks (model prog w) hp (mroOf (.ref C)) cd.mro := (W.looks_clsIn KI cx).andThen .now
  have st0 : W.Looks (model prog w) hp (storeTaker? none) none := .now
  have cl0 : W.Looks (model prog w) hp (classData C) cd := W.looks_clsIn KI cx
  rw [W.osa_eq, refuse_eq]
  refine wpAny_bind (wpAny_bind (IA.type.at (wpAny_bind (mr.at ?_))))
  rw [px]
  refine wpAny_pure (wpAny_bind (IA.type.at (wpAny_bind ((W.looks_findIn KI na).at (wpAny_bind (st0.at ?_))))))
  show wpAny _ _ (storeInOwnDict (.ref x) (.ref C) (.str name tk) name v false) _ _ _
  obtain ⟨nm, bs, mro, ns, qn, hdd, sn, sb, ab, col, dl⟩ := cd
  dsimp only at hd1
  subst hd1
  unfold storeInOwnDict ownDictForStores
  repeat (first | with_reducible refine OEX.store_in_old nsx wi few ?_ | with_reducible refine wpAny_loadPart_at ax ?_ | with_reducible refine cl0.at ?_ | wp_step)
  intro h' tk' nsN sb
  exact back h' tk' (fun b o nb bo => (sb.2 b nb).trans bo) nsN
end
end XvX
namespace XvR
open PySem.W PySem.Calls PyProof.Rows PySem.HandSPX PySem.XvX
def iA (p1 p2 p3 : Pos) : Arguments := { posonlyargs := [], args := [{ arg := "self", annotation := none, pos := p1 }, { arg := "deed", annotation := none, pos := p2 }, { arg := "shown", annotation := none, pos := p3 }], vararg := none, kwonlyargs := [], kw_defaults := [], kwarg := none, defaults := [] }
def iB (q1 q2 q3 q4 q5 q6 q7 q8 : Pos) : List Stmt := [.Assign [.Attribute (.Name "self" q1) "deed" q2] (.Name "deed" q3) q4, .Assign [.Attribute (.Name "self" q5) "shown" q6] (.Name "shown" q7) q8]
def iS : Scope := { kind := .function, names := [(PySem.Str.ofString "self", .local), (PySem.Str.ofString "deed", .local), (PySem.Str.ofString "shown", .local)], isGenerator := false, isCoroutine := false, more := [] }
structure XrTxt (K : Frag) (mg : Str → Option Value) (cn : Str) (qn : Str) (C fI : Addr) : Prop where
  gC : mg cn = some (.ref C)
  cls : ∃ nid nm q N bs bm sn sub ab col dd k0 k1 k2 k3 k5, K.lookup C = some (excClassObj nm q C N bs bm true sn sub ab col dd k0 k1 k2 k3 k5 nid) ∧ ChainB nid bm
  sa : findIn K (.ref C) "__setattr__" = some (some (.builtin "object.__setattr__"))
  ga : findIn K (.ref C) "__getattribute__" = some (some (.builtin "BaseException.__getattribute__"))
  gg : findIn K (.ref C) "__getattr__" = some none
  no1 : findIn K (.ref C) "deed" = some none
  no2 : findIn K (.ref C) "shown" = some none
  iC : findIn K (.ref C) "__init__" = some (some (.ref fI))
  tC : typeIn K (.ref fI) = some (.type "function")
  kC : keepIn K (.ref C) = true
  exC : subIn K (.ref C) (.type "BaseException") = some true
  tyC : typeIn K (.ref C) = some (.type "type")
  hdC : hasDictIn K C = true
  te : exmOne K (.ref C) (.ref C) = some true
  fn : ∃ (oc : Value) (od : Option Addr) (kV doc pm : Value) (an : Option Addr) (cdv ct : Value) (osl : Array (Option Value)) (p1 p2 p3 q1 q2 q3 q4 q5 q6 q7 q8 : Pos),
    K.lookup fI = some ⟨oc, od, .func (fnOf "__init__" qn (iA p1 p2 p3) (iB q1 q2 q3 q4 q5 q6 q7 q8) iS .none kV doc pm an cdv ct), osl⟩ ∧ codeIn K cdv qn = true
def m2 (v1 v2 : Value) : Str → Option Value := fun y => if y = "shown" then some v2 else if y = "deed" then some v1 else none
structure XrEnd (h h' : Heap) (x C dx t1 : Addr) (v1 v2 : Value) : Prop where
  keep : ∀ b o, b ≠ x → h.get? b = some o → h'.get? b = some o
  obj : h'.get? x = some { cls := .ref C, dict := some dx, data := .fields #[.ref t1, .none, .none, .none, .bool false, .none] }
  dbig : h.objs.size ≤ dx
  dne : dx ≠ x
  ns : h'.Ns1 dx (m2 v1 v2)
section
variable {prog : Program} {w : World} {A : Around} {E : Value → Shared → Prop} {R : Result → Shared → Prop} {s : Shared} {K : Frag} {mg : Str → Option Value} {cn : Str} {qn : Str} {C fI : Addr}
theorem xr_init (T : XrTxt K mg cn qn C fI) {x t0 : Addr} {v1 v2 : Value} (X : K.In s.heap) (hlim : s.heap.NoLimit) (hx : s.heap.get? x = some (excO C t0)) (hnx : K.lookup x = none) (hroom : A.depth < recursionLimit)
    (hq : ∀ h' tk dx, XrEnd s.heap h' x C dx t0 v1 v2 → R (.ok (.ret .none)) { s with heap := h', toks := tk }) :
    codeAny (model prog w) A (.call (.ref fI) ⟨[.ref x, v1, v2], []⟩) R s := by
  obtain ⟨oc, od, kV, doc, pm, an, cdv, ct, osl, p1, p2, p3, q1, q2, q3, q4, q5, q6, q7, q8, ho, hcd⟩ := T.fn
  obtain ⟨nid, nm, q, N, bs, bm, sn, sub, ab, col, dd, k0, k1, k2, k3, k5, hC, hbm⟩ := T.cls
  have hcl : clsIn K C = some { name := nm, bases := bs, mro := .ref C :: bm, ns := N, qualname := q, hasDict := true, slotNames := sn, subclasses := sub, abstract := ab, collection := col, hasDel := false } := by unfold clsIn; rw [hC] <;> rfl
  refine Att.call_fn (binds := [("self", .ref x), ("deed", v1), ("shown", v2)]) X hlim ho hcd hroom (BindsTo.of_eq (by first | rfl | with_unfolding_all rfl)) (by first | rfl | decide | with_unfolding_all rfl) (fun s₁ IC => ?_) rfl rfl rfl
  obtain ⟨h₁, tk₁, rfl⟩ := IC.toInCall.same
  have k : ∀ b o, s.heap.get? b = some o → h₁.get? b = some o := IC.toInCall.keep
  have hn := IC.toInCall.ns
  have hxL : s.heap.objs.size ≠ x := Nat.ne_of_gt (Heap.lt_size hx)
  have X₁ : K.In h₁ := X.keeps k
  have hx₁ := k _ _ hx
  show wpAny _ _ (execs _ _) _ _ _
  refine wpAny_execs_cons (plainObj_wpAny_Assign_Attribute ?_)
  refine xvLd (v := v1) hn (by first | rfl | with_unfolding_all rfl | kernel_rfl) (xvLd (v := .ref x) hn (by first | rfl | with_unfolding_all rfl | kernel_rfl) ?_)
  refine set_plain X₁ (ox := excO C t0) (od := none) ⟨hx₁, rfl, rfl, trivial⟩ T.sa ?_
  refine osa_first X₁ hx₁ hcl (hbm.passC C) (hbm.objC C) rfl T.no1 (fun h₃ tk₃ dx k₃ dn dne hx₃ hn₃ => ?_)
  show wpAny _ _ (execs _ _) _ _ _
  have z : s.heap.objs.size < h₁.objs.size := hn.lt
  have X₃ : K.In h₃ := fun a o e => k₃ a o (fun y => by rw [y, hnx] at e; cases e) (X₁ a o e)
  have hnL := hn.at fun o e => k₃ _ _ hxL e
  obtain ⟨oD, esD, epD, od1, od2, od3⟩ := hn₃.count (ns := ["deed"]) (Within.cons "deed" v1 (fun y hy => absurd rfl hy))
  refine wpAny_execs_cons (plainObj_wpAny_Assign_Attribute ?_)
  refine xvLd (v := v2) hnL (by first | rfl | with_unfolding_all rfl | kernel_rfl) (xvLd (v := .ref x) hnL (by first | rfl | with_unfolding_all rfl | kernel_rfl) ?_)
  refine set_plain X₃ (ox := { cls := .ref C, dict := some dx, data := .fields #[.ref t0, .none, .none, .none, .bool false, .none] }) (od := some oD) ⟨hx₃, rfl, rfl, od1⟩ T.sa ?_
  refine osa_next X₃ hx₃ hn₃ (nl := ["deed"]) (Within.cons "deed" v1 (fun y hy => absurd rfl hy)) (by decide) hcl (hbm.passC C) (hbm.objC C) rfl T.no2 (fun h₄ tk₄ k₄ hn₄ => ?_)
  show wpAny _ _ (execs _ _) _ _ _
  have dxL : dx ≠ s.heap.objs.size := Nat.ne_of_gt (Nat.lt_of_lt_of_le z dn)
  exact wpAny_execs_nil (hq h₄ tk₄ dx ⟨fun b o hb e => k₄ b o (Nat.ne_of_lt (Nat.lt_of_lt_of_le (Nat.lt_trans (Heap.lt_size e) z) dn)) (k₃ b o hb (k b o e)), k₄ x _ (Ne.symm dne) hx₃, Nat.le_of_lt (Nat.lt_of_lt_of_le z dn), dne, hn₄⟩)
theorem xr_initK (T : XrTxt K mg cn qn C fI) {x t0 : Addr} {v1 v2 : Value} (X : K.In s.heap) (hlim : s.heap.NoLimit) (hx : s.heap.get? x = some (excO C t0)) (hnx : K.lookup x = none) (hroom : A.depth < recursionLimit)
    (hq : ∀ h' tk dx, XrEnd s.heap h' x C dx t0 v1 v2 → R (.ok (.ret .none)) { s with heap := h', toks := tk }) :
    codeAny (model prog w) A (.call (.ref fI) ⟨[.ref x], [(("shown" : Str), v2), (("deed" : Str), v1)]⟩) R s := by
  obtain ⟨oc, od, kV, doc, pm, an, cdv, ct, osl, p1, p2, p3, q1, q2, q3, q4, q5, q6, q7, q8, ho, hcd⟩ := T.fn
  obtain ⟨nid, nm, q, N, bs, bm, sn, sub, ab, col, dd, k0, k1, k2, k3, k5, hC, hbm⟩ := T.cls
  have hcl : clsIn K C = some { name := nm, bases := bs, mro := .ref C :: bm, ns := N, qualname := q, hasDict := true, slotNames := sn, subclasses := sub, abstract := ab, collection := col, hasDel := false } := by unfold clsIn; rw [hC] <;> rfl
  refine Att.call_fn (binds := [("self", .ref x), ("deed", v1), ("shown", v2)]) X hlim ho hcd hroom (BindsTo.of_eq (by first | rfl | with_unfolding_all rfl)) (by first | rfl | decide | with_unfolding_all rfl) (fun s₁ IC => ?_) rfl rfl rfl
  obtain ⟨h₁, tk₁, rfl⟩ := IC.toInCall.same
  have k : ∀ b o, s.heap.get? b = some o → h₁.get? b = some o := IC.toInCall.keep
  have hn := IC.toInCall.ns
  have hxL : s.heap.objs.size ≠ x := Nat.ne_of_gt (Heap.lt_size hx)
  have X₁ : K.In h₁ := X.keeps k
  have hx₁ := k _ _ hx
  show wpAny _ _ (execs _ _) _ _ _
  refine wpAny_execs_cons (plainObj_wpAny_Assign_Attribute ?_)
  refine xvLd (v := v1) hn (by first | rfl | with_unfolding_all rfl | kernel_rfl) (xvLd (v := .ref x) hn (by first | rfl | with_unfolding_all rfl | kernel_rfl) ?_)
  refine set_plain X₁ (ox := excO C t0) (od := none) ⟨hx₁, rfl, rfl, trivial⟩ T.sa ?_
  refine osa_first X₁ hx₁ hcl (hbm.passC C) (hbm.objC C) rfl T.no1 (fun h₃ tk₃ dx k₃ dn dne hx₃ hn₃ => ?_)
  show wpAny _ _ (execs _ _) _ _ _
  have z : s.heap.objs.size < h₁.objs.size := hn.lt
  have X₃ : K.In h₃ := fun a o e => k₃ a o (fun y => by rw [y, hnx] at e; cases e) (X₁ a o e)
  have hnL := hn.at fun o e => k₃ _ _ hxL e
  obtain ⟨oD, esD, epD, od1, od2, od3⟩ := hn₃.count (ns := ["deed"]) (Within.cons "deed" v1 (fun y hy => absurd rfl hy))
  refine wpAny_execs_cons (plainObj_wpAny_Assign_Attribute ?_)
  refine xvLd (v := v2) hnL (by first | rfl | with_unfolding_all rfl | kernel_rfl) (xvLd (v := .ref x) hnL (by first | rfl | with_unfolding_all rfl | kernel_rfl) ?_)
  refine set_plain X₃ (ox := { cls := .ref C, dict := some dx, data := .fields #[.ref t0, .none, .none, .none, .bool false, .none] }) (od := some oD) ⟨hx₃, rfl, rfl, od1⟩ T.sa ?_
  refine osa_next X₃ hx₃ hn₃ (nl := ["deed"]) (Within.cons "deed" v1 (fun y hy => absurd rfl hy)) (by decide) hcl (hbm.passC C) (hbm.objC C) rfl T.no2 (fun h₄ tk₄ k₄ hn₄ => ?_)
  show wpAny _ _ (execs _ _) _ _ _
  have dxL : dx ≠ s.heap.objs.size := Nat.ne_of_gt (Nat.lt_of_lt_of_le z dn)
  exact wpAny_execs_nil (hq h₄ tk₄ dx ⟨fun b o hb e => k₄ b o (Nat.ne_of_lt (Nat.lt_of_lt_of_le (Nat.lt_trans (Heap.lt_size e) z) dn)) (k₃ b o hb (k b o e)), k₄ x _ (Ne.symm dne) hx₃, Nat.le_of_lt (Nat.lt_of_lt_of_le z dn), dne, hn₄⟩)
theorem xr_mkG (T : XrTxt K mg cn qn C fI) {v1 v2 : Value} {rest : List Value} {kws : List (Str × Value)} (few : rest.length ≤ sizeLine) (X : K.In s.heap) (hlim : s.heap.NoLimit) (hroom : A.depth + 1 < recursionLimit)
    (ini : ∀ {A : Around} {R : Result → Shared → Prop} {s : Shared} {x t0 : Addr}, K.In s.heap → s.heap.NoLimit → s.heap.get? x = some (excO C t0) → K.lookup x = none → A.depth < recursionLimit → (∀ h' tk dx, XrEnd s.heap h' x C dx t0 v1 v2 → R (.ok (.ret .none)) { s with heap := h', toks := tk }) → codeAny (model prog w) A (.call (.ref fI) ⟨.ref x :: rest, kws⟩) R s)
    (hq : ∀ h' tk e d, MadeG s.heap h' e C d (m2 v1 v2) → R (.ok (.ret (.ref e))) { s with heap := h', toks := tk }) :
    codeAny (model prog w) A (.call (.ref C) ⟨rest, kws⟩) R s := by
  obtain ⟨nid, nm, q, N, bs, bm, sn, sub, ab, col, dd, k0, k1, k2, k3, k5, hC, hbm⟩ := T.cls
  obtain ⟨hp, g, dr, tk, os⟩ := s
  have k : ∀ b o, hp.get? b = some o → ((hp.push (kdv_tup rest)).push (excO C hp.objs.size)).get? b = some o := fun b o e => Heap.get?_push_of_some _ (Heap.get?_push_of_some _ e)
  have hget : ((hp.push (kdv_tup rest)).push (excO C hp.objs.size)).get? (hp.objs.size + 1) = some (excO C hp.objs.size) := by heap_get
  have hnx : K.lookup (hp.objs.size + 1) = none := by
    cases e : K.lookup (hp.objs.size + 1) with
    | none => rfl
    | some o =>
      have z : hp.get? (hp.objs.size + 1) = some o := X _ _ e
      exact absurd (Nat.lt_of_succ_lt (Heap.lt_size z)) (Nat.lt_irrefl _)
  obtain ⟨B0, i0, tl0, FB, hT⟩ := hbm.made
  refine callK FB hT (X _ _ hC) (looks_findIn X T.iC) (fun self => bind_fn X self T.tC) few ?_
  refine ini (s := ⟨(hp.push (kdv_tup rest)).push (excO C hp.objs.size), g, dr, tk, os⟩) (X.keeps k) (hlim.keeps k) hget hnx ?_ fun h' tk' dx ⟨k', hx, dn, dne, hns⟩ => ?_
  · show A.depth + 1 < recursionLimit
    exact hroom
  · have old : ∀ b o, hp.get? b = some o → h'.get? b = some o := fun b o e => k' b o (Nat.ne_of_lt (Nat.lt_succ_of_lt (Heap.lt_size e))) (k b o e)
    have z : hp.objs.size + 1 + 1 ≤ dx := by
      first
        | (simpa only [Heap.size_push] using dn)
        | exact dn
        | (have q := dn; rw [Heap.size_push, Heap.size_push] at q; exact q)
    exact ⟨rfl, hq h' tk' (hp.objs.size + 1) dx ⟨old, Nat.le_succ _, ⟨_, hx⟩, Nat.le_trans (Nat.le_trans (Nat.le_succ _) (Nat.le_succ _)) z, dne, hns⟩⟩
end
theorem zip_two (f : Str) (v1 v2 : Value) : m2 v1 v2 f = (([("deed" : Str), "shown"]).zip [v1, v2]).lookup f := by
  show _ = List.lookup f [(("deed" : Str), v1), (("shown" : Str), v2)]
  unfold m2
  rw [List.lookup_cons, List.lookup_cons]
  by_cases e2 : f = "shown"
  · subst e2
    rw [if_pos rfl]
    rfl
  · rw [if_neg e2]
    have z2 : (f == ("shown" : Str)) = false := by simpa using e2
    rw [z2]
    by_cases e1 : f = "deed"
    · rw [if_pos e1, beq_iff_eq.mpr e1]
    · rw [if_neg e1]
      have z1 : (f == ("deed" : Str)) = false := by simpa using e1
      rw [z1]; rfl
section
variable {prog : Program} {w : World} {K : Frag} {mg : Str → Option Value} {cn : Str} {qn : Str} {C fI : Addr}
theorem xr_mkP (T : XrTxt K mg cn qn C fI) : MkPl prog w K C ["deed", "shown"] := fun A R s us hl X lim room q => by
  match us, hl with
  | [v1, v2], _ => exact xr_mkG T (show ([v1, v2] : List Value).length ≤ sizeLine by rw [sizeLine_eq]; exact (by decide : 2 ≤ 16777216)) X lim room (fun X1 l1 x1 n1 r1 q1 => xr_init T X1 l1 x1 n1 r1 q1) fun h' tk e d M => q h' tk e d _ M fun f => zip_two f v1 v2
theorem xr_mkK (T : XrTxt K mg cn qn C fI) : MkKy prog w K C ["deed", "shown"] ["shown", "deed"] (DL.perm [1, 0]) := fun A R s us hl X lim room q => by
  match us, hl with
  | [v2, v1], _ => exact xr_mkG T (show ([] : List Value).length ≤ sizeLine from Nat.zero_le _) X lim room (fun X1 l1 x1 n1 r1 q1 => xr_initK T X1 l1 x1 n1 r1 q1) fun h' tk e d M => q h' tk e d _ M fun f => zip_two f v1 v2
end
end XvR
namespace XvN
open PySem.W PySem.Calls PyProof.Rows PySem.HandSPX PySem.XvX
structure XnTxt (K : Frag) (mg : Str → Option Value) (cn : Str) (C : Addr) : Prop where
  gC : mg cn = some (.ref C)
  kC : keepIn K (.ref C) = true
  cls : ∃ nm q N bs bm sn sub ab col dd k0 k1 k2 k3 k5, K.lookup C = some (excClassObj nm q C N bs bm true sn sub ab col dd k0 k1 k2 k3 k5 "LookupError.__new__") ∧ refsT leTail bm = true
  iC : findIn K (.ref C) "__init__" = some (some (.builtin "LookupError.__init__"))
theorem xn_made {prog : Program} {w : World} {A : Around} {E : Value → Shared → Prop} {Q : Value → Shared → Prop} {s : Shared} {K : Frag} {mg : Str → Option Value} {cn : Str} {C : Addr} (T : XnTxt K mg cn C) (X : K.In s.heap)
    (back : ∀ h' e (t1 : Addr), (∀ b o, s.heap.get? b = some o → h'.get? b = some o) → s.heap.objs.size ≤ e → h'.get? e = some ({ cls := .ref C, dict := none, data := .fields #[.ref t1, .none, .none, .none, .bool false, .none] } : Obj) → Q (.ref e) { s with heap := h' }) :
    wpAny (model prog w) A (call (.ref C) []) Q E s := by
  obtain ⟨nm, q, N, bs, bm, sn, sub, ab, col, dd, k0, k1, k2, k3, k5, hC, hr⟩ := T.cls
  obtain ⟨hp, g, dr, tk, os⟩ := s
  exact call_B F.excBase_LookupError (fun T => refsT_has T bm hr) (X _ _ hC) (looks_findIn X T.iC) (Nat.zero_le _) fun h' k he _ => back h' _ _ k (Nat.le_succ _) he
end XvN
end PySem
namespace L2
open PySem PySem.Spec PyProof.Rows PySem.XvX
theorem zip_rel : ∀ {fl : List Str} {vs : List V} {us : List Value}, Vals vs us → ∀ f, RelO ((fl.zip vs).lookup f) ((fl.zip us).lookup f)
  | [], _, _, _, _ => by rw [List.zip_nil_left, List.zip_nil_left]; trivial
  | _ :: _, _, _, .nil, _ => by rw [List.zip_nil_right, List.zip_nil_right]; trivial
  | n :: fl, _, _, .cons r l, f => by
    rw [List.zip_cons_cons, List.zip_cons_cons, List.lookup_cons, List.lookup_cons]
    cases e : (f == n) with
    | true => exact r
    | false => exact zip_rel l f
def excNew (C x d : Addr) (fs : List (Str × V)) : List (Addr × HO) := [(d, .xd fs), (x, exo x C (some d))]
section
variable {X : Cx} {cn : Str} {C : Addr} {fl ks : List Str} {pins : List (Addr × Obj)} {σ : St} {H : Hp}
theorem exc_laid {hp h' : Heap} {g : Array GenState} {dr : Drawn} {tk tk' : Nat} {os : OsState} {x d : Addr} {vs : List V} {us : List Value} {mA : Str → Option Value} (I : Inv X pins σ H ⟨hp, g, dr, tk, os⟩) (M : MadeG hp h' x C d mA) (r : Vals vs us) (e : ∀ f, mA f = (fl.zip us).lookup f) :
    H x = none ∧ H d = none ∧ d ≠ x ∧ Inv X pins σ (updL H (excNew C x d (fl.zip vs))) ⟨h', g, dr, tk', os⟩ := by
  refine ⟨I.hok.fresh M.new, I.hok.fresh M.dbig, M.dne, ?_⟩
  refine Inv.laidL (t' := tk') I (l := excNew C x d (fl.zip vs)) ?_ M.keep (fun p hp => ?_) fun a o hm => ?_
  · show [d, x].Nodup
    simp [M.dne]
  · rcases List.mem_cons.mp hp with e1 | hp
    · rw [e1]; exact M.dbig
    · rw [List.mem_singleton.mp hp]; exact M.new
  · rcases List.mem_cons.mp hm with e1 | hm
    · cases e1
      refine ⟨mA, M.ns, fun f => ?_⟩
      rw [e f]
      exact zip_rel r f
    · cases List.mem_singleton.mp hm
      obtain ⟨t1, ho⟩ := M.obj
      exact exo_ok ho
def tMkE (C : Addr) (fl : List Str) (ta : TA) : TE := fun σ H Q => ta σ H fun vs H1 => vs.length = fl.length ∧ ∀ x d, H1 x = none → H1 d = none → d ≠ x → Q (.ref x) (updL H1 (excNew C x d (fl.zip vs)))
theorem pe_mkE {e : Expr} {es : List Expr} {ta : TA} {p pos : Pos} {k : Nat} (hm : X.mg cn = some (.ref C)) (hk : PySem.W.keepIn X.K (.ref C) = true) (mk : MkPl X.prog X.w X.K C fl) (hr : Room k X.A) (ha : PA X (e :: es) ta) (hg : Gl X cn) (hdb : (cn == ("__debug__" : Str)) = false)
    (he : starEach (e :: es) X.env = (false, eval e X.env) :: starEach es X.env := by rfl) (hpl : (backTo pos (starEach es X.env)).any (·.1) = false := by rfl) : PE X (.Call (.Name cn p) (e :: es) [] pos) (tMkE C fl ta) := by
  refine ⟨fun pins s σ H Q I h => ?_⟩
  refine wpAny_Call_Name_kw (ld_glob I hg hm ?_ hdb)
  refine PySem.W.callWith_K (h₀ := X.base) I.ok.mod.kin hk (thn (ha.run pos pins s σ H _ I h) fun us s1 hh => ?_) he hpl
  obtain ⟨vs, H1, I1, r1, hl, q1⟩ := hh
  refine ⟨I1.kIn, ?_⟩
  obtain ⟨hp, g, dr, tk, os⟩ := s1
  refine wpAny_call (mk X.A _ ⟨hp, g, dr, tk, os⟩ us (by rw [← r1.length]; exact hl) I1.kIn I1.nolimit (by have := hr.dp; omega) fun h' tk' x d mA M em => ?_)
  obtain ⟨n1, n2, n3, J⟩ := exc_laid (tk' := tk') I1 M r1 em
  exact ⟨.ref x, _, J, rfl, q1 x d n1 n2 n3⟩
def tMkEK (C : Addr) (n : Nat) (fl : List Str) (gV : List V → List V) (tk : TA) : TE := fun σ H Q => tk σ H fun vs H1 => vs.length = n ∧ ∀ x d, H1 x = none → H1 d = none → d ≠ x → Q (.ref x) (updL H1 (excNew C x d (fl.zip (gV vs))))
theorem pe_mkEK {kws : List Keyword} {tk : TA} {p pos : Pos} {k : Nat} {g : List Value → List Value} {gV : List V → List V} (gg : ∀ {vs us}, Vals vs us → Vals (gV vs) (g us)) (hm : X.mg cn = some (.ref C)) (hk : PySem.W.keepIn X.K (.ref C) = true) (mk : MkKy X.prog X.w X.K C fl ks g) (hr : Room k X.A) (hkw : PK X kws tk) (hg : Gl X cn) (hdb : (cn == ("__debug__" : Str)) = false)
    (hall : (backToKw pos (keywordEach kws X.env)).all (·.1.isSome) = true := by rfl) (hks : (backToKw pos (keywordEach kws X.env)).filterMap (·.1) = ks := by rfl)
    (hpl : ((backTo pos (starEach [] X.env)).any (·.1) || (backToKw pos (keywordEach kws X.env)).any (·.1.isNone)) = false := by rfl) : PE X (.Call (.Name cn p) [] kws pos) (tMkEK C ks.length fl gV tk) := by
  refine ⟨fun pins s σ H Q I h => ?_⟩
  refine wpAny_Call_Name_kw (ld_glob I hg hm ?_ hdb)
  refine PySem.W.callWith_KW0 (h₀ := X.base) I.ok.mod.kin hk hall ?_ hpl
  refine thn (hkw.run pos pins s σ H _ I h) fun us s1 hh => ?_
  obtain ⟨vs, H1, I1, r1, hl, q1⟩ := hh
  refine ⟨I1.kIn, ?_⟩
  rw [hks]
  obtain ⟨hp, g, dr, tk, os⟩ := s1
  refine wpAny_call (mk X.A _ ⟨hp, g, dr, tk, os⟩ us (by rw [← r1.length]; exact hl) I1.kIn I1.nolimit (by have := hr.dp; omega) fun h' tk' x d mA M em => ?_)
  obtain ⟨n1, n2, n3, J⟩ := exc_laid (tk' := tk') I1 M (gg r1) em
  exact ⟨.ref x, _, J, rfl, q1 x d n1 n2 n3⟩
def rIsV (K : PySem.W.Frag) : List V → Hp → VK → Prop := fun xs H Q => ∃ (a C dx : Addr) (od : Option Addr) (c : V) (cv : Value) (b : Bool), xs = [.ref a, c] ∧ (∀ u, RelV c u → u = cv) ∧ H a = some (exo a C od) ∧ (∀ d, od = some d → ∃ fs, H d = some (.xd fs)) ∧ HX.ExC K C ∧ PySem.W.kitOne K (.ref C) cv = some b ∧ Q (.bl b) H
theorem isE_ok : CallR X (.builtin "isinstance") (rIsV X.K) := by
  intro pins s σ H xs us Q I r h
  obtain ⟨a, C, dx, od, c, cv, b, rfl, hcv, ha, hd, EC, e, q⟩ := h
  cases r with
  | cons rx rr =>
    cases rr with
    | cons rt rr =>
      cases rr
      cases rx
      have ec := hcv _ rt
      subst ec
      obtain ⟨t1, hget⟩ := exo_at I.hok ha
      cases od with
      | none =>
        have J : PySem.W.InstAt s.heap a _ C none := ⟨hget, rfl, rfl, trivial⟩
        exact PySem.W.kia_one (PySem.W.kitx_exc EC.cl EC.hg EC.hk EC.hs EC.ha EC.hn EC.ht EC.hm) I.kIn J e (fun z => nomatch z) fun tk => ⟨.bl b, H, I.kept (t' := tk) fun _ _ z => z, rfl, q⟩
      | some d =>
        obtain ⟨fs, hfs⟩ := hd d rfl
        have hxd : ObjOk X.prog X.w H s.heap d (.xd fs) := I.hok d _ hfs
        obtain ⟨mA, hns, _⟩ := hxd
        obtain ⟨od, ho, _⟩ := lookIn_ns hns
        have J : PySem.W.InstAt s.heap a _ C (some od) := ⟨hget, rfl, rfl, ho⟩
        exact PySem.W.kia_one (PySem.W.kitx_exc EC.cl EC.hg EC.hk EC.hs EC.ha EC.hn EC.ht EC.hm) I.kIn J e (fun z => nomatch z) fun tk => ⟨.bl b, H, I.kept (t' := tk) fun _ _ z => z, rfl, q⟩
def tFv (K : PySem.W.Frag) (f : Str) (te : TE) : TE := fun σ H Q => te σ H fun x H1 => ∃ (a C d : Addr) (fs : List (Str × V)) (v : V), x = .ref a ∧ H1 a = some (exo a C (some d)) ∧ HX.ExC K C ∧ PySem.W.findIn K (.ref C) f = some none ∧ H1 d = some (.xd fs) ∧ fs.lookup f = some v ∧ Q v H1
theorem pe_fv {e : Expr} {te : TE} {pos : Pos} {n : Str} (he : PE X e te) (hb : attributeBase e n X.env (eval e X.env) = eval e X.env := by rfl) : PE X (.Attribute e n pos) (tFv X.K n te) := by
  refine ⟨fun pins s σ H Q I h => ?_⟩
  refine attr_of hb (thn (he.run pins s σ H _ I h) fun u s1 hh => ?_)
  obtain ⟨x, H1, I1, rx, a, C, d, fs, v, ex, ha, T, hno, ea, l, q⟩ := hh
  subst ex
  obtain rfl : u = Value.ref a := rx
  obtain ⟨t1, hget⟩ := exo_at I1.hok ha
  have hxd : ObjOk X.prog X.w H1 s1.heap d (.xd fs) := I1.hok d _ ea
  obtain ⟨mA, hns, hr⟩ := hxd
  obtain ⟨od, ho, hl⟩ := lookIn_ns hns
  obtain ⟨u, hu, ru⟩ := RelO.some_of (v := v) (o := mA n) (by rw [← l]; exact hr n)
  have J : PySem.W.InstAt s1.heap a _ C (some od) := ⟨hget, rfl, rfl, ho⟩
  exact HandSPX.exc_get I1.kIn J T.hg T.hk T.hs (PySem.W.findObj_own T.hd hno rfl (by rw [hl, hu])) (handed_of ru) ⟨v, H1, I1.tok _, ru, q⟩
end
end L2
namespace DL
open PySem L2 PyProof.Rows PySem.XvX
variable [TabL]
def fqE (xc : Nat → Addr) (k : Nat) (G : Hp) (f : Addr) (vs : List V) : Prop :=
  4000 ≤ k ∧ vs.length = (excFields (k - 4000)).length ∧ ∃ od, G f = some (exo f (xc (k - 4000)) od) ∧ (∀ d, od = some d → G d = some (.xd ((excFields (k - 4000)).zip vs))) ∧ (od = none → vs = [])
theorem fqE_mono (xc : Nat → Addr) (k : Nat) (G G' : Hp) (f : Addr) (vs : List V) (e : ∀ a o, G a = some o → G' a = some o) (h : fqE xc k G f vs) : fqE xc k G' f vs := by
  obtain ⟨h1, h2, od, h3, h4, h5⟩ := h
  exact ⟨h1, h2, od, e _ _ h3, fun d z => e _ _ (h4 d z), h5⟩
theorem denF_zip {C : Kc} {G : Hp} : ∀ {fl : List Str} {vs : List V} {ds : List D}, DenL C G vs ds → DenF C G (fl.zip vs) (fl.zip ds)
  | [], _, _, _ => by rw [List.zip_nil_left, List.zip_nil_left]; exact .nil
  | _ :: _, _, _, .nil => by rw [List.zip_nil_right, List.zip_nil_right]; exact .nil
  | _ :: _, _, _, .cons h l => by rw [List.zip_cons_cons, List.zip_cons_cons]; exact .cons h (denF_zip l)
def MkD (P : Program) (w : World) (C : Kc) (mg : Str → Option Value) (c : Nat) : Prop := mg (SL.excName c) = some (.ref (C.xc c)) ∧ PySem.W.keepIn C.K (.ref (C.xc c)) = true ∧ MkPl P w C.K (C.xc c) (excFields c)
def MkDK (P : Program) (w : World) (C : Kc) (mg : Str → Option Value) (c : Nat) (ks : List Str) (ix : List Nat) : Prop := mg (SL.excName c) = some (.ref (C.xc c)) ∧ PySem.W.keepIn C.K (.ref (C.xc c)) = true ∧ MkKy P w C.K (C.xc c) (excFields c) ks (perm ix)
def MkD0 (C : Kc) (mg : Str → Option Value) (c : Nat) : Prop := PySem.XvN.XnTxt C.K mg (SL.excName c) (C.xc c)
section
variable {F : Fam} {S S1 : ST} {e : Expr} {es : List Expr} {kws : List Keyword} {ds : List D} {d : D} {pos p q0 : Pos} {c : Nat} {cn nm : Str}
theorem exc_ev {C : Kc} {G H : Hp} {σ : L2.St} {x d : Addr} {vs : List V} (cx : Ctx C G H σ S) (hfq : C.fq = fqE C.xc) (hl : vs.length = (excFields c).length) (dl : DenL C G vs ds) (nx : H x = none) (nd : H d = none) (ne : d ≠ x) :
    ∃ G2, Mv C σ S G H S G2 (updL H (excNew (C.xc c) x d ((excFields c).zip vs))) ∧ Den C G2 (.ref x) (.fn (4000 + c) ds) := by
  have m1 := cx.new (o := .xd ((excFields c).zip vs)) nd
  have nx1 : upd H d (.xd ((excFields c).zip vs)) x = none := by rw [upd_ne (Ne.symm ne)]; exact nx
  have m2 := m1.cx.new (o := exo x (C.xc c) (some d)) nx1
  refine ⟨_, m1.trans m2, ?_⟩
  refine .fn (vs := vs) ?_ ((dl.mono m1.go.gg).mono m2.go.gg)
  rw [hfq]
  have e0 : 4000 + c - 4000 = c := by omega
  refine ⟨by omega, by rw [e0]; exact hl, some d, by rw [e0]; exact upd_same, fun d' z => ?_, fun z => nomatch z⟩
  cases z
  rw [e0, upd_ne ne]
  exact upd_same
theorem de_mkE [Calm F] (hfq : F.C.fq = fqE F.C.xc) (md : MkD F.P F.w F.C F.mg c) (hn : cn = SL.excName c) (ha : DA F (e :: es) S S1 ds) (hl : ds.length = (excFields c).length)
    (hg : ∀ i, Gl (F.X i) cn) (hdb : (cn == ("__debug__" : Str)) = false) (he : ∀ i, starEach (e :: es) (F.X i).env = (false, eval e (F.X i).env) :: starEach es (F.X i).env) (hpl : ∀ i, (backTo pos (starEach es (F.X i).env)).any (·.1) = false) :
    DE F (.Call (.Name cn p) (e :: es) [] pos) S S1 (.fn (4000 + c) ds) := by
  subst hn
  obtain ⟨h1, h2, h3⟩ := md
  refine de_of (te := tMkE (F.C.xc c) (excFields c) (anyA F (e :: es))) (fun i => pe_mkE (by rw [F.hmg i]; exact h1) (by rw [F.hK i]; exact h2) (by rw [F.hP i, F.hw i, F.hK i]; exact h3) (F.room i) (anyA_ok i) (hg i) hdb (he i) (hpl i)) ?_
  intro σ G H cx Q q
  refine ha σ G H cx _ fun vs G1 H1 m dl => ⟨by rw [dl.length]; exact hl, fun x d nx nd ne => ?_⟩
  obtain ⟨G2, m2, dv⟩ := exc_ev m.cx hfq (by rw [dl.length]; exact hl) dl nx nd ne
  exact q _ G2 _ (m.trans m2) dv
theorem de_mkEK [Calm F] {ks : List Str} {ix : List Nat} (hfq : F.C.fq = fqE F.C.xc) (md : MkDK F.P F.w F.C F.mg c ks ix) (hn : cn = SL.excName c) (ha : DK F kws S S1 ds) (hl : ds.length = ks.length) (hl2 : (perm ix ds).length = (excFields c).length)
    (hg : ∀ i, Gl (F.X i) cn) (hdb : (cn == ("__debug__" : Str)) = false) (hall : ∀ i, (backToKw pos (keywordEach kws (F.X i).env)).all (·.1.isSome) = true)
    (hks : ∀ i, (backToKw pos (keywordEach kws (F.X i).env)).filterMap (·.1) = ks) (hpl : ∀ i, ((backTo pos (starEach [] (F.X i).env)).any (·.1) || (backToKw pos (keywordEach kws (F.X i).env)).any (·.1.isNone)) = false) :
    DE F (.Call (.Name cn p) [] kws pos) S S1 (.fn (4000 + c) (perm ix ds)) := by
  subst hn
  obtain ⟨h1, h2, h3⟩ := md
  refine de_of (te := tMkEK (F.C.xc c) ks.length (excFields c) (perm ix) (anyK F kws)) (fun i => pe_mkEK (fun r => Vals.perm r ix) (by rw [F.hmg i]; exact h1) (by rw [F.hK i]; exact h2) (by rw [F.hP i, F.hw i, F.hK i]; exact h3) (F.room i) (anyK_ok i) (hg i) hdb (hall i) (hks i) (hpl i)) ?_
  intro σ G H cx Q q
  refine ha σ G H cx _ fun vs G1 H1 m dl => ⟨by rw [dl.length]; exact hl, fun x d nx nd ne => ?_⟩
  obtain ⟨G2, m2, dv⟩ := exc_ev m.cx hfq (by rw [(dl.perm ix).length]; exact hl2) (dl.perm ix) nx nd ne
  exact q _ G2 _ (m.trans m2) dv
theorem de_mkE0 (hfq : F.C.fq = fqE F.C.xc) (md : MkD0 F.C F.mg c) (hn : cn = SL.excName c) (hl : excFields c = []) (hg : ∀ i, Gl (F.X i) cn) (hdb : (cn == ("__debug__" : Str)) = false) : DE F (.Call (.Name cn p) [] [] pos) S S (.fn (4000 + c) []) := by
  subst hn
  refine de_of (te := fun σ H Q => ∀ x, H x = none → Q (.ref x) (upd H x (exo x (F.C.xc c) none))) (fun i => ⟨fun pins s σ H Q I h => ?_⟩) ?_
  · have T : PySem.XvN.XnTxt (F.X i).K (F.X i).mg (SL.excName c) (F.C.xc c) := by rw [F.hK i, F.hmg i]; exact md
    refine wpAny_Call_Name_kw (ld_glob I (hg i) T.gC ?_ hdb)
    refine PySem.W.callWith_K0 I.kIn T.kC ?_
    obtain ⟨hp, g, dr, tk, os⟩ := s
    refine PySem.XvN.xn_made T I.kIn fun h' x t1 keep big ho => ?_
    have n1 : H x = none := I.hok.fresh big
    exact ⟨.ref x, _, I.laid (t' := tk) keep big (exo_ok ho), rfl, h x n1⟩
  · intro σ G H cx Q q x nx
    have m := cx.new (o := exo x (F.C.xc c) none) nx
    refine q _ _ _ m (.fn (vs := []) ?_ .nil)
    rw [hfq]
    have e0 : 4000 + c - 4000 = c := by omega
    exact ⟨by omega, by rw [e0, hl]; rfl, none, by rw [e0]; exact upd_same, (fun d z => nomatch z), fun _ => rfl⟩
theorem de_isV {T : Expr} {k : Nat} {fs : List D} {cv : V} {cv0 : Value} {b : Bool} (hfq : F.C.fq = fqE F.C.xc) (hC : HX.ExC F.C.K (F.C.xc (k - 4000))) (he : DE F e S S (.fn k fs)) (hT : DE F T S S (.cst cv)) (hcv : ∀ u, RelV cv u → u = cv0) (hk : PySem.W.kitOne F.C.K (.ref (F.C.xc (k - 4000))) cv0 = some b)
    (hm : F.mg "isinstance" = none) (hgl : ∀ i, Gl (F.X i) "isinstance")
    (hs : ∀ i, starEach [e, T] (F.X i).env = (false, eval e (F.X i).env) :: starEach [T] (F.X i).env) (hs2 : ∀ i, starEach [T] (F.X i).env = (false, eval T (F.X i).env) :: starEach [] (F.X i).env) (hpl : ∀ i, (backTo pos (starEach [T] (F.X i).env)).any (·.1) = false) :
    DE F (.Call (.Name "isinstance" p) [e, T] [] pos) S S (.bl b) := by
  refine de_of (te := fun σ H Q => anyA F [e, T] σ H fun xs H1 => rIsV F.C.K xs H1 Q) (fun i => ?_) ?_
  · have hc : CallR (F.X i) (.builtin "isinstance") (rIsV F.C.K) := by
      have := isE_ok (X := F.X i)
      rw [F.hK i] at this
      exact this
    exact pe_callB hc (hgl i) (by rw [F.hmg i]; exact hm) bb_isinstance (anyA_ok i) (by decide) (by decide) (hs i) (hpl i)
  · intro σ G H cx Q q
    refine da_cons he (da_cons hT da_nil hs2) hs σ G H cx _ fun vs G1 H1 m dl => ?_
    cases dl with
    | cons d1 dl =>
      cases dl with
      | cons d2 dl =>
        cases dl
        cases d2
        cases d1 with
        | fn hf _ =>
          rw [hfq] at hf
          obtain ⟨_, _, od, h3, h4, _⟩ := hf
          exact ⟨_, _, 0, od, _, cv0, b, rfl, hcv, m.cx.sub _ _ h3, fun d z => ⟨_, m.cx.sub _ _ (h4 d z)⟩, hC, hk, q _ G1 H1 m (.bl b)⟩
theorem de_fv {f : Str} {k : Nat} {fs : List D} (hfq : F.C.fq = fqE F.C.xc) (hC : HX.ExC F.C.K (F.C.xc (k - 4000))) (hno : PySem.W.findIn F.C.K (.ref (F.C.xc (k - 4000))) f = some none) (he : DE F e S S (.fn k fs)) (hl : ((excFields (k - 4000)).zip fs).lookup f = some d)
    (hb : ∀ i, attributeBase e f (F.X i).env (eval e (F.X i).env) = eval e (F.X i).env) : DE F (.Attribute e f pos) S S d := by
  refine de_of (te := tFv F.C.K f (anyE F e)) (fun i => ?_) ?_
  · have := pe_fv (X := F.X i) (n := f) (pos := pos) (anyE_ok (e := e) i) (hb i)
    rw [F.hK i] at this
    exact this
  intro σ G H cx Q q
  refine he σ G H cx _ fun v G1 H1 m dv => ?_
  cases dv with
  | fn hf hd =>
    rw [hfq] at hf
    obtain ⟨_, h2, od, h3, h4, h5⟩ := hf
    obtain ⟨v, l1, l2⟩ := (denF_zip (fl := excFields (k - 4000)) hd).look hl
    cases od with
    | none =>
      have := h5 rfl
      subst this
      rw [List.zip_nil_right] at l1
      cases l1
    | some dd => exact ⟨_, _, dd, _, v, rfl, m.cx.sub _ _ h3, hC, hno, m.cx.sub _ _ (h4 dd rfl), l1, q v G1 H1 m l2⟩
end
end DL
namespace SL
open PySem L2 DL
variable [TabL]
def mkE (c : Nat) (ds : List D) : O D := if ds.length = (excFields c).length then .ok (.fn (4000 + c) ds) else .bad
theorem mkE_eq {c : Nat} {ds : List D} {d : D} (h : mkE c ds = .ok d) : ds.length = (excFields c).length ∧ d = .fn (4000 + c) ds := by
  unfold mkE at h
  split at h
  · cases h; exact ⟨by assumption, rfl⟩
  · cases h
def isVO (L : List Nat) (f : Nat → Bool) : D → O D
  | .fn k _ => if (Nat.ble 4000 k && L.contains (k - 4000)) = true then .ok (.bl (f (k - 4000))) else .bad
  | _ => .bad
def fvO (L : List Nat) (f : Str) : D → O D
  | .fn k fs => if (Nat.ble 4000 k && L.contains (k - 4000)) = true then fxO (k - 4000) fs f else .bad
  | _ => .bad
section
variable {F : Fam} {S : ST} {e : Expr} {es : List Expr} {kws : List Keyword} {pos p q0 : Pos} {c t : Nat} {cn nm : Str} {L Lc : List Nat} {oa : O D} {os : O (List D)}
theorem p_mkE [Calm F] (hfq : F.C.fq = fqE F.C.xc) (md : MkD F.P F.w F.C F.mg c) (ha : DAp F (e :: es) S os) (hn : cn = excName c := by rfl)
    (hg : ∀ i, Gl (F.X i) cn := by intro _; rfl) (hdb : (cn == ("__debug__" : Str)) = false := by decide)
    (he : ∀ i, starEach (e :: es) (F.X i).env = (false, eval e (F.X i).env) :: starEach es (F.X i).env := by intro _; rfl) (hpl : ∀ i, (backTo pos (starEach es (F.X i).env)).any (·.1) = false := by intro _; rfl) :
    DEp F (.Call (.Name cn p) (e :: es) [] pos) S (os.bind (mkE c)) := fun d q => by
  obtain ⟨ds, h1, q⟩ := O.bind_eq q
  obtain ⟨hl, rfl⟩ := mkE_eq q
  exact de_mkE hfq md hn (ha ds h1).1 hl hg hdb he hpl
theorem p_mkEK [Calm F] {ks : List Str} {ix : List Nat} (hfq : F.C.fq = fqE F.C.xc) (md : MkDK F.P F.w F.C F.mg c ks ix) (ha : DKp F kws S os) (hn : cn = excName c := by rfl) (hl : kws.length = ks.length := by rfl)
    (hg : ∀ i, Gl (F.X i) cn := by intro _; rfl) (hdb : (cn == ("__debug__" : Str)) = false := by decide) (hall : ∀ i, (backToKw pos (keywordEach kws (F.X i).env)).all (·.1.isSome) = true := by intro _; rfl)
    (hks : ∀ i, (backToKw pos (keywordEach kws (F.X i).env)).filterMap (·.1) = ks := by intro _; rfl) (hpl : ∀ i, ((backTo pos (starEach [] (F.X i).env)).any (·.1) || (backToKw pos (keywordEach kws (F.X i).env)).any (·.1.isNone)) = false := by intro _; rfl) :
    DEp F (.Call (.Name cn p) [] kws pos) S (os.bind fun ds => mkE c (perm ix ds)) := fun d q => by
  obtain ⟨ds, h1, q⟩ := O.bind_eq q
  obtain ⟨h2, rfl⟩ := mkE_eq q
  obtain ⟨h3, h4⟩ := ha ds h1
  exact de_mkEK hfq md hn h3 (h4.trans hl) h2 hg hdb hall hks hpl
theorem p_mkE0 (hfq : F.C.fq = fqE F.C.xc) (md : MkD0 F.C F.mg c) (hn : cn = excName c := by rfl) (hl : excFields c = [] := by rfl) (hg : ∀ i, Gl (F.X i) cn := by intro _; rfl) (hdb : (cn == ("__debug__" : Str)) = false := by decide) :
    DEp F (.Call (.Name cn p) [] [] pos) S (.ok (.fn (4000 + c) [])) := fun d q => by
  cases q
  exact de_mkE0 hfq md hn hl hg hdb
theorem p_isV (hfq : F.C.fq = fqE F.C.xc) (tx : TxE F.C F.mg L Lc) (he : DEp F e S oa) (hm : F.mg "isinstance" = none) (t : Nat) (ht : t ∈ Lc := by decide) (hn : nm = excName t := by rfl)
    (hgl : ∀ i, Gl (F.X i) "isinstance" := by intro _; rfl) (hgn : ∀ i, Gl (F.X i) nm := by intro _; rfl) (hdb : (nm == ("__debug__" : Str)) = false := by decide)
    (hs : ∀ i, starEach [e, .Name nm q0] (F.X i).env = (false, eval e (F.X i).env) :: starEach [.Name nm q0] (F.X i).env := by intro _; rfl) (hs2 : ∀ i, starEach [.Name nm q0] (F.X i).env = (false, eval (.Name nm q0) (F.X i).env) :: starEach [] (F.X i).env := by intro _; rfl) (hpl : ∀ i, (backTo pos (starEach [.Name nm q0] (F.X i).env)).any (·.1) = false := by intro _; rfl) :
    DEp F (.Call (.Name "isinstance" p) [e, .Name nm q0] [] pos) S (oa.bind (isVO L fun c => isE c t)) := fun d q => by
  obtain ⟨x, h1, q⟩ := O.bind_eq q
  subst hn
  unfold isVO at q
  split at q
  · rename_i k fs
    split at q
    · rename_i hc
      cases q
      have hc := List.contains_iff_mem.mp (Bool.and_eq_true_iff.mp hc).2
      exact de_isV hfq (tx.ex _ hc) (he _ h1) (de_glob (tx.cn t ht) (v := .ref (F.C.xc t)) rfl (fun _ => .cst _) hgn hdb) (cv0 := .ref (F.C.xc t)) (fun u r => r) (tx.ki _ hc t ht) hm hgl hs hs2 hpl
    · cases q
  · cases q
theorem p_isVB (hfq : F.C.fq = fqE F.C.xc) (tx : TxE F.C F.mg L Lc) (he : DEp F e S oa) (hm : F.mg "isinstance" = none) (T : String) (hT : T ∈ ["ValueError", "LookupError", "ArithmeticError"] := by decide) (hTn : nm ∈ [("ValueError" : Str), "LookupError", "ArithmeticError"] := by decide) (hv : bootBuiltins nm = some (.type T) := by decide +kernel)
    (hgl : ∀ i, Gl (F.X i) "isinstance" := by intro _; rfl) (hgn : ∀ i, Gl (F.X i) nm := by intro _; rfl) (hn : nm ≠ "__name__" := by decide) (hdb : (nm == ("__debug__" : Str)) = false := by decide)
    (hs : ∀ i, starEach [e, .Name nm q0] (F.X i).env = (false, eval e (F.X i).env) :: starEach [.Name nm q0] (F.X i).env := by intro _; rfl) (hs2 : ∀ i, starEach [.Name nm q0] (F.X i).env = (false, eval (.Name nm q0) (F.X i).env) :: starEach [] (F.X i).env := by intro _; rfl) (hpl : ∀ i, (backTo pos (starEach [.Name nm q0] (F.X i).env)).any (·.1) = false := by intro _; rfl) :
    DEp F (.Call (.Name "isinstance" p) [e, .Name nm q0] [] pos) S (oa.bind (isVO L fun c => isEB c T)) := fun d q => by
  obtain ⟨x, h1, q⟩ := O.bind_eq q
  unfold isVO at q
  split at q
  · rename_i k fs
    split at q
    · rename_i hc
      cases q
      have hc := List.contains_iff_mem.mp (Bool.and_eq_true_iff.mp hc).2
      exact de_isV hfq (tx.ex _ hc) (he _ h1) (de_bltn (tx.b3 nm hTn) hv (v := .ty T) rfl hgn hn hdb) (cv0 := .type T) (fun u r => r) (tx.kb _ hc T hT) hm hgl hs hs2 hpl
    · cases q
  · cases q
theorem p_fv {f : Str} (hfq : F.C.fq = fqE F.C.xc) (tx : TxE F.C F.mg L Lc) (he : DEp F e S oa) (hb : ∀ i, attributeBase e f (F.X i).env (eval e (F.X i).env) = eval e (F.X i).env := by intro _; rfl) : DEp F (.Attribute e f pos) S (oa.bind (fvO L f)) := fun d q => by
  obtain ⟨x, h1, q⟩ := O.bind_eq q
  unfold fvO at q
  split at q
  · rename_i k fs
    split at q
    · rename_i hc
      have hc := List.contains_iff_mem.mp (Bool.and_eq_true_iff.mp hc).2
      unfold fxO at q
      split at q
      · rename_i d' e1
        cases q
        exact de_fv hfq (tx.ex _ hc) (tx.fl _ hc f (zip_mem e1)) (he _ h1) e1 hb
      · cases q
    · cases q
  · cases q
end
end SL
namespace DL
open PySem PySem.Spec PyProof.Rows L2
variable [TabL]
theorem denL_bls_eq {C : Kc} {G : Hp} : ∀ {vs : List V} {ys : List Bool}, DenL C G vs (ys.map D.bl) → vs = ys.map V.bl
  | _, [], .nil => rfl
  | _, y :: ys, .cons h t => by cases h; rw [denL_bls_eq t]; rfl
section
variable {F : Fam} {S S1 S2 : ST} {o e : Expr}
theorem de_lindexB {apos pos : Pos} {xs : List Bool} {y : Bool} {j : Nat} (ho : DE F o S S1 (.lst (xs.map D.bl))) (he : DE F e S1 S2 (.bl y)) (hj : xs[j]? = some y) (hno : ∀ m, m < j → xs[m]? ≠ some y)
    (hbase : ∀ i, attributeBase o "index" (F.X i).env (eval o (F.X i).env) = eval o (F.X i).env) (hline : (apos.endLine == pos.line) = true)
    (hfew : ∀ i, ((backTo pos (starEach [e] (F.X i).env)).all (fun x => !x.1) && (backToKw pos (keywordEach [] (F.X i).env)).all (fun x => x.1.isSome)
      && decide ([e].length + ([] : List Keyword).length + (if ([] : List Keyword).isEmpty then 0 else 1) < 30)) = true)
    (hs : ∀ i, starEach [e] (F.X i).env = (false, eval e (F.X i).env) :: starEach [] (F.X i).env) (hpl : ∀ i, (backTo pos (starEach [] (F.X i).env)).any (·.1) = false) :
    DE F (.Call (.Attribute o "index" apos) [e] [] pos) S S2 (.int (j : Nat)) :=
  de_of (te := tBM F.C.K "list" (rIndex F.C.K) (anyE F o) (tCons (anyE F e) tNil)) (fun i => by
    have := pe_bm (X := F.X i) PySem.F.plainAttrs_list PySem.F.slot_list_index PySem.F.type_list_index mt_index (anyE_ok (e := o) i) (pa_cons (anyE_ok (e := e) i) pa_nil (hs i)) (hbase i) (hfew i) hline (hs i) (hpl i)
    rw [F.hK i] at this
    exact this) fun σ G H c Q q => ho σ G H c _ fun v G1 H1 m1 dv => by
    cases dv with
    | @lst a vs _ h1 h2 =>
      have ev := denL_bls_eq h2
      subst ev
      refine ⟨.inl ⟨rfl, _, m1.cx.sub.seq h1⟩, ?_⟩
      refine he σ G1 H1 m1.cx _ fun w G2 H2 m2 dw => ?_
      cases dw
      refine ⟨a, _, .bl y, j, .bl y, rfl, rfl, (m1.trans m2).cx.sub.seq (m2.go.gg.seq h1), rfl, ?_, ?_, ?_, ?_, q _ _ _ (m1.trans m2) (.int _)⟩
      · exact List.all_eq_true.mpr fun z hz => by
          obtain ⟨t, _, rfl⟩ := List.mem_map.mp hz
          rfl
      · rw [List.getElem?_map, hj]; rfl
      · cases y <;> rfl
      · intro m z hm hz
        rw [List.getElem?_map] at hz
        cases hq : xs[m]? with
        | none => rw [hq] at hz; cases hz
        | some t =>
          rw [hq] at hz
          cases hz
          have ne : t ≠ y := fun e => hno m hm (by rw [hq, e])
          cases t <;> cases y <;> first | rfl | exact absurd rfl ne
end
def isD0 : D → Bool
  | .dic [] => true
  | _ => false
def itB (d : D) : Bool := okP d && (toP d).showable && (toP d).leavesShort 100 && !(toP d).hasDict && decide ((toP d).depth ≤ 10) && decide ((toP d).weight ≤ 1000)
def toQ (d : D) : PyData := if isD0 d then .dict [] else toP d
def IQ (C : Kc) (H : Hp) (v : V) (d : D) : Prop := (isD0 d = true ∧ ∃ a o, v = .ref a ∧ H a = some (ND.NDO C.P C.w a o [])) ∨ (isD0 d = false ∧ itB d = true ∧ Dp C.K H v (toP d))
section
variable {F : Fam} {a b : D}
theorem iq_reads {C : Kc} {X : Cx} {pins : List (Addr × Obj)} {σ : L2.St} {H : Hp} {s : Shared} {v : V} {u : Value} {d : D} (hK : X.K = C.K) (hP : X.prog = C.P) (hw : X.w = C.w) (I : Inv X pins σ H s) (h : IQ C H v d) (r : RelV v u) :
    ∃ as, Reads s.heap u (toQ d) as ∧ (toQ d).showable = true ∧ ((toQ d).hasDict = true → sysModules ∉ as) ∧ (toQ d).depth ≤ 10 ∧ (toQ d).shown.length ≤ 1000000 := by
  rcases h with ⟨h0, ad, o, rfl, ha⟩ | ⟨h0, hb, hd⟩
  · have e : toQ d = .dict [] := by unfold toQ; rw [if_pos h0]
    rw [e]
    cases (show u = Value.ref ad from r)
    rw [← hP, ← hw] at ha
    obtain ⟨⟨_, hsm, _, es, ep, h4, h5, h6, h7⟩, _, _⟩ := I.hok ad _ ha
    have e0 : es.toList = [] := h7
    refine ⟨_, Reads.dict (kvs := []) h4 h5.1 h6 (by rw [e0]; exact .nil) (by rw [e0]; exact .nil), rfl, fun _ z => ?_, by decide, by decide⟩
    have e1 : sysModules = ad := by simpa using z
    rw [e1] at hsm
    simp at hsm
  · have e : toQ d = toP d := by unfold toQ; rw [h0]; rfl
    rw [e]
    unfold itB at hb
    simp only [Bool.and_eq_true, decide_eq_true_eq, Bool.not_eq_true'] at hb
    obtain ⟨⟨⟨⟨⟨_, h2⟩, h3⟩, h4⟩, h5⟩, h6⟩ := hb
    rw [← hK] at hd
    obtain ⟨as, rd⟩ := Dp.reads I _ _ _ hd r
    have hsz := PyData.shown_le 100 (by decide) (toP d) h3
    exact ⟨as, rd, h2, (fun z => by rw [h4] at z; cases z), h5, by omega⟩
theorem listText_two (x y : Str) (hx : x.length ≤ 1000000) (hy : y.length ≤ 1000000) : (listText [x, y]).length ≤ sizeLine := by
  have h1 := textFrom_length_pos [y] 1 (("[" : Str) ++ (if 0 > 0 then ", " else "" : String) ++ x) (by decide)
  have e : (listText [x, y]).length = (textFrom 1 (("[" : Str) ++ (if 0 > 0 then ", " else "" : String) ++ x) [y]).length + 1 := by
    show (textFrom 1 _ [y] ++ ("]" : Str)).length = _
    rw [strLen_append]
    rfl
  have e2 : (("[" : Str) ++ (if 0 > 0 then ", " else "" : String) ++ x).length = 1 + x.length := by
    rw [strLen_append, strLen_append]
    rfl
  have e3 : piled [y] = y.length + 2 := by rw [piled_cons, piled_nil]
  rw [e, h1, e2, e3, sizeLine_eq]
  omega
theorem ca_repr2 (hG : ∀ i, (F.X i).A.guards = some []) (ha : (isD0 a || itB a) = true) (hb : (isD0 b || itB b) = true) : CaD F (.builtin "repr") [.lst [a, b]] (.str (listText [(toQ a).shown, (toQ b).shown])) := by
  refine ⟨fun xs H Q => ∃ p v1 v2, xs = [.ref p] ∧ SqL F.C.K H p [v1, v2] ∧ IQ F.C H v1 a ∧ IQ F.C H v2 b ∧ Q (.str (listText [(toQ a).shown, (toQ b).shown])) H, fun i => ?_, fun G H us s hu Q q => ?_⟩
  · intro pins s σ H xs us Q I rx hx
    obtain ⟨p, v1, v2, rfl, hs, i1, i2, q⟩ := hx
    obtain ⟨u, rfl, ru⟩ := vals1 rx
    cases (show u = Value.ref p from ru)
    have hs' : SqL (F.X i).K H p [v1, v2] := by rw [F.hK i]; exact hs
    obtain ⟨its, rv, ⟨⟨cls, dd, data, sls⟩, n, ho, hc, hdn, hdt⟩, hlen⟩ := I.list hs'
    simp only at hc hdt
    subst hc hdt
    cases rv with
    | cons r1 rv =>
      cases rv with
      | cons r2 rv =>
        cases rv
        have cP : (F.X i).prog = F.C.P := by rw [F.hP i, F.cP]
        have cw : (F.X i).w = F.C.w := by rw [F.hw i, F.cw]
        obtain ⟨as1, rd1, sh1, sm1, dp1, ln1⟩ := iq_reads (F.hK i) cP cw I i1 r1
        obtain ⟨as2, rd2, sh2, sm2, dp2, ln2⟩ := iq_reads (F.hK i) cP cw I i2 r2
        have sz : (listText [(toQ a).shown, (toQ b).shown]).length ≤ sizeLine := listText_two _ _ ln1 ln2
        have lim : 1000000 ≤ sizeLine := by rw [sizeLine_eq]; decide
        obtain ⟨b1, hb1, k1⟩ := ReprK.of_reads (prog := (F.X i).prog) (w := (F.X i).w) rd1 sh1 sm1 (Nat.le_trans ln1 lim)
        obtain ⟨b2, hb2, k2⟩ := ReprK.of_reads (prog := (F.X i).prog) (w := (F.X i).w) rd2 sh2 sm2 (Nat.le_trans ln2 lim)
        have rdl : Reads s.heap (.ref p) (.list [toQ a, toQ b]) (p :: (as1 ++ (as2 ++ []))) := Reads.list ho rfl rfl (.cons rd1 (.cons rd2 .nil))
        have d1 : (toQ a).depth ≤ PyData.depthAll [toQ a, toQ b] := by simp only [PyData.depthAll]; exact Nat.le_max_left _ _
        have d2 : (toQ b).depth ≤ PyData.depthAll [toQ a, toQ b] := by simp only [PyData.depthAll]; exact Nat.le_trans (Nat.le_max_left _ _) (Nat.le_max_right _ _)
        have d3 : PyData.depthAll [toQ a, toQ b] ≤ 10 := by simp only [PyData.depthAll]; exact Nat.max_le.mpr ⟨dp1, Nat.max_le.mpr ⟨dp2, Nat.zero_le _⟩⟩
        have am : ReadAtMost s.heap (PyData.depthAll [toQ a, toQ b]) (b1 ++ b2) := (hb1.mono d1).append (hb2.mono d2)
        have hna : p ∉ b1 ++ b2 := not_mem_of_deeper rdl (by simp only [PyData.depth]; omega) am
        have kk := ReprAllK.cons ((k1.more fun x hx => List.mem_append_left b2 hx).level_le d1) (ReprAllK.cons ((k2.more fun x hx => List.mem_append_right b1 hx).level_le d2) (ReprAllK.nil (prog := (F.X i).prog) (w := (F.X i).w) (as := b1 ++ b2) (h₀ := s.heap) (d := PyData.depthAll [toQ a, toQ b])))
        have un := F.units i
        refine call_repr_slot (by omega) ⟨_, ho, rfl⟩ PySem.F.slot_list_repr.toG (call_list_reprK (h₀ := s.heap) ho rfl rfl hna rfl (fun k y e => kk.item k y (by simpa using e)) (hG i) (fun b _ => Clear.nil b) (by show (F.X i).A.units + 1 + _ < cLine; omega) (fun _ _ z => z) (fun h' u tk kp => ⟨_, _, rfl, .str _, H, I.kept kp, ⟨_, rfl⟩, q⟩) sz)
  · have item : ∀ {v : V} {d : D}, (isD0 d || itB d) = true → Den F.C G v d → IQ F.C H v d := fun {v d} hd dv => by
      cases z : isD0 d with
      | true =>
        refine .inl ⟨z, ?_⟩
        cases dv with
        | @dN a0 o0 xs0 kds h1 h3 =>
          cases kds with
          | nil => cases h3; exact ⟨a0, o0, rfl, s _ _ h1⟩
          | cons _ _ => cases z
        | _ => cases z
      | false =>
        rw [z, Bool.false_or] at hd
        refine .inr ⟨z, hd, ?_⟩
        unfold itB at hd
        simp only [Bool.and_eq_true] at hd
        exact dv.dp s hd.1.1.1.1.1
    cases hu with
    | cons h0 l =>
      cases l
      cases h0 with
      | lst h1 h2 =>
        cases h2 with
        | cons e1 h2 =>
          cases h2 with
          | cons e2 h2 =>
            cases h2
            exact ⟨_, _, _, rfl, s.seq h1, item ha e1, item hb e2, q _ _ _ (.refl s) (.str _)⟩
end
end DL
namespace SL
open PySem L2 DL
variable [TabL]
section
variable {F : Fam} {S : ST} {o e : Expr} {oa ob : O D} {apos pos : Pos}
def bi_reprQ : List D → O D
  | [.lst [a, b]] => if ((isD0 a || itB a) && (isD0 b || itB b)) = true then .ok (.str (listText [(toQ a).shown, (toQ b).shown])) else .bad
  | ds => bi_reprZ ds
theorem s_reprQ (hG : ∀ i, (F.X i).A.guards = some []) : CaS F (.builtin "repr") bi_reprQ := fun ds z h => by
  unfold bi_reprQ at h
  split at h
  · split at h
    · rename_i a b hm
      cases h
      obtain ⟨h1, h2⟩ := Bool.and_eq_true_iff.mp hm
      exact ca_repr2 hG h1 h2
    · cases h
  · exact s_reprZ hG _ _ h
def t_indexB : D → D → O D
  | .lst ds, .bl y => match bls? ds with
    | some xs => if y ∈ xs then .ok (.int (xs.idxOf y : Nat)) else .bad
    | none => .bad
  | x, y => t_index x y
theorem p_indexB (ho : DEp F o S oa) (he : DEp F e S ob)
    (hs : ∀ i, starEach [e] (F.X i).env = [(false, eval e (F.X i).env)] := by intro _; rfl) (hbase : ∀ i, attributeBase o "index" (F.X i).env (eval o (F.X i).env) = eval o (F.X i).env := by intro _; rfl) (hline : (apos.endLine == pos.line) = true := by rfl)
    (hfew : ∀ i, ((backTo pos (starEach [e] (F.X i).env)).all (fun x => !x.1) && (backToKw pos (keywordEach [] (F.X i).env)).all (fun x => x.1.isSome)
      && decide ([e].length + ([] : List Keyword).length + (if ([] : List Keyword).isEmpty then 0 else 1) < 30)) = true := by intro _; rfl)
    (hs2 : ∀ i, starEach [e] (F.X i).env = (false, eval e (F.X i).env) :: starEach [] (F.X i).env := by intro _; rfl) (hpl : ∀ i, (backTo pos (starEach [] (F.X i).env)).any (·.1) = false := by intro _; rfl) :
    DEp F (.Call (.Attribute o "index" apos) [e] [] pos) S (oa.bind fun x => ob.bind fun y => t_indexB x y) := fun d q => by
  obtain ⟨x, h1, q1⟩ := O.bind_eq q
  obtain ⟨y, h2, q2⟩ := O.bind_eq q1
  have old : t_index x y = .ok d → DE F (.Call (.Attribute o "index" apos) [e] [] pos) S S d := fun z => p_sindex ho he hs hbase hline d (by rw [h1]; show (ob.bind fun y => t_index x y) = _; rw [h2]; exact z)
  unfold t_indexB at q2
  split at q2
  · rename_i ds y
    cases c : bls? ds with
    | none => rw [c] at q2; cases q2
    | some xs =>
      rw [c] at q2
      by_cases m : y ∈ xs
      · have q3 : O.ok (D.int (xs.idxOf y : Nat)) = O.ok d := by rw [← q2]; exact (if_pos m).symm
        cases q3
        rw [bls?_eq c] at h1
        have hi : xs.idxOf y < xs.length := List.idxOf_lt_length_of_mem m
        exact de_lindexB (ho _ h1) (he _ h2) (by rw [List.getElem?_eq_getElem hi, List.getElem_idxOf hi]) (fun k hk e => by
          have hk2 : k < xs.length := by omega
          rw [List.getElem?_eq_getElem hk2] at e
          have := List.not_of_lt_findIdx (p := (· == y)) (xs := xs) hk
          rw [Option.some.inj e, beq_self_eq_true] at this
          cases this) hbase hline hfew hs2 hpl
      · have q3 : O.bad = O.ok d := by rw [← q2]; exact (if_neg m).symm
        cases q3
  · exact old q2
theorem p_callz [Calm F] (hG : ∀ i, (F.X i).A.guards = some []) {k : Nat} {nm : Str} {φ : List D → O D} {p : Pos} (cl : Cal F.P F.w F.C F.mg F.base k nm (spF F.C φ)) (hk : k ≤ F.k := by exact Nat.le_of_ble_eq_true rfl) (hg : ∀ i, Gl (F.X i) nm := by intro _; rfl) (hdb : (nm == ("__debug__" : Str)) = false := by decide) :
    DEp F (.Call (.Name nm p) [] [] pos) S ((O.ok []).bind φ) := by
  obtain ⟨f, fd, ps, Fn, h⟩ := cl
  exact p_callGz hG ⟨f, fd, ps, FnG.of Fn, h⟩ hk hg hdb
end
end SL
namespace EXX
open PySem L2 DL EX SL
variable {K : PySem.W.Frag}
def xrB (K : PySem.W.Frag) (C fI : Addr) : Bool := xvB K C fI "deed" && He.eqO (PySem.W.findIn K (.ref C) "shown") (some none)
theorem xr_of {mg : Str → Option Value} {cn qn : Str} {C fI : Addr} {fd : FuncData} {p1 p2 p3 q1 q2 q3 q4 q5 q6 q7 q8 : Pos} (g : mg cn = some (.ref C)) (h : xrB K C fI = true) (F : FunD K "__init__" qn (PySem.XvR.iA p1 p2 p3) (PySem.XvR.iB q1 q2 q3 q4 q5 q6 q7 q8) PySem.XvR.iS [] [] fI fd) : PySem.XvR.XrTxt K mg cn qn C fI := by
  obtain ⟨h, h13⟩ := He.ba h
  obtain ⟨h1, h⟩ := He.ba h
  obtain ⟨h2, h⟩ := He.ba h
  obtain ⟨h3, h⟩ := He.ba h
  obtain ⟨h4, h⟩ := He.ba h
  obtain ⟨h5, h⟩ := He.ba h
  obtain ⟨h6, h⟩ := He.ba h
  obtain ⟨h7, h⟩ := He.ba h
  obtain ⟨h8, h⟩ := He.ba h
  obtain ⟨h9, h⟩ := He.ba h
  obtain ⟨h10, h⟩ := He.ba h
  obtain ⟨h11, h12⟩ := He.ba h
  obtain ⟨oc, od, dV, kV, doc, pm, an, cdv, ct, osl, e, lk, hcd, hD, _⟩ := F.ex
  rcases hD with ⟨_, rfl⟩ | ⟨z, _⟩
  · subst e
    exact ⟨g, clsB_ok h1, eqO_ok h2, eqO_ok h3, eqO_ok h4, eqO_ok h5, eqO_ok h13, eqO_ok h6, tyB_ok h7, h8, eqB_ok h9, tyB_ok h10, h11, eqB_ok h12, ⟨oc, od, kV, doc, pm, an, cdv, ct, osl, p1, p2, p3, q1, q2, q3, q4, q5, q6, q7, q8, lk, hcd⟩⟩
  · exact absurd rfl z
theorem xr_at {mg : Str → Option Value} {cn qn : Str} {C fI : Addr} {fd : FuncData} {st : Stmt} (hs : ∃ p1 p2 p3 q1 q2 q3 q4 q5 q6 q7 q8, defArgs st = PySem.XvR.iA p1 p2 p3 ∧ defBody st = PySem.XvR.iB q1 q2 q3 q4 q5 q6 q7 q8 ∧ defScope st = PySem.XvR.iS) (g : mg cn = some (.ref C)) (h : xrB K C fI = true) (F : FunD K "__init__" qn (defArgs st) (defBody st) (defScope st) [] [] fI fd) :
    ∃ qn fI, PySem.XvR.XrTxt K mg cn qn C fI := by
  obtain ⟨p1, p2, p3, q1, q2, q3, q4, q5, q6, q7, q8, e1, e2, e3⟩ := hs
  rw [e1, e2, e3] at F
  exact ⟨qn, fI, xr_of g h F⟩
def xnB (K : PySem.W.Frag) (C : Addr) : Bool := clsB K C && (PySem.W.keepIn K (.ref C) && (He.eqO (PySem.W.findIn K (.ref C) "__init__") (some (some (.builtin "LookupError.__init__"))) && (match K.lookup C with
  | some ⟨_, _, .cls cd, sl⟩ => (match cd.mro with
    | _ :: bm => PySem.XvX.refsT PySem.XvX.leTail bm
    | _ => false) && (match sl.toList with
    | [_, _, _, _, some (.builtin nid), _] => decide (nid = "LookupError.__new__")
    | _ => false)
  | _ => false)))
theorem xn_at {mg : Str → Option Value} {cn : Str} {C : Addr} (g : mg cn = some (.ref C)) (h : xnB K C = true) : PySem.XvN.XnTxt K mg cn C := by
  obtain ⟨h1, h⟩ := He.ba h
  obtain ⟨h2, h⟩ := He.ba h
  obtain ⟨h3, h4⟩ := He.ba h
  obtain ⟨nid, nm, q, N, bs, bm, sn, sub, ab, col, dd, k0, k1, k2, k3, k5, hC, _⟩ := clsB_ok h1
  rw [hC] at h4
  have h4 : (PySem.XvX.refsT PySem.XvX.leTail bm && decide (nid = "LookupError.__new__")) = true := h4
  obtain ⟨h5, h6⟩ := He.ba h4
  have e := of_decide_eq_true h6
  subst e
  exact ⟨g, h2, ⟨nm, q, N, bs, bm, sn, sub, ab, col, dd, k0, k1, k2, k3, k5, hC, h5⟩, eqO_ok h3⟩
end EXX
namespace DL
open PySem L2 SL
section
variable {P : Program} {w : World} {C : Kc} {mg : Str → Option Value} {c : Nat}
theorem md_v (T : ∃ qn fI, PySem.XvX.XvTxt C.K mg (excName c) qn (C.xc c) fI) (hf : excFields c = [("value" : Str)]) : MkD P w C mg c ∧ MkDK P w C mg c ["value"] [0] := by
  obtain ⟨qn, fI, T⟩ := T
  exact ⟨⟨T.gC, T.kC, by rw [hf]; exact PySem.XvX.xv_mkP T⟩, T.gC, T.kC, by rw [hf]; exact PySem.XvX.xv_mkK T⟩
theorem md_i (T : ∃ qn fI, PySem.XvI.XiTxt C.K mg (excName c) qn (C.xc c) fI) (hf : excFields c = [("index" : Str)]) : MkD P w C mg c ∧ MkDK P w C mg c ["index"] [0] := by
  obtain ⟨qn, fI, T⟩ := T
  exact ⟨⟨T.gC, T.kC, by rw [hf]; exact PySem.XvI.xi_mkP T⟩, T.gC, T.kC, by rw [hf]; exact PySem.XvI.xi_mkK T⟩
theorem md_l (T : ∃ qn fI, PySem.XvL.XlTxt C.K mg (excName c) qn (C.xc c) fI) (hf : excFields c = [("limit" : Str)]) : MkD P w C mg c ∧ MkDK P w C mg c ["limit"] [0] := by
  obtain ⟨qn, fI, T⟩ := T
  exact ⟨⟨T.gC, T.kC, by rw [hf]; exact PySem.XvL.xl_mkP T⟩, T.gC, T.kC, by rw [hf]; exact PySem.XvL.xl_mkK T⟩
theorem md_g (T : ∃ qn fI, PySem.XvG.XgTxt C.K mg (excName c) qn (C.xc c) fI) (hf : excFields c = [("given" : Str)]) : MkD P w C mg c ∧ MkDK P w C mg c ["given"] [0] := by
  obtain ⟨qn, fI, T⟩ := T
  exact ⟨⟨T.gC, T.kC, by rw [hf]; exact PySem.XvG.xg_mkP T⟩, T.gC, T.kC, by rw [hf]; exact PySem.XvG.xg_mkK T⟩
theorem md_r (T : ∃ qn fI, PySem.XvR.XrTxt C.K mg (excName c) qn (C.xc c) fI) (hf : excFields c = [("deed" : Str), "shown"]) : MkD P w C mg c ∧ MkDK P w C mg c ["shown", "deed"] [1, 0] := by
  obtain ⟨qn, fI, T⟩ := T
  exact ⟨⟨T.gC, T.kC, by rw [hf]; exact PySem.XvR.xr_mkP T⟩, T.gC, T.kC, by rw [hf]; exact PySem.XvR.xr_mkK T⟩
end
end DL
namespace SL
open PySem L2 DL
variable [TabL]
def natOf : D → Nat
  | .int i => i.natAbs
  | _ => 0
def f_is_integer (v_value : D) : O D :=
  (tr (O.ite ((tr ((O.ok v_value).bind (isiB "int"))).bind asB) ((tr (((tr ((O.ok v_value).bind (isiB "bool"))).bind asB).bind fun k => O.ok (!k))).bind asB) (O.ok false)))
def f_is_between (v_value v_least v_most : D) : O D :=
  (tr (O.ite (((O.cons (O.ok v_value) (O.ok [])).bind (l1 f_is_integer)).bind asB) ((tr (chainO (O.ok v_least) (O.ok v_value) (O.ok v_most) c_le c_le)).bind asB) (O.ok false)))
def f_are_figures (v_text : D) : O D :=
  (O.ite (O.ite ((O.ok v_text).bind fun x => (O.ok (D.str "")).bind fun y => c_eq x y) (O.ok true) ((((O.cons ((((O.ok v_text).bind itD).bind (mapO (fun v_sign => (tr ((O.ok v_sign).bind fun x => (O.ok (D.str "0123456789")).bind fun y => c_in x y))))).bind fun ds => O.ok (D.lst ds)) (O.ok [])).bind bi_all).bind asB).bind fun k => O.ok (!k))) (O.ok (D.bl false)) (tr (O.ite ((tr ((O.ok v_text).bind fun x => (O.ok (D.str "0")).bind fun y => c_eq x y)).bind asB) (O.ok true) ((tr (((O.ok v_text).bind fun x => (O.ok (D.int 0)).bind fun y => ix x y).bind fun x => (O.ok (D.str "0")).bind fun y => c_ne x y)).bind asB))))
def f_shared_factor (v_one v_two : D) : O D :=
  (((O.cons (O.ok v_one) (O.ok [])).bind bi_abs).bind fun v_high_1 => (((O.cons (O.ok v_two) (O.ok [])).bind bi_abs).bind fun v_low_2 => ((whileO (fun (s3 : D × D) => ((O.ok s3.2).bind fun x => (O.ok (D.int 0)).bind fun y => c_gt x y)) (fun s3 => ((O.ok s3.2).bind fun v_high_4 => (((O.ok s3.1).bind fun x => (O.ok s3.2).bind fun y => b_mod x y).bind fun v_low_5 => (O.ok (v_high_4, v_low_5))))) (natOf (v_two) + 1) (v_high_1, v_low_2)).bind fun (s3 : D × D) => (O.ok s3.1))))
def f_is_fraction (v_value : D) : O D :=
  (tr (O.ite (((O.cons (O.ok v_value) (O.ok [])).bind (l1 f_is_integer)).bind asB) (O.ok true) ((tr ((O.ok v_value).bind (isiC 0))).bind asB)))
def Ratio_init (v_top v_bottom : D) : O (List (Str × D)) :=
  (O.ite ((((O.cons (O.ok v_top) (O.ok [])).bind (l1 f_is_integer)).bind asB).bind fun k => O.ok (!k)) ((O.cons (O.ok v_top) (O.ok [])).bind fun ds => O.exc 100 ds) (O.ite (O.ite ((((O.cons (O.ok v_bottom) (O.ok [])).bind (l1 f_is_integer)).bind asB).bind fun k => O.ok (!k)) (O.ok true) ((O.ok v_bottom).bind fun x => (O.ok (D.int 1)).bind fun y => c_lt x y)) ((O.cons (O.ok v_bottom) (O.ok [])).bind fun ds => O.exc 100 ds) (((O.cons (O.ok v_top) (O.cons (O.ok v_bottom) (O.ok []))).bind (l2 f_shared_factor)).bind fun v_factor_1 => (((O.ok v_top).bind fun x => (O.ok v_factor_1).bind fun y => b_fdiv x y).bind fun f2 => (((O.ok v_bottom).bind fun x => (O.ok v_factor_1).bind fun y => b_fdiv x y).bind fun f3 => (O.ok (putD "bottom" f3 (putD "top" f2 ([])))))))))
def f_as_ratio (v_value : D) : O D :=
  (O.ite ((tr ((O.ok v_value).bind (isiC 0))).bind asB) (O.ok v_value) ((O.cons (O.ok v_value) (O.ok [])).bind fun ds => ((l2 Ratio_init) (ds ++ [D.int 1])).bind fun fs => O.ok (D.obj 0 fs)))
def Ratio_str (v_self : D) : O D :=
  (O.ite (((O.ok v_self).bind (fld "bottom" [0])).bind fun x => (O.ok (D.int 1)).bind fun y => c_eq x y) (((O.ok v_self).bind (fld "top" [0])).bind fmtO) (jO [(((O.ok v_self).bind (fld "top" [0])).bind fmtO), (O.ok (D.str "/")), (((O.ok v_self).bind (fld "bottom" [0])).bind fmtO)] Str.empty))
def f_cell_text (v_cell : D) : O D :=
  ((O.ok v_cell).bind fun d => un3 d fun v_first_1 v_last_2 v_is_turned_3 => (O.ite ((O.ok v_is_turned_3).bind asB) (jO [((O.ok v_first_1).bind fmtO), (O.ok (D.str "-")), ((O.ok v_last_2).bind fmtO), (O.ok (D.str "~"))] Str.empty) (jO [((O.ok v_first_1).bind fmtO), (O.ok (D.str "-")), ((O.ok v_last_2).bind fmtO)] Str.empty)))
def Fold_str (v_self : D) : O D :=
  ((O.ok (D.str " ")).bind fun x => (((((O.ok v_self).bind (fld "cells" [1, 5])).bind itD).bind (mapO (fun v_cell => ((O.cons (O.ok v_cell) (O.ok [])).bind (l1 f_cell_text))))).bind fun ds => O.ok (D.lst ds)).bind fun y => t_join x y)
def txts0 : Nat → Option (D → O D)
  | 0 => some Ratio_str
  | _ => none
def Raisin_str (v_self : D) : O D :=
  (jO [(((O.cons ((O.ok v_self).bind (fld "place" [2])) (O.ok [])).bind (ownStr txts0)).bind fmtO), (((O.ok v_self).bind (fld "side" [2])).bind fmtO)] Str.empty)
def txts : Nat → Option (D → O D)
  | 0 => some Ratio_str
  | 1 => some Fold_str
  | 2 => some Raisin_str
  | _ => none
def Ratio_eq (v_self v_other : D) : O D :=
  (O.ite ((((O.cons (O.ok v_other) (O.ok [])).bind (l1 f_is_fraction)).bind asB).bind fun k => O.ok (!k)) (O.ok (D.bl false)) (((O.cons (O.ok v_other) (O.ok [])).bind (l1 f_as_ratio)).bind fun v_by_1 => (tr (O.ite ((tr (((O.ok v_self).bind (fld "top" [0])).bind fun x => ((O.ok v_by_1).bind (fld "top" [0])).bind fun y => c_eq x y)).bind asB) ((tr (((O.ok v_self).bind (fld "bottom" [0])).bind fun x => ((O.ok v_by_1).bind (fld "bottom" [0])).bind fun y => c_eq x y)).bind asB) (O.ok false)))))
def f_is_cell (v_many v_value : D) : O D :=
  (O.ite (O.ite (((tr ((O.ok v_value).bind (isiB "tuple"))).bind asB).bind fun k => O.ok (!k)) (O.ok true) (O.ite (((O.cons (O.ok v_value) (O.ok [])).bind bi_len).bind fun x => (O.ok (D.int 3)).bind fun y => c_ne x y) (O.ok true) (((tr (((O.ok v_value).bind fun x => (O.ok (D.int 2)).bind fun y => ix x y).bind (isiB "bool"))).bind asB).bind fun k => O.ok (!k)))) (O.ok (D.bl false)) (tr (O.ite (((O.cons ((O.ok v_value).bind fun x => (O.ok (D.int 0)).bind fun y => ix x y) (O.cons (O.ok (D.int 0)) (O.cons ((O.ok v_many).bind fun x => (O.ok (D.int 1)).bind fun y => b_sub x y) (O.ok [])))).bind (l3 f_is_between)).bind asB) (((O.cons ((O.ok v_value).bind fun x => (O.ok (D.int 1)).bind fun y => ix x y) (O.cons ((O.ok v_value).bind fun x => (O.ok (D.int 0)).bind fun y => ix x y) (O.cons ((O.ok v_many).bind fun x => (O.ok (D.int 1)).bind fun y => b_sub x y) (O.ok [])))).bind (l3 f_is_between)).bind asB) (O.ok false))))
def f_check_cells (v_cells : D) : O D :=
  (O.ite (O.ite (((tr ((O.ok v_cells).bind (isiB "tuple"))).bind asB).bind fun k => O.ok (!k)) (O.ok true) ((chainO (O.ok (D.int 2)) ((O.cons (O.ok v_cells) (O.ok [])).bind bi_len) (O.ok (D.int 8)) c_le c_le).bind fun k => O.ok (!k))) ((O.cons (O.ok (D.non)) (O.ok [])).bind fun ds => O.exc 102 ds) (((O.ok v_cells).bind enT).bind fun ds => (forO (fun (s1 : Unit) d => un2 d fun v_index_2 v_cell_3 => (O.ite ((((O.cons ((O.cons (O.ok v_cells) (O.ok [])).bind bi_len) (O.cons (O.ok v_cell_3) (O.ok []))).bind (l2 f_is_cell)).bind asB).bind fun k => O.ok (!k)) ((O.cons (O.ok v_index_2) (O.ok [])).bind fun ds => O.exc 102 ds) (O.ok ()))) ds ()).bind fun (s1 : Unit) => (O.ok D.non)))
def f_cell_in (v_word : D) : O D :=
  (((O.ok v_word).bind fun x => (O.ok (D.str "-")).bind fun y => t_part x y).bind fun d => un3 d fun v_first_1 v_line_2 v_rest_3 => ((O.ite (((O.ok v_rest_3).bind fun x => (((O.ok (D.int 1)).bind b_neg).bind fun x => (asI x).bind fun i => O.ok (some i)).bind fun l => (O.ok none).bind fun h => cut x l h).bind fun x => (O.ok (D.str "~")).bind fun y => c_eq x y) ((O.ok v_rest_3).bind fun x => (O.ok none).bind fun l => (((O.ok (D.int 1)).bind b_neg).bind fun x => (asI x).bind fun i => O.ok (some i)).bind fun h => cut x l h) (O.ok v_rest_3)).bind fun v_last_4 => (O.ite (O.ite (((O.cons (O.ok v_word) (O.ok [])).bind bi_len).bind fun x => (O.ok (D.int 4)).bind fun y => c_gt x y) (O.ok true) (O.ite ((((O.cons (O.ok v_first_1) (O.ok [])).bind (l1 f_are_figures)).bind asB).bind fun k => O.ok (!k)) (O.ok true) ((((O.cons (O.ok v_last_4) (O.ok [])).bind (l1 f_are_figures)).bind asB).bind fun k => O.ok (!k)))) (O.ok (D.non)) ((O.cons ((O.cons (O.ok v_first_1) (O.ok [])).bind bi_int) (O.cons ((O.cons (O.ok v_last_4) (O.ok [])).bind bi_int) (O.cons (tr ((O.ok v_rest_3).bind fun x => (O.ok v_last_4).bind fun y => c_ne x y)) (O.ok [])))).bind fun ds => O.ok (D.tup ds)))))
def Fold_init (v_cells : D) : O (List (Str × D)) :=
  (((O.cons (O.ok v_cells) (O.ok [])).bind (l1 f_check_cells)).bind fun _ => ((O.ok v_cells).bind fun f1 => (O.ok (putD "cells" f1 ([])))))
def Fold_read (v_text : D) : O D :=
  ((O.ite ((tr ((O.ok v_text).bind (isiB "str"))).bind asB) ((O.cons (((((O.ok v_text).bind fun x => (O.ok (D.str " ")).bind fun y => t_split x y).bind itD).bind (mapO (fun v_word => ((O.cons (O.ok v_word) (O.ok [])).bind (l1 f_cell_in))))).bind fun ds => O.ok (D.lst ds)) (O.ok [])).bind bi_tuple) ((O.ok []).bind fun ds => O.ok (D.tup ds))).bind fun v_cells_1 => (((O.cons (O.ok v_cells_1) (O.ok [])).bind fun ds => ((l1 Fold_init) (ds ++ [])).bind fun fs => O.ok (D.obj 1 fs)).bind fun v_found_2 => (O.ite (((O.cons (O.ok v_found_2) (O.ok [])).bind (ownStr txts)).bind fun x => (O.ok v_text).bind fun y => c_ne x y) ((O.cons (O.ok v_text) (O.ok [])).bind fun ds => O.exc 101 ds) (O.ok v_found_2))))
def Fold_len (v_self : D) : O D :=
  ((O.cons ((O.ok v_self).bind (fld "cells" [1, 5])) (O.ok [])).bind bi_len)
def Watch_len (v_self : D) : O D :=
  ((O.cons ((O.ok v_self).bind (fld "moves" [4])) (O.ok [])).bind bi_len)
def lens : Nat → Option (D → O D)
  | 1 => some Fold_len
  | 4 => some Watch_len
  | _ => none
def Fold_eq (v_self v_other : D) : O D :=
  (tr (O.ite ((tr ((O.ok v_other).bind (isiC 1))).bind asB) ((tr (((O.ok v_self).bind (fld "cells" [1, 5])).bind fun x => ((O.ok v_other).bind (fld "cells" [1, 5])).bind fun y => c_eq x y)).bind asB) (O.ok false)))
def eqs0 : Nat → Option (D → D → O D)
  | 0 => some Ratio_eq
  | _ => none
def Raisin_eq (v_self v_other : D) : O D :=
  (tr (O.ite ((tr ((O.ok v_other).bind (isiC 2))).bind asB) ((tr (O.ite ((tr (((O.ok v_self).bind (fld "place" [2])).bind fun x => ((O.ok v_other).bind (fld "place" [2])).bind fun y => (ownEq eqs0) x y)).bind asB) ((tr (((O.ok v_self).bind (fld "side" [2])).bind fun x => ((O.ok v_other).bind (fld "side" [2])).bind fun y => (ownEq eqs0) x y)).bind asB) (O.ok false))).bind asB) (O.ok false)))
def f_other_side (v_side : D) : O D :=
  (O.ite ((O.ok v_side).bind fun x => (O.ok (D.str "-")).bind fun y => c_eq x y) (O.ok (D.str "+")) (O.ok (D.str "-")))
def f_form_of (v_watch : D) : O D :=
  ((O.cons ((O.ok v_watch).bind (fld "letters" [4])) (O.cons ((O.ok v_watch).bind (fld "moves" [4])) (O.cons ((O.ok v_watch).bind (fld "good" [4])) (O.ok [])))).bind fun ds => O.ok (D.tup ds))
def Watch_eq (v_self v_other : D) : O D :=
  (tr (O.ite ((tr ((O.ok v_other).bind (isiC 4))).bind asB) ((tr (((O.cons (O.ok v_self) (O.ok [])).bind (l1 f_form_of)).bind fun x => ((O.cons (O.ok v_other) (O.ok [])).bind (l1 f_form_of)).bind fun y => c_eq x y)).bind asB) (O.ok false)))
def f_baker : O D :=
  ((O.cons (O.ok (D.str "0-1 0-1")) (O.ok [])).bind (l1 Fold_read))
def f_tent : O D :=
  ((O.cons (O.ok (D.str "0-1 0-1~")) (O.ok [])).bind (l1 Fold_read))
def f_golden : O D :=
  ((O.cons (O.ok (D.str "0-1 0-0")) (O.ok [])).bind (l1 Fold_read))
def f_roller : O D :=
  ((O.cons (O.ok (D.str "1-2 0-2~ 0-0")) (O.ok [])).bind (l1 Fold_read))
def eqs : Nat → Option (D → D → O D)
  | 0 => some Ratio_eq
  | 1 => some Fold_eq
  | 2 => some Raisin_eq
  | 4 => some Watch_eq
  | _ => none
theorem lenF_lens {F : Fam} {k1 k4 : Nat} (m1 : F.C.has 1 = true → Met F.P F.w F.C F.mg F.base k1 1 "__len__" (spF F.C (l1 Fold_len))) (m4 : F.C.has 4 = true → Met F.P F.w F.C F.mg F.base k4 4 "__len__" (spF F.C (l1 Watch_len))) (h1 : k1 + 1 ≤ F.k := by exact Nat.le_of_ble_eq_true rfl) (h4 : k4 + 1 ≤ F.k := by exact Nat.le_of_ble_eq_true rfl) : LenF F "__len__" 1 lens := fun c f h hh => by
  unfold lens at h; split at h
  · cases h; exact ⟨k1, h1, m1 hh⟩
  · cases h; exact ⟨k4, h4, m4 hh⟩
  · cases h
theorem eqF_eqs {F : Fam} {k0 k1 k2 k4 : Nat} (m0 : F.C.has 0 = true → Met F.P F.w F.C F.mg F.base k0 0 "__eq__" (spF F.C (l2 Ratio_eq))) (m1 : F.C.has 1 = true → Met F.P F.w F.C F.mg F.base k1 1 "__eq__" (spF F.C (l2 Fold_eq))) (m2 : F.C.has 2 = true → Met F.P F.w F.C F.mg F.base k2 2 "__eq__" (spF F.C (l2 Raisin_eq))) (m4 : F.C.has 4 = true → Met F.P F.w F.C F.mg F.base k4 4 "__eq__" (spF F.C (l2 Watch_eq))) (h0 : k0 + 1 ≤ F.k := by exact Nat.le_of_ble_eq_true rfl) (h1 : k1 + 1 ≤ F.k := by exact Nat.le_of_ble_eq_true rfl) (h2 : k2 + 1 ≤ F.k := by exact Nat.le_of_ble_eq_true rfl) (h4 : k4 + 1 ≤ F.k := by exact Nat.le_of_ble_eq_true rfl) : EqF F eqs := fun c f h hh => by
  unfold eqs at h; split at h
  · cases h; exact ⟨k0, h0, m0 hh⟩
  · cases h; exact ⟨k1, h1, m1 hh⟩
  · cases h; exact ⟨k2, h2, m2 hh⟩
  · cases h; exact ⟨k4, h4, m4 hh⟩
  · cases h
theorem strF_txts {F : Fam} {k0 k1 k2 : Nat} (m0 : F.C.has 0 = true → Met F.P F.w F.C F.mg F.base k0 0 "__str__" (spF F.C (l1 Ratio_str))) (m1 : F.C.has 1 = true → Met F.P F.w F.C F.mg F.base k1 1 "__str__" (spF F.C (l1 Fold_str))) (m2 : F.C.has 2 = true → Met F.P F.w F.C F.mg F.base k2 2 "__str__" (spF F.C (l1 Raisin_str))) (h0 : k0 + 2 ≤ F.k := by exact Nat.le_of_ble_eq_true rfl) (h1 : k1 + 2 ≤ F.k := by exact Nat.le_of_ble_eq_true rfl) (h2 : k2 + 2 ≤ F.k := by exact Nat.le_of_ble_eq_true rfl) : LenF F "__str__" 2 txts := fun c f h hh => by
  unfold txts at h; split at h
  · cases h; exact ⟨k0, h0, m0 hh⟩
  · cases h; exact ⟨k1, h1, m1 hh⟩
  · cases h; exact ⟨k2, h2, m2 hh⟩
  · cases h
theorem x_MOST_CELLS {F : Fam} {S : DL.ST} {pos : Pos} (h : ∃ t, F.mg "MOST_CELLS" = some (.int 8 t)) (hg : ∀ i, Gl (F.X i) "MOST_CELLS" := by intro _; rfl) : DEp F (.Name "MOST_CELLS" pos) S (.ok (.int 8)) := by
  obtain ⟨t, h1⟩ := h
  exact p_glob h1 (v := .int 8) ⟨t, rfl⟩ (fun _ => .int _) hg
theorem x_MOST_STANDS {F : Fam} {S : DL.ST} {pos : Pos} (h : ∃ t, F.mg "MOST_STANDS" = some (.int 6 t)) (hg : ∀ i, Gl (F.X i) "MOST_STANDS" := by intro _; rfl) : DEp F (.Name "MOST_STANDS" pos) S (.ok (.int 6)) := by
  obtain ⟨t, h1⟩ := h
  exact p_glob h1 (v := .int 6) ⟨t, rfl⟩ (fun _ => .int _) hg
theorem x_MOST_PLACES {F : Fam} {S : DL.ST} {pos : Pos} (h : ∃ t, F.mg "MOST_PLACES" = some (.int 1000 t)) (hg : ∀ i, Gl (F.X i) "MOST_PLACES" := by intro _; rfl) : DEp F (.Name "MOST_PLACES" pos) S (.ok (.int 1000)) := by
  obtain ⟨t, h1⟩ := h
  exact p_glob h1 (v := .int 1000) ⟨t, rfl⟩ (fun _ => .int _) hg
theorem x_MOST_ROW {F : Fam} {S : DL.ST} {pos : Pos} (h : ∃ t, F.mg "MOST_ROW" = some (.int 200 t)) (hg : ∀ i, Gl (F.X i) "MOST_ROW" := by intro _; rfl) : DEp F (.Name "MOST_ROW" pos) S (.ok (.int 200)) := by
  obtain ⟨t, h1⟩ := h
  exact p_glob h1 (v := .int 200) ⟨t, rfl⟩ (fun _ => .int _) hg
theorem x_MOST_TURNS {F : Fam} {S : DL.ST} {pos : Pos} (h : ∃ t, F.mg "MOST_TURNS" = some (.int 10000000000000000000000000000000000000000 t)) (hg : ∀ i, Gl (F.X i) "MOST_TURNS" := by intro _; rfl) : DEp F (.Name "MOST_TURNS" pos) S (.ok (.int 10000000000000000000000000000000000000000)) := by
  obtain ⟨t, h1⟩ := h
  exact p_glob h1 (v := .int 10000000000000000000000000000000000000000) ⟨t, rfl⟩ (fun _ => .int _) hg
theorem x_MOST_REST {F : Fam} {S : DL.ST} {pos : Pos} (h : ∃ t, F.mg "MOST_REST" = some (.int 1000000000 t)) (hg : ∀ i, Gl (F.X i) "MOST_REST" := by intro _; rfl) : DEp F (.Name "MOST_REST" pos) S (.ok (.int 1000000000)) := by
  obtain ⟨t, h1⟩ := h
  exact p_glob h1 (v := .int 1000000000) ⟨t, rfl⟩ (fun _ => .int _) hg
theorem x_MOST_LISTED {F : Fam} {S : DL.ST} {pos : Pos} (h : ∃ t, F.mg "MOST_LISTED" = some (.int 500 t)) (hg : ∀ i, Gl (F.X i) "MOST_LISTED" := by intro _; rfl) : DEp F (.Name "MOST_LISTED" pos) S (.ok (.int 500)) := by
  obtain ⟨t, h1⟩ := h
  exact p_glob h1 (v := .int 500) ⟨t, rfl⟩ (fun _ => .int _) hg
theorem x_MOST_GUARDS {F : Fam} {S : DL.ST} {pos : Pos} (h : ∃ t, F.mg "MOST_GUARDS" = some (.int 4 t)) (hg : ∀ i, Gl (F.X i) "MOST_GUARDS" := by intro _; rfl) : DEp F (.Name "MOST_GUARDS" pos) S (.ok (.int 4)) := by
  obtain ⟨t, h1⟩ := h
  exact p_glob h1 (v := .int 4) ⟨t, rfl⟩ (fun _ => .int _) hg
theorem x_MOST_DEEDS {F : Fam} {S : DL.ST} {pos : Pos} (h : ∃ t, F.mg "MOST_DEEDS" = some (.int 100 t)) (hg : ∀ i, Gl (F.X i) "MOST_DEEDS" := by intro _; rfl) : DEp F (.Name "MOST_DEEDS" pos) S (.ok (.int 100)) := by
  obtain ⟨t, h1⟩ := h
  exact p_glob h1 (v := .int 100) ⟨t, rfl⟩ (fun _ => .int _) hg
end SL
namespace M1
end M1
namespace SL
open PySem L2 DL
theorem nrfl {α : Sort _} {a b : α} (h : a = b) (_ : True) : a = b := h
theorem bk {α β : Type} (a : α) (f : α → O β) : (O.ok a).bind f = f a := nrfl rfl trivial
theorem ck (a : D) (as : List D) : O.cons (.ok a) (.ok as) = .ok (a :: as) := nrfl rfl trivial
theorem asBk (b : Bool) : asB (.bl b) = .ok b := nrfl rfl trivial
theorem trk (b : Bool) : tr (.ok b) = .ok (.bl b) := nrfl rfl trivial
theorem ite1 {α : Type} (x y : O α) : O.ite (.ok true) x y = x := nrfl rfl trivial
theorem ite0 {α : Type} (x y : O α) : O.ite (.ok false) x y = y := nrfl rfl trivial
theorem ap1 {α : Type} (f : D → O α) (a : D) : l1 f [a] = f a := nrfl rfl trivial
theorem ap2 {α : Type} (f : D → D → O α) (a b : D) : l2 f [a, b] = f a b := nrfl rfl trivial
theorem chk (x y z : D) (q r : D → D → O Bool) : chainO (.ok x) (.ok y) (.ok z) q r = O.ite (q x y) (r y z) (.ok false) := nrfl rfl trivial
theorem aik (i : Int) : asI (.int i) = .ok i := nrfl rfl trivial
theorem mret {α : Type} (a : α) (g : List D) : M.ret a g = .ok (a, g) := nrfl rfl trivial
theorem mupa {α : Type} (o : O α) (g : List D) : M.up o g = o.bind fun a => .ok (a, g) := nrfl rfl trivial
theorem mbind {α β : Type} (m : M α) (f : α → M β) (g : List D) : M.bind m f g = (m g).bind fun r => f r.1 r.2 := nrfl rfl trivial
theorem bagx (ob : O D) (g : List D) : bagIx ob g = (ob.bind fun y => ix (.lst g) y).bind fun d => .ok (d, g) := nrfl rfl trivial
theorem mp0 (f : M D) : m0 f [] = f := nrfl rfl trivial
theorem mp1 (f : D → M D) (a : D) : m1 f [a] = f a := nrfl rfl trivial
@[simp] theorem b_add_i (i j : Int) : b_add (.int i) (.int j) = .ok (.int (i + j)) := nrfl rfl trivial
@[simp] theorem b_sub_i (i j : Int) : b_sub (.int i) (.int j) = .ok (.int (i - j)) := nrfl rfl trivial
@[simp] theorem b_neg_i (i : Int) : b_neg (.int i) = .ok (.int (-i)) := nrfl rfl trivial
@[simp] theorem c_lt_i (i j : Int) : c_lt (.int i) (.int j) = .ok (decide (i < j)) := nrfl rfl trivial
@[simp] theorem c_le_i (i j : Int) : c_le (.int i) (.int j) = .ok (decide (i ≤ j)) := nrfl rfl trivial
@[simp] theorem c_gt_i (i j : Int) : c_gt (.int i) (.int j) = .ok (decide (j < i)) := nrfl rfl trivial
@[simp] theorem c_ge_i (i j : Int) : c_ge (.int i) (.int j) = .ok (decide (j ≤ i)) := nrfl rfl trivial
@[simp] theorem c_eq_i (i j : Int) : c_eq (.int i) (.int j) = .ok (decide (i = j)) := nrfl rfl trivial
@[simp] theorem c_eq_s (i j : Str) : c_eq (.str i) (.str j) = .ok (decide (i = j)) := nrfl rfl trivial
@[simp] theorem c_eq_b (i j : Bool) : c_eq (.bl i) (.bl j) = .ok (decide (i = j)) := nrfl rfl trivial
@[simp] theorem c_ne_i (i j : Int) : c_ne (.int i) (.int j) = .ok (!decide (i = j)) := nrfl rfl trivial
@[simp] theorem c_ne_s (i j : Str) : c_ne (.str i) (.str j) = .ok (!decide (i = j)) := nrfl rfl trivial
@[simp] theorem bi_int_i (i : Int) : bi_int [.int i] = .ok (.int i) := nrfl rfl trivial
@[simp] theorem bi_abs_i (i : Int) : bi_abs [.int i] = .ok (.int (if i < 0 then -i else i)) := nrfl rfl trivial
@[simp] theorem bi_tuple_l (ds : List D) : bi_tuple [.lst ds] = .ok (.tup ds) := nrfl rfl trivial
@[simp] theorem bi_tuple_t (ds : List D) : bi_tuple [.tup ds] = .ok (.tup ds) := nrfl rfl trivial
@[simp] theorem bi_len_l (ds : List D) : bi_len [.lst ds] = .ok (.int ds.length) := nrfl rfl trivial
@[simp] theorem bi_len_t (ds : List D) : bi_len [.tup ds] = .ok (.int ds.length) := nrfl rfl trivial
@[simp] theorem bi_max_i (i j : Int) : bi_max [.int i, .int j] = .ok (.int (if j > i then j else i)) := nrfl rfl trivial
@[simp] theorem bi_min_i (i j : Int) : bi_min [.int i, .int j] = .ok (.int (if j < i then j else i)) := nrfl rfl trivial
@[simp] theorem bi_max_2 (i j : Int) : bi_max [.lst [.int i, .int j]] = .ok (.int (if j > i then j else i)) := nrfl rfl trivial
@[simp] theorem bi_min_2 (i j : Int) : bi_min [.lst [.int i, .int j]] = .ok (.int (if j < i then j else i)) := nrfl rfl trivial
@[simp] theorem ownLen_l (t : Nat → Option (D → O D)) (ds : List D) : ownLen t [.lst ds] = .ok (.int ds.length) := nrfl rfl trivial
@[simp] theorem ownLen_t (t : Nat → Option (D → O D)) (ds : List D) : ownLen t [.tup ds] = .ok (.int ds.length) := nrfl rfl trivial
theorem mulOk_l {i j : Int} (h1 : -(2 ^ 64) < i) (h2 : i < 2 ^ 64) : mulOk i j = true := decide_eq_true (.inl (.inl ⟨h1, h2⟩))
theorem mulOk_r {i j : Int} (h1 : -(2 ^ 64) < j) (h2 : j < 2 ^ 64) : mulOk i j = true := decide_eq_true (.inl (.inr ⟨h1, h2⟩))
theorem b_mul_l {i j : Int} (h1 : -(2 ^ 64) < i) (h2 : i < 2 ^ 64) : b_mul (.int i) (.int j) = .ok (.int (i * j)) := if_pos (mulOk_l h1 h2)
theorem b_mul_r {i j : Int} (h1 : -(2 ^ 64) < j) (h2 : j < 2 ^ 64) : b_mul (.int i) (.int j) = .ok (.int (i * j)) := if_pos (mulOk_r h1 h2)
theorem b_mod_i {i j : Int} (h : 0 < j) : b_mod (.int i) (.int j) = .ok (.int (i % j)) := if_pos h
theorem b_fdiv_i {i j : Int} (h : 0 < j) (h2 : j < 2 ^ 64) : b_fdiv (.int i) (.int j) = .ok (.int (i / j)) := by
  refine if_pos ⟨h, ?_⟩
  have := (Nat.log2_lt (n := j.natAbs) (k := 64) (by omega)).mpr (by omega)
  omega
theorem atI_ok {α : Type} {xs : List α} {i : Int} {d : α} (h0 : 0 ≤ i) (h : xs[i.toNat]? = some d) : atI xs i = some d := by
  have hl : i.toNat < xs.length := (List.getElem?_eq_some_iff.mp h).1
  unfold atI ixN
  rw [if_pos h0, if_pos (by omega)]
  exact h
theorem ix_l {ds : List D} {i : Int} {d : D} (h0 : 0 ≤ i) (h : ds[i.toNat]? = some d) : ix (.lst ds) (.int i) = .ok d := by
  show op2 (atI ds i) .ok = _
  rw [atI_ok h0 h]; rfl
@[simp] theorem ix_t2_0 (a b : D) : ix (.tup [a, b]) (.int 0) = .ok a := nrfl rfl trivial
@[simp] theorem ix_t2_1 (a b : D) : ix (.tup [a, b]) (.int 1) = .ok b := nrfl rfl trivial
@[simp] theorem ix_l2_0 (a b : D) : ix (.lst [a, b]) (.int 0) = .ok a := nrfl rfl trivial
@[simp] theorem ix_l2_1 (a b : D) : ix (.lst [a, b]) (.int 1) = .ok b := nrfl rfl trivial
@[simp] theorem ix_t3_0 (a b c : D) : ix (.tup [a, b, c]) (.int 0) = .ok a := nrfl rfl trivial
@[simp] theorem ix_t3_1 (a b c : D) : ix (.tup [a, b, c]) (.int 1) = .ok b := nrfl rfl trivial
@[simp] theorem ix_t3_2 (a b c : D) : ix (.tup [a, b, c]) (.int 2) = .ok c := nrfl rfl trivial
@[simp] theorem ix_l3_0 (a b c : D) : ix (.lst [a, b, c]) (.int 0) = .ok a := nrfl rfl trivial
@[simp] theorem ix_l3_1 (a b c : D) : ix (.lst [a, b, c]) (.int 1) = .ok b := nrfl rfl trivial
@[simp] theorem ix_l3_2 (a b c : D) : ix (.lst [a, b, c]) (.int 2) = .ok c := nrfl rfl trivial
theorem rg1_i {i : Int} (h : -(2 ^ 62) ≤ i) (h2 : i < 2 ^ 62) : rg1 (.int i) = .ok (rangeD 0 i.toNat) := if_pos ⟨h, h2⟩
theorem gcd_loop {c : D × D → O Bool} {f : D × D → O (D × D)} (hc : ∀ x y : Int, c (.int x, .int y) = .ok (decide (0 < y))) (hf : ∀ x y : Int, 0 < y → f (.int x, .int y) = .ok (.int y, .int (x % y))) : ∀ (n : Nat) (x y : Int), 0 ≤ x → 0 ≤ y → y.natAbs < n → whileO c f n (.int x, .int y) = .ok (.int (Int.gcd x y), .int 0)
  | 0, x, y, _, _, h => by omega
  | n + 1, x, y, hx, hy, hn => by
    unfold whileO
    rw [hc]
    by_cases z : 0 < y
    · rw [decide_eq_true z, ite1, hf _ _ z, bk]
      have h1 := Int.emod_nonneg x (b := y) (by omega)
      have h2 := Int.emod_lt_of_pos x z
      rw [gcd_loop hc hf n y (x % y) hy h1 (by omega)]
      have e : Int.gcd y (x % y) = Int.gcd x y := by
        obtain ⟨m, rfl⟩ := Int.eq_ofNat_of_zero_le hx
        obtain ⟨k, rfl⟩ := Int.eq_ofNat_of_zero_le hy
        show Nat.gcd k ((m : Int) % (k : Int)).natAbs = Nat.gcd m k
        rw [← Int.natCast_emod, Int.natAbs_natCast, Nat.gcd_comm m k, Nat.gcd_rec k m, Nat.gcd_comm]
      rw [e]
    · have : y = 0 := by omega
      subst this
      rw [decide_eq_false z, ite0]
      have e : ((Int.gcd x 0 : Nat) : Int) = x := by rw [Int.gcd_zero_right]; omega
      rw [e]
theorem abs_if (i : Int) : (if i < 0 then -i else i) = (i.natAbs : Int) := by split <;> omega
theorem shared_factor_i (a b : Int) : f_shared_factor (.int a) (.int b) = .ok (.int (Int.gcd a b)) := by
  unfold f_shared_factor
  simp only [bk, ck, bi_abs_i, abs_if, natOf]
  rw [gcd_loop (by intro x y; rfl) (by intro x y h; simp only [bk, b_mod_i h]) (b.natAbs + 1) _ _ (by omega) (by omega) (by omega)]
  rw [bk]
  show O.ok (D.int _) = _
  rw [show Int.gcd (a.natAbs : Int) (b.natAbs : Int) = Int.gcd a b by unfold Int.gcd; rw [Int.natAbs_natCast, Int.natAbs_natCast]]
@[simp] theorem is_integer_i (i : Int) : f_is_integer (.int i) = .ok (.bl true) := by
  unfold f_is_integer
  with_unfolding_all rfl
@[simp] theorem is_between_i (i l m : Int) : f_is_between (.int i) (.int l) (.int m) = .ok (.bl (decide (l ≤ i) && decide (i ≤ m))) := by
  unfold f_is_between
  simp only [bk, ck, ap1, is_integer_i, asBk, ite1, chk, c_le_i]
  by_cases h : l ≤ i
  · simp only [decide_eq_true h, ite1, trk, bk, asBk, Bool.true_and]
  · simp only [decide_eq_false h, ite0, trk, bk, asBk, Bool.false_and]
def ratD (p q : Int) : D := .obj 0 [("top", .int p), ("bottom", .int q)]
def lowF (a b : Int) : List (Str × D) := [("top", .int (a / (Int.gcd a b : Int))), ("bottom", .int (b / (Int.gcd a b : Int)))]
theorem gcd_pos {a b : Int} (h : 0 < b) : (0 : Int) < (Int.gcd a b : Int) := by
  have : 0 < Int.gcd a b := Nat.pos_of_ne_zero fun e => by have := (Int.gcd_eq_zero_iff.mp e).2; omega
  omega
theorem gcd_le {a b : Int} (h : 0 < b) : (Int.gcd a b : Int) ≤ b := Int.le_of_dvd h (Int.gcd_dvd_right ..)
theorem Ratio_init_i {a b : Int} (h : 0 < b) (h2 : b < 2 ^ 64) : Ratio_init (.int a) (.int b) = .ok (lowF a b) := by
  unfold Ratio_init
  have g1 := gcd_pos (a := a) h
  have g2 := gcd_le (a := a) h
  simp only [bk, ck, ap1, ap2, is_integer_i, asBk, Bool.not_true, ite0, c_lt_i, decide_eq_false (show ¬ b < 1 by omega), shared_factor_i, b_fdiv_i g1 (show (Int.gcd a b : Int) < 2 ^ 64 by omega)]
  rfl
def mkR (a b : Int) : D := ratD (a / (Int.gcd a b : Int)) (b / (Int.gcd a b : Int))
theorem mkR_one (a : Int) : mkR a 1 = ratD a 1 := by
  unfold mkR
  rw [show Int.gcd a 1 = 1 by simp]
  simp
@[simp] theorem isiC_r (p q : Int) : isiC 0 (ratD p q) = .ok true := nrfl rfl trivial
@[simp] theorem isiC_i (c : Nat) (i : Int) : isiC c (.int i) = .ok false := nrfl rfl trivial
@[simp] theorem is_fraction_i (i : Int) : f_is_fraction (.int i) = .ok (.bl true) := by
  unfold f_is_fraction
  simp only [bk, ck, ap1, is_integer_i, asBk, ite1, trk]
@[simp] theorem is_fraction_r (p q : Int) : f_is_fraction (ratD p q) = .ok (.bl true) := by
  unfold f_is_fraction
  rw [show f_is_integer = f_is_integer from rfl]
  simp only [bk, ck, ap1, show f_is_integer (ratD p q) = .ok (.bl false) from rfl, asBk, ite0, isiC_r, trk]
@[simp] theorem as_ratio_i (i : Int) : f_as_ratio (.int i) = .ok (ratD i 1) := by
  unfold f_as_ratio
  simp only [bk, ck, isiC_i, trk, asBk, ite0, List.cons_append, List.nil_append, ap2, Ratio_init_i (a := i) (b := 1) (by decide) (by decide)]
  exact congrArg O.ok (mkR_one i)
@[simp] theorem as_ratio_r (p q : Int) : f_as_ratio (ratD p q) = .ok (ratD p q) := nrfl rfl trivial
@[simp] theorem fld_top (p q : Int) : fld "top" [0] (ratD p q) = .ok (.int p) := nrfl rfl trivial
@[simp] theorem fld_bottom (p q : Int) : fld "bottom" [0] (ratD p q) = .ok (.int q) := nrfl rfl trivial
def sm (i : Int) : Prop := -(2 ^ 4400) < i ∧ i < 2 ^ 4400
theorem sm1 : sm 1 := by unfold sm; omega
end SL
namespace SL
open PySem L2 DL
def raiD (p q : Int) (s : Str) : D := .obj 2 [("place", ratD p q), ("side", .str s)]
def Side (s : Str) : Prop := s = "+" ∨ s = "-"
theorem mp_ne : ¬ (("-" : Str) = "+") := by decide +kernel
@[simp] theorem isiB_str (s : Str) : isiB "str" (.str s) = .ok true := by with_unfolding_all rfl
@[simp] theorem isiB_tup (s : List D) : isiB "tuple" (.tup s) = .ok true := by with_unfolding_all rfl
@[simp] theorem isiB_bl (s : Bool) : isiB "bool" (.bl s) = .ok true := by with_unfolding_all rfl
@[simp] theorem fld_place (p q : Int) (s : Str) : fld "place" [2] (raiD p q s) = .ok (ratD p q) := nrfl rfl trivial
@[simp] theorem fld_side (p q : Int) (s : Str) : fld "side" [2] (raiD p q s) = .ok (.str s) := by with_unfolding_all rfl
def under (p q : Int) (s : Str) : Int := if q = 1 ∧ s = "-" then p / q - 1 else p / q
def flip (s : Str) : Str := if s = "-" then "+" else "-"
@[simp] theorem other_side_s (s : Str) : f_other_side (.str s) = .ok (.str (flip s)) := by
  unfold f_other_side flip
  simp only [bk, c_eq_s]
  by_cases h : s = "-"
  · rw [decide_eq_true h, ite1, if_pos h]
  · rw [decide_eq_false h, ite0, if_neg h]
abbrev Cell := Int × Int × Bool
def celD (c : Cell) : D := .tup [.int c.1, .int c.2.1, .bl c.2.2]
def cellsD (L : List Cell) : D := .tup (L.map celD)
def folD (L : List Cell) : D := .obj 1 [("cells", cellsD L)]
@[simp] theorem fld_cells (L : List Cell) : fld "cells" [1, 5] (folD L) = .ok (cellsD L) := nrfl rfl trivial
def goes (c : Cell) (p q w : Int) : Int := if c.2.2 then (c.2.1 + 1) * q - (c.2.1 - c.1 + 1) * (p - w * q) else c.1 * q + (c.2.1 - c.1 + 1) * (p - w * q)
def lows (t q : Int) : Int × Int := (t / (Int.gcd t q : Int), q / (Int.gcd t q : Int))
end SL
namespace SL
open PySem L2 DL
structure Spot where
  p : Int
  q : Int
  s : Str
def undr (x : Spot) : Int := under x.p x.q x.s
structure Vd (lo hi : Int) (x : Spot) : Prop where
  q0 : 0 < x.q
  g1 : Int.gcd x.p x.q = 1
  l : lo * x.q ≤ x.p
  h : x.p ≤ hi * x.q
  ls : x.p = lo * x.q → x.s = "+"
  hs : x.p = hi * x.q → x.s = "-"
  sd : Side x.s
theorem gcd_mul_self {k q : Int} (h : 0 < q) (hg : Int.gcd (k * q) q = 1) : q = 1 := by
  have h1 : q.natAbs ∣ Int.gcd (k * q) q := Int.dvd_gcd (Int.natAbs_dvd.mpr ⟨k, Int.mul_comm ..⟩) (Int.natAbs_dvd.mpr (Int.dvd_refl q))
  rw [hg] at h1
  have := Nat.dvd_one.mp h1
  omega
theorem undr_in {lo hi : Int} {x : Spot} (v : Vd lo hi x) : lo ≤ undr x ∧ undr x < hi ∧ 0 ≤ x.p - undr x * x.q ∧ x.p - undr x * x.q ≤ x.q ∧ (x.p - undr x * x.q = 0 → x.s = "+") ∧ (x.p - undr x * x.q = x.q → x.s = "-") := by
  obtain ⟨p, q, s⟩ := x
  obtain ⟨q0, g1, l, h, ls, hs, sd⟩ := v
  simp only at q0 g1 l h ls hs sd
  show lo ≤ under p q s ∧ under p q s < hi ∧ 0 ≤ p - under p q s * q ∧ p - under p q s * q ≤ q ∧ (p - under p q s * q = 0 → s = "+") ∧ (p - under p q s * q = q → s = "-")
  unfold under
  by_cases z : q = 1 ∧ s = "-"
  · rw [if_pos z]
    obtain ⟨z1, z2⟩ := z
    subst z1 z2
    have : p ≠ lo * 1 := fun e => mp_ne (ls e)
    simp only [Int.ediv_one, Int.mul_one] at *
    exact ⟨by omega, by omega, by omega, by omega, fun e => by omega, fun _ => trivial⟩
  · rw [if_neg z]
    have e := Int.mul_ediv_add_emod p q
    have r0 := Int.emod_nonneg p (b := q) (by omega)
    have r1 := Int.emod_lt_of_pos p q0
    have e2 : p - p / q * q = p % q := by rw [Int.mul_comm]; omega
    have hne : p ≠ hi * q := fun e => by
      have h1 := hs e
      rw [e] at g1
      exact z ⟨gcd_mul_self q0 g1, h1⟩
    refine ⟨Int.le_ediv_of_mul_le q0 l, Int.ediv_lt_of_lt_mul q0 (by omega), by omega, by omega, fun k => ?_, fun k => by omega⟩
    have h1 : p = p / q * q := by omega
    rw [h1] at g1
    rcases sd with h2 | h2
    · exact h2
    · exact absurd ⟨gcd_mul_self q0 g1, h2⟩ z
def gone (c : Cell) (x : Spot) : Spot := ⟨(lows (goes c x.p x.q (undr x)) x.q).1, (lows (goes c x.p x.q (undr x)) x.q).2, if c.2.2 then flip x.s else x.s⟩
structure Good (L : List Cell) : Prop where
  n1 : 2 ≤ L.length
  n2 : L.length ≤ 8
  ok : ∀ c ∈ L, 0 ≤ c.1 ∧ c.1 ≤ c.2.1 ∧ c.2.1 < L.length
def stp (L : List Cell) (x : Spot) : Spot := match L[(undr x).toNat]? with
  | some c => gone c x
  | none => x
structure On (L : List Cell) (x : Spot) : Prop where
  v : Vd 0 L.length x
  q2 : x.q < 2 ^ 3500
theorem On.cell {L : List Cell} {x : Spot} (o : On L x) : ∃ c, L[(undr x).toNat]? = some c ∧ c ∈ L := by
  obtain ⟨u1, u2, _⟩ := undr_in o.v
  have hl : (undr x).toNat < L.length := by omega
  exact ⟨L[(undr x).toNat], List.getElem?_eq_getElem hl, List.getElem_mem hl⟩
end SL
namespace SL
open PySem L2 DL
def row (L : List Cell) : Nat → Spot → List Int
  | 0, _ => []
  | n + 1, x => undr x :: row L n (stp L x)
def far (L : List Cell) : Nat → Spot → Spot
  | 0, x => x
  | n + 1, x => far L n (stp L x)
end SL
namespace SL
open PySem L2 DL
def Bag (g : List D) : Prop := ∃ a b c : Int, g = [.int a, .int b, .int c]
theorem mitea {α : Type} (m : M Bool) (x y : M α) (g : List D) : M.ite m x y g = (m g).bind fun r => (bif r.1 then x else y) r.2 := nrfl rfl trivial
theorem mconsa (m : M D) (ms : M (List D)) (g : List D) : M.cons m ms g = (m g).bind fun r => (ms r.2).bind fun t => .ok (r.1 :: t.1, t.2) := nrfl rfl trivial
theorem ixN3_0 (a b c : D) : ixN [a, b, c].length 0 = some 0 := nrfl rfl trivial
theorem ixN3_1 (a b c : D) : ixN [a, b, c].length 1 = some 1 := nrfl rfl trivial
theorem ixN3_2 (a b c : D) : ixN [a, b, c].length 2 = some 2 := nrfl rfl trivial
theorem set3_0 (a b c x : D) : [a, b, c].set 0 x = [x, b, c] := nrfl rfl trivial
theorem set3_1 (a b c x : D) : [a, b, c].set 1 x = [a, x, c] := nrfl rfl trivial
theorem set3_2 (a b c x : D) : [a, b, c].set 2 x = [a, b, x] := nrfl rfl trivial
theorem op2k {α β : Type} (a : α) (f : α → O β) : op2 (some a) f = f a := nrfl rfl trivial
theorem bif1 {α : Type} (x y : α) : (bif true then x else y) = x := nrfl rfl trivial
theorem bif0 {α : Type} (x y : α) : (bif false then x else y) = y := nrfl rfl trivial
theorem forO_int {f : D → D → O D} (hf : ∀ s t : Int, ∃ u : Int, f (.int s) (.int t) = .ok (.int u)) : ∀ (js : List Int) (s : Int), ∃ u : Int, forO f (js.map D.int) (.int s) = .ok (.int u)
  | [], s => ⟨s, rfl⟩
  | j :: js, s => by
    obtain ⟨u, e⟩ := hf s j
    obtain ⟨v, e'⟩ := forO_int hf js u
    exact ⟨v, by show (f (.int s) (.int j)).bind _ = _; rw [e, bk]; exact e'⟩
theorem forO_intK {β : Type} {f : D → D → O D} {K : D → O β} {Q : β → Prop} {js : List Int} {s : Int} (hf : ∀ s t : Int, ∃ u : Int, f (.int s) (.int t) = .ok (.int u)) (hk : ∀ u : Int, ∃ r, K (.int u) = .ok r ∧ Q r) : ∃ r, (forO f (js.map D.int) (.int s)).bind K = .ok r ∧ Q r := by
  obtain ⟨u, e⟩ := forO_int hf js s
  rw [e, bk]
  exact hk u
end SL
namespace SL.K22
open PySem L2 DL SL
def LX : List Nat := [100, 101, 102, 103, 104, 105, 106, 107, 108, 109, 110, 111, 112, 113, 114, 115, 116, 117, 118, 119, 120, 121, 122, 123]
def LN : List Nat := [100, 101, 102, 103, 104, 105, 106, 107, 108, 109, 110, 111, 112, 113, 114, 115, 116, 117, 118, 119, 120, 121, 122, 123, 124, 125, 126]
def f_law_bag (u_script u_k : D) : O (List D) :=
  ((O.ite ((O.ok u_k).bind fun x => ((O.cons (O.ok u_script) (O.ok [])).bind (ownLen lens)).bind fun y => c_lt x y) ((O.cons ((O.ok u_script).bind fun x => (O.ok u_k).bind fun y => ix x y) (O.ok [])).bind bi_int) (O.ok (D.int 0))).bind fun u_held_cell_1 => (((O.ok (D.int 60029)).bind fun x => ((O.ok u_k).bind fun x => (O.ok (D.int 5)).bind fun y => b_add x y).bind fun y => b_mul x y).bind fun u_seed_2 => ((((O.ok u_script).bind fun x => (O.ok none).bind fun l => ((O.ok (D.int 7)).bind fun x => (asI x).bind fun i => O.ok (some i)).bind fun h => cut x l h).bind itD).bind fun ds => (forO (fun (s3 : D) u_this_4 => ((((O.cons ((((O.ok s3).bind fun x => (O.ok (D.int 30491)).bind fun y => b_mul x y).bind fun x => (((O.cons (O.ok u_this_4) (O.ok [])).bind bi_int).bind fun x => (O.ok (D.int 1000121)).bind fun y => b_mod x y).bind fun y => b_add x y).bind fun x => ((O.ok (D.int 17)).bind fun x => (O.ok u_k).bind fun y => b_mul x y).bind fun y => b_add x y) (O.ok [])).bind bi_int).bind fun x => (O.ok (D.int 2147483549)).bind fun y => b_mod x y).bind fun u_seed_5 => (O.ok u_seed_5))) ds u_seed_2).bind fun (s3 : D) => ((O.ite (O.ite ((O.ok u_held_cell_1).bind fun x => (O.ok (D.int 0)).bind fun y => c_lt x y) (O.ok true) ((O.ok u_held_cell_1).bind fun x => ((O.ok (D.int 10)).bind fun x => (O.ok (D.int 15)).bind fun y => b_pow x y).bind fun y => c_ge x y)) ((O.cons (O.ok u_held_cell_1) (O.ok [])).bind bi_abs) (O.ok (D.int 0))).bind fun u_figures_6 => (O.cons (O.ok u_figures_6) (O.cons (((O.cons ((O.ok s3).bind fun x => ((O.ok (D.int 40093)).bind fun x => (((O.cons (O.ok u_held_cell_1) (O.ok [])).bind bi_int).bind fun x => (O.ok (D.int 999931)).bind fun y => b_mod x y).bind fun y => b_mul x y).bind fun y => b_add x y) (O.ok [])).bind bi_int).bind fun x => (O.ok (D.int 2147483549)).bind fun y => b_mod x y) (O.cons (O.ok (D.int 0)) (O.ok []))))))))
def f_law_draw (u_wide : D) : M D :=
  (((bagIx (O.ok (D.int 2))).bind fun x => (M.up (O.ok (D.int 1))).bind fun y => M.up (b_add x y)).bind fun b6 g => op2 (ixN g.length 2) fun n => (M.ite ((bagIx (O.ok (D.int 0))).bind fun x => (M.up (O.ok (D.int 0))).bind fun y => M.up (c_gt x y)) ((((M.cons (bagIx (O.ok (D.int 0))) (M.up (O.ok []))).bind fun ds => M.up (bi_int ds)).bind fun x => (M.up (O.ok u_wide)).bind fun y => M.up (b_mod x y)).bind fun u_figure_1 => (((bagIx (O.ok (D.int 0))).bind fun x => (M.up (O.ok u_wide)).bind fun y => M.up (b_fdiv x y)).bind fun b2 g => op2 (ixN g.length 0) fun n => (M.up (O.ok u_figure_1)) (g.set n b2))) ((((M.cons (bagIx (O.ok (D.int 1))) (M.up (O.ok []))).bind fun ds => M.up (bi_int ds)).bind fun x => ((M.up (O.ok (D.int 104651))).bind fun x => (bagIx (O.ok (D.int 2))).bind fun y => M.up (b_mul x y)).bind fun y => M.up (b_add x y)).bind fun u_held_3 => ((M.up ((((O.cons (O.ok u_held_3) (O.ok [])).bind bi_int).bind fun x => (O.ok (D.int 59981)).bind fun y => b_mod x y).bind fun x => (O.ok (D.int 40039)).bind fun y => b_add x y)).bind fun u_times_4 => ((((M.cons (((M.up ((O.ok u_held_3).bind fun x => (O.ok u_times_4).bind fun y => b_mul x y)).bind fun x => ((M.up (O.ok (D.int 11))).bind fun x => (bagIx (O.ok (D.int 2))).bind fun y => M.up (b_mul x y)).bind fun y => M.up (b_add x y)).bind fun x => (M.up (O.ok (D.int 19))).bind fun y => M.up (b_add x y)) (M.up (O.ok []))).bind fun ds => M.up (bi_int ds)).bind fun x => (M.up (O.ok (D.int 2147483549))).bind fun y => M.up (b_mod x y)).bind fun b5 g => op2 (ixN g.length 1) fun n => ((((M.cons (bagIx (O.ok (D.int 1))) (M.up (O.ok []))).bind fun ds => M.up (bi_int ds)).bind fun x => (M.up (O.ok (D.int 509))).bind fun y => M.up (b_fdiv x y)).bind fun x => (M.up (O.ok u_wide)).bind fun y => M.up (b_mod x y)) (g.set n b5))))) (g.set n b6))
def f_law_one (u_some : D) : M D :=
  ((M.up (O.ok u_some)).bind fun x => ((M.up (O.cons ((O.cons (O.ok u_some) (O.ok [])).bind (ownLen lens)) (O.ok []))).bind (m1 f_law_draw)).bind fun y => M.up (ix x y))
def f_law_values (u_thing : D) : O D :=
  (((O.cons ((O.cons (O.ok u_thing) (O.ok [])).bind (mkE 100)) (O.cons ((O.cons (O.ok u_thing) (O.ok [])).bind (mkE 101)) (O.cons ((O.cons (O.ok u_thing) (O.ok [])).bind (mkE 103)) (O.cons ((O.cons (O.ok u_thing) (O.ok [])).bind (mkE 104)) (O.ok []))))).bind fun ds => O.ok (D.lst ds)).bind fun u_found_1 => (((O.ok u_found_1).bind fun x => ((O.cons ((O.cons (O.ok u_thing) (O.ok [])).bind (mkE 105)) (O.cons ((O.cons (O.ok u_thing) (O.ok [])).bind (mkE 106)) (O.cons ((O.cons (O.ok u_thing) (O.ok [])).bind (mkE 107)) (O.ok [])))).bind fun ds => O.ok (D.lst ds)).bind fun y => b_add x y).bind fun u_found_2 => (((O.ok u_found_2).bind fun x => ((O.cons ((O.cons (O.ok u_thing) (O.ok [])).bind (mkE 109)) (O.cons ((O.cons (O.ok u_thing) (O.ok [])).bind (mkE 110)) (O.cons ((O.cons (O.ok u_thing) (O.ok [])).bind (mkE 111)) (O.ok [])))).bind fun ds => O.ok (D.lst ds)).bind fun y => b_add x y).bind fun u_found_3 => (((O.ok u_found_3).bind fun x => ((O.cons ((O.cons (O.ok u_thing) (O.ok [])).bind (mkE 114)) (O.cons ((O.cons (O.ok u_thing) (O.ok [])).bind (mkE 115)) (O.cons ((O.cons (O.ok u_thing) (O.ok [])).bind (mkE 116)) (O.cons ((O.cons (O.ok u_thing) (O.ok [])).bind (mkE 117)) (O.ok []))))).bind fun ds => O.ok (D.lst ds)).bind fun y => b_add x y).bind fun u_found_4 => (((O.ok u_found_4).bind fun x => ((O.cons ((O.cons (O.ok u_thing) (O.ok [])).bind (mkE 118)) (O.cons ((O.cons (O.ok u_thing) (O.ok [])).bind fun ds => mkE 100 (perm [0] ds)) (O.cons ((O.cons (O.ok u_thing) (O.ok [])).bind fun ds => mkE 101 (perm [0] ds)) (O.ok [])))).bind fun ds => O.ok (D.lst ds)).bind fun y => b_add x y).bind fun u_found_5 => (((O.ok u_found_5).bind fun x => ((O.cons ((O.cons (O.ok u_thing) (O.ok [])).bind fun ds => mkE 103 (perm [0] ds)) (O.cons ((O.cons (O.ok u_thing) (O.ok [])).bind fun ds => mkE 104 (perm [0] ds)) (O.cons ((O.cons (O.ok u_thing) (O.ok [])).bind fun ds => mkE 105 (perm [0] ds)) (O.ok [])))).bind fun ds => O.ok (D.lst ds)).bind fun y => b_add x y).bind fun u_found_6 => (((O.ok u_found_6).bind fun x => ((O.cons ((O.cons (O.ok u_thing) (O.ok [])).bind fun ds => mkE 106 (perm [0] ds)) (O.cons ((O.cons (O.ok u_thing) (O.ok [])).bind fun ds => mkE 107 (perm [0] ds)) (O.ok []))).bind fun ds => O.ok (D.lst ds)).bind fun y => b_add x y).bind fun u_found_7 => (((O.ok u_found_7).bind fun x => ((O.cons ((O.cons (O.ok u_thing) (O.ok [])).bind fun ds => mkE 109 (perm [0] ds)) (O.cons ((O.cons (O.ok u_thing) (O.ok [])).bind fun ds => mkE 110 (perm [0] ds)) (O.cons ((O.cons (O.ok u_thing) (O.ok [])).bind fun ds => mkE 111 (perm [0] ds)) (O.ok [])))).bind fun ds => O.ok (D.lst ds)).bind fun y => b_add x y).bind fun u_found_8 => (((O.ok u_found_8).bind fun x => ((O.cons ((O.cons (O.ok u_thing) (O.ok [])).bind fun ds => mkE 114 (perm [0] ds)) (O.cons ((O.cons (O.ok u_thing) (O.ok [])).bind fun ds => mkE 115 (perm [0] ds)) (O.cons ((O.cons (O.ok u_thing) (O.ok [])).bind fun ds => mkE 116 (perm [0] ds)) (O.ok [])))).bind fun ds => O.ok (D.lst ds)).bind fun y => b_add x y).bind fun u_found_9 => (((O.ok u_found_9).bind fun x => ((O.cons ((O.cons (O.ok u_thing) (O.ok [])).bind fun ds => mkE 117 (perm [0] ds)) (O.cons ((O.cons (O.ok u_thing) (O.ok [])).bind fun ds => mkE 118 (perm [0] ds)) (O.ok []))).bind fun ds => O.ok (D.lst ds)).bind fun y => b_add x y).bind fun u_found_10 => (O.ok u_found_10)))))))))))
def f_law_classes (u_e : D) : O D :=
  (((O.cons ((O.ok u_e).bind (isVO LX fun c => isE c 100)) (O.cons ((O.ok u_e).bind (isVO LX fun c => isE c 101)) (O.cons ((O.ok u_e).bind (isVO LX fun c => isE c 102)) (O.ok [])))).bind fun ds => O.ok (D.lst ds)).bind fun u_found_1 => (((O.ok u_found_1).bind fun x => ((O.cons ((O.ok u_e).bind (isVO LX fun c => isE c 103)) (O.cons ((O.ok u_e).bind (isVO LX fun c => isE c 104)) (O.ok []))).bind fun ds => O.ok (D.lst ds)).bind fun y => b_add x y).bind fun u_found_2 => (((O.ok u_found_2).bind fun x => ((O.cons ((O.ok u_e).bind (isVO LX fun c => isE c 105)) (O.cons ((O.ok u_e).bind (isVO LX fun c => isE c 106)) (O.ok []))).bind fun ds => O.ok (D.lst ds)).bind fun y => b_add x y).bind fun u_found_3 => (((O.ok u_found_3).bind fun x => ((O.cons ((O.ok u_e).bind (isVO LX fun c => isE c 107)) (O.cons ((O.ok u_e).bind (isVO LX fun c => isE c 108)) (O.ok []))).bind fun ds => O.ok (D.lst ds)).bind fun y => b_add x y).bind fun u_found_4 => (((O.ok u_found_4).bind fun x => ((O.cons ((O.ok u_e).bind (isVO LX fun c => isE c 109)) (O.cons ((O.ok u_e).bind (isVO LX fun c => isE c 110)) (O.ok []))).bind fun ds => O.ok (D.lst ds)).bind fun y => b_add x y).bind fun u_found_5 => (((O.ok u_found_5).bind fun x => ((O.cons ((O.ok u_e).bind (isVO LX fun c => isE c 111)) (O.cons ((O.ok u_e).bind (isVO LX fun c => isE c 112)) (O.ok []))).bind fun ds => O.ok (D.lst ds)).bind fun y => b_add x y).bind fun u_found_6 => (((O.ok u_found_6).bind fun x => ((O.cons ((O.ok u_e).bind (isVO LX fun c => isE c 113)) (O.cons ((O.ok u_e).bind (isVO LX fun c => isE c 114)) (O.ok []))).bind fun ds => O.ok (D.lst ds)).bind fun y => b_add x y).bind fun u_found_7 => (((O.ok u_found_7).bind fun x => ((O.cons ((O.ok u_e).bind (isVO LX fun c => isE c 115)) (O.cons ((O.ok u_e).bind (isVO LX fun c => isE c 116)) (O.cons ((O.ok u_e).bind (isVO LX fun c => isE c 117)) (O.ok [])))).bind fun ds => O.ok (D.lst ds)).bind fun y => b_add x y).bind fun u_found_8 => (((O.ok u_found_8).bind fun x => ((O.cons ((O.ok u_e).bind (isVO LX fun c => isE c 118)) (O.cons ((O.ok u_e).bind (isVO LX fun c => isE c 119)) (O.cons ((O.ok u_e).bind (isVO LX fun c => isE c 120)) (O.ok [])))).bind fun ds => O.ok (D.lst ds)).bind fun y => b_add x y).bind fun u_found_9 => (((O.ok u_found_9).bind fun x => ((O.cons ((O.ok u_e).bind (isVO LX fun c => isE c 121)) (O.cons ((O.ok u_e).bind (isVO LX fun c => isE c 122)) (O.cons ((O.ok u_e).bind (isVO LX fun c => isE c 123)) (O.ok [])))).bind fun ds => O.ok (D.lst ds)).bind fun y => b_add x y).bind fun u_found_10 => (O.ok u_found_10)))))))))))
def f_law_is (u_e u_at : D) : O D :=
  (((O.cons (O.ok u_e) (O.ok [])).bind (l1 f_law_classes)).bind fun u_found_1 => (((O.cons ((O.ok u_e).bind (isVO LX fun c => isE c 124)) (O.cons ((O.ok u_e).bind (isVO LX fun c => isE c 125)) (O.cons ((O.ok u_e).bind (isVO LX fun c => isE c 126)) (O.ok [])))).bind fun ds => O.ok (D.lst ds)).bind fun u_bases_2 => (((O.cons ((O.ok u_e).bind (isVO LX fun c => isEB c "ValueError")) (O.cons ((O.ok u_e).bind (isVO LX fun c => isEB c "LookupError")) (O.cons ((O.ok u_e).bind (isVO LX fun c => isEB c "ArithmeticError")) (O.ok [])))).bind fun ds => O.ok (D.lst ds)).bind fun u_above_3 => (((O.cons (tr ((O.ok u_at).bind fun x => (O.ok (D.int 18)).bind fun y => c_lt x y)) (O.cons (tr (chainO (O.ok (D.int 17)) (O.ok u_at) (O.ok (D.int 23)) c_lt c_lt)) (O.cons (tr ((O.ok u_at).bind fun x => (O.ok (D.int 23)).bind fun y => c_eq x y)) (O.ok [])))).bind fun ds => O.ok (D.lst ds)).bind fun u_due_4 => (tr (O.ite ((tr (((O.ok u_found_1).bind fun x => (O.ok (D.bl true)).bind fun y => t_count x y).bind fun x => (O.ok (D.int 1)).bind fun y => c_eq x y)).bind asB) ((tr (O.ite ((tr (((O.ok u_found_1).bind fun x => (O.ok (D.bl true)).bind fun y => t_indexB x y).bind fun x => (O.ok u_at).bind fun y => c_eq x y)).bind asB) ((tr (O.ite ((tr ((O.ok u_bases_2).bind fun x => (O.ok u_due_4).bind fun y => c_eq x y)).bind asB) ((tr ((O.ok u_above_3).bind fun x => (O.ok u_due_4).bind fun y => c_eq x y)).bind asB) (O.ok false))).bind asB) (O.ok false))).bind asB) (O.ok false)))))))
def f_law_indexes (u_thing : D) : O D :=
  (((O.cons ((O.cons (O.ok u_thing) (O.ok [])).bind (mkE 102)) (O.cons ((O.cons (O.ok u_thing) (O.ok [])).bind (mkE 108)) (O.cons ((O.cons (O.ok u_thing) (O.ok [])).bind (mkE 112)) (O.cons ((O.cons (O.ok u_thing) (O.ok [])).bind (mkE 113)) (O.ok []))))).bind fun ds => O.ok (D.lst ds)).bind fun u_found_1 => (((O.ok u_found_1).bind fun x => ((O.cons ((O.cons (O.ok u_thing) (O.ok [])).bind fun ds => mkE 102 (perm [0] ds)) (O.cons ((O.cons (O.ok u_thing) (O.ok [])).bind fun ds => mkE 108 (perm [0] ds)) (O.ok []))).bind fun ds => O.ok (D.lst ds)).bind fun y => b_add x y).bind fun u_found_2 => (((O.ok u_found_2).bind fun x => ((O.cons ((O.cons (O.ok u_thing) (O.ok [])).bind fun ds => mkE 112 (perm [0] ds)) (O.cons ((O.cons (O.ok u_thing) (O.ok [])).bind fun ds => mkE 113 (perm [0] ds)) (O.ok []))).bind fun ds => O.ok (D.lst ds)).bind fun y => b_add x y).bind fun u_found_3 => (O.ok u_found_3))))
def f_law_others_right (u_thing u_mate : D) : O D :=
  (((O.cons ((O.cons (O.ok u_thing) (O.cons (O.ok u_mate) (O.ok []))).bind (mkE 122)) (O.cons ((O.cons (O.ok u_mate) (O.cons (O.ok u_thing) (O.ok []))).bind fun ds => mkE 122 (perm [1, 0] ds)) (O.ok []))).bind fun ds => O.ok (D.lst ds)).bind fun u_some_1 => (O.ite (((((O.ok u_some_1).bind itD).bind (filO (fun u_e => (O.ite (((O.cons ((O.cons ((O.ok u_e).bind (fvO LX "deed")) (O.cons ((O.ok u_e).bind (fvO LX "shown")) (O.ok []))).bind fun ds => O.ok (D.lst ds)) (O.ok [])).bind bi_reprQ).bind fun x => ((O.cons ((O.cons (O.ok u_thing) (O.cons (O.ok u_mate) (O.ok []))).bind fun ds => O.ok (D.lst ds)) (O.ok [])).bind bi_reprQ).bind fun y => c_ne x y) (O.ok true) ((((O.cons (O.ok u_e) (O.cons (O.ok (D.int 22)) (O.ok []))).bind (l2 f_law_is)).bind asB).bind fun k => O.ok (!k)))) (fun u_e => (O.ok u_e)))).bind fun ds => O.ok (D.lst ds)).bind fun x => ((O.ok []).bind fun ds => O.ok (D.lst ds)).bind fun y => c_ne x y) (O.ok (D.bl false)) (((O.cons ((O.cons (O.ok u_thing) (O.ok [])).bind (mkE 119)) (O.cons ((O.cons (O.ok u_thing) (O.ok [])).bind fun ds => mkE 119 (perm [0] ds)) (O.ok []))).bind fun ds => O.ok (D.lst ds)).bind fun u_some_2 => (O.ite (((((O.ok u_some_2).bind itD).bind (filO (fun u_e => (O.ite (((O.cons ((O.ok u_e).bind (fvO LX "given")) (O.ok [])).bind bi_reprQ).bind fun x => ((O.cons (O.ok u_thing) (O.ok [])).bind bi_reprQ).bind fun y => c_ne x y) (O.ok true) ((((O.cons (O.ok u_e) (O.cons (O.ok (D.int 19)) (O.ok []))).bind (l2 f_law_is)).bind asB).bind fun k => O.ok (!k)))) (fun u_e => (O.ok u_e)))).bind fun ds => O.ok (D.lst ds)).bind fun x => ((O.ok []).bind fun ds => O.ok (D.lst ds)).bind fun y => c_ne x y) (O.ok (D.bl false)) (((O.cons ((O.cons (O.ok u_thing) (O.ok [])).bind (mkE 123)) (O.cons ((O.cons (O.ok u_thing) (O.ok [])).bind fun ds => mkE 123 (perm [0] ds)) (O.ok []))).bind fun ds => O.ok (D.lst ds)).bind fun u_some_3 => (O.ite (((((O.ok u_some_3).bind itD).bind (filO (fun u_e => (O.ite (((O.cons ((O.ok u_e).bind (fvO LX "limit")) (O.ok [])).bind bi_reprQ).bind fun x => ((O.cons (O.ok u_thing) (O.ok [])).bind bi_reprQ).bind fun y => c_ne x y) (O.ok true) ((((O.cons (O.ok u_e) (O.cons (O.ok (D.int 23)) (O.ok []))).bind (l2 f_law_is)).bind asB).bind fun k => O.ok (!k)))) (fun u_e => (O.ok u_e)))).bind fun ds => O.ok (D.lst ds)).bind fun x => ((O.ok []).bind fun ds => O.ok (D.lst ds)).bind fun y => c_ne x y) (O.ok (D.bl false)) (tr (((O.cons ((O.cons (O.ok (.fn 4120 [])) (O.cons (O.ok (D.int 20)) (O.ok []))).bind (l2 f_law_is)) (O.cons ((O.cons (O.ok (.fn 4121 [])) (O.cons (O.ok (D.int 21)) (O.ok []))).bind (l2 f_law_is)) (O.ok []))).bind fun ds => O.ok (D.lst ds)).bind fun x => ((O.cons (O.ok (D.bl true)) (O.cons (O.ok (D.bl true)) (O.ok []))).bind fun ds => O.ok (D.lst ds)).bind fun y => c_eq x y))))))))
def f_law_right : M D :=
  ((M.up ((O.cons (((O.ok (D.int 10)).bind fun x => (O.ok (D.int 49)).bind fun y => b_pow x y).bind fun x => (O.ok (D.int 7)).bind fun y => b_add x y) (O.cons (O.ok (D.non)) (O.cons (O.ok (D.str "x")) (O.cons ((O.cons (O.ok (D.int 1)) (O.cons (O.ok (D.str "a")) (O.ok []))).bind fun ds => O.ok (D.tup ds)) (O.cons ((O.cons (O.ok (D.int 2)) (O.ok [])).bind fun ds => O.ok (D.lst ds)) (O.cons (O.ok (D.dic [])) (O.cons (O.ok (D.bl true)) (O.cons ((O.ok (D.int 5)).bind b_neg) (O.cons ((O.cons (O.ok (D.str "ab")) (O.cons ((O.ok []).bind fun ds => O.ok (D.tup ds)) (O.ok []))).bind fun ds => O.ok (D.tup ds)) (O.cons (O.ok (D.str "")) (O.ok []))))))))))).bind fun ds => O.ok (D.lst ds))).bind fun u_things_1 => (((M.up (O.cons (O.ok u_things_1) (O.ok []))).bind (m1 f_law_one)).bind fun u_thing_2 => (((M.up (O.cons (O.ok u_things_1) (O.ok []))).bind (m1 f_law_one)).bind fun u_mate_3 => ((M.up ((O.cons (O.ok u_thing_2) (O.ok [])).bind (l1 f_law_values))).bind fun u_found_4 => ((M.up ((O.cons (O.ok (D.int 0)) (O.cons (O.ok (D.int 1)) (O.cons (O.ok (D.int 3)) (O.cons (O.ok (D.int 4)) (O.cons (O.ok (D.int 5)) (O.cons (O.ok (D.int 6)) (O.cons (O.ok (D.int 7)) (O.cons (O.ok (D.int 9)) (O.cons (O.ok (D.int 10)) (O.cons (O.ok (D.int 11)) (O.cons (O.ok (D.int 14)) (O.cons (O.ok (D.int 15)) (O.cons (O.ok (D.int 16)) (O.cons (O.ok (D.int 17)) (O.cons (O.ok (D.int 18)) (O.ok [])))))))))))))))).bind fun ds => O.ok (D.lst ds))).bind fun u_spots_5 => ((M.up ((O.ok (D.int 30)).bind rg1)).bind fun ds => thenM (loopM (fun (s6 : Unit) u_k_7 => (M.ite (M.up (O.ite (((O.cons (((O.ok u_found_4).bind fun x => (O.ok u_k_7).bind fun y => ix x y).bind (fvO LX "value")) (O.ok [])).bind bi_reprQ).bind fun x => ((O.cons (O.ok u_thing_2) (O.ok [])).bind bi_reprQ).bind fun y => c_ne x y) (O.ok true) ((((O.cons ((O.ok u_found_4).bind fun x => (O.ok u_k_7).bind fun y => ix x y) (O.cons (((O.ok u_spots_5).bind fun x => (O.ok u_spots_5).bind fun y => b_add x y).bind fun x => (O.ok u_k_7).bind fun y => ix x y) (O.ok []))).bind (l2 f_law_is)).bind asB).bind fun k => O.ok (!k)))) ((M.up (O.ok (D.bl false))).bind fun d => M.ret (Fl.rt (d))) (M.ret (Fl.nx ())))) ds ()) fun (s6 : Unit) => ((M.up ((O.cons (O.ok u_thing_2) (O.ok [])).bind (l1 f_law_indexes))).bind fun u_found_8 => ((M.up ((O.cons (O.ok (D.int 2)) (O.cons (O.ok (D.int 8)) (O.cons (O.ok (D.int 12)) (O.cons (O.ok (D.int 13)) (O.ok []))))).bind fun ds => O.ok (D.lst ds))).bind fun u_spots_9 => ((M.up ((O.ok (D.int 8)).bind rg1)).bind fun ds => thenM (loopM (fun (s10 : Unit) u_k_11 => (M.ite (M.up (O.ite (((O.cons (((O.ok u_found_8).bind fun x => (O.ok u_k_11).bind fun y => ix x y).bind (fvO LX "index")) (O.ok [])).bind bi_reprQ).bind fun x => ((O.cons (O.ok u_thing_2) (O.ok [])).bind bi_reprQ).bind fun y => c_ne x y) (O.ok true) ((((O.cons ((O.ok u_found_8).bind fun x => (O.ok u_k_11).bind fun y => ix x y) (O.cons (((O.ok u_spots_9).bind fun x => (O.ok u_spots_9).bind fun y => b_add x y).bind fun x => (O.ok u_k_11).bind fun y => ix x y) (O.ok []))).bind (l2 f_law_is)).bind asB).bind fun k => O.ok (!k)))) ((M.up (O.ok (D.bl false))).bind fun d => M.ret (Fl.rt (d))) (M.ret (Fl.nx ())))) ds ()) fun (s10 : Unit) => (M.up ((O.cons (O.ok u_thing_2) (O.cons (O.ok u_mate_3) (O.ok []))).bind (l2 f_law_others_right))))))))))))
def f_law (u_script : D) : O D :=
  (((O.cons (O.ok (D.int 8)) (O.cons (O.ok (D.int 6)) (O.cons (O.ok (D.int 1000)) (O.cons (O.ok (D.int 200)) (O.cons (O.ok (D.int 10000000000000000000000000000000000000000)) (O.cons (O.ok (D.int 1000000000)) (O.cons (O.ok (D.int 500)) (O.cons (O.ok (D.int 4)) (O.ok []))))))))).bind fun ds => O.ok (D.lst ds)).bind fun u_limits_1 => (O.ite (((O.cons ((O.ok u_limits_1).bind fun x => ((O.cons (O.ok (D.int 100)) (O.ok [])).bind fun ds => O.ok (D.lst ds)).bind fun y => b_add x y) (O.ok [])).bind bi_reprQ).bind fun x => ((O.cons ((O.cons (O.ok (D.int 8)) (O.cons (O.ok (D.int 6)) (O.cons (O.ok (D.int 1000)) (O.cons (O.ok (D.int 200)) (O.cons ((O.ok (D.int 10)).bind fun x => (O.ok (D.int 40)).bind fun y => b_pow x y) (O.cons ((O.ok (D.int 10)).bind fun x => (O.ok (D.int 9)).bind fun y => b_pow x y) (O.cons (O.ok (D.int 500)) (O.cons (O.ok (D.int 4)) (O.cons (O.ok (D.int 100)) (O.ok [])))))))))).bind fun ds => O.ok (D.lst ds)) (O.ok [])).bind bi_reprQ).bind fun y => (ownNe eqs) x y) (O.ok (D.bl false)) (((O.cons ((O.cons ((O.ok []).bind (l0 f_baker)) (O.ok [])).bind (ownStr txts)) (O.cons ((O.cons ((O.ok []).bind (l0 f_tent)) (O.ok [])).bind (ownStr txts)) (O.cons ((O.cons ((O.ok []).bind (l0 f_golden)) (O.ok [])).bind (ownStr txts)) (O.cons ((O.cons ((O.ok []).bind (l0 f_roller)) (O.ok [])).bind (ownStr txts)) (O.ok []))))).bind fun ds => O.ok (D.lst ds)).bind fun u_texts_2 => (O.ite (O.ite ((O.ok u_texts_2).bind fun x => ((O.cons (O.ok (D.str "0-1 0-1")) (O.cons (O.ok (D.str "0-1 0-1~")) (O.cons (O.ok (D.str "0-1 0-0")) (O.cons (O.ok (D.str "1-2 0-2~ 0-0")) (O.ok []))))).bind fun ds => O.ok (D.lst ds)).bind fun y => (ownNe eqs) x y) (O.ok true) (((O.ok []).bind (l0 f_baker)).bind fun x => ((O.ok []).bind (l0 f_baker)).bind fun y => (ownNe eqs) x y)) (O.ok (D.bl false)) ((O.cons (((((O.cons (O.ok (D.int 2)) (O.cons ((O.cons ((O.cons (O.ok u_script) (O.ok [])).bind (ownLen lens)) (O.cons (O.ok (D.int 6)) (O.ok []))).bind bi_min) (O.ok []))).bind bi_max).bind rg1).bind (mapO (fun u_k => (((O.cons (O.ok u_script) (O.cons (O.ok u_k) (O.ok []))).bind (l2 f_law_bag)).bind fun gs => ((m0 f_law_right) [] gs).bind fun r => O.ok r.1)))).bind fun ds => O.ok (D.lst ds)) (O.ok [])).bind bi_all)))))
end SL.K22
namespace SL
open PySem L2 DL TL
def okStr : O D → Bool
  | .ok (.str _) => true
  | _ => false
def strOf : O D → Str
  | .ok (.str t) => t
  | _ => Str.empty
def dOf : O D → D
  | .ok d => d
  | _ => .non
theorem okStr_eq {o : O D} (h : okStr o = true) : o = .ok (.str (strOf o)) := by
  cases o with
  | ok d => cases d with
    | str t => rfl
    | _ => cases h
  | _ => cases h
def ctx (c : Cell) : Str := strOf (f_cell_text (celD c))
def isCel (o : O D) (c : Cell) : Bool := match o with
  | .ok (.tup [.int a, .int b, .bl f]) => decide (a = c.1) && decide (b = c.2.1) && decide (f = c.2.2)
  | _ => false
theorem isCel_eq {o : O D} {c : Cell} (h : isCel o c = true) : o = .ok (celD c) := by
  obtain ⟨a, b, f⟩ := c
  unfold isCel at h
  split at h
  · simp only [Bool.and_eq_true, decide_eq_true_eq] at h
    obtain ⟨⟨rfl, rfl⟩, rfl⟩ := h
    rfl
  · cases h
def chkC (c : Cell) : Bool := okStr (f_cell_text (celD c)) && isCel (f_cell_in (.str (ctx c))) c && !(decide (32 ∈ (ctx c).cps.toList)) && decide ((ctx c).length ≤ 4) && (ctx c).cps.toList.all (· < 128)
theorem chk_all : ∀ a b : Fin 8, ∀ f : Bool, chkC ((a.val : Int), (b.val : Int), f) = true := by decide +kernel
theorem chk_cell {c : Cell} (h : 0 ≤ c.1 ∧ c.1 ≤ c.2.1 ∧ c.2.1 < 8) : chkC c = true := by
  obtain ⟨a, b, f⟩ := c
  simp only at h
  have := chk_all ⟨a.toNat, by omega⟩ ⟨b.toNat, by omega⟩ f
  simp only at this
  rw [Int.toNat_of_nonneg (by omega), Int.toNat_of_nonneg (by omega)] at this
  exact this
structure CT (c : Cell) : Prop where
  wr : f_cell_text (celD c) = .ok (.str (ctx c))
  rd : f_cell_in (.str (ctx c)) = .ok (celD c)
  sp : 32 ∉ (ctx c).cps.toList
  ln : (ctx c).length ≤ 4
  ch : ∀ x ∈ (ctx c).cps.toList, x < 128
theorem ct_of {c : Cell} (h : 0 ≤ c.1 ∧ c.1 ≤ c.2.1 ∧ c.2.1 < 8) : CT c := by
  have k := chk_cell h
  unfold chkC at k
  simp only [Bool.and_eq_true, Bool.not_eq_true', decide_eq_false_iff_not, decide_eq_true_eq, List.all_eq_true] at k
  obtain ⟨⟨⟨⟨k1, k2⟩, k3⟩, k4⟩, k5⟩ := k
  exact ⟨okStr_eq k1, isCel_eq k2, k3, k4, k5⟩
theorem Good.ct {L : List Cell} (g : Good L) {c : Cell} (h : c ∈ L) : CT c := ct_of (by have := g.ok c h; have := g.n2; omega)
end SL
namespace SL
open PySem L2 DL TL
def st (l : List Nat) : Str := ⟨l.toArray⟩
def tx (l : List Nat) : D := .str (st l)
def sml (c : Nat) : Prop := 97 ≤ c ∧ c ≤ 122
instance (c : Nat) : Decidable (sml c) := inferInstanceAs (Decidable (_ ∧ _))
end SL
namespace SL
open PySem L2 DL
structure Sq (n : Nat) (d : D) : Prop where
  ok : okP d = true
  cl : (toP d).canLay0 = true
  dp : (toP d).depth ≤ n
structure SqA (n : Nat) (d : List D) : Prop where
  ok : okPs d = true
  cl : PyData.canLayAll0 (toPs d) = true
  dp : PyData.depthAll (toPs d) ≤ n
theorem Sq.eqOk {n : Nat} {d : D} (h : Sq n d) (hn : n ≤ 60) : eqOk d = true := by
  have := h.dp
  unfold SL.eqOk
  rw [h.ok]
  show ((toP d).canLay0 && decide ((toP d).depth ≤ 64)) = true
  rw [h.cl, decide_eq_true (by omega)]; rfl
def cz (L : List Cell) (j : Int) : Cell := L.getD j.toNat (0, 0, false)
structure Hue (L : List Cell) (h : List Nat) : Prop where
  len : h.length = L.length
  sm : ∀ c ∈ h, sml c
def runI (c : Cell) : List Int := (List.range (c.2.1 + 1 - c.1).toNat).map fun (i : Nat) => c.1 + (i : Int)
def runs (L : List Cell) (cs : List Int) : List Int := (cs.map fun j => runI (cz L j)).flatten
structure Wrd (w : List Nat) : Prop where
  n1 : 1 ≤ w.length
  n2 : w.length ≤ 200
  sm : ∀ c ∈ w, sml c
end SL
namespace SL
open PySem L2 DL
instance decSpot : DecidableEq Spot := fun a b => if h : a.p = b.p ∧ a.q = b.q ∧ a.s = b.s then .isTrue (by
    obtain ⟨p, q, s⟩ := a
    obtain ⟨p', q', s'⟩ := b
    obtain ⟨h1, h2, h3⟩ := h
    simp only at h1 h2 h3
    rw [h1, h2, h3]) else .isFalse fun e => h (by rw [e]; exact ⟨rfl, rfl, rfl⟩)
structure OnQ (Q : Int) (L : List Cell) (x : Spot) : Prop where
  on : On L x
  dq : x.q ∣ Q
def cd (Q : Int) (x : Spot) : Nat := (x.p * (Q / x.q)).toNat * 2 + (if x.s = "-" then 1 else 0)
def trail (L : List Cell) : Nat → Spot → List Spot
  | 0, _ => []
  | n + 1, x => x :: trail L n (stp L x)
theorem trail_succ (L : List Cell) : ∀ n x, trail L (n + 1) x = trail L n x ++ [far L n x]
  | 0, _ => rfl
  | n + 1, x => by
    show x :: trail L (n + 1) (stp L x) = x :: (trail L n (stp L x) ++ [far L n (stp L x)])
    rw [trail_succ L n (stp L x)]
theorem trail_take (L : List Cell) : ∀ n N x, n ≤ N → trail L n x = (trail L N x).take n
  | 0, _, _, _ => by simp [trail]
  | n + 1, 0, _, h => by omega
  | n + 1, N + 1, x, h => by
    show x :: trail L n (stp L x) = x :: (trail L N (stp L x)).take n
    rw [trail_take L n N (stp L x) (by omega)]
structure Rnd (L : List Cell) (x : Spot) (N : Nat) : Prop where
  le : N ≤ 482
  nd : (trail L N x).Nodup
  ag : far L N x ∈ trail L N x
theorem Rnd.fresh {L : List Cell} {x : Spot} {N n : Nat} (r : Rnd L x N) (h : n < N) : far L n x ∉ trail L n x := by
  have k : (trail L (n + 1) x).Nodup := by rw [trail_take L (n + 1) N x h]; exact r.nd.sublist (List.take_sublist _ _)
  rw [trail_succ] at k
  exact fun z => (List.nodup_append.mp k).2.2 _ z _ (List.mem_singleton.mpr rfl) rfl
structure Ky (key : Spot → D) (kk : Spot → NestedKey) : Prop where
  dk : ∀ a, dkey (key a) = some (kk a)
  inj : ∀ a b, kk a = kk b → a = b
def Spot.key (x : Spot) : D := .tup [.int x.p, .int x.q, .str x.s]
def Spot.kk (x : Spot) : NestedKey := .tup [.num x.p, .num x.q, .text x.s]
def Spot.lk (x : Spot) : D := .tup [.tup [.int x.p, .int x.q], .str x.s]
end SL
namespace SL
open PySem L2 DL
end SL
namespace SL.K22
open PySem L2 DL SL
theorem draw_ok {w : Int} (h : 0 < w) (h2 : w < 2 ^ 64) {g : List D} (hb : Bag g) : ∃ r g', f_law_draw (.int w) g = .ok (.int r, g') ∧ 0 ≤ r ∧ r < w ∧ Bag g' := by
  obtain ⟨a, b, c, rfl⟩ := hb
  unfold f_law_draw
  simp only [mbind, mitea, mconsa, mupa, mret, bagx, bk, ck, ix_l3_0, ix_l3_1, ix_l3_2, b_add_i, ixN3_2, op2k, set3_2, c_gt_i, bi_int_i, b_mod_i h, b_fdiv_i h h2, ixN3_0, set3_0, ixN3_1, set3_1,
    b_mul_l (i := 104651) (by decide) (by decide), b_mul_l (i := 11) (by decide) (by decide), b_mod_i (j := 59981) (by decide)]
  by_cases z : 0 < a
  · simp only [decide_eq_true z, bif1, mbind, mconsa, mupa, mret, bagx, bk, ck, ix_l3_0, ix_l3_1, ix_l3_2, bi_int_i, b_mod_i h, b_fdiv_i h h2, ixN3_0, op2k, set3_0]
    exact ⟨_, _, rfl, Int.emod_nonneg _ (by omega), Int.emod_lt_of_pos _ h, _, _, _, rfl⟩
  · have ht : ∀ x : Int, 0 ≤ x % 59981 + 40039 ∧ x % 59981 + 40039 < 2 ^ 64 := fun x => by omega
    simp only [decide_eq_false z, bif0, mbind, mconsa, mupa, mret, bagx, bk, ck, ix_l3_0, ix_l3_1, ix_l3_2, b_add_i, bi_int_i, ixN3_1, op2k, set3_1, b_mul_l (i := 104651) (by decide) (by decide), b_mul_l (i := 11) (by decide) (by decide), b_mod_i (j := 59981) (by decide), b_mod_i (j := 2147483549) (by decide), b_fdiv_i (j := 509) (by decide) (by decide), b_mod_i h,
      b_mul_r (i := b + 104651 * (c + 1)) (j := (b + 104651 * (c + 1)) % 59981 + 40039) (by have := ht (b + 104651 * (c + 1)); omega) (ht _).2]
    exact ⟨_, _, rfl, Int.emod_nonneg _ (by omega), Int.emod_lt_of_pos _ h, _, _, _, rfl⟩
theorem one_ok {ds : List D} (h : 0 < ds.length) (h2 : ds.length < 1000) {g : List D} (hb : Bag g) : ∃ d g', f_law_one (.lst ds) g = .ok (d, g') ∧ d ∈ ds ∧ Bag g' := by
  obtain ⟨r, g', e, h0, h1, b⟩ := draw_ok (w := ds.length) (by omega) (by omega) hb
  unfold f_law_one
  have hl : r.toNat < ds.length := by omega
  simp only [mbind, mupa, mret, bk, ck, ownLen_l, mp1, e, ix_l h0 (List.getElem?_eq_getElem hl)]
  exact ⟨_, _, rfl, List.getElem_mem hl, b⟩
theorem bag_ok {is : List Int} {k : Int} (h0 : 0 ≤ k) (h1 : k < 100) (hl : is.length ≤ 63) : ∃ g, f_law_bag (.lst (is.map D.int)) (.int k) = .ok g ∧ Bag g := by
  unfold f_law_bag
  obtain ⟨hd, e1⟩ : ∃ hd : Int, O.ite (c_lt (.int k) (.int (is.map D.int).length)) ((O.cons (ix (.lst (is.map D.int)) (.int k)) (O.ok [])).bind bi_int) (O.ok (D.int 0)) = .ok (.int hd) := by
    simp only [c_lt_i]
    by_cases z : k < (is.map D.int).length
    · have hk : k.toNat < is.length := by rw [List.length_map] at z; omega
      refine ⟨is[k.toNat], ?_⟩
      rw [decide_eq_true z, ite1, ix_l (d := .int is[k.toNat]) h0 (by rw [List.getElem?_map, List.getElem?_eq_getElem hk]; rfl), ck, bk, bi_int_i]
    · exact ⟨0, by rw [decide_eq_false z, ite0]⟩
  have e2 : ∃ js : List Int, cut (.lst (is.map D.int)) none (some 7) = .ok (.lst (js.map D.int)) := by
    refine ⟨is.take 7, ?_⟩
    show O.ok (D.lst (cutD (is.map D.int) none (some 7))) = _
    unfold cutD
    rw [HT.sIx_none, show (some (7 : Int)) = some ((7 : Nat) : Int) from rfl, HT.sIx_nat, List.drop_zero, ← List.map_take, Nat.sub_zero, List.length_map]
    congr 3
    rcases Nat.le_total 7 is.length with h | h
    · rw [Nat.min_eq_left h]
    · rw [Nat.min_eq_right h, List.take_of_length_le (Nat.le_refl _), List.take_of_length_le h]
  obtain ⟨js, e2⟩ := e2
  simp only [bk, ck, ownLen_l, e1, b_add_i, b_mul_l (i := 60029) (by decide) (by decide), aik, e2, itD_lst]
  refine forO_intK (fun s t => ⟨_, by simp only [bk, ck, b_mul_r (j := 30491) (by decide) (by decide), bi_int_i, b_mod_i (j := 1000121) (by decide), b_mul_l (i := 17) (by decide) (by decide), b_add_i, b_mod_i (j := 2147483549) (by decide)]; rfl⟩) fun u => ?_
  have hp : b_pow (.int 10) (.int 15) = .ok (.int (10 ^ 15)) := by
    show (if CPow 10 15 then O.ok (D.int (10 ^ (15 : Int).toNat)) else O.bad) = _
    rw [if_pos (by decide)]; rfl
  obtain ⟨t, e4⟩ : ∃ t : Int, O.ite (O.ite (O.ok (decide (hd < 0))) (O.ok true) (O.ok (decide ((10 : Int) ^ 15 ≤ hd)))) (O.ok (D.int (if hd < 0 then -hd else hd))) (O.ok (D.int 0)) = .ok (.int t) := by
    by_cases z : hd < 0
    · exact ⟨_, by rw [decide_eq_true z, ite1, ite1]⟩
    · rw [decide_eq_false z, ite0]
      by_cases z2 : (10 : Int) ^ 15 ≤ hd
      · exact ⟨_, by rw [decide_eq_true z2, ite1]⟩
      · exact ⟨_, by rw [decide_eq_false z2, ite0]⟩
  simp only [bk, ck, c_lt_i, hp, c_ge_i, bi_abs_i, e4, bi_int_i, b_mod_i (j := 999931) (by decide), b_mul_l (i := 40093) (by decide) (by decide), b_add_i, b_mod_i (j := 2147483549) (by decide)]
  exact ⟨_, rfl, _, _, _, rfl⟩
def law_tail (u_script : D) : O D :=
  ((O.cons (((((O.cons (O.ok (D.int 2)) (O.cons ((O.cons ((O.cons (O.ok u_script) (O.ok [])).bind (ownLen lens)) (O.cons (O.ok (D.int 6)) (O.ok []))).bind bi_min) (O.ok []))).bind bi_max).bind rg1).bind (mapO (fun u_k => (((O.cons (O.ok u_script) (O.cons (O.ok u_k) (O.ok []))).bind (l2 f_law_bag)).bind fun gs => ((m0 f_law_right) [] gs).bind fun r => O.ok r.1)))).bind fun ds => O.ok (D.lst ds)) (O.ok [])).bind bi_all)
theorem tail_ok (right_ok : ∀ {g : List D}, Bag g → ∃ g', f_law_right g = .ok (.bl true, g') ∧ Bag g') (is : List Int) (h : is.length ≤ 63) : law_tail (.lst (is.map D.int)) = .ok (.bl true) := by
  unfold law_tail
  have e1 : ∃ n : Int, bi_max [.int 2, .int (if 6 < (((is.map D.int).length : Nat) : Int) then 6 else ((is.map D.int).length : Nat))] = .ok (.int n) ∧ 0 ≤ n ∧ n ≤ 6 := by
    refine ⟨_, rfl, ?_, ?_⟩ <;> split <;> split <;> omega
  obtain ⟨n, e1, n0, n1⟩ := e1
  simp only [bk, ck, ownLen_l, bi_min_i, e1, rg1_i (show -(2 ^ 62) ≤ n by omega) (show n < 2 ^ 62 by omega)]
  rw [mapO_ok (fun _ => .bl true) (fun d hd => ?hd) (by rw [rangeD_length]; omega)]
  case hd =>
    obtain ⟨i, hi⟩ := List.getElem?_of_mem hd
    obtain ⟨h1, rfl⟩ := rangeD_get hi
    obtain ⟨g, e2, b⟩ := bag_ok (is := is) (k := 0 + (i : Int)) (by omega) (by omega) h
    obtain ⟨g', e3, _⟩ := right_ok b
    simp only [bk, ck, ap2, e2, mp0, e3]
  have e : (rangeD 0 n.toNat).map (fun _ => D.bl true) = (List.replicate n.toNat true).map D.bl := by
    rw [List.map_const', rangeD_length, List.map_replicate]
  rw [e]
  simp only [bk, ck]
  show op2 (bls? _) _ = _
  rw [bls?_map, op2k]
  simp
end SL.K22
namespace SL.K22
open PySem L2 DL SL
def rest (u_thing_2 u_mate_3 : D) : M D :=
  ((M.up ((O.cons (O.ok u_thing_2) (O.ok [])).bind (l1 f_law_values))).bind fun u_found_4 => ((M.up ((O.cons (O.ok (D.int 0)) (O.cons (O.ok (D.int 1)) (O.cons (O.ok (D.int 3)) (O.cons (O.ok (D.int 4)) (O.cons (O.ok (D.int 5)) (O.cons (O.ok (D.int 6)) (O.cons (O.ok (D.int 7)) (O.cons (O.ok (D.int 9)) (O.cons (O.ok (D.int 10)) (O.cons (O.ok (D.int 11)) (O.cons (O.ok (D.int 14)) (O.cons (O.ok (D.int 15)) (O.cons (O.ok (D.int 16)) (O.cons (O.ok (D.int 17)) (O.cons (O.ok (D.int 18)) (O.ok [])))))))))))))))).bind fun ds => O.ok (D.lst ds))).bind fun u_spots_5 => ((M.up ((O.ok (D.int 30)).bind rg1)).bind fun ds => thenM (loopM (fun (s6 : Unit) u_k_7 => (M.ite (M.up (O.ite (((O.cons (((O.ok u_found_4).bind fun x => (O.ok u_k_7).bind fun y => ix x y).bind (fvO LX "value")) (O.ok [])).bind bi_reprQ).bind fun x => ((O.cons (O.ok u_thing_2) (O.ok [])).bind bi_reprQ).bind fun y => c_ne x y) (O.ok true) ((((O.cons ((O.ok u_found_4).bind fun x => (O.ok u_k_7).bind fun y => ix x y) (O.cons (((O.ok u_spots_5).bind fun x => (O.ok u_spots_5).bind fun y => b_add x y).bind fun x => (O.ok u_k_7).bind fun y => ix x y) (O.ok []))).bind (l2 f_law_is)).bind asB).bind fun k => O.ok (!k)))) ((M.up (O.ok (D.bl false))).bind fun d => M.ret (Fl.rt (d))) (M.ret (Fl.nx ())))) ds ()) fun (s6 : Unit) => ((M.up ((O.cons (O.ok u_thing_2) (O.ok [])).bind (l1 f_law_indexes))).bind fun u_found_8 => ((M.up ((O.cons (O.ok (D.int 2)) (O.cons (O.ok (D.int 8)) (O.cons (O.ok (D.int 12)) (O.cons (O.ok (D.int 13)) (O.ok []))))).bind fun ds => O.ok (D.lst ds))).bind fun u_spots_9 => ((M.up ((O.ok (D.int 8)).bind rg1)).bind fun ds => thenM (loopM (fun (s10 : Unit) u_k_11 => (M.ite (M.up (O.ite (((O.cons (((O.ok u_found_8).bind fun x => (O.ok u_k_11).bind fun y => ix x y).bind (fvO LX "index")) (O.ok [])).bind bi_reprQ).bind fun x => ((O.cons (O.ok u_thing_2) (O.ok [])).bind bi_reprQ).bind fun y => c_ne x y) (O.ok true) ((((O.cons ((O.ok u_found_8).bind fun x => (O.ok u_k_11).bind fun y => ix x y) (O.cons (((O.ok u_spots_9).bind fun x => (O.ok u_spots_9).bind fun y => b_add x y).bind fun x => (O.ok u_k_11).bind fun y => ix x y) (O.ok []))).bind (l2 f_law_is)).bind asB).bind fun k => O.ok (!k)))) ((M.up (O.ok (D.bl false))).bind fun d => M.ret (Fl.rt (d))) (M.ret (Fl.nx ())))) ds ()) fun (s10 : Unit) => (M.up ((O.cons (O.ok u_thing_2) (O.cons (O.ok u_mate_3) (O.ok []))).bind (l2 f_law_others_right)))))))))
def th0 : D := .int (10 ^ 49 + 7)
def th1 : D := .non
def th2 : D := .str "x"
def th3 : D := .tup [.int 1, .str "a"]
def th4 : D := .lst [.int 2]
def th5 : D := .dic []
def th6 : D := .bl true
def th7 : D := .int (-5)
def th8 : D := .tup [.str "ab", .tup []]
def th9 : D := .str ""
def thg : List D := [th0, th1, th2, th3, th4, th5, th6, th7, th8, th9]
theorem things_ok : ((O.cons (((O.ok (D.int 10)).bind fun x => (O.ok (D.int 49)).bind fun y => b_pow x y).bind fun x => (O.ok (D.int 7)).bind fun y => b_add x y) (O.cons (O.ok (D.non)) (O.cons (O.ok (D.str "x")) (O.cons ((O.cons (O.ok (D.int 1)) (O.cons (O.ok (D.str "a")) (O.ok []))).bind fun ds => O.ok (D.tup ds)) (O.cons ((O.cons (O.ok (D.int 2)) (O.ok [])).bind fun ds => O.ok (D.lst ds)) (O.cons (O.ok (D.dic [])) (O.cons (O.ok (D.bl true)) (O.cons ((O.ok (D.int 5)).bind b_neg) (O.cons ((O.cons (O.ok (D.str "ab")) (O.cons ((O.ok []).bind fun ds => O.ok (D.tup ds)) (O.ok []))).bind fun ds => O.ok (D.tup ds)) (O.cons (O.ok (D.str "")) (O.ok []))))))))))).bind fun ds => O.ok (D.lst ds)) = .ok (.lst thg) := by kernel_rfl
theorem r0_0 (g : List D) : rest th0 th0 g = .ok (.bl true, g) := by kernel_rfl
theorem r0_1 (g : List D) : rest th0 th1 g = .ok (.bl true, g) := by kernel_rfl
theorem r0_2 (g : List D) : rest th0 th2 g = .ok (.bl true, g) := by kernel_rfl
theorem r0_3 (g : List D) : rest th0 th3 g = .ok (.bl true, g) := by kernel_rfl
theorem r0_4 (g : List D) : rest th0 th4 g = .ok (.bl true, g) := by kernel_rfl
theorem r0_5 (g : List D) : rest th0 th5 g = .ok (.bl true, g) := by kernel_rfl
theorem r0_6 (g : List D) : rest th0 th6 g = .ok (.bl true, g) := by kernel_rfl
theorem r0_7 (g : List D) : rest th0 th7 g = .ok (.bl true, g) := by kernel_rfl
theorem r0_8 (g : List D) : rest th0 th8 g = .ok (.bl true, g) := by kernel_rfl
theorem r0_9 (g : List D) : rest th0 th9 g = .ok (.bl true, g) := by kernel_rfl
theorem r1_0 (g : List D) : rest th1 th0 g = .ok (.bl true, g) := by kernel_rfl
theorem r1_1 (g : List D) : rest th1 th1 g = .ok (.bl true, g) := by kernel_rfl
theorem r1_2 (g : List D) : rest th1 th2 g = .ok (.bl true, g) := by kernel_rfl
theorem r1_3 (g : List D) : rest th1 th3 g = .ok (.bl true, g) := by kernel_rfl
theorem r1_4 (g : List D) : rest th1 th4 g = .ok (.bl true, g) := by kernel_rfl
theorem r1_5 (g : List D) : rest th1 th5 g = .ok (.bl true, g) := by kernel_rfl
theorem r1_6 (g : List D) : rest th1 th6 g = .ok (.bl true, g) := by kernel_rfl
theorem r1_7 (g : List D) : rest th1 th7 g = .ok (.bl true, g) := by kernel_rfl
theorem r1_8 (g : List D) : rest th1 th8 g = .ok (.bl true, g) := by kernel_rfl
theorem r1_9 (g : List D) : rest th1 th9 g = .ok (.bl true, g) := by kernel_rfl
theorem r2_0 (g : List D) : rest th2 th0 g = .ok (.bl true, g) := by kernel_rfl
theorem r2_1 (g : List D) : rest th2 th1 g = .ok (.bl true, g) := by kernel_rfl
theorem r2_2 (g : List D) : rest th2 th2 g = .ok (.bl true, g) := by kernel_rfl
theorem r2_3 (g : List D) : rest th2 th3 g = .ok (.bl true, g) := by kernel_rfl
theorem r2_4 (g : List D) : rest th2 th4 g = .ok (.bl true, g) := by kernel_rfl
theorem r2_5 (g : List D) : rest th2 th5 g = .ok (.bl true, g) := by kernel_rfl
theorem r2_6 (g : List D) : rest th2 th6 g = .ok (.bl true, g) := by kernel_rfl
theorem r2_7 (g : List D) : rest th2 th7 g = .ok (.bl true, g) := by kernel_rfl
theorem r2_8 (g : List D) : rest th2 th8 g = .ok (.bl true, g) := by kernel_rfl
theorem r2_9 (g : List D) : rest th2 th9 g = .ok (.bl true, g) := by kernel_rfl
theorem r3_0 (g : List D) : rest th3 th0 g = .ok (.bl true, g) := by kernel_rfl
theorem r3_1 (g : List D) : rest th3 th1 g = .ok (.bl true, g) := by kernel_rfl
theorem r3_2 (g : List D) : rest th3 th2 g = .ok (.bl true, g) := by kernel_rfl
theorem r3_3 (g : List D) : rest th3 th3 g = .ok (.bl true, g) := by kernel_rfl
theorem r3_4 (g : List D) : rest th3 th4 g = .ok (.bl true, g) := by kernel_rfl
theorem r3_5 (g : List D) : rest th3 th5 g = .ok (.bl true, g) := by kernel_rfl
theorem r3_6 (g : List D) : rest th3 th6 g = .ok (.bl true, g) := by kernel_rfl
theorem r3_7 (g : List D) : rest th3 th7 g = .ok (.bl true, g) := by kernel_rfl
theorem r3_8 (g : List D) : rest th3 th8 g = .ok (.bl true, g) := by kernel_rfl
theorem r3_9 (g : List D) : rest th3 th9 g = .ok (.bl true, g) := by kernel_rfl
theorem r4_0 (g : List D) : rest th4 th0 g = .ok (.bl true, g) := by kernel_rfl
theorem r4_1 (g : List D) : rest th4 th1 g = .ok (.bl true, g) := by kernel_rfl
theorem r4_2 (g : List D) : rest th4 th2 g = .ok (.bl true, g) := by kernel_rfl
theorem r4_3 (g : List D) : rest th4 th3 g = .ok (.bl true, g) := by kernel_rfl
theorem r4_4 (g : List D) : rest th4 th4 g = .ok (.bl true, g) := by kernel_rfl
theorem r4_5 (g : List D) : rest th4 th5 g = .ok (.bl true, g) := by kernel_rfl
theorem r4_6 (g : List D) : rest th4 th6 g = .ok (.bl true, g) := by kernel_rfl
theorem r4_7 (g : List D) : rest th4 th7 g = .ok (.bl true, g) := by kernel_rfl
theorem r4_8 (g : List D) : rest th4 th8 g = .ok (.bl true, g) := by kernel_rfl
theorem r4_9 (g : List D) : rest th4 th9 g = .ok (.bl true, g) := by kernel_rfl
theorem r5_0 (g : List D) : rest th5 th0 g = .ok (.bl true, g) := by kernel_rfl
theorem r5_1 (g : List D) : rest th5 th1 g = .ok (.bl true, g) := by kernel_rfl
theorem r5_2 (g : List D) : rest th5 th2 g = .ok (.bl true, g) := by kernel_rfl
theorem r5_3 (g : List D) : rest th5 th3 g = .ok (.bl true, g) := by kernel_rfl
theorem r5_4 (g : List D) : rest th5 th4 g = .ok (.bl true, g) := by kernel_rfl
theorem r5_5 (g : List D) : rest th5 th5 g = .ok (.bl true, g) := by kernel_rfl
theorem r5_6 (g : List D) : rest th5 th6 g = .ok (.bl true, g) := by kernel_rfl
theorem r5_7 (g : List D) : rest th5 th7 g = .ok (.bl true, g) := by kernel_rfl
theorem r5_8 (g : List D) : rest th5 th8 g = .ok (.bl true, g) := by kernel_rfl
theorem r5_9 (g : List D) : rest th5 th9 g = .ok (.bl true, g) := by kernel_rfl
theorem r6_0 (g : List D) : rest th6 th0 g = .ok (.bl true, g) := by kernel_rfl
theorem r6_1 (g : List D) : rest th6 th1 g = .ok (.bl true, g) := by kernel_rfl
theorem r6_2 (g : List D) : rest th6 th2 g = .ok (.bl true, g) := by kernel_rfl
theorem r6_3 (g : List D) : rest th6 th3 g = .ok (.bl true, g) := by kernel_rfl
theorem r6_4 (g : List D) : rest th6 th4 g = .ok (.bl true, g) := by kernel_rfl
theorem r6_5 (g : List D) : rest th6 th5 g = .ok (.bl true, g) := by kernel_rfl
theorem r6_6 (g : List D) : rest th6 th6 g = .ok (.bl true, g) := by kernel_rfl
theorem r6_7 (g : List D) : rest th6 th7 g = .ok (.bl true, g) := by kernel_rfl
theorem r6_8 (g : List D) : rest th6 th8 g = .ok (.bl true, g) := by kernel_rfl
theorem r6_9 (g : List D) : rest th6 th9 g = .ok (.bl true, g) := by kernel_rfl
theorem r7_0 (g : List D) : rest th7 th0 g = .ok (.bl true, g) := by kernel_rfl
theorem r7_1 (g : List D) : rest th7 th1 g = .ok (.bl true, g) := by kernel_rfl
theorem r7_2 (g : List D) : rest th7 th2 g = .ok (.bl true, g) := by kernel_rfl
theorem r7_3 (g : List D) : rest th7 th3 g = .ok (.bl true, g) := by kernel_rfl
theorem r7_4 (g : List D) : rest th7 th4 g = .ok (.bl true, g) := by kernel_rfl
theorem r7_5 (g : List D) : rest th7 th5 g = .ok (.bl true, g) := by kernel_rfl
theorem r7_6 (g : List D) : rest th7 th6 g = .ok (.bl true, g) := by kernel_rfl
theorem r7_7 (g : List D) : rest th7 th7 g = .ok (.bl true, g) := by kernel_rfl
theorem r7_8 (g : List D) : rest th7 th8 g = .ok (.bl true, g) := by kernel_rfl
theorem r7_9 (g : List D) : rest th7 th9 g = .ok (.bl true, g) := by kernel_rfl
theorem r8_0 (g : List D) : rest th8 th0 g = .ok (.bl true, g) := by kernel_rfl
theorem r8_1 (g : List D) : rest th8 th1 g = .ok (.bl true, g) := by kernel_rfl
theorem r8_2 (g : List D) : rest th8 th2 g = .ok (.bl true, g) := by kernel_rfl
theorem r8_3 (g : List D) : rest th8 th3 g = .ok (.bl true, g) := by kernel_rfl
theorem r8_4 (g : List D) : rest th8 th4 g = .ok (.bl true, g) := by kernel_rfl
theorem r8_5 (g : List D) : rest th8 th5 g = .ok (.bl true, g) := by kernel_rfl
theorem r8_6 (g : List D) : rest th8 th6 g = .ok (.bl true, g) := by kernel_rfl
theorem r8_7 (g : List D) : rest th8 th7 g = .ok (.bl true, g) := by kernel_rfl
theorem r8_8 (g : List D) : rest th8 th8 g = .ok (.bl true, g) := by kernel_rfl
theorem r8_9 (g : List D) : rest th8 th9 g = .ok (.bl true, g) := by kernel_rfl
theorem r9_0 (g : List D) : rest th9 th0 g = .ok (.bl true, g) := by kernel_rfl
theorem r9_1 (g : List D) : rest th9 th1 g = .ok (.bl true, g) := by kernel_rfl
theorem r9_2 (g : List D) : rest th9 th2 g = .ok (.bl true, g) := by kernel_rfl
theorem r9_3 (g : List D) : rest th9 th3 g = .ok (.bl true, g) := by kernel_rfl
theorem r9_4 (g : List D) : rest th9 th4 g = .ok (.bl true, g) := by kernel_rfl
theorem r9_5 (g : List D) : rest th9 th5 g = .ok (.bl true, g) := by kernel_rfl
theorem r9_6 (g : List D) : rest th9 th6 g = .ok (.bl true, g) := by kernel_rfl
theorem r9_7 (g : List D) : rest th9 th7 g = .ok (.bl true, g) := by kernel_rfl
theorem r9_8 (g : List D) : rest th9 th8 g = .ok (.bl true, g) := by kernel_rfl
theorem r9_9 (g : List D) : rest th9 th9 g = .ok (.bl true, g) := by kernel_rfl
theorem mem_thg {d : D} (h : d ∈ thg) : d = th0 ∨ d = th1 ∨ d = th2 ∨ d = th3 ∨ d = th4 ∨ d = th5 ∨ d = th6 ∨ d = th7 ∨ d = th8 ∨ d = th9 := by
  simpa [thg] using h
theorem rest_ok {t m : D} (ht : t ∈ thg) (hm : m ∈ thg) (g : List D) : rest t m g = .ok (.bl true, g) := by
  rcases mem_thg ht with rfl | rfl | rfl | rfl | rfl | rfl | rfl | rfl | rfl | rfl <;> rcases mem_thg hm with rfl | rfl | rfl | rfl | rfl | rfl | rfl | rfl | rfl | rfl
  · exact r0_0 g
  · exact r0_1 g
  · exact r0_2 g
  · exact r0_3 g
  · exact r0_4 g
  · exact r0_5 g
  · exact r0_6 g
  · exact r0_7 g
  · exact r0_8 g
  · exact r0_9 g
  · exact r1_0 g
  · exact r1_1 g
  · exact r1_2 g
  · exact r1_3 g
  · exact r1_4 g
  · exact r1_5 g
  · exact r1_6 g
  · exact r1_7 g
  · exact r1_8 g
  · exact r1_9 g
  · exact r2_0 g
  · exact r2_1 g
  · exact r2_2 g
  · exact r2_3 g
  · exact r2_4 g
  · exact r2_5 g
  · exact r2_6 g
  · exact r2_7 g
  · exact r2_8 g
  · exact r2_9 g
  · exact r3_0 g
  · exact r3_1 g
  · exact r3_2 g
  · exact r3_3 g
  · exact r3_4 g
  · exact r3_5 g
  · exact r3_6 g
  · exact r3_7 g
  · exact r3_8 g
  · exact r3_9 g
  · exact r4_0 g
  · exact r4_1 g
  · exact r4_2 g
  · exact r4_3 g
  · exact r4_4 g
  · exact r4_5 g
  · exact r4_6 g
  · exact r4_7 g
  · exact r4_8 g
  · exact r4_9 g
  · exact r5_0 g
  · exact r5_1 g
  · exact r5_2 g
  · exact r5_3 g
  · exact r5_4 g
  · exact r5_5 g
  · exact r5_6 g
  · exact r5_7 g
  · exact r5_8 g
  · exact r5_9 g
  · exact r6_0 g
  · exact r6_1 g
  · exact r6_2 g
  · exact r6_3 g
  · exact r6_4 g
  · exact r6_5 g
  · exact r6_6 g
  · exact r6_7 g
  · exact r6_8 g
  · exact r6_9 g
  · exact r7_0 g
  · exact r7_1 g
  · exact r7_2 g
  · exact r7_3 g
  · exact r7_4 g
  · exact r7_5 g
  · exact r7_6 g
  · exact r7_7 g
  · exact r7_8 g
  · exact r7_9 g
  · exact r8_0 g
  · exact r8_1 g
  · exact r8_2 g
  · exact r8_3 g
  · exact r8_4 g
  · exact r8_5 g
  · exact r8_6 g
  · exact r8_7 g
  · exact r8_8 g
  · exact r8_9 g
  · exact r9_0 g
  · exact r9_1 g
  · exact r9_2 g
  · exact r9_3 g
  · exact r9_4 g
  · exact r9_5 g
  · exact r9_6 g
  · exact r9_7 g
  · exact r9_8 g
  · exact r9_9 g
theorem right_eq (g : List D) : f_law_right g = ((m1 f_law_one [.lst thg] g).bind fun r => (m1 f_law_one [.lst thg] r.2).bind fun s => rest r.1 s.1 s.2) := by
  unfold f_law_right
  simp only [mbind, mupa, things_ok, bk, ck]
  rfl
theorem right_ok {g : List D} (hb : Bag g) : ∃ g', f_law_right g = .ok (.bl true, g') ∧ Bag g' := by
  obtain ⟨t, g1, e1, ht, b1⟩ := one_ok (ds := thg) (by decide) (by decide) hb
  obtain ⟨m, g2, e2, hm, b2⟩ := one_ok (ds := thg) (by decide) (by decide) b1
  refine ⟨g2, ?_, b2⟩
  rw [right_eq, mp1, e1, bk]
  show ((f_law_one (D.lst thg) g1).bind fun s => rest t s.1 s.2) = _
  rw [e2, bk]
  exact rest_ok ht hm g2
theorem law_eq (s : D) : f_law s = law_tail s := by kernel_rfl
theorem main (is : List Int) (h : is.length ≤ 63) : l1 f_law [D.lst (is.map D.int)] = .ok (.bl true) := by
  rw [ap1, law_eq]
  exact tail_ok right_ok is h
end SL.K22
namespace SL.K22
open PySem L2 DL SL
variable [TabL]
def topS (i : Nat) : Stmt := PySem.Challenge.pw_doughfolds_k22_errors_limits_and_samples.main.body.getD i (.Pass ⟨0, 0, 0, 0⟩)
abbrev s_Fold_eq : Stmt := inClass (topS 46) 5
theorem sc_Fold_eq : FnScope ["self", "other"] ["self", "other"] (defScope s_Fold_eq) := ⟨rfl, rfl, rfl, by decide +kernel, rfl, by decide +kernel, by decide +kernel⟩
theorem ok_Fold_eq {C : Kc} {mg : Str → Option Value} {base : Heap} {f : Addr} {fd : FuncData} (Fn : Fun C.K "__eq__" "Fold.__eq__" s_Fold_eq f fd) (T : Tx C mg) (h_Fold : C.has 1 = true) : FnOk C.P C.w C.K mg base CX0 1 f fd ["self", "other"] (spF C (l2 Fold_eq)) := by
  refine fx Fn sc_Fold_eq (fun _ _ h => l2_len h) (fun ds cdv A outer s H E hr => ar2 (S := fun ds => ⟨DL.start ["self", "other"] ds, none⟩) (fun v_self v_other => ?_) ds)
  exact k_retA (p_and (x_isiC T h_Fold (p_var (j := 1) rfl)) (p_one (p_cmp s_eq (p_fld (cs := [1, 5]) T.fl (p_var (j := 0) rfl)) (p_fld (cs := [1, 5]) T.fl (p_var (j := 1) rfl)))))
abbrev s_f_cell_text : Stmt := topS 45
theorem sc_f_cell_text : FnScope ["cell", "first", "last", "is_turned"] ["cell"] (defScope s_f_cell_text) := ⟨rfl, rfl, rfl, by decide +kernel, rfl, by decide +kernel, by decide +kernel⟩
theorem ok_f_cell_text {C : Kc} {mg : Str → Option Value} {base : Heap} {f : Addr} {fd : FuncData} (Fn : Fun C.K "cell_text" "cell_text" s_f_cell_text f fd) (T : Tx C mg)  : FnOk C.P C.w C.K mg base CX0 1 f fd ["cell"] (spF C (l1 f_cell_text)) := by
  refine fx Fn sc_f_cell_text (fun _ _ h => l1_len h) (fun ds cdv A outer s H E hr => ar1 (S := fun ds => ⟨DL.start ["cell", "first", "last", "is_turned"] ds, none⟩) (fun v_cell => ?_) ds)
  refine k_asg3 (i := 1) (j := 2) (l := 3) (p_var (j := 0) rfl) (fun v_first_1 v_last_2 v_is_turned_3 => ?_)
  exact k_retA (p_ifx (t_val (p_var (j := 3) rfl)) (p_js (j_cons (p_fmt (p_var (j := 1) rfl)) (j_cons p_str (j_cons (p_fmt (p_var (j := 2) rfl)) (j_cons p_str j_nil))))) (p_js (j_cons (p_fmt (p_var (j := 1) rfl)) (j_cons p_str (j_cons (p_fmt (p_var (j := 2) rfl)) j_nil)))))
abbrev s_Fold_str : Stmt := inClass (topS 46) 6
theorem sc_Fold_str : FnScope ["self", "cell"] ["self"] (defScope s_Fold_str) := ⟨rfl, rfl, rfl, by decide +kernel, rfl, by decide +kernel, by decide +kernel⟩
theorem ok_Fold_str {C : Kc} {mg : Str → Option Value} {base : Heap} {f : Addr} {fd : FuncData} (Fn : Fun C.K "__str__" "Fold.__str__" s_Fold_str f fd) (T : Tx C mg) (c_cell_text : Cal C.P C.w C mg base 1 "cell_text" (spF C (l1 f_cell_text))) : FnOk C.P C.w C.K mg base CX0 2 f fd ["self"] (spF C (l1 Fold_str)) := by
  refine fx Fn sc_Fold_str (fun _ _ h => l1_len h) (fun ds cdv A outer s H E hr => ar1 (S := fun ds => ⟨DL.start ["self", "cell"] ds, none⟩) (fun v_self => ?_) ds)
  exact k_retA (p_join p_str (p_do (o_lc (fun _ => blkOk_by (own := [("cell", 1)]) (by first | rfl | decide +kernel)) (lc_map (j := 1) (own := [("cell", 1)]) (i_val (p_fld (cs := [1, 5]) T.fl (p_var (j := 0) rfl))) (fun v_cell => (p_call c_cell_text (a_cons (p_var (j := 1) rfl) a_nil)))))))
abbrev s_f_are_figures : Stmt := topS 40
theorem sc_f_are_figures : FnScope ["text", "sign"] ["text"] (defScope s_f_are_figures) := ⟨rfl, rfl, rfl, by decide +kernel, rfl, by decide +kernel, by decide +kernel⟩
theorem ok_f_are_figures {C : Kc} {mg : Str → Option Value} {base : Heap} {f : Addr} {fd : FuncData} (Fn : Fun C.K "are_figures" "are_figures" s_f_are_figures f fd) (T : Tx C mg)  : FnOk C.P C.w C.K mg base CX0 1 f fd ["text"] (spF C (l1 f_are_figures)) := by
  refine fx Fn sc_f_are_figures (fun _ _ h => l1_len h) (fun ds cdv A outer s H E hr => ar1 (S := fun ds => ⟨DL.start ["text", "sign"] ds, none⟩) (fun v_text => ?_) ds)
  refine k_ifr (t_w (w_or (t_cmp s_eq (p_var (j := 0) rfl) p_str) (w_or1 (t_not (t_val (p_callB (T.bl "all") bb_all s_all (a_cons (p_do (o_lc (fun _ => blkOk_by (own := [("sign", 1)]) (by first | rfl | decide +kernel)) (lc_map (j := 1) (own := [("sign", 1)]) (i_val (p_var (j := 0) rfl)) (fun v_sign => (p_cmp s_in (p_var (j := 1) rfl) p_str))))) a_nil))))))) ?_ ?_
  · exact k_retA p_bl
  exact k_retA (p_or (p_cmp s_eq (p_var (j := 0) rfl) p_str) (p_one (p_cmp s_ne (p_ix (p_var (j := 0) rfl) p_int) p_str)))
abbrev s_f_cell_in : Stmt := topS 44
theorem sc_f_cell_in : FnScope ["word", "first", "line", "rest", "last"] ["word"] (defScope s_f_cell_in) := ⟨rfl, rfl, rfl, by decide +kernel, rfl, by decide +kernel, by decide +kernel⟩
theorem ok_f_cell_in {C : Kc} {mg : Str → Option Value} {base : Heap} {f : Addr} {fd : FuncData} (Fn : Fun C.K "cell_in" "cell_in" s_f_cell_in f fd) (T : Tx C mg) (c_are_figures : Cal C.P C.w C mg base 1 "are_figures" (spF C (l1 f_are_figures))) : FnOk C.P C.w C.K mg base CX0 2 f fd ["word"] (spF C (l1 f_cell_in)) := by
  refine fx Fn sc_f_cell_in (fun _ _ h => l1_len h) (fun ds cdv A outer s H E hr => ar1 (S := fun ds => ⟨DL.start ["word", "first", "line", "rest", "last"] ds, none⟩) (fun v_word => ?_) ds)
  refine k_asg3 (i := 1) (j := 2) (l := 3) (p_part (p_var (j := 0) rfl) p_str) (fun v_first_1 v_line_2 v_rest_3 => ?_)
  refine k_set (j := 4) (p_ifx (t_cmp s_eq (p_slice (p_var (j := 3) rfl) (x_some (p_un s_neg p_int)) x_none) p_str) (p_slice (p_var (j := 3) rfl) x_none (x_some (p_un s_neg p_int))) (p_var (j := 3) rfl)) (fun v_last_4 => ?_)
  refine k_ifr (t_w (w_or (t_cmp s_gt (p_callB (T.bl "len") bb_len s_len (a_cons (p_var (j := 0) rfl) a_nil)) p_int) (w_or (t_not (t_val (p_call c_are_figures (a_cons (p_var (j := 1) rfl) a_nil)))) (w_or1 (t_not (t_val (p_call c_are_figures (a_cons (p_var (j := 4) rfl) a_nil)))))))) ?_ ?_
  · exact k_retA p_non
  exact k_retA (p_tup (a_cons (p_callTy (T.bl "int") bb_int s_int (a_cons (p_var (j := 1) rfl) a_nil)) (a_cons (p_callTy (T.bl "int") bb_int s_int (a_cons (p_var (j := 4) rfl) a_nil)) (a_cons (p_cmp s_ne (p_var (j := 3) rfl) (p_var (j := 4) rfl)) a_nil))))
abbrev s_f_is_integer : Stmt := topS 38
theorem sc_f_is_integer : FnScope ["value"] ["value"] (defScope s_f_is_integer) := ⟨rfl, rfl, rfl, by decide +kernel, rfl, by decide +kernel, by decide +kernel⟩
theorem ok_f_is_integer {C : Kc} {mg : Str → Option Value} {base : Heap} {f : Addr} {fd : FuncData} (Fn : Fun C.K "is_integer" "is_integer" s_f_is_integer f fd) (T : Tx C mg)  : FnOk C.P C.w C.K mg base CX0 1 f fd ["value"] (spF C (l1 f_is_integer)) := by
  refine fx Fn sc_f_is_integer (fun _ _ h => l1_len h) (fun ds cdv A outer s H E hr => ar1 (S := fun ds => ⟨DL.start ["value"] ds, none⟩) (fun v_value => ?_) ds)
  exact k_retA (p_and (x_isiB T (p_var (j := 0) rfl) bb_int) (p_one (p_not (x_isiB T (p_var (j := 0) rfl) bb_bool))))
abbrev s_f_is_between : Stmt := topS 39
theorem sc_f_is_between : FnScope ["value", "least", "most"] ["value", "least", "most"] (defScope s_f_is_between) := ⟨rfl, rfl, rfl, by decide +kernel, rfl, by decide +kernel, by decide +kernel⟩
theorem ok_f_is_between {C : Kc} {mg : Str → Option Value} {base : Heap} {f : Addr} {fd : FuncData} (Fn : Fun C.K "is_between" "is_between" s_f_is_between f fd) (T : Tx C mg) (c_is_integer : Cal C.P C.w C mg base 1 "is_integer" (spF C (l1 f_is_integer))) : FnOk C.P C.w C.K mg base CX0 2 f fd ["value", "least", "most"] (spF C (l3 f_is_between)) := by
  refine fx Fn sc_f_is_between (fun _ _ h => l3_len h) (fun ds cdv A outer s H E hr => ar3 (S := fun ds => ⟨DL.start ["value", "least", "most"] ds, none⟩) (fun v_value v_least v_most => ?_) ds)
  exact k_retA (p_and (p_call c_is_integer (a_cons (p_var (j := 0) rfl) a_nil)) (p_one (p_chain s_le s_le (p_var (j := 1) rfl) (p_var (j := 0) rfl) (p_var (j := 2) rfl))))
abbrev s_f_is_cell : Stmt := topS 42
theorem sc_f_is_cell : FnScope ["many", "value"] ["many", "value"] (defScope s_f_is_cell) := ⟨rfl, rfl, rfl, by decide +kernel, rfl, by decide +kernel, by decide +kernel⟩
theorem ok_f_is_cell {C : Kc} {mg : Str → Option Value} {base : Heap} {f : Addr} {fd : FuncData} (Fn : Fun C.K "is_cell" "is_cell" s_f_is_cell f fd) (T : Tx C mg) (c_is_between : Cal C.P C.w C mg base 2 "is_between" (spF C (l3 f_is_between))) : FnOk C.P C.w C.K mg base CX0 3 f fd ["many", "value"] (spF C (l2 f_is_cell)) := by
  refine fx Fn sc_f_is_cell (fun _ _ h => l2_len h) (fun ds cdv A outer s H E hr => ar2 (S := fun ds => ⟨DL.start ["many", "value"] ds, none⟩) (fun v_many v_value => ?_) ds)
  refine k_ifr (t_w (w_or (t_not (t_val (x_isiB T (p_var (j := 1) rfl) bb_tuple))) (w_or (t_cmp s_ne (p_callB (T.bl "len") bb_len s_len (a_cons (p_var (j := 1) rfl) a_nil)) p_int) (w_or1 (t_not (t_val (x_isiB T (p_ix (p_var (j := 1) rfl) p_int) bb_bool))))))) ?_ ?_
  · exact k_retA p_bl
  exact k_retA (p_and (p_call c_is_between (a_cons (p_ix (p_var (j := 1) rfl) p_int) (a_cons p_int (a_cons (p_op s_sub (p_var (j := 0) rfl) p_int) a_nil)))) (p_one (p_call c_is_between (a_cons (p_ix (p_var (j := 1) rfl) p_int) (a_cons (p_ix (p_var (j := 1) rfl) p_int) (a_cons (p_op s_sub (p_var (j := 0) rfl) p_int) a_nil))))))
abbrev s_f_check_cells : Stmt := topS 43
theorem sc_f_check_cells : FnScope ["cells", "index", "cell"] ["cells"] (defScope s_f_check_cells) := ⟨rfl, rfl, rfl, by decide +kernel, rfl, by decide +kernel, by decide +kernel⟩
theorem ok_f_check_cells {C : Kc} {mg : Str → Option Value} {base : Heap} {f : Addr} {fd : FuncData} (Fn : Fun C.K "check_cells" "check_cells" s_f_check_cells f fd) (T : Tx C mg) (g_MOST_CELLS : ∃ t, mg "MOST_CELLS" = some (.int 8 t)) (c_is_cell : Cal C.P C.w C mg base 3 "is_cell" (spF C (l2 f_is_cell))) : FnOk C.P C.w C.K mg base CX0 4 f fd ["cells"] (spF C (l1 f_check_cells)) := by
  refine fx Fn sc_f_check_cells (fun _ _ h => l1_len h) (fun ds cdv A outer s H E hr => ar1 (S := fun ds => ⟨DL.start ["cells", "index", "cell"] ds, none⟩) (fun v_cells => ?_) ds)
  refine k_ifr (t_w (w_or (t_not (t_val (x_isiB T (p_var (j := 0) rfl) bb_tuple))) (w_or1 (t_not (t_chain s_le s_le p_int (p_callB (T.bl "len") bb_len s_len (a_cons (p_var (j := 0) rfl) a_nil)) (x_MOST_CELLS g_MOST_CELLS)))))) ?_ ?_
  · exact k_raise
  refine k_for2 (T := Unit) (i := 1) (j := 2) (fun (s1 : Unit) => (⟨[some (.imm v_cells), none, none], none⟩ : DL.ST)) (i_enumT (T.bl "enumerate") (p_var (j := 0) rfl)) ⟨by repeat (first | exact DL.WkL.nil | refine DL.WkL.keep ?_ | refine DL.WkL.drop ?_), rfl⟩ (fun s1 v_index_2 v_cell_3 => ?_) (fun s1 => ?_)
  · refine k_ifr (t_not (t_val (p_call c_is_cell (a_cons (p_callB (T.bl "len") bb_len s_len (a_cons (p_var (j := 0) rfl) a_nil)) (a_cons (p_var (j := 2) rfl) a_nil))))) ?_ ?_
    · exact k_raise
    exact k_nilB ⟨by repeat (first | exact DL.WkL.nil | refine DL.WkL.keep ?_ | refine DL.WkL.drop ?_), rfl⟩
  exact k_nilF
abbrev s_Fold_init : Stmt := inClass (topS 46) 0
theorem sc_Fold_init : FnScope ["self", "cells"] ["self", "cells"] (defScope s_Fold_init) := ⟨rfl, rfl, rfl, by decide +kernel, rfl, by decide +kernel, by decide +kernel⟩
theorem ok_Fold_init {C : Kc} {mg : Str → Option Value} {base : Heap} {f : Addr} {fd : FuncData} (Fn : Fun C.K "__init__" "Fold.__init__" s_Fold_init f fd) (T : Tx C mg) (c_check_cells : Cal C.P C.w C mg base 4 "check_cells" (spF C (l1 f_check_cells))) (h_Fold : C.has 1 = true) : FnOk C.P C.w C.K mg base CX0 5 f fd ["self", "cells"] (spI C 1 fun ds fs => l1 Fold_init ds = .ok fs) := by
  refine fxI Fn sc_Fold_init (fun _ _ h => congrArg (· + 1) (l1_len h)) (fun ds b cdv A outer s H E hr => ar1 (S := fun ds => ⟨DL.startB ["self", "cells"] ds, some (b, .ins 1 [])⟩) (fun v_cells => ?_) ds)
  refine k_expr (p_call c_check_cells (a_cons (p_var (j := 1) rfl) a_nil)) ?_
  refine k_fld (j := 0) ((T.fl (cs := [1]) (f := "cells")) 1 (by decide) h_Fold) (p_var (j := 1) rfl) rfl rfl (fun f1 => ?_)
  exact k_nilI rfl
abbrev s_Fold_read : Stmt := inClass (topS 46) 1
theorem sc_Fold_read : FnScope ["text", "cells", "found", "word"] ["text"] (defScope s_Fold_read) := ⟨rfl, rfl, rfl, by decide +kernel, rfl, by decide +kernel, by decide +kernel⟩
theorem ok_Fold_read {C : Kc} {mg : Str → Option Value} {base : Heap} {f : Addr} {fd : FuncData} (Fn : Fun C.K "read" "Fold.read" s_Fold_read f fd) (T : Tx C mg) (c_cell_in : Cal C.P C.w C mg base 2 "cell_in" (spF C (l1 f_cell_in))) (m_Fold_1 : Mak C.P C.w C mg base 5 "Fold" 1 (fun ds fs => l1 Fold_init ds = .ok fs) []) (t_Ratio_str : C.has 0 = true → Met C.P C.w C mg base 1 0 "__str__" (spF C (l1 Ratio_str))) (t_Fold_str : C.has 1 = true → Met C.P C.w C mg base 2 1 "__str__" (spF C (l1 Fold_str))) (t_Raisin_str : C.has 2 = true → Met C.P C.w C mg base 4 2 "__str__" (spF C (l1 Raisin_str))) : FnOk C.P C.w C.K mg base CX0 7 f fd ["text"] (spF C (l1 Fold_read)) := by
  refine fx Fn sc_Fold_read (fun _ _ h => l1_len h) (fun ds cdv A outer s H E hr => ar1 (S := fun ds => ⟨DL.start ["text", "cells", "found", "word"] ds, none⟩) (fun v_text => ?_) ds)
  refine k_set (j := 1) (p_ifx (t_val (x_isiB T (p_var (j := 0) rfl) bb_str)) (p_callTy (T.bl "tuple") bb_tuple s_tuple (a_cons (p_do (o_lc (fun _ => blkOk_by (own := [("word", 3)]) (by first | rfl | decide +kernel)) (lc_map (j := 3) (own := [("word", 3)]) (i_val (p_split (p_var (j := 0) rfl) p_str)) (fun v_word => (p_call c_cell_in (a_cons (p_var (j := 3) rfl) a_nil)))))) a_nil)) (p_tup a_nil)) (fun v_cells_1 => ?_)
  refine k_try ?_
  refine k_set (j := 2) (p_make m_Fold_1 (a_cons (p_var (j := 1) rfl) a_nil)) (fun v_found_2 => ?_)
  refine k_nilT ?_
  refine k_ifr (t_cmp s_ne (p_callTy (T.bl "str") bb_str (s_ostr (strF_txts t_Ratio_str t_Fold_str t_Raisin_str)) (a_cons (p_var (j := 2) rfl) a_nil)) (p_var (j := 0) rfl)) ?_ ?_
  · exact k_raise
  exact k_retA (p_var (j := 2) rfl)
abbrev s_f_baker : Stmt := topS 51
theorem sc_f_baker : FnScope [] [] (defScope s_f_baker) := ⟨rfl, rfl, rfl, by decide +kernel, rfl, by decide +kernel, by decide +kernel⟩
theorem ok_f_baker {C : Kc} {mg : Str → Option Value} {base : Heap} {f : Addr} {fd : FuncData} (Fn : Fun C.K "baker" "baker" s_f_baker f fd) (T : Tx C mg) (st_Fold_read : Sta C.P C.w C mg base 7 1 "read" (spF C (l1 Fold_read))) : FnOk C.P C.w C.K mg base CX0 8 f fd [] (spF C (l0 f_baker)) := by
  refine fx Fn sc_f_baker (fun _ _ h => l0_len h) (fun ds cdv A outer s H E hr => ar0 (S := fun ds => ⟨DL.start [] ds, none⟩) ?_ ds)
  exact k_retA (p_static (pl := fun _ => _) st_Fold_read (a_cons p_str a_nil))
abbrev s_f_tent : Stmt := topS 52
theorem sc_f_tent : FnScope [] [] (defScope s_f_tent) := ⟨rfl, rfl, rfl, by decide +kernel, rfl, by decide +kernel, by decide +kernel⟩
theorem ok_f_tent {C : Kc} {mg : Str → Option Value} {base : Heap} {f : Addr} {fd : FuncData} (Fn : Fun C.K "tent" "tent" s_f_tent f fd) (T : Tx C mg) (st_Fold_read : Sta C.P C.w C mg base 7 1 "read" (spF C (l1 Fold_read))) : FnOk C.P C.w C.K mg base CX0 8 f fd [] (spF C (l0 f_tent)) := by
  refine fx Fn sc_f_tent (fun _ _ h => l0_len h) (fun ds cdv A outer s H E hr => ar0 (S := fun ds => ⟨DL.start [] ds, none⟩) ?_ ds)
  exact k_retA (p_static (pl := fun _ => _) st_Fold_read (a_cons p_str a_nil))
abbrev s_f_golden : Stmt := topS 53
theorem sc_f_golden : FnScope [] [] (defScope s_f_golden) := ⟨rfl, rfl, rfl, by decide +kernel, rfl, by decide +kernel, by decide +kernel⟩
theorem ok_f_golden {C : Kc} {mg : Str → Option Value} {base : Heap} {f : Addr} {fd : FuncData} (Fn : Fun C.K "golden" "golden" s_f_golden f fd) (T : Tx C mg) (st_Fold_read : Sta C.P C.w C mg base 7 1 "read" (spF C (l1 Fold_read))) : FnOk C.P C.w C.K mg base CX0 8 f fd [] (spF C (l0 f_golden)) := by
  refine fx Fn sc_f_golden (fun _ _ h => l0_len h) (fun ds cdv A outer s H E hr => ar0 (S := fun ds => ⟨DL.start [] ds, none⟩) ?_ ds)
  exact k_retA (p_static (pl := fun _ => _) st_Fold_read (a_cons p_str a_nil))
abbrev s_f_roller : Stmt := topS 54
theorem sc_f_roller : FnScope [] [] (defScope s_f_roller) := ⟨rfl, rfl, rfl, by decide +kernel, rfl, by decide +kernel, by decide +kernel⟩
theorem ok_f_roller {C : Kc} {mg : Str → Option Value} {base : Heap} {f : Addr} {fd : FuncData} (Fn : Fun C.K "roller" "roller" s_f_roller f fd) (T : Tx C mg) (st_Fold_read : Sta C.P C.w C mg base 7 1 "read" (spF C (l1 Fold_read))) : FnOk C.P C.w C.K mg base CX0 8 f fd [] (spF C (l0 f_roller)) := by
  refine fx Fn sc_f_roller (fun _ _ h => l0_len h) (fun ds cdv A outer s H E hr => ar0 (S := fun ds => ⟨DL.start [] ds, none⟩) ?_ ds)
  exact k_retA (p_static (pl := fun _ => _) st_Fold_read (a_cons p_str a_nil))
abbrev s_Fold_len : Stmt := inClass (topS 46) 4
theorem sc_Fold_len : FnScope ["self"] ["self"] (defScope s_Fold_len) := ⟨rfl, rfl, rfl, by decide +kernel, rfl, by decide +kernel, by decide +kernel⟩
theorem ok_Fold_len {C : Kc} {mg : Str → Option Value} {base : Heap} {f : Addr} {fd : FuncData} (Fn : Fun C.K "__len__" "Fold.__len__" s_Fold_len f fd) (T : Tx C mg)  : FnOk C.P C.w C.K mg base CX0 1 f fd ["self"] (spF C (l1 Fold_len)) := by
  refine fx Fn sc_Fold_len (fun _ _ h => l1_len h) (fun ds cdv A outer s H E hr => ar1 (S := fun ds => ⟨DL.start ["self"] ds, none⟩) (fun v_self => ?_) ds)
  exact k_retA (p_callB (T.bl "len") bb_len s_len (a_cons (p_fld (cs := [1, 5]) T.fl (p_var (j := 0) rfl)) a_nil))
abbrev s_f_law_bag : Stmt := topS 56
theorem sc_f_law_bag : FnScope ["_law_script", "_law_k", "_law_held_cell", "_law_seed", "_law_this", "_law_figures"] ["_law_script", "_law_k"] (defScope s_f_law_bag) := ⟨rfl, rfl, rfl, by decide +kernel, rfl, by decide +kernel, by decide +kernel⟩
theorem ok_f_law_bag {C : Kc} {mg : Str → Option Value} {base : Heap} {f : Addr} {fd : FuncData} (Fn : Fun C.K "_law_bag" "_law_bag" s_f_law_bag f fd) (T : Tx C mg) (t_Fold_len : C.has 1 = true → Met C.P C.w C mg base 1 1 "__len__" (spF C (l1 Fold_len))) (t_Watch_len : C.has 4 = true → Met C.P C.w C mg base 1 4 "__len__" (spF C (l1 Watch_len))) : FnOk C.P C.w C.K mg base CX0 3 f fd ["_law_script", "_law_k"] (spFN C (l2 f_law_bag)) := by
  refine fxN Fn sc_f_law_bag (fun _ _ h => l2_len h) (fun ds cdv A outer s H E hr => ar2 (S := fun ds => ⟨DL.start ["_law_script", "_law_k", "_law_held_cell", "_law_seed", "_law_this", "_law_figures"] ds, none⟩) (fun u_script u_k => ?_) ds)
  first | refine k_par2 (i := 2) (j := 3) (v_e (p_ifx (t_cmp s_lt (p_var (j := 1) rfl) (p_callB (T.bl "len") bb_len (s_olen (lenF_lens t_Fold_len t_Watch_len)) (a_cons (p_var (j := 0) rfl) a_nil))) (p_callTy (T.bl "int") bb_int s_int (a_cons (p_ix (p_var (j := 0) rfl) (p_var (j := 1) rfl)) a_nil)) p_int)) (v_e (p_op s_mul p_int (p_op s_add (p_var (j := 1) rfl) p_int))) (fun u_held_cell_1 u_seed_2 => ?_) | refine k_parT2 (i := 2) (j := 3) (v_e (p_ifx (t_cmp s_lt (p_var (j := 1) rfl) (p_callB (T.bl "len") bb_len (s_olen (lenF_lens t_Fold_len t_Watch_len)) (a_cons (p_var (j := 0) rfl) a_nil))) (p_callTy (T.bl "int") bb_int s_int (a_cons (p_ix (p_var (j := 0) rfl) (p_var (j := 1) rfl)) a_nil)) p_int)) (v_e (p_op s_mul p_int (p_op s_add (p_var (j := 1) rfl) p_int))) (fun u_held_cell_1 u_seed_2 => ?_)
  refine k_for1 (T := D) (j := 4) (fun (s3 : D) => (⟨[some (.imm u_script), some (.imm u_k), some (.imm u_held_cell_1), some (.imm s3), none, none], none⟩ : DL.ST)) (i_val (p_slice (p_var (j := 0) rfl) x_none (x_some p_int))) ⟨by repeat (first | exact DL.WkL.nil | refine DL.WkL.keep ?_ | refine DL.WkL.drop ?_), rfl⟩ (fun s3 u_this_4 => ?_) (fun s3 => ?_)
  · refine k_set (j := 3) (p_op s_mod (p_callTy (T.bl "int") bb_int s_int (a_cons (p_op s_add (p_op s_add (p_op s_mul (p_var (j := 3) rfl) p_int) (p_op s_mod (p_callTy (T.bl "int") bb_int s_int (a_cons (p_var (j := 4) rfl) a_nil)) p_int)) (p_op s_mul p_int (p_var (j := 1) rfl))) a_nil)) p_int) (fun u_seed_5 => ?_)
    exact k_nilB ⟨by repeat (first | exact DL.WkL.nil | refine DL.WkL.keep ?_ | refine DL.WkL.drop ?_), rfl⟩
  refine k_set (j := 5) (p_ifx (t_w (w_or (t_cmp s_lt (p_var (j := 2) rfl) p_int) (w_or1 (t_cmp s_ge (p_var (j := 2) rfl) (p_op s_pow p_int p_int))))) (p_callB (T.bl "abs") bb_abs s_abs (a_cons (p_var (j := 2) rfl) a_nil)) p_int) (fun u_figures_6 => ?_)
  exact k_retN (o_lst (a_cons (p_var (j := 5) rfl) (a_cons (p_op s_mod (p_callTy (T.bl "int") bb_int s_int (a_cons (p_op s_add (p_var (j := 3) rfl) (p_op s_mul p_int (p_op s_mod (p_callTy (T.bl "int") bb_int s_int (a_cons (p_var (j := 2) rfl) a_nil)) p_int))) a_nil)) p_int) (a_cons p_int a_nil))))
abbrev s_f_law_draw : Stmt := topS 57
theorem sc_f_law_draw : FnScope ["_law_bag_here", "_law_wide", "_law_figure", "_law_held", "_law_times"] ["_law_bag_here", "_law_wide"] (defScope s_f_law_draw) := ⟨rfl, rfl, rfl, by decide +kernel, rfl, by decide +kernel, by decide +kernel⟩
theorem ok_f_law_draw {C : Kc} {mg : Str → Option Value} {base : Heap} {f : Addr} {fd : FuncData} (Fn : Fun C.K "_law_draw" "_law_draw" s_f_law_draw f fd) (T : Tx C mg)  : FnOk C.P C.w C.K mg base CX0 1 f fd ["_law_bag_here", "_law_wide"] (spFB C (m1 f_law_draw)) := by
  refine fxB Fn sc_f_law_draw (fun _ _ _ h => congrArg (· + 1) (m1_len h)) (fun b cdv A outer s H E hr => am1 (S := fun ds => DL.startB ["_law_bag_here", "_law_wide", "_law_figure", "_law_held", "_law_times"] ds) (fun u_wide => ?_))
  refine m_bagSet (j := 0) (me_op s_add (e_bagIx (j := 0) rfl (fun g => p_int)) (e_up fun g => p_int)) rfl (fun g => p_int) ?_
  refine m_ifr (mt_cmp s_gt (e_bagIx (j := 0) rfl (fun g => p_int)) (e_up fun g => p_int)) ?_ ?_
  · refine m_set (j := 2) (me_op s_mod (me_callTy (T.bl "int") bb_int s_int (ma_cons (e_bagIx (j := 0) rfl (fun g => p_int)) (a_up fun g => a_nil))) (e_up fun g => (p_var (j := 1) rfl))) (fun u_figure_1 => ?_)
    refine m_bagSet (j := 0) (me_op s_fdiv (e_bagIx (j := 0) rfl (fun g => p_int)) (e_up fun g => (p_var (j := 1) rfl))) rfl (fun g => p_int) ?_
    exact m_retA (e_up fun g => (p_var (j := 2) rfl))
  refine m_set (j := 3) (me_op s_add (me_callTy (T.bl "int") bb_int s_int (ma_cons (e_bagIx (j := 0) rfl (fun g => p_int)) (a_up fun g => a_nil))) (me_op s_mul (e_up fun g => p_int) (e_bagIx (j := 0) rfl (fun g => p_int)))) (fun u_held_3 => ?_)
  refine m_set (j := 4) (e_up fun g => (p_op s_add (p_op s_mod (p_callTy (T.bl "int") bb_int s_int (a_cons (p_var (j := 3) rfl) a_nil)) p_int) p_int)) (fun u_times_4 => ?_)
  refine m_bagSet (j := 0) (me_op s_mod (me_callTy (T.bl "int") bb_int s_int (ma_cons (me_op s_add (me_op s_add (e_up fun g => (p_op s_mul (p_var (j := 3) rfl) (p_var (j := 4) rfl))) (me_op s_mul (e_up fun g => p_int) (e_bagIx (j := 0) rfl (fun g => p_int)))) (e_up fun g => p_int)) (a_up fun g => a_nil))) (e_up fun g => p_int)) rfl (fun g => p_int) ?_
  exact m_retA (me_op s_mod (me_op s_fdiv (me_callTy (T.bl "int") bb_int s_int (ma_cons (e_bagIx (j := 0) rfl (fun g => p_int)) (a_up fun g => a_nil))) (e_up fun g => p_int)) (e_up fun g => (p_var (j := 1) rfl)))
abbrev s_f_law_one : Stmt := topS 58
theorem sc_f_law_one : FnScope ["_law_bag_here", "_law_some"] ["_law_bag_here", "_law_some"] (defScope s_f_law_one) := ⟨rfl, rfl, rfl, by decide +kernel, rfl, by decide +kernel, by decide +kernel⟩
theorem ok_f_law_one {C : Kc} {mg : Str → Option Value} {base : Heap} {f : Addr} {fd : FuncData} (Fn : Fun C.K "_law_one" "_law_one" s_f_law_one f fd) (T : Tx C mg) (t_Fold_len : C.has 1 = true → Met C.P C.w C mg base 1 1 "__len__" (spF C (l1 Fold_len))) (t_Watch_len : C.has 4 = true → Met C.P C.w C mg base 1 4 "__len__" (spF C (l1 Watch_len))) (c_law_draw : Cal C.P C.w C mg base 1 "_law_draw" (spFB C (m1 f_law_draw))) : FnOk C.P C.w C.K mg base CX0 3 f fd ["_law_bag_here", "_law_some"] (spFB C (m1 f_law_one)) := by
  refine fxB Fn sc_f_law_one (fun _ _ _ h => congrArg (· + 1) (m1_len h)) (fun b cdv A outer s H E hr => am1 (S := fun ds => DL.startB ["_law_bag_here", "_law_some"] ds) (fun u_some => ?_))
  exact m_retA (me_ix (e_up fun g => (p_var (j := 1) rfl)) (me_bag (j := 0) c_law_draw rfl (a_up fun g => (a_cons (p_callB (T.bl "len") bb_len (s_olen (lenF_lens t_Fold_len t_Watch_len)) (a_cons (p_var (j := 1) rfl) a_nil)) a_nil))))
abbrev s_f_law_values : Stmt := topS 59
theorem sc_f_law_values : FnScope ["_law_thing", "_law_found"] ["_law_thing"] (defScope s_f_law_values) := ⟨rfl, rfl, rfl, by decide +kernel, rfl, by decide +kernel, by decide +kernel⟩
theorem ok_f_law_values {C : Kc} {mg : Str → Option Value} {base : Heap} {f : Addr} {fd : FuncData} (Fn : Fun C.K "_law_values" "_law_values" s_f_law_values f fd) (T : Tx C mg) (vqe : C.fq = fqE C.xc) (md_100 : MkD C.P C.w C mg 100) (md_101 : MkD C.P C.w C mg 101) (md_103 : MkD C.P C.w C mg 103) (md_104 : MkD C.P C.w C mg 104) (md_105 : MkD C.P C.w C mg 105) (md_106 : MkD C.P C.w C mg 106) (md_107 : MkD C.P C.w C mg 107) (md_109 : MkD C.P C.w C mg 109) (md_110 : MkD C.P C.w C mg 110) (md_111 : MkD C.P C.w C mg 111) (md_114 : MkD C.P C.w C mg 114) (md_115 : MkD C.P C.w C mg 115) (md_116 : MkD C.P C.w C mg 116) (md_117 : MkD C.P C.w C mg 117) (md_118 : MkD C.P C.w C mg 118) (mdK_100 : MkDK C.P C.w C mg 100 ["value"] [0]) (mdK_101 : MkDK C.P C.w C mg 101 ["value"] [0]) (mdK_103 : MkDK C.P C.w C mg 103 ["value"] [0]) (mdK_104 : MkDK C.P C.w C mg 104 ["value"] [0]) (mdK_105 : MkDK C.P C.w C mg 105 ["value"] [0]) (mdK_106 : MkDK C.P C.w C mg 106 ["value"] [0]) (mdK_107 : MkDK C.P C.w C mg 107 ["value"] [0]) (mdK_109 : MkDK C.P C.w C mg 109 ["value"] [0]) (mdK_110 : MkDK C.P C.w C mg 110 ["value"] [0]) (mdK_111 : MkDK C.P C.w C mg 111 ["value"] [0]) (mdK_114 : MkDK C.P C.w C mg 114 ["value"] [0]) (mdK_115 : MkDK C.P C.w C mg 115 ["value"] [0]) (mdK_116 : MkDK C.P C.w C mg 116 ["value"] [0]) (mdK_117 : MkDK C.P C.w C mg 117 ["value"] [0]) (mdK_118 : MkDK C.P C.w C mg 118 ["value"] [0]) : FnOk C.P C.w C.K mg base CX0 1 f fd ["_law_thing"] (spF C (l1 f_law_values)) := by
  refine fx Fn sc_f_law_values (fun _ _ h => l1_len h) (fun ds cdv A outer s H E hr => ar1 (S := fun ds => ⟨DL.start ["_law_thing", "_law_found"] ds, none⟩) (fun u_thing => ?_) ds)
  refine k_set (j := 1) (p_lst (a_cons (p_mkE vqe md_100 (a_cons (p_var (j := 0) rfl) a_nil)) (a_cons (p_mkE vqe md_101 (a_cons (p_var (j := 0) rfl) a_nil)) (a_cons (p_mkE vqe md_103 (a_cons (p_var (j := 0) rfl) a_nil)) (a_cons (p_mkE vqe md_104 (a_cons (p_var (j := 0) rfl) a_nil)) a_nil))))) (fun u_found_1 => ?_)
  refine k_set (j := 1) (p_op s_add (p_var (j := 1) rfl) (p_lst (a_cons (p_mkE vqe md_105 (a_cons (p_var (j := 0) rfl) a_nil)) (a_cons (p_mkE vqe md_106 (a_cons (p_var (j := 0) rfl) a_nil)) (a_cons (p_mkE vqe md_107 (a_cons (p_var (j := 0) rfl) a_nil)) a_nil))))) (fun u_found_2 => ?_)
  refine k_set (j := 1) (p_op s_add (p_var (j := 1) rfl) (p_lst (a_cons (p_mkE vqe md_109 (a_cons (p_var (j := 0) rfl) a_nil)) (a_cons (p_mkE vqe md_110 (a_cons (p_var (j := 0) rfl) a_nil)) (a_cons (p_mkE vqe md_111 (a_cons (p_var (j := 0) rfl) a_nil)) a_nil))))) (fun u_found_3 => ?_)
  refine k_set (j := 1) (p_op s_add (p_var (j := 1) rfl) (p_lst (a_cons (p_mkE vqe md_114 (a_cons (p_var (j := 0) rfl) a_nil)) (a_cons (p_mkE vqe md_115 (a_cons (p_var (j := 0) rfl) a_nil)) (a_cons (p_mkE vqe md_116 (a_cons (p_var (j := 0) rfl) a_nil)) (a_cons (p_mkE vqe md_117 (a_cons (p_var (j := 0) rfl) a_nil)) a_nil)))))) (fun u_found_4 => ?_)
  refine k_set (j := 1) (p_op s_add (p_var (j := 1) rfl) (p_lst (a_cons (p_mkE vqe md_118 (a_cons (p_var (j := 0) rfl) a_nil)) (a_cons (p_mkEK (ix := [0]) vqe mdK_100 (kw_cons (p_var (j := 0) rfl) kw_nil)) (a_cons (p_mkEK (ix := [0]) vqe mdK_101 (kw_cons (p_var (j := 0) rfl) kw_nil)) a_nil))))) (fun u_found_5 => ?_)
  refine k_set (j := 1) (p_op s_add (p_var (j := 1) rfl) (p_lst (a_cons (p_mkEK (ix := [0]) vqe mdK_103 (kw_cons (p_var (j := 0) rfl) kw_nil)) (a_cons (p_mkEK (ix := [0]) vqe mdK_104 (kw_cons (p_var (j := 0) rfl) kw_nil)) (a_cons (p_mkEK (ix := [0]) vqe mdK_105 (kw_cons (p_var (j := 0) rfl) kw_nil)) a_nil))))) (fun u_found_6 => ?_)
  refine k_set (j := 1) (p_op s_add (p_var (j := 1) rfl) (p_lst (a_cons (p_mkEK (ix := [0]) vqe mdK_106 (kw_cons (p_var (j := 0) rfl) kw_nil)) (a_cons (p_mkEK (ix := [0]) vqe mdK_107 (kw_cons (p_var (j := 0) rfl) kw_nil)) a_nil)))) (fun u_found_7 => ?_)
  refine k_set (j := 1) (p_op s_add (p_var (j := 1) rfl) (p_lst (a_cons (p_mkEK (ix := [0]) vqe mdK_109 (kw_cons (p_var (j := 0) rfl) kw_nil)) (a_cons (p_mkEK (ix := [0]) vqe mdK_110 (kw_cons (p_var (j := 0) rfl) kw_nil)) (a_cons (p_mkEK (ix := [0]) vqe mdK_111 (kw_cons (p_var (j := 0) rfl) kw_nil)) a_nil))))) (fun u_found_8 => ?_)
  refine k_set (j := 1) (p_op s_add (p_var (j := 1) rfl) (p_lst (a_cons (p_mkEK (ix := [0]) vqe mdK_114 (kw_cons (p_var (j := 0) rfl) kw_nil)) (a_cons (p_mkEK (ix := [0]) vqe mdK_115 (kw_cons (p_var (j := 0) rfl) kw_nil)) (a_cons (p_mkEK (ix := [0]) vqe mdK_116 (kw_cons (p_var (j := 0) rfl) kw_nil)) a_nil))))) (fun u_found_9 => ?_)
  refine k_set (j := 1) (p_op s_add (p_var (j := 1) rfl) (p_lst (a_cons (p_mkEK (ix := [0]) vqe mdK_117 (kw_cons (p_var (j := 0) rfl) kw_nil)) (a_cons (p_mkEK (ix := [0]) vqe mdK_118 (kw_cons (p_var (j := 0) rfl) kw_nil)) a_nil)))) (fun u_found_10 => ?_)
  exact k_retA (p_var (j := 1) rfl)
abbrev s_f_law_classes : Stmt := topS 61
theorem sc_f_law_classes : FnScope ["_law_e", "_law_found"] ["_law_e"] (defScope s_f_law_classes) := ⟨rfl, rfl, rfl, by decide +kernel, rfl, by decide +kernel, by decide +kernel⟩
theorem ok_f_law_classes {C : Kc} {mg : Str → Option Value} {base : Heap} {f : Addr} {fd : FuncData} (Fn : Fun C.K "_law_classes" "_law_classes" s_f_law_classes f fd) (T : Tx C mg) (vqe : C.fq = fqE C.xc) (te : TxE C mg LX LN) : FnOk C.P C.w C.K mg base CX0 1 f fd ["_law_e"] (spF C (l1 f_law_classes)) := by
  refine fx Fn sc_f_law_classes (fun _ _ h => l1_len h) (fun ds cdv A outer s H E hr => ar1 (S := fun ds => ⟨DL.start ["_law_e", "_law_found"] ds, none⟩) (fun u_e => ?_) ds)
  refine k_set (j := 1) (p_lst (a_cons (p_isV vqe te (p_var (j := 0) rfl) (T.bl "isinstance") 100) (a_cons (p_isV vqe te (p_var (j := 0) rfl) (T.bl "isinstance") 101) (a_cons (p_isV vqe te (p_var (j := 0) rfl) (T.bl "isinstance") 102) a_nil)))) (fun u_found_1 => ?_)
  refine k_set (j := 1) (p_op s_add (p_var (j := 1) rfl) (p_lst (a_cons (p_isV vqe te (p_var (j := 0) rfl) (T.bl "isinstance") 103) (a_cons (p_isV vqe te (p_var (j := 0) rfl) (T.bl "isinstance") 104) a_nil)))) (fun u_found_2 => ?_)
  refine k_set (j := 1) (p_op s_add (p_var (j := 1) rfl) (p_lst (a_cons (p_isV vqe te (p_var (j := 0) rfl) (T.bl "isinstance") 105) (a_cons (p_isV vqe te (p_var (j := 0) rfl) (T.bl "isinstance") 106) a_nil)))) (fun u_found_3 => ?_)
  refine k_set (j := 1) (p_op s_add (p_var (j := 1) rfl) (p_lst (a_cons (p_isV vqe te (p_var (j := 0) rfl) (T.bl "isinstance") 107) (a_cons (p_isV vqe te (p_var (j := 0) rfl) (T.bl "isinstance") 108) a_nil)))) (fun u_found_4 => ?_)
  refine k_set (j := 1) (p_op s_add (p_var (j := 1) rfl) (p_lst (a_cons (p_isV vqe te (p_var (j := 0) rfl) (T.bl "isinstance") 109) (a_cons (p_isV vqe te (p_var (j := 0) rfl) (T.bl "isinstance") 110) a_nil)))) (fun u_found_5 => ?_)
  refine k_set (j := 1) (p_op s_add (p_var (j := 1) rfl) (p_lst (a_cons (p_isV vqe te (p_var (j := 0) rfl) (T.bl "isinstance") 111) (a_cons (p_isV vqe te (p_var (j := 0) rfl) (T.bl "isinstance") 112) a_nil)))) (fun u_found_6 => ?_)
  refine k_set (j := 1) (p_op s_add (p_var (j := 1) rfl) (p_lst (a_cons (p_isV vqe te (p_var (j := 0) rfl) (T.bl "isinstance") 113) (a_cons (p_isV vqe te (p_var (j := 0) rfl) (T.bl "isinstance") 114) a_nil)))) (fun u_found_7 => ?_)
  refine k_set (j := 1) (p_op s_add (p_var (j := 1) rfl) (p_lst (a_cons (p_isV vqe te (p_var (j := 0) rfl) (T.bl "isinstance") 115) (a_cons (p_isV vqe te (p_var (j := 0) rfl) (T.bl "isinstance") 116) (a_cons (p_isV vqe te (p_var (j := 0) rfl) (T.bl "isinstance") 117) a_nil))))) (fun u_found_8 => ?_)
  refine k_set (j := 1) (p_op s_add (p_var (j := 1) rfl) (p_lst (a_cons (p_isV vqe te (p_var (j := 0) rfl) (T.bl "isinstance") 118) (a_cons (p_isV vqe te (p_var (j := 0) rfl) (T.bl "isinstance") 119) (a_cons (p_isV vqe te (p_var (j := 0) rfl) (T.bl "isinstance") 120) a_nil))))) (fun u_found_9 => ?_)
  refine k_set (j := 1) (p_op s_add (p_var (j := 1) rfl) (p_lst (a_cons (p_isV vqe te (p_var (j := 0) rfl) (T.bl "isinstance") 121) (a_cons (p_isV vqe te (p_var (j := 0) rfl) (T.bl "isinstance") 122) (a_cons (p_isV vqe te (p_var (j := 0) rfl) (T.bl "isinstance") 123) a_nil))))) (fun u_found_10 => ?_)
  exact k_retA (p_var (j := 1) rfl)
abbrev s_f_law_is : Stmt := topS 62
theorem sc_f_law_is : FnScope ["_law_e", "_law_at", "_law_found", "_law_bases", "_law_above", "_law_due"] ["_law_e", "_law_at"] (defScope s_f_law_is) := ⟨rfl, rfl, rfl, by decide +kernel, rfl, by decide +kernel, by decide +kernel⟩
theorem ok_f_law_is {C : Kc} {mg : Str → Option Value} {base : Heap} {f : Addr} {fd : FuncData} (Fn : Fun C.K "_law_is" "_law_is" s_f_law_is f fd) (T : Tx C mg) (c_law_classes : Cal C.P C.w C mg base 1 "_law_classes" (spF C (l1 f_law_classes))) (vqe : C.fq = fqE C.xc) (te : TxE C mg LX LN) : FnOk C.P C.w C.K mg base CX0 2 f fd ["_law_e", "_law_at"] (spF C (l2 f_law_is)) := by
  refine fx Fn sc_f_law_is (fun _ _ h => l2_len h) (fun ds cdv A outer s H E hr => ar2 (S := fun ds => ⟨DL.start ["_law_e", "_law_at", "_law_found", "_law_bases", "_law_above", "_law_due"] ds, none⟩) (fun u_e u_at => ?_) ds)
  refine k_set (j := 2) (p_call c_law_classes (a_cons (p_var (j := 0) rfl) a_nil)) (fun u_found_1 => ?_)
  refine k_set (j := 3) (p_lst (a_cons (p_isV vqe te (p_var (j := 0) rfl) (T.bl "isinstance") 124) (a_cons (p_isV vqe te (p_var (j := 0) rfl) (T.bl "isinstance") 125) (a_cons (p_isV vqe te (p_var (j := 0) rfl) (T.bl "isinstance") 126) a_nil)))) (fun u_bases_2 => ?_)
  refine k_set (j := 4) (p_lst (a_cons (p_isVB vqe te (p_var (j := 0) rfl) (T.bl "isinstance") "ValueError") (a_cons (p_isVB vqe te (p_var (j := 0) rfl) (T.bl "isinstance") "LookupError") (a_cons (p_isVB vqe te (p_var (j := 0) rfl) (T.bl "isinstance") "ArithmeticError") a_nil)))) (fun u_above_3 => ?_)
  refine k_set (j := 5) (p_lst (a_cons (p_cmp s_lt (p_var (j := 1) rfl) p_int) (a_cons (p_chain s_lt s_lt p_int (p_var (j := 1) rfl) p_int) (a_cons (p_cmp s_eq (p_var (j := 1) rfl) p_int) a_nil)))) (fun u_due_4 => ?_)
  exact k_retA (p_and (p_cmp s_eq (p_count (p_var (j := 2) rfl) p_bl) p_int) (p_and (p_cmp s_eq (p_indexB (p_var (j := 2) rfl) p_bl) (p_var (j := 1) rfl)) (p_and (p_cmp s_eq (p_var (j := 3) rfl) (p_var (j := 5) rfl)) (p_one (p_cmp s_eq (p_var (j := 4) rfl) (p_var (j := 5) rfl))))))
abbrev s_f_law_indexes : Stmt := topS 60
theorem sc_f_law_indexes : FnScope ["_law_thing", "_law_found"] ["_law_thing"] (defScope s_f_law_indexes) := ⟨rfl, rfl, rfl, by decide +kernel, rfl, by decide +kernel, by decide +kernel⟩
theorem ok_f_law_indexes {C : Kc} {mg : Str → Option Value} {base : Heap} {f : Addr} {fd : FuncData} (Fn : Fun C.K "_law_indexes" "_law_indexes" s_f_law_indexes f fd) (T : Tx C mg) (vqe : C.fq = fqE C.xc) (md_102 : MkD C.P C.w C mg 102) (md_108 : MkD C.P C.w C mg 108) (md_112 : MkD C.P C.w C mg 112) (md_113 : MkD C.P C.w C mg 113) (mdK_102 : MkDK C.P C.w C mg 102 ["index"] [0]) (mdK_108 : MkDK C.P C.w C mg 108 ["index"] [0]) (mdK_112 : MkDK C.P C.w C mg 112 ["index"] [0]) (mdK_113 : MkDK C.P C.w C mg 113 ["index"] [0]) : FnOk C.P C.w C.K mg base CX0 1 f fd ["_law_thing"] (spF C (l1 f_law_indexes)) := by
  refine fx Fn sc_f_law_indexes (fun _ _ h => l1_len h) (fun ds cdv A outer s H E hr => ar1 (S := fun ds => ⟨DL.start ["_law_thing", "_law_found"] ds, none⟩) (fun u_thing => ?_) ds)
  refine k_set (j := 1) (p_lst (a_cons (p_mkE vqe md_102 (a_cons (p_var (j := 0) rfl) a_nil)) (a_cons (p_mkE vqe md_108 (a_cons (p_var (j := 0) rfl) a_nil)) (a_cons (p_mkE vqe md_112 (a_cons (p_var (j := 0) rfl) a_nil)) (a_cons (p_mkE vqe md_113 (a_cons (p_var (j := 0) rfl) a_nil)) a_nil))))) (fun u_found_1 => ?_)
  refine k_set (j := 1) (p_op s_add (p_var (j := 1) rfl) (p_lst (a_cons (p_mkEK (ix := [0]) vqe mdK_102 (kw_cons (p_var (j := 0) rfl) kw_nil)) (a_cons (p_mkEK (ix := [0]) vqe mdK_108 (kw_cons (p_var (j := 0) rfl) kw_nil)) a_nil)))) (fun u_found_2 => ?_)
  refine k_set (j := 1) (p_op s_add (p_var (j := 1) rfl) (p_lst (a_cons (p_mkEK (ix := [0]) vqe mdK_112 (kw_cons (p_var (j := 0) rfl) kw_nil)) (a_cons (p_mkEK (ix := [0]) vqe mdK_113 (kw_cons (p_var (j := 0) rfl) kw_nil)) a_nil)))) (fun u_found_3 => ?_)
  exact k_retA (p_var (j := 1) rfl)
abbrev s_f_law_others_right : Stmt := topS 63
theorem sc_f_law_others_right : FnScope ["_law_thing", "_law_mate", "_law_some", "_law_e"] ["_law_thing", "_law_mate"] (defScope s_f_law_others_right) := ⟨rfl, rfl, rfl, by decide +kernel, rfl, by decide +kernel, by decide +kernel⟩
theorem ok_f_law_others_right {C : Kc} {mg : Str → Option Value} {base : Heap} {f : Addr} {fd : FuncData} (Fn : Fun C.K "_law_others_right" "_law_others_right" s_f_law_others_right f fd) (T : Tx C mg) (vqe : C.fq = fqE C.xc) (md_122 : MkD C.P C.w C mg 122) (mdK_122 : MkDK C.P C.w C mg 122 ["shown", "deed"] [1, 0]) (te : TxE C mg LX LN) (c_law_is : Cal C.P C.w C mg base 2 "_law_is" (spF C (l2 f_law_is))) (md_119 : MkD C.P C.w C mg 119) (mdK_119 : MkDK C.P C.w C mg 119 ["given"] [0]) (md_123 : MkD C.P C.w C mg 123) (mdK_123 : MkDK C.P C.w C mg 123 ["limit"] [0]) (md0_120 : MkD0 C mg 120) (md0_121 : MkD0 C mg 121) : FnG C.P C.w C.K mg base 3 f fd ["_law_thing", "_law_mate"] (spF C (l2 f_law_others_right)) := by
  refine fxG Fn sc_f_law_others_right (fun _ _ h => l2_len h) (fun ds cdv A outer s H E hr hA => ar2 (S := fun ds => ⟨DL.start ["_law_thing", "_law_mate", "_law_some", "_law_e"] ds, none⟩) (fun u_thing u_mate => ?_) ds)
  refine k_set (j := 2) (p_lst (a_cons (p_mkE vqe md_122 (a_cons (p_var (j := 0) rfl) (a_cons (p_var (j := 1) rfl) a_nil))) (a_cons (p_mkEK (ix := [1, 0]) vqe mdK_122 (kw_cons (p_var (j := 1) rfl) (kw_cons (p_var (j := 0) rfl) kw_nil))) a_nil))) (fun u_some_1 => ?_)
  refine k_ifr (t_cmp s_ne (p_do (o_lc (fun _ => blkOk_by (own := [("_law_e", 3)]) (by first | rfl | decide +kernel)) (lc_fil (j := 3) (own := [("_law_e", 3)]) (i_val (p_var (j := 2) rfl)) (fun u_e => (t_w (w_or (t_cmp s_ne (p_callB (T.bl "repr") bb_repr (s_reprQ (fun _ => hA.1)) (a_cons (p_lst (a_cons (p_fv vqe te (p_var (j := 3) rfl)) (a_cons (p_fv vqe te (p_var (j := 3) rfl)) a_nil))) a_nil)) (p_callB (T.bl "repr") bb_repr (s_reprQ (fun _ => hA.1)) (a_cons (p_lst (a_cons (p_var (j := 0) rfl) (a_cons (p_var (j := 1) rfl) a_nil))) a_nil))) (w_or1 (t_not (t_val (p_call c_law_is (a_cons (p_var (j := 3) rfl) (a_cons p_int a_nil))))))))) (fun u_e => (p_var (j := 3) rfl))))) (p_lst a_nil)) ?_ ?_
  · exact k_retA p_bl
  refine k_set (j := 2) (p_lst (a_cons (p_mkE vqe md_119 (a_cons (p_var (j := 0) rfl) a_nil)) (a_cons (p_mkEK (ix := [0]) vqe mdK_119 (kw_cons (p_var (j := 0) rfl) kw_nil)) a_nil))) (fun u_some_2 => ?_)
  refine k_ifr (t_cmp s_ne (p_do (o_lc (fun _ => blkOk_by (own := [("_law_e", 3)]) (by first | rfl | decide +kernel)) (lc_fil (j := 3) (own := [("_law_e", 3)]) (i_val (p_var (j := 2) rfl)) (fun u_e => (t_w (w_or (t_cmp s_ne (p_callB (T.bl "repr") bb_repr (s_reprQ (fun _ => hA.1)) (a_cons (p_fv vqe te (p_var (j := 3) rfl)) a_nil)) (p_callB (T.bl "repr") bb_repr (s_reprQ (fun _ => hA.1)) (a_cons (p_var (j := 0) rfl) a_nil))) (w_or1 (t_not (t_val (p_call c_law_is (a_cons (p_var (j := 3) rfl) (a_cons p_int a_nil))))))))) (fun u_e => (p_var (j := 3) rfl))))) (p_lst a_nil)) ?_ ?_
  · exact k_retA p_bl
  refine k_set (j := 2) (p_lst (a_cons (p_mkE vqe md_123 (a_cons (p_var (j := 0) rfl) a_nil)) (a_cons (p_mkEK (ix := [0]) vqe mdK_123 (kw_cons (p_var (j := 0) rfl) kw_nil)) a_nil))) (fun u_some_3 => ?_)
  refine k_ifr (t_cmp s_ne (p_do (o_lc (fun _ => blkOk_by (own := [("_law_e", 3)]) (by first | rfl | decide +kernel)) (lc_fil (j := 3) (own := [("_law_e", 3)]) (i_val (p_var (j := 2) rfl)) (fun u_e => (t_w (w_or (t_cmp s_ne (p_callB (T.bl "repr") bb_repr (s_reprQ (fun _ => hA.1)) (a_cons (p_fv vqe te (p_var (j := 3) rfl)) a_nil)) (p_callB (T.bl "repr") bb_repr (s_reprQ (fun _ => hA.1)) (a_cons (p_var (j := 0) rfl) a_nil))) (w_or1 (t_not (t_val (p_call c_law_is (a_cons (p_var (j := 3) rfl) (a_cons p_int a_nil))))))))) (fun u_e => (p_var (j := 3) rfl))))) (p_lst a_nil)) ?_ ?_
  · exact k_retA p_bl
  exact k_retA (p_cmp s_eq (p_lst (a_cons (p_call c_law_is (a_cons (p_mkE0 (c := 120) vqe md0_120) (a_cons p_int a_nil))) (a_cons (p_call c_law_is (a_cons (p_mkE0 (c := 121) vqe md0_121) (a_cons p_int a_nil))) a_nil))) (p_lst (a_cons p_bl (a_cons p_bl a_nil))))
abbrev s_f_law_right : Stmt := topS 64
theorem sc_f_law_right : FnScope ["_law_bag_here", "_law_things", "_law_thing", "_law_mate", "_law_found", "_law_spots", "_law_k"] ["_law_bag_here"] (defScope s_f_law_right) := ⟨rfl, rfl, rfl, by decide +kernel, rfl, by decide +kernel, by decide +kernel⟩
theorem ok_f_law_right {C : Kc} {mg : Str → Option Value} {base : Heap} {f : Addr} {fd : FuncData} (Fn : Fun C.K "_law_right" "_law_right" s_f_law_right f fd) (T : Tx C mg) (c_law_one : Cal C.P C.w C mg base 3 "_law_one" (spFB C (m1 f_law_one))) (c_law_values : Cal C.P C.w C mg base 1 "_law_values" (spF C (l1 f_law_values))) (vqe : C.fq = fqE C.xc) (te : TxE C mg LX LN) (c_law_is : Cal C.P C.w C mg base 2 "_law_is" (spF C (l2 f_law_is))) (c_law_indexes : Cal C.P C.w C mg base 1 "_law_indexes" (spF C (l1 f_law_indexes))) (c_law_others_right : CalG C.P C.w C mg base 3 "_law_others_right" (spF C (l2 f_law_others_right))) : FnG C.P C.w C.K mg base 4 f fd ["_law_bag_here"] (spFB C (m0 f_law_right)) := by
  refine fxBG Fn sc_f_law_right (fun _ _ _ h => congrArg (· + 1) (m0_len h)) (fun b cdv A outer s H E hr hA => am0 (S := fun ds => DL.startB ["_law_bag_here", "_law_things", "_law_thing", "_law_mate", "_law_found", "_law_spots", "_law_k"] ds) (?_))
  refine m_set (j := 1) (e_up fun g => (p_lst (a_cons (p_op s_add (p_op s_pow p_int p_int) p_int) (a_cons p_non (a_cons p_str (a_cons (p_tup (a_cons p_int (a_cons p_str a_nil))) (a_cons (p_lst (a_cons p_int a_nil)) (a_cons p_dic0 (a_cons p_bl (a_cons (p_un s_neg p_int) (a_cons (p_tup (a_cons p_str (a_cons (p_tup a_nil) a_nil))) (a_cons p_str a_nil)))))))))))) (fun u_things_1 => ?_)
  first | refine m_par2 (i := 2) (j := 3) (vm_e (me_bag (j := 0) c_law_one rfl (a_up fun g => (a_cons (p_var (j := 1) rfl) a_nil)))) (vm_e (me_bag (j := 0) c_law_one rfl (a_up fun g => (a_cons (p_var (j := 1) rfl) a_nil)))) (fun u_thing_2 u_mate_3 => ?_) | refine m_parT2 (i := 2) (j := 3) (vm_e (me_bag (j := 0) c_law_one rfl (a_up fun g => (a_cons (p_var (j := 1) rfl) a_nil)))) (vm_e (me_bag (j := 0) c_law_one rfl (a_up fun g => (a_cons (p_var (j := 1) rfl) a_nil)))) (fun u_thing_2 u_mate_3 => ?_)
  refine m_set (j := 4) (e_up fun g => (p_call c_law_values (a_cons (p_var (j := 2) rfl) a_nil))) (fun u_found_4 => ?_)
  refine m_set (j := 5) (e_up fun g => (p_lst (a_cons p_int (a_cons p_int (a_cons p_int (a_cons p_int (a_cons p_int (a_cons p_int (a_cons p_int (a_cons p_int (a_cons p_int (a_cons p_int (a_cons p_int (a_cons p_int (a_cons p_int (a_cons p_int (a_cons p_int a_nil))))))))))))))))) (fun u_spots_5 => ?_)
  refine m_for1R (T := Unit) (j := 6) (fun (s6 : Unit) => [some .bag, some (.imm u_things_1), some (.imm u_thing_2), some (.imm u_mate_3), some (.imm u_found_4), some (.imm u_spots_5), none]) (i_up fun g => (i_range1 (T.bl "range") p_int)) (by repeat (first | exact DL.WkL.nil | refine DL.WkL.keep ?_ | refine DL.WkL.drop ?_)) (fun s6 u_k_7 => ?_) (fun s6 => ?_)
  · refine m_ifr (t_up fun g => (t_w (w_or (t_cmp s_ne (p_callB (T.bl "repr") bb_repr (s_reprQ (fun _ => hA.1)) (a_cons (p_fv vqe te (p_ix (p_var (j := 4) rfl) (p_var (j := 6) rfl))) a_nil)) (p_callB (T.bl "repr") bb_repr (s_reprQ (fun _ => hA.1)) (a_cons (p_var (j := 2) rfl) a_nil))) (w_or1 (t_not (t_val (p_call c_law_is (a_cons (p_ix (p_var (j := 4) rfl) (p_var (j := 6) rfl)) (a_cons (p_ix (p_op s_add (p_var (j := 5) rfl) (p_var (j := 5) rfl)) (p_var (j := 6) rfl)) a_nil))))))))) ?_ ?_
    · exact m_ret (ret := fun d => Fl.rt (d)) (e_up fun g => p_bl) (by intro _ _; exact ⟨rfl, rfl⟩)
    exact m_nilL (by repeat (first | exact DL.WkL.nil | refine DL.WkL.keep ?_ | refine DL.WkL.drop ?_))
  refine m_set (j := 4) (e_up fun g => (p_call c_law_indexes (a_cons (p_var (j := 2) rfl) a_nil))) (fun u_found_8 => ?_)
  refine m_set (j := 5) (e_up fun g => (p_lst (a_cons p_int (a_cons p_int (a_cons p_int (a_cons p_int a_nil)))))) (fun u_spots_9 => ?_)
  refine m_for1R (T := Unit) (j := 6) (fun (s10 : Unit) => [some .bag, some (.imm u_things_1), some (.imm u_thing_2), some (.imm u_mate_3), some (.imm u_found_8), some (.imm u_spots_9), none]) (i_up fun g => (i_range1 (T.bl "range") p_int)) (by repeat (first | exact DL.WkL.nil | refine DL.WkL.keep ?_ | refine DL.WkL.drop ?_)) (fun s10 u_k_11 => ?_) (fun s10 => ?_)
  · refine m_ifr (t_up fun g => (t_w (w_or (t_cmp s_ne (p_callB (T.bl "repr") bb_repr (s_reprQ (fun _ => hA.1)) (a_cons (p_fv vqe te (p_ix (p_var (j := 4) rfl) (p_var (j := 6) rfl))) a_nil)) (p_callB (T.bl "repr") bb_repr (s_reprQ (fun _ => hA.1)) (a_cons (p_var (j := 2) rfl) a_nil))) (w_or1 (t_not (t_val (p_call c_law_is (a_cons (p_ix (p_var (j := 4) rfl) (p_var (j := 6) rfl)) (a_cons (p_ix (p_op s_add (p_var (j := 5) rfl) (p_var (j := 5) rfl)) (p_var (j := 6) rfl)) a_nil))))))))) ?_ ?_
    · exact m_ret (ret := fun d => Fl.rt (d)) (e_up fun g => p_bl) (by intro _ _; exact ⟨rfl, rfl⟩)
    exact m_nilL (by repeat (first | exact DL.WkL.nil | refine DL.WkL.keep ?_ | refine DL.WkL.drop ?_))
  exact m_retA (e_up fun g => (p_callG (fun _ => hA.1) c_law_others_right (a_cons (p_var (j := 2) rfl) (a_cons (p_var (j := 3) rfl) a_nil))))
abbrev s_f_law : Stmt := topS 65
theorem sc_f_law : FnScope ["_law_script", "_law_limits", "_law_texts", "_law_k"] ["_law_script"] (defScope s_f_law) := ⟨rfl, rfl, rfl, by decide +kernel, rfl, by decide +kernel, by decide +kernel⟩
theorem ok_f_law {C : Kc} {mg : Str → Option Value} {base : Heap} {f : Addr} {fd : FuncData} (Fn : Fun C.K "law" "law" s_f_law f fd) (T : Tx C mg) (g_MOST_CELLS : ∃ t, mg "MOST_CELLS" = some (.int 8 t)) (g_MOST_STANDS : ∃ t, mg "MOST_STANDS" = some (.int 6 t)) (g_MOST_PLACES : ∃ t, mg "MOST_PLACES" = some (.int 1000 t)) (g_MOST_ROW : ∃ t, mg "MOST_ROW" = some (.int 200 t)) (g_MOST_TURNS : ∃ t, mg "MOST_TURNS" = some (.int 10000000000000000000000000000000000000000 t)) (g_MOST_REST : ∃ t, mg "MOST_REST" = some (.int 1000000000 t)) (g_MOST_LISTED : ∃ t, mg "MOST_LISTED" = some (.int 500 t)) (g_MOST_GUARDS : ∃ t, mg "MOST_GUARDS" = some (.int 4 t)) (t_Ratio_eq : C.has 0 = true → Met C.P C.w C mg base 5 0 "__eq__" (spF C (l2 Ratio_eq))) (t_Fold_eq : C.has 1 = true → Met C.P C.w C mg base 1 1 "__eq__" (spF C (l2 Fold_eq))) (t_Raisin_eq : C.has 2 = true → Met C.P C.w C mg base 7 2 "__eq__" (spF C (l2 Raisin_eq))) (t_Watch_eq : C.has 4 = true → Met C.P C.w C mg base 2 4 "__eq__" (spF C (l2 Watch_eq))) (g_MOST_DEEDS : ∃ t, mg "MOST_DEEDS" = some (.int 100 t)) (t_Ratio_str : C.has 0 = true → Met C.P C.w C mg base 1 0 "__str__" (spF C (l1 Ratio_str))) (t_Fold_str : C.has 1 = true → Met C.P C.w C mg base 2 1 "__str__" (spF C (l1 Fold_str))) (t_Raisin_str : C.has 2 = true → Met C.P C.w C mg base 4 2 "__str__" (spF C (l1 Raisin_str))) (c_baker : Cal C.P C.w C mg base 8 "baker" (spF C (l0 f_baker))) (c_tent : Cal C.P C.w C mg base 8 "tent" (spF C (l0 f_tent))) (c_golden : Cal C.P C.w C mg base 8 "golden" (spF C (l0 f_golden))) (c_roller : Cal C.P C.w C mg base 8 "roller" (spF C (l0 f_roller))) (t_Fold_len : C.has 1 = true → Met C.P C.w C mg base 1 1 "__len__" (spF C (l1 Fold_len))) (t_Watch_len : C.has 4 = true → Met C.P C.w C mg base 1 4 "__len__" (spF C (l1 Watch_len))) (c_law_bag : Cal C.P C.w C mg base 3 "_law_bag" (spFN C (l2 f_law_bag))) (c_law_right : CalG C.P C.w C mg base 4 "_law_right" (spFB C (m0 f_law_right))) : FnG C.P C.w C.K mg base 9 f fd ["_law_script"] (spF C (l1 f_law)) := by
  refine fxG Fn sc_f_law (fun _ _ h => l1_len h) (fun ds cdv A outer s H E hr hA => ar1 (S := fun ds => ⟨DL.start ["_law_script", "_law_limits", "_law_texts", "_law_k"] ds, none⟩) (fun u_script => ?_) ds)
  refine k_set (j := 1) (p_lst (a_cons (x_MOST_CELLS g_MOST_CELLS) (a_cons (x_MOST_STANDS g_MOST_STANDS) (a_cons (x_MOST_PLACES g_MOST_PLACES) (a_cons (x_MOST_ROW g_MOST_ROW) (a_cons (x_MOST_TURNS g_MOST_TURNS) (a_cons (x_MOST_REST g_MOST_REST) (a_cons (x_MOST_LISTED g_MOST_LISTED) (a_cons (x_MOST_GUARDS g_MOST_GUARDS) a_nil))))))))) (fun u_limits_1 => ?_)
  refine k_ifr (t_cmp (s_one T (eqF_eqs t_Ratio_eq t_Fold_eq t_Raisin_eq t_Watch_eq)) (p_callB (T.bl "repr") bb_repr (s_reprQ (fun _ => hA.1)) (a_cons (p_op s_add (p_var (j := 1) rfl) (p_lst (a_cons (x_MOST_DEEDS g_MOST_DEEDS) a_nil))) a_nil)) (p_callB (T.bl "repr") bb_repr (s_reprQ (fun _ => hA.1)) (a_cons (p_lst (a_cons p_int (a_cons p_int (a_cons p_int (a_cons p_int (a_cons (p_op s_pow p_int p_int) (a_cons (p_op s_pow p_int p_int) (a_cons p_int (a_cons p_int (a_cons p_int a_nil)))))))))) a_nil))) ?_ ?_
  · exact k_retA p_bl
  refine k_set (j := 2) (p_lst (a_cons (p_callTy (T.bl "str") bb_str (s_ostr (strF_txts t_Ratio_str t_Fold_str t_Raisin_str)) (a_cons (p_callz (fun _ => hA.1) c_baker) a_nil)) (a_cons (p_callTy (T.bl "str") bb_str (s_ostr (strF_txts t_Ratio_str t_Fold_str t_Raisin_str)) (a_cons (p_callz (fun _ => hA.1) c_tent) a_nil)) (a_cons (p_callTy (T.bl "str") bb_str (s_ostr (strF_txts t_Ratio_str t_Fold_str t_Raisin_str)) (a_cons (p_callz (fun _ => hA.1) c_golden) a_nil)) (a_cons (p_callTy (T.bl "str") bb_str (s_ostr (strF_txts t_Ratio_str t_Fold_str t_Raisin_str)) (a_cons (p_callz (fun _ => hA.1) c_roller) a_nil)) a_nil))))) (fun u_texts_2 => ?_)
  refine k_ifr (t_w (w_or (t_cmp (s_one T (eqF_eqs t_Ratio_eq t_Fold_eq t_Raisin_eq t_Watch_eq)) (p_var (j := 2) rfl) (p_lst (a_cons p_str (a_cons p_str (a_cons p_str (a_cons p_str a_nil)))))) (w_or1 (t_cmp (s_one T (eqF_eqs t_Ratio_eq t_Fold_eq t_Raisin_eq t_Watch_eq)) (p_callz (fun _ => hA.1) c_baker) (p_callz (fun _ => hA.1) c_baker))))) ?_ ?_
  · exact k_retA p_bl
  exact k_retA (p_callB (T.bl "all") bb_all s_all (a_cons (p_do (o_lc (fun _ => blkOk_by (own := [("_law_k", 3)]) (by first | rfl | decide +kernel)) (lc_map (j := 3) (own := [("_law_k", 3)]) (i_range1 (T.bl "range") (p_callB (T.bl "max") bb_max s_max (a_cons p_int (a_cons (p_callB (T.bl "min") bb_min s_min (a_cons (p_callB (T.bl "len") bb_len (s_olen (lenF_lens t_Fold_len t_Watch_len)) (a_cons (p_var (j := 0) rfl) a_nil)) (a_cons p_int a_nil))) a_nil)))) (fun u_k => (p_callNewG (fun _ => hA.1) c_law_right (o_call c_law_bag (a_cons (p_var (j := 0) rfl) (a_cons (p_var (j := 3) rfl) a_nil)))))))) a_nil))
abbrev s_xi_100 : Stmt := inClass (topS 2) 0
theorem xs_100 : ∃ p1 p2 q1 q2 q3 q4, defArgs s_xi_100 = PySem.XvX.iA p1 p2 ∧ defBody s_xi_100 = PySem.XvX.iB q1 q2 q3 q4 ∧ defScope s_xi_100 = PySem.XvX.iS := ⟨_, _, _, _, _, _, rfl, rfl, rfl⟩
abbrev s_xi_101 : Stmt := inClass (topS 3) 0
theorem xs_101 : ∃ p1 p2 q1 q2 q3 q4, defArgs s_xi_101 = PySem.XvX.iA p1 p2 ∧ defBody s_xi_101 = PySem.XvX.iB q1 q2 q3 q4 ∧ defScope s_xi_101 = PySem.XvX.iS := ⟨_, _, _, _, _, _, rfl, rfl, rfl⟩
abbrev s_xi_102 : Stmt := inClass (topS 4) 0
theorem xs_102 : ∃ p1 p2 q1 q2 q3 q4, defArgs s_xi_102 = PySem.XvI.iA p1 p2 ∧ defBody s_xi_102 = PySem.XvI.iB q1 q2 q3 q4 ∧ defScope s_xi_102 = PySem.XvI.iS := ⟨_, _, _, _, _, _, rfl, rfl, rfl⟩
abbrev s_xi_103 : Stmt := inClass (topS 5) 0
theorem xs_103 : ∃ p1 p2 q1 q2 q3 q4, defArgs s_xi_103 = PySem.XvX.iA p1 p2 ∧ defBody s_xi_103 = PySem.XvX.iB q1 q2 q3 q4 ∧ defScope s_xi_103 = PySem.XvX.iS := ⟨_, _, _, _, _, _, rfl, rfl, rfl⟩
abbrev s_xi_104 : Stmt := inClass (topS 6) 0
theorem xs_104 : ∃ p1 p2 q1 q2 q3 q4, defArgs s_xi_104 = PySem.XvX.iA p1 p2 ∧ defBody s_xi_104 = PySem.XvX.iB q1 q2 q3 q4 ∧ defScope s_xi_104 = PySem.XvX.iS := ⟨_, _, _, _, _, _, rfl, rfl, rfl⟩
abbrev s_xi_105 : Stmt := inClass (topS 7) 0
theorem xs_105 : ∃ p1 p2 q1 q2 q3 q4, defArgs s_xi_105 = PySem.XvX.iA p1 p2 ∧ defBody s_xi_105 = PySem.XvX.iB q1 q2 q3 q4 ∧ defScope s_xi_105 = PySem.XvX.iS := ⟨_, _, _, _, _, _, rfl, rfl, rfl⟩
abbrev s_xi_106 : Stmt := inClass (topS 8) 0
theorem xs_106 : ∃ p1 p2 q1 q2 q3 q4, defArgs s_xi_106 = PySem.XvX.iA p1 p2 ∧ defBody s_xi_106 = PySem.XvX.iB q1 q2 q3 q4 ∧ defScope s_xi_106 = PySem.XvX.iS := ⟨_, _, _, _, _, _, rfl, rfl, rfl⟩
abbrev s_xi_107 : Stmt := inClass (topS 9) 0
theorem xs_107 : ∃ p1 p2 q1 q2 q3 q4, defArgs s_xi_107 = PySem.XvX.iA p1 p2 ∧ defBody s_xi_107 = PySem.XvX.iB q1 q2 q3 q4 ∧ defScope s_xi_107 = PySem.XvX.iS := ⟨_, _, _, _, _, _, rfl, rfl, rfl⟩
abbrev s_xi_108 : Stmt := inClass (topS 10) 0
theorem xs_108 : ∃ p1 p2 q1 q2 q3 q4, defArgs s_xi_108 = PySem.XvI.iA p1 p2 ∧ defBody s_xi_108 = PySem.XvI.iB q1 q2 q3 q4 ∧ defScope s_xi_108 = PySem.XvI.iS := ⟨_, _, _, _, _, _, rfl, rfl, rfl⟩
abbrev s_xi_109 : Stmt := inClass (topS 11) 0
theorem xs_109 : ∃ p1 p2 q1 q2 q3 q4, defArgs s_xi_109 = PySem.XvX.iA p1 p2 ∧ defBody s_xi_109 = PySem.XvX.iB q1 q2 q3 q4 ∧ defScope s_xi_109 = PySem.XvX.iS := ⟨_, _, _, _, _, _, rfl, rfl, rfl⟩
abbrev s_xi_110 : Stmt := inClass (topS 12) 0
theorem xs_110 : ∃ p1 p2 q1 q2 q3 q4, defArgs s_xi_110 = PySem.XvX.iA p1 p2 ∧ defBody s_xi_110 = PySem.XvX.iB q1 q2 q3 q4 ∧ defScope s_xi_110 = PySem.XvX.iS := ⟨_, _, _, _, _, _, rfl, rfl, rfl⟩
abbrev s_xi_111 : Stmt := inClass (topS 13) 0
theorem xs_111 : ∃ p1 p2 q1 q2 q3 q4, defArgs s_xi_111 = PySem.XvX.iA p1 p2 ∧ defBody s_xi_111 = PySem.XvX.iB q1 q2 q3 q4 ∧ defScope s_xi_111 = PySem.XvX.iS := ⟨_, _, _, _, _, _, rfl, rfl, rfl⟩
abbrev s_xi_112 : Stmt := inClass (topS 14) 0
theorem xs_112 : ∃ p1 p2 q1 q2 q3 q4, defArgs s_xi_112 = PySem.XvI.iA p1 p2 ∧ defBody s_xi_112 = PySem.XvI.iB q1 q2 q3 q4 ∧ defScope s_xi_112 = PySem.XvI.iS := ⟨_, _, _, _, _, _, rfl, rfl, rfl⟩
abbrev s_xi_113 : Stmt := inClass (topS 15) 0
theorem xs_113 : ∃ p1 p2 q1 q2 q3 q4, defArgs s_xi_113 = PySem.XvI.iA p1 p2 ∧ defBody s_xi_113 = PySem.XvI.iB q1 q2 q3 q4 ∧ defScope s_xi_113 = PySem.XvI.iS := ⟨_, _, _, _, _, _, rfl, rfl, rfl⟩
abbrev s_xi_114 : Stmt := inClass (topS 16) 0
theorem xs_114 : ∃ p1 p2 q1 q2 q3 q4, defArgs s_xi_114 = PySem.XvX.iA p1 p2 ∧ defBody s_xi_114 = PySem.XvX.iB q1 q2 q3 q4 ∧ defScope s_xi_114 = PySem.XvX.iS := ⟨_, _, _, _, _, _, rfl, rfl, rfl⟩
abbrev s_xi_115 : Stmt := inClass (topS 17) 0
theorem xs_115 : ∃ p1 p2 q1 q2 q3 q4, defArgs s_xi_115 = PySem.XvX.iA p1 p2 ∧ defBody s_xi_115 = PySem.XvX.iB q1 q2 q3 q4 ∧ defScope s_xi_115 = PySem.XvX.iS := ⟨_, _, _, _, _, _, rfl, rfl, rfl⟩
abbrev s_xi_116 : Stmt := inClass (topS 18) 0
theorem xs_116 : ∃ p1 p2 q1 q2 q3 q4, defArgs s_xi_116 = PySem.XvX.iA p1 p2 ∧ defBody s_xi_116 = PySem.XvX.iB q1 q2 q3 q4 ∧ defScope s_xi_116 = PySem.XvX.iS := ⟨_, _, _, _, _, _, rfl, rfl, rfl⟩
abbrev s_xi_117 : Stmt := inClass (topS 19) 0
theorem xs_117 : ∃ p1 p2 q1 q2 q3 q4, defArgs s_xi_117 = PySem.XvX.iA p1 p2 ∧ defBody s_xi_117 = PySem.XvX.iB q1 q2 q3 q4 ∧ defScope s_xi_117 = PySem.XvX.iS := ⟨_, _, _, _, _, _, rfl, rfl, rfl⟩
abbrev s_xi_118 : Stmt := inClass (topS 21) 0
theorem xs_118 : ∃ p1 p2 q1 q2 q3 q4, defArgs s_xi_118 = PySem.XvX.iA p1 p2 ∧ defBody s_xi_118 = PySem.XvX.iB q1 q2 q3 q4 ∧ defScope s_xi_118 = PySem.XvX.iS := ⟨_, _, _, _, _, _, rfl, rfl, rfl⟩
abbrev s_xi_119 : Stmt := inClass (topS 22) 0
theorem xs_119 : ∃ p1 p2 q1 q2 q3 q4, defArgs s_xi_119 = PySem.XvG.iA p1 p2 ∧ defBody s_xi_119 = PySem.XvG.iB q1 q2 q3 q4 ∧ defScope s_xi_119 = PySem.XvG.iS := ⟨_, _, _, _, _, _, rfl, rfl, rfl⟩
abbrev s_xi_122 : Stmt := inClass (topS 25) 0
theorem xs_122 : ∃ p1 p2 p3 q1 q2 q3 q4 q5 q6 q7 q8, defArgs s_xi_122 = PySem.XvR.iA p1 p2 p3 ∧ defBody s_xi_122 = PySem.XvR.iB q1 q2 q3 q4 q5 q6 q7 q8 ∧ defScope s_xi_122 = PySem.XvR.iS := ⟨_, _, _, _, _, _, _, _, _, _, _, rfl, rfl, rfl⟩
abbrev s_xi_123 : Stmt := inClass (topS 27) 0
theorem xs_123 : ∃ p1 p2 q1 q2 q3 q4, defArgs s_xi_123 = PySem.XvL.iA p1 p2 ∧ defBody s_xi_123 = PySem.XvL.iB q1 q2 q3 q4 ∧ defScope s_xi_123 = PySem.XvL.iS := ⟨_, _, _, _, _, _, rfl, rfl, rfl⟩
end SL.K22
namespace SL.K22
open PySem L2 DL SL
theorem all_mk {l : PySem.W.OpenLaw} {w : World} {K : PySem.W.Frag} {mg : Str → Option Value} {fa : Addr} {c_Fold fA_Fold_eq fA_cell_text fA_Fold_str fA_are_figures fA_cell_in fA_is_integer fA_is_between fA_is_cell fA_check_cells fA_Fold_init fA_Fold_read fA_baker fA_tent fA_golden fA_roller fA_Fold_len fA_law_bag fA_law_draw fA_law_one fA_law_values fA_law_classes fA_law_is fA_law_indexes fA_law_others_right fA_law_right fA_law : Addr} {fd_Fold_eq fd_cell_text fd_Fold_str fd_are_figures fd_cell_in fd_is_integer fd_is_between fd_is_cell fd_check_cells fd_Fold_init fd_Fold_read fd_baker fd_tent fd_golden fd_roller fd_Fold_len fd_law_bag fd_law_draw fd_law_one fd_law_values fd_law_classes fd_law_is fd_law_indexes fd_law_others_right fd_law_right fd_law : FuncData} (hfa : mg "law" = some (.ref fa))
    (gc_Fold : mg "Fold" = some (.ref c_Fold))
    (ins_Fold : InsF K c_Fold)
    (FD_Fold_eq : FunD K "__eq__" "Fold.__eq__" (defArgs s_Fold_eq) (defBody s_Fold_eq) (defScope s_Fold_eq) [] [] fA_Fold_eq fd_Fold_eq)
    (me_Fold_eq : Meth K c_Fold "__eq__" fA_Fold_eq)
    (FD_cell_text : FunD K "cell_text" "cell_text" (defArgs s_f_cell_text) (defBody s_f_cell_text) (defScope s_f_cell_text) [] [] fA_cell_text fd_cell_text)
    (g_cell_text : mg "cell_text" = some (.ref fA_cell_text))
    (FD_Fold_str : FunD K "__str__" "Fold.__str__" (defArgs s_Fold_str) (defBody s_Fold_str) (defScope s_Fold_str) [] [] fA_Fold_str fd_Fold_str)
    (me_Fold_str : Meth K c_Fold "__str__" fA_Fold_str)
    (FD_are_figures : FunD K "are_figures" "are_figures" (defArgs s_f_are_figures) (defBody s_f_are_figures) (defScope s_f_are_figures) [] [] fA_are_figures fd_are_figures)
    (g_are_figures : mg "are_figures" = some (.ref fA_are_figures))
    (FD_cell_in : FunD K "cell_in" "cell_in" (defArgs s_f_cell_in) (defBody s_f_cell_in) (defScope s_f_cell_in) [] [] fA_cell_in fd_cell_in)
    (g_cell_in : mg "cell_in" = some (.ref fA_cell_in))
    (FD_is_integer : FunD K "is_integer" "is_integer" (defArgs s_f_is_integer) (defBody s_f_is_integer) (defScope s_f_is_integer) [] [] fA_is_integer fd_is_integer)
    (g_is_integer : mg "is_integer" = some (.ref fA_is_integer))
    (FD_is_between : FunD K "is_between" "is_between" (defArgs s_f_is_between) (defBody s_f_is_between) (defScope s_f_is_between) [] [] fA_is_between fd_is_between)
    (g_is_between : mg "is_between" = some (.ref fA_is_between))
    (FD_is_cell : FunD K "is_cell" "is_cell" (defArgs s_f_is_cell) (defBody s_f_is_cell) (defScope s_f_is_cell) [] [] fA_is_cell fd_is_cell)
    (g_is_cell : mg "is_cell" = some (.ref fA_is_cell))
    (FD_check_cells : FunD K "check_cells" "check_cells" (defArgs s_f_check_cells) (defBody s_f_check_cells) (defScope s_f_check_cells) [] [] fA_check_cells fd_check_cells)
    (g_check_cells : mg "check_cells" = some (.ref fA_check_cells))
    (FD_Fold_init : FunD K "__init__" "Fold.__init__" (defArgs s_Fold_init) (defBody s_Fold_init) (defScope s_Fold_init) [] [] fA_Fold_init fd_Fold_init)
    (me_Fold_init : Meth K c_Fold "__init__" fA_Fold_init)
    (M_Fold : Mk K c_Fold fA_Fold_init)
    (FD_Fold_read : FunD K "read" "Fold.read" (defArgs s_Fold_read) (defBody s_Fold_read) (defScope s_Fold_read) [] [] fA_Fold_read fd_Fold_read)
    (sm_Fold_read : SMet K c_Fold "read" fA_Fold_read)
    (FD_baker : FunD K "baker" "baker" (defArgs s_f_baker) (defBody s_f_baker) (defScope s_f_baker) [] [] fA_baker fd_baker)
    (g_baker : mg "baker" = some (.ref fA_baker))
    (FD_tent : FunD K "tent" "tent" (defArgs s_f_tent) (defBody s_f_tent) (defScope s_f_tent) [] [] fA_tent fd_tent)
    (g_tent : mg "tent" = some (.ref fA_tent))
    (FD_golden : FunD K "golden" "golden" (defArgs s_f_golden) (defBody s_f_golden) (defScope s_f_golden) [] [] fA_golden fd_golden)
    (g_golden : mg "golden" = some (.ref fA_golden))
    (FD_roller : FunD K "roller" "roller" (defArgs s_f_roller) (defBody s_f_roller) (defScope s_f_roller) [] [] fA_roller fd_roller)
    (g_roller : mg "roller" = some (.ref fA_roller))
    (FD_Fold_len : FunD K "__len__" "Fold.__len__" (defArgs s_Fold_len) (defBody s_Fold_len) (defScope s_Fold_len) [] [] fA_Fold_len fd_Fold_len)
    (me_Fold_len : Meth K c_Fold "__len__" fA_Fold_len)
    (FD_law_bag : FunD K "_law_bag" "_law_bag" (defArgs s_f_law_bag) (defBody s_f_law_bag) (defScope s_f_law_bag) [] [] fA_law_bag fd_law_bag)
    (g_law_bag : mg "_law_bag" = some (.ref fA_law_bag))
    (FD_law_draw : FunD K "_law_draw" "_law_draw" (defArgs s_f_law_draw) (defBody s_f_law_draw) (defScope s_f_law_draw) [] [] fA_law_draw fd_law_draw)
    (g_law_draw : mg "_law_draw" = some (.ref fA_law_draw))
    (FD_law_one : FunD K "_law_one" "_law_one" (defArgs s_f_law_one) (defBody s_f_law_one) (defScope s_f_law_one) [] [] fA_law_one fd_law_one)
    (g_law_one : mg "_law_one" = some (.ref fA_law_one))
    (FD_law_values : FunD K "_law_values" "_law_values" (defArgs s_f_law_values) (defBody s_f_law_values) (defScope s_f_law_values) [] [] fA_law_values fd_law_values)
    (g_law_values : mg "_law_values" = some (.ref fA_law_values))
    (FD_law_classes : FunD K "_law_classes" "_law_classes" (defArgs s_f_law_classes) (defBody s_f_law_classes) (defScope s_f_law_classes) [] [] fA_law_classes fd_law_classes)
    (g_law_classes : mg "_law_classes" = some (.ref fA_law_classes))
    (FD_law_is : FunD K "_law_is" "_law_is" (defArgs s_f_law_is) (defBody s_f_law_is) (defScope s_f_law_is) [] [] fA_law_is fd_law_is)
    (g_law_is : mg "_law_is" = some (.ref fA_law_is))
    (FD_law_indexes : FunD K "_law_indexes" "_law_indexes" (defArgs s_f_law_indexes) (defBody s_f_law_indexes) (defScope s_f_law_indexes) [] [] fA_law_indexes fd_law_indexes)
    (g_law_indexes : mg "_law_indexes" = some (.ref fA_law_indexes))
    (FD_law_others_right : FunD K "_law_others_right" "_law_others_right" (defArgs s_f_law_others_right) (defBody s_f_law_others_right) (defScope s_f_law_others_right) [] [] fA_law_others_right fd_law_others_right)
    (g_law_others_right : mg "_law_others_right" = some (.ref fA_law_others_right))
    (FD_law_right : FunD K "_law_right" "_law_right" (defArgs s_f_law_right) (defBody s_f_law_right) (defScope s_f_law_right) [] [] fA_law_right fd_law_right)
    (g_law_right : mg "_law_right" = some (.ref fA_law_right))
    (FD_law : FunD K "law" "law" (defArgs s_f_law) (defBody s_f_law) (defScope s_f_law) [] [] fA_law fd_law)
    (g_law : mg "law" = some (.ref fA_law))
    (te : TxE (⟨K, l.prog, w, clF 0 c_Fold 0 0 0 0 0, hasF false true false false false false false, EXX.xa K, fqE (EXX.xa K), fqE_mono (EXX.xa K)⟩ : Kc) mg LX LN)
    (xt_100 : ∃ qn fI, PySem.XvX.XvTxt K mg (excName 100) qn (EXX.xa K 100) fI)
    (xt_101 : ∃ qn fI, PySem.XvX.XvTxt K mg (excName 101) qn (EXX.xa K 101) fI)
    (xt_102 : ∃ qn fI, PySem.XvI.XiTxt K mg (excName 102) qn (EXX.xa K 102) fI)
    (xt_103 : ∃ qn fI, PySem.XvX.XvTxt K mg (excName 103) qn (EXX.xa K 103) fI)
    (xt_104 : ∃ qn fI, PySem.XvX.XvTxt K mg (excName 104) qn (EXX.xa K 104) fI)
    (xt_105 : ∃ qn fI, PySem.XvX.XvTxt K mg (excName 105) qn (EXX.xa K 105) fI)
    (xt_106 : ∃ qn fI, PySem.XvX.XvTxt K mg (excName 106) qn (EXX.xa K 106) fI)
    (xt_107 : ∃ qn fI, PySem.XvX.XvTxt K mg (excName 107) qn (EXX.xa K 107) fI)
    (xt_108 : ∃ qn fI, PySem.XvI.XiTxt K mg (excName 108) qn (EXX.xa K 108) fI)
    (xt_109 : ∃ qn fI, PySem.XvX.XvTxt K mg (excName 109) qn (EXX.xa K 109) fI)
    (xt_110 : ∃ qn fI, PySem.XvX.XvTxt K mg (excName 110) qn (EXX.xa K 110) fI)
    (xt_111 : ∃ qn fI, PySem.XvX.XvTxt K mg (excName 111) qn (EXX.xa K 111) fI)
    (xt_112 : ∃ qn fI, PySem.XvI.XiTxt K mg (excName 112) qn (EXX.xa K 112) fI)
    (xt_113 : ∃ qn fI, PySem.XvI.XiTxt K mg (excName 113) qn (EXX.xa K 113) fI)
    (xt_114 : ∃ qn fI, PySem.XvX.XvTxt K mg (excName 114) qn (EXX.xa K 114) fI)
    (xt_115 : ∃ qn fI, PySem.XvX.XvTxt K mg (excName 115) qn (EXX.xa K 115) fI)
    (xt_116 : ∃ qn fI, PySem.XvX.XvTxt K mg (excName 116) qn (EXX.xa K 116) fI)
    (xt_117 : ∃ qn fI, PySem.XvX.XvTxt K mg (excName 117) qn (EXX.xa K 117) fI)
    (xt_118 : ∃ qn fI, PySem.XvX.XvTxt K mg (excName 118) qn (EXX.xa K 118) fI)
    (xt_119 : ∃ qn fI, PySem.XvG.XgTxt K mg (excName 119) qn (EXX.xa K 119) fI)
    (md0_120 : MkD0 (⟨K, l.prog, w, clF 0 c_Fold 0 0 0 0 0, hasF false true false false false false false, EXX.xa K, fqE (EXX.xa K), fqE_mono (EXX.xa K)⟩ : Kc) mg 120)
    (md0_121 : MkD0 (⟨K, l.prog, w, clF 0 c_Fold 0 0 0 0 0, hasF false true false false false false false, EXX.xa K, fqE (EXX.xa K), fqE_mono (EXX.xa K)⟩ : Kc) mg 121)
    (xt_122 : ∃ qn fI, PySem.XvR.XrTxt K mg (excName 122) qn (EXX.xa K 122) fI)
    (xt_123 : ∃ qn fI, PySem.XvL.XlTxt K mg (excName 123) qn (EXX.xa K 123) fI)
    (zz_isinstance : mg "isinstance" = none)
    (zz_len : mg "len" = none)
    (zz_int : mg "int" = none)
    (zz_bool : mg "bool" = none)
    (zz_str : mg "str" = none)
    (zz_tuple : mg "tuple" = none)
    (zz_list : mg "list" = none)
    (zz_range : mg "range" = none)
    (zz_enumerate : mg "enumerate" = none)
    (zz_abs : mg "abs" = none)
    (zz_max : mg "max" = none)
    (zz_min : mg "min" = none)
    (zz_all : mg "all" = none)
    (zz_any : mg "any" = none)
    (zz_sum : mg "sum" = none)
    (zz_repr : mg "repr" = none)
    (zz_sorted : mg "sorted" = none)
    (zz_set : mg "set" = none)
    (zz_dict : mg "dict" = none)
    (zz_zip : mg "zip" = none)
    (n_Fold_cells : PySem.W.findIn K (.ref c_Fold) "cells" = some none)
    (kO_Fold_int : PySem.W.kitOne K (.ref c_Fold) (.type "int") = some false)
    (kO_Fold_bool : PySem.W.kitOne K (.ref c_Fold) (.type "bool") = some false)
    (kO_Fold_str : PySem.W.kitOne K (.ref c_Fold) (.type "str") = some false)
    (kO_Fold_tuple : PySem.W.kitOne K (.ref c_Fold) (.type "tuple") = some false)
    (kB_Fold_NoneType : PySem.W.kitOne K (.type "NoneType") (.ref c_Fold) = some false)
    (kB_Fold_bool : PySem.W.kitOne K (.type "bool") (.ref c_Fold) = some false)
    (kB_Fold_int : PySem.W.kitOne K (.type "int") (.ref c_Fold) = some false)
    (kB_Fold_str : PySem.W.kitOne K (.type "str") (.ref c_Fold) = some false)
    (kB_Fold_tuple : PySem.W.kitOne K (.type "tuple") (.ref c_Fold) = some false)
    (kB_Fold_list : PySem.W.kitOne K (.type "list") (.ref c_Fold) = some false)
    (kB_Fold_dict : PySem.W.kitOne K (.type "dict") (.ref c_Fold) = some false)
    (nT_Fold_NoneType : PySem.W.notFirst K c_Fold (.type "NoneType") = true)
    (nT_Fold_bool : PySem.W.notFirst K c_Fold (.type "bool") = true)
    (nT_Fold_int : PySem.W.notFirst K c_Fold (.type "int") = true)
    (nT_Fold_str : PySem.W.notFirst K c_Fold (.type "str") = true)
    (nT_Fold_tuple : PySem.W.notFirst K c_Fold (.type "tuple") = true)
    (nT_Fold_list : PySem.W.notFirst K c_Fold (.type "list") = true)
    (nT_Fold_dict : PySem.W.notFirst K c_Fold (.type "dict") = true)
    (ne_Fold : PySem.W.findIn K (.ref c_Fold) "__ne__" = some (some (.builtin "object.__ne__")))
    (nf_Fold_Fold : PySem.W.notFirst K c_Fold (.ref c_Fold) = true)
    (g_MOST_CELLS : ∃ t, mg "MOST_CELLS" = some (.int 8 t))
    (g_MOST_STANDS : ∃ t, mg "MOST_STANDS" = some (.int 6 t))
    (g_MOST_PLACES : ∃ t, mg "MOST_PLACES" = some (.int 1000 t))
    (g_MOST_ROW : ∃ t, mg "MOST_ROW" = some (.int 200 t))
    (g_MOST_TURNS : ∃ t, mg "MOST_TURNS" = some (.int 10000000000000000000000000000000000000000 t))
    (g_MOST_REST : ∃ t, mg "MOST_REST" = some (.int 1000000000 t))
    (g_MOST_LISTED : ∃ t, mg "MOST_LISTED" = some (.int 500 t))
    (g_MOST_GUARDS : ∃ t, mg "MOST_GUARDS" = some (.int 4 t))
    (g_MOST_DEEDS : ∃ t, mg "MOST_DEEDS" = some (.int 100 t))
    : ∃ fd : FuncData, (∀ (s : Shared) (v : Value), BindsTo s fd ⟨[v], []⟩ [("_law_script", v)]) ∧ ∀ base : Heap, K.In base → base.Ns mainGlobals mg → FnG l.prog w K mg base 9 fa fd ["_law_script"] (spLaw K) := by
  have e := hfa.symm.trans g_law
  cases e
  have cl_Fold := ins_Fold.cl
  have F_Fold_eq := EX.fun_ofD FD_Fold_eq
  have b_Fold_eq := F_Fold_eq.binds (ps := ["self", "other"]) fun _ _ _ _ _ _ us hl => match us, hl with | [_, _], _ => rfl
  have F_cell_text := EX.fun_ofD FD_cell_text
  have b_cell_text := F_cell_text.binds (ps := ["cell"]) fun _ _ _ _ _ _ us hl => match us, hl with | [_], _ => rfl
  have F_Fold_str := EX.fun_ofD FD_Fold_str
  have b_Fold_str := F_Fold_str.binds (ps := ["self"]) fun _ _ _ _ _ _ us hl => match us, hl with | [_], _ => rfl
  have F_are_figures := EX.fun_ofD FD_are_figures
  have b_are_figures := F_are_figures.binds (ps := ["text"]) fun _ _ _ _ _ _ us hl => match us, hl with | [_], _ => rfl
  have F_cell_in := EX.fun_ofD FD_cell_in
  have b_cell_in := F_cell_in.binds (ps := ["word"]) fun _ _ _ _ _ _ us hl => match us, hl with | [_], _ => rfl
  have F_is_integer := EX.fun_ofD FD_is_integer
  have b_is_integer := F_is_integer.binds (ps := ["value"]) fun _ _ _ _ _ _ us hl => match us, hl with | [_], _ => rfl
  have F_is_between := EX.fun_ofD FD_is_between
  have b_is_between := F_is_between.binds (ps := ["value", "least", "most"]) fun _ _ _ _ _ _ us hl => match us, hl with | [_, _, _], _ => rfl
  have F_is_cell := EX.fun_ofD FD_is_cell
  have b_is_cell := F_is_cell.binds (ps := ["many", "value"]) fun _ _ _ _ _ _ us hl => match us, hl with | [_, _], _ => rfl
  have F_check_cells := EX.fun_ofD FD_check_cells
  have b_check_cells := F_check_cells.binds (ps := ["cells"]) fun _ _ _ _ _ _ us hl => match us, hl with | [_], _ => rfl
  have F_Fold_init := EX.fun_ofD FD_Fold_init
  have b_Fold_init := F_Fold_init.binds (ps := ["self", "cells"]) fun _ _ _ _ _ _ us hl => match us, hl with | [_, _], _ => rfl
  have F_Fold_read := EX.fun_ofD FD_Fold_read
  have b_Fold_read := F_Fold_read.binds (ps := ["text"]) fun _ _ _ _ _ _ us hl => match us, hl with | [_], _ => rfl
  have F_baker := EX.fun_ofD FD_baker
  have b_baker := F_baker.binds (ps := []) fun _ _ _ _ _ _ us hl => match us, hl with | [], _ => rfl
  have F_tent := EX.fun_ofD FD_tent
  have b_tent := F_tent.binds (ps := []) fun _ _ _ _ _ _ us hl => match us, hl with | [], _ => rfl
  have F_golden := EX.fun_ofD FD_golden
  have b_golden := F_golden.binds (ps := []) fun _ _ _ _ _ _ us hl => match us, hl with | [], _ => rfl
  have F_roller := EX.fun_ofD FD_roller
  have b_roller := F_roller.binds (ps := []) fun _ _ _ _ _ _ us hl => match us, hl with | [], _ => rfl
  have F_Fold_len := EX.fun_ofD FD_Fold_len
  have b_Fold_len := F_Fold_len.binds (ps := ["self"]) fun _ _ _ _ _ _ us hl => match us, hl with | [_], _ => rfl
  have F_law_bag := EX.fun_ofD FD_law_bag
  have b_law_bag := F_law_bag.binds (ps := ["_law_script", "_law_k"]) fun _ _ _ _ _ _ us hl => match us, hl with | [_, _], _ => rfl
  have F_law_draw := EX.fun_ofD FD_law_draw
  have b_law_draw := F_law_draw.binds (ps := ["_law_bag_here", "_law_wide"]) fun _ _ _ _ _ _ us hl => match us, hl with | [_, _], _ => rfl
  have F_law_one := EX.fun_ofD FD_law_one
  have b_law_one := F_law_one.binds (ps := ["_law_bag_here", "_law_some"]) fun _ _ _ _ _ _ us hl => match us, hl with | [_, _], _ => rfl
  have F_law_values := EX.fun_ofD FD_law_values
  have b_law_values := F_law_values.binds (ps := ["_law_thing"]) fun _ _ _ _ _ _ us hl => match us, hl with | [_], _ => rfl
  have F_law_classes := EX.fun_ofD FD_law_classes
  have b_law_classes := F_law_classes.binds (ps := ["_law_e"]) fun _ _ _ _ _ _ us hl => match us, hl with | [_], _ => rfl
  have F_law_is := EX.fun_ofD FD_law_is
  have b_law_is := F_law_is.binds (ps := ["_law_e", "_law_at"]) fun _ _ _ _ _ _ us hl => match us, hl with | [_, _], _ => rfl
  have F_law_indexes := EX.fun_ofD FD_law_indexes
  have b_law_indexes := F_law_indexes.binds (ps := ["_law_thing"]) fun _ _ _ _ _ _ us hl => match us, hl with | [_], _ => rfl
  have F_law_others_right := EX.fun_ofD FD_law_others_right
  have b_law_others_right := F_law_others_right.binds (ps := ["_law_thing", "_law_mate"]) fun _ _ _ _ _ _ us hl => match us, hl with | [_, _], _ => rfl
  have F_law_right := EX.fun_ofD FD_law_right
  have b_law_right := F_law_right.binds (ps := ["_law_bag_here"]) fun _ _ _ _ _ _ us hl => match us, hl with | [_], _ => rfl
  have F_law := EX.fun_ofD FD_law
  have bL := FunD.bindsA (ps := ["_law_script"]) FD_law fun _ _ _ _ _ _ us hl => match us, hl with | [_], _ => rfl
  refine ⟨fd_law, fun s v => bL s [v] rfl, fun base _ _ => ?_⟩
  have Tcn : ∀ c, Kc.has (⟨K, l.prog, w, clF 0 c_Fold 0 0 0 0 0, hasF false true false false false false false, EXX.xa K, fqE (EXX.xa K), fqE_mono (EXX.xa K)⟩ : Kc) c = true → mg (clsName c) = some (.ref (Kc.cl (⟨K, l.prog, w, clF 0 c_Fold 0 0 0 0 0, hasF false true false false false false false, EXX.xa K, fqE (EXX.xa K), fqE_mono (EXX.xa K)⟩ : Kc) c)) := fun c h => by
    rcases c with _ | _ | _ | _ | _ | _ | _ | c
    · exact absurd (show false = true from h) Bool.false_ne_true
    · exact gc_Fold
    · exact absurd (show false = true from h) Bool.false_ne_true
    · exact absurd (show false = true from h) Bool.false_ne_true
    · exact absurd (show false = true from h) Bool.false_ne_true
    · exact absurd (show false = true from h) Bool.false_ne_true
    · exact absurd (show false = true from h) Bool.false_ne_true
    · exact absurd (show false = true from h) Bool.false_ne_true
  have Tins : ∀ c, Kc.has (⟨K, l.prog, w, clF 0 c_Fold 0 0 0 0 0, hasF false true false false false false false, EXX.xa K, fqE (EXX.xa K), fqE_mono (EXX.xa K)⟩ : Kc) c = true → InsF K (Kc.cl (⟨K, l.prog, w, clF 0 c_Fold 0 0 0 0 0, hasF false true false false false false false, EXX.xa K, fqE (EXX.xa K), fqE_mono (EXX.xa K)⟩ : Kc) c) := fun c h => by
    rcases c with _ | _ | _ | _ | _ | _ | _ | c
    · exact absurd (show false = true from h) Bool.false_ne_true
    · exact ins_Fold
    · exact absurd (show false = true from h) Bool.false_ne_true
    · exact absurd (show false = true from h) Bool.false_ne_true
    · exact absurd (show false = true from h) Bool.false_ne_true
    · exact absurd (show false = true from h) Bool.false_ne_true
    · exact absurd (show false = true from h) Bool.false_ne_true
    · exact absurd (show false = true from h) Bool.false_ne_true
  have Tna : ∀ c, Kc.has (⟨K, l.prog, w, clF 0 c_Fold 0 0 0 0 0, hasF false true false false false false false, EXX.xa K, fqE (EXX.xa K), fqE_mono (EXX.xa K)⟩ : Kc) c = true → ∀ f ∈ clsFields c, NoAttr K (Kc.cl (⟨K, l.prog, w, clF 0 c_Fold 0 0 0 0 0, hasF false true false false false false false, EXX.xa K, fqE (EXX.xa K), fqE_mono (EXX.xa K)⟩ : Kc) c) f := fun c h => by
    rcases c with _ | _ | _ | _ | _ | _ | _ | c
    · exact absurd (show false = true from h) Bool.false_ne_true
    · exact fun t ht => by
        simp only [clsFields, List.mem_cons, List.not_mem_nil, or_false] at ht
        rcases ht with rfl
        · exact n_Fold_cells
    · exact absurd (show false = true from h) Bool.false_ne_true
    · exact absurd (show false = true from h) Bool.false_ne_true
    · exact absurd (show false = true from h) Bool.false_ne_true
    · exact absurd (show false = true from h) Bool.false_ne_true
    · exact absurd (show false = true from h) Bool.false_ne_true
    · exact absurd (show false = true from h) Bool.false_ne_true
  have TkO : ∀ c, Kc.has (⟨K, l.prog, w, clF 0 c_Fold 0 0 0 0 0, hasF false true false false false false false, EXX.xa K, fqE (EXX.xa K), fqE_mono (EXX.xa K)⟩ : Kc) c = true → ∀ T ∈ isiNames, PySem.W.kitOne K (.ref (Kc.cl (⟨K, l.prog, w, clF 0 c_Fold 0 0 0 0 0, hasF false true false false false false false, EXX.xa K, fqE (EXX.xa K), fqE_mono (EXX.xa K)⟩ : Kc) c)) (.type T) = some false := fun c h => by
    rcases c with _ | _ | _ | _ | _ | _ | _ | c
    · exact absurd (show false = true from h) Bool.false_ne_true
    · exact fun t ht => by
        simp only [isiNames, List.mem_cons, List.not_mem_nil, or_false] at ht
        rcases ht with rfl | rfl | rfl | rfl
        · exact kO_Fold_int
        · exact kO_Fold_bool
        · exact kO_Fold_str
        · exact kO_Fold_tuple
    · exact absurd (show false = true from h) Bool.false_ne_true
    · exact absurd (show false = true from h) Bool.false_ne_true
    · exact absurd (show false = true from h) Bool.false_ne_true
    · exact absurd (show false = true from h) Bool.false_ne_true
    · exact absurd (show false = true from h) Bool.false_ne_true
    · exact absurd (show false = true from h) Bool.false_ne_true
  have TkB : ∀ c, Kc.has (⟨K, l.prog, w, clF 0 c_Fold 0 0 0 0 0, hasF false true false false false false false, EXX.xa K, fqE (EXX.xa K), fqE_mono (EXX.xa K)⟩ : Kc) c = true → ∀ T ∈ tyNames, PySem.W.kitOne K (.type T) (.ref (Kc.cl (⟨K, l.prog, w, clF 0 c_Fold 0 0 0 0 0, hasF false true false false false false false, EXX.xa K, fqE (EXX.xa K), fqE_mono (EXX.xa K)⟩ : Kc) c)) = some false := fun c h => by
    rcases c with _ | _ | _ | _ | _ | _ | _ | c
    · exact absurd (show false = true from h) Bool.false_ne_true
    · exact fun t ht => by
        simp only [tyNames, List.mem_cons, List.not_mem_nil, or_false] at ht
        rcases ht with rfl | rfl | rfl | rfl | rfl | rfl | rfl
        · exact kB_Fold_NoneType
        · exact kB_Fold_bool
        · exact kB_Fold_int
        · exact kB_Fold_str
        · exact kB_Fold_tuple
        · exact kB_Fold_list
        · exact kB_Fold_dict
    · exact absurd (show false = true from h) Bool.false_ne_true
    · exact absurd (show false = true from h) Bool.false_ne_true
    · exact absurd (show false = true from h) Bool.false_ne_true
    · exact absurd (show false = true from h) Bool.false_ne_true
    · exact absurd (show false = true from h) Bool.false_ne_true
    · exact absurd (show false = true from h) Bool.false_ne_true
  have TnT : ∀ c, Kc.has (⟨K, l.prog, w, clF 0 c_Fold 0 0 0 0 0, hasF false true false false false false false, EXX.xa K, fqE (EXX.xa K), fqE_mono (EXX.xa K)⟩ : Kc) c = true → ∀ T ∈ tyNames, PySem.W.notFirst K (Kc.cl (⟨K, l.prog, w, clF 0 c_Fold 0 0 0 0 0, hasF false true false false false false false, EXX.xa K, fqE (EXX.xa K), fqE_mono (EXX.xa K)⟩ : Kc) c) (.type T) = true := fun c h => by
    rcases c with _ | _ | _ | _ | _ | _ | _ | c
    · exact absurd (show false = true from h) Bool.false_ne_true
    · exact fun t ht => by
        simp only [tyNames, List.mem_cons, List.not_mem_nil, or_false] at ht
        rcases ht with rfl | rfl | rfl | rfl | rfl | rfl | rfl
        · exact nT_Fold_NoneType
        · exact nT_Fold_bool
        · exact nT_Fold_int
        · exact nT_Fold_str
        · exact nT_Fold_tuple
        · exact nT_Fold_list
        · exact nT_Fold_dict
    · exact absurd (show false = true from h) Bool.false_ne_true
    · exact absurd (show false = true from h) Bool.false_ne_true
    · exact absurd (show false = true from h) Bool.false_ne_true
    · exact absurd (show false = true from h) Bool.false_ne_true
    · exact absurd (show false = true from h) Bool.false_ne_true
    · exact absurd (show false = true from h) Bool.false_ne_true
  have Tne : ∀ c, Kc.has (⟨K, l.prog, w, clF 0 c_Fold 0 0 0 0 0, hasF false true false false false false false, EXX.xa K, fqE (EXX.xa K), fqE_mono (EXX.xa K)⟩ : Kc) c = true → PySem.W.findIn K (.ref (Kc.cl (⟨K, l.prog, w, clF 0 c_Fold 0 0 0 0 0, hasF false true false false false false false, EXX.xa K, fqE (EXX.xa K), fqE_mono (EXX.xa K)⟩ : Kc) c)) "__ne__" = some (some (.builtin "object.__ne__")) := fun c h => by
    rcases c with _ | _ | _ | _ | _ | _ | _ | c
    · exact absurd (show false = true from h) Bool.false_ne_true
    · exact ne_Fold
    · exact absurd (show false = true from h) Bool.false_ne_true
    · exact absurd (show false = true from h) Bool.false_ne_true
    · exact absurd (show false = true from h) Bool.false_ne_true
    · exact absurd (show false = true from h) Bool.false_ne_true
    · exact absurd (show false = true from h) Bool.false_ne_true
    · exact absurd (show false = true from h) Bool.false_ne_true
  have TkC : ∀ c, Kc.has (⟨K, l.prog, w, clF 0 c_Fold 0 0 0 0 0, hasF false true false false false false false, EXX.xa K, fqE (EXX.xa K), fqE_mono (EXX.xa K)⟩ : Kc) c = true → ∀ c', Kc.has (⟨K, l.prog, w, clF 0 c_Fold 0 0 0 0 0, hasF false true false false false false false, EXX.xa K, fqE (EXX.xa K), fqE_mono (EXX.xa K)⟩ : Kc) c' = true → c ≠ c' → PySem.W.kitOne K (.ref (Kc.cl (⟨K, l.prog, w, clF 0 c_Fold 0 0 0 0 0, hasF false true false false false false false, EXX.xa K, fqE (EXX.xa K), fqE_mono (EXX.xa K)⟩ : Kc) c)) (.ref (Kc.cl (⟨K, l.prog, w, clF 0 c_Fold 0 0 0 0 0, hasF false true false false false false false, EXX.xa K, fqE (EXX.xa K), fqE_mono (EXX.xa K)⟩ : Kc) c')) = some false := fun c h => by
    rcases c with _ | _ | _ | _ | _ | _ | _ | c
    · exact absurd (show false = true from h) Bool.false_ne_true
    · intro c' h' nn
      rcases c' with _ | _ | _ | _ | _ | _ | _ | c'
      · exact absurd (show false = true from h') Bool.false_ne_true
      · exact absurd rfl nn
      · exact absurd (show false = true from h') Bool.false_ne_true
      · exact absurd (show false = true from h') Bool.false_ne_true
      · exact absurd (show false = true from h') Bool.false_ne_true
      · exact absurd (show false = true from h') Bool.false_ne_true
      · exact absurd (show false = true from h') Bool.false_ne_true
      · exact absurd (show false = true from h') Bool.false_ne_true
    · exact absurd (show false = true from h) Bool.false_ne_true
    · exact absurd (show false = true from h) Bool.false_ne_true
    · exact absurd (show false = true from h) Bool.false_ne_true
    · exact absurd (show false = true from h) Bool.false_ne_true
    · exact absurd (show false = true from h) Bool.false_ne_true
    · exact absurd (show false = true from h) Bool.false_ne_true
  have Tnf : ∀ c, Kc.has (⟨K, l.prog, w, clF 0 c_Fold 0 0 0 0 0, hasF false true false false false false false, EXX.xa K, fqE (EXX.xa K), fqE_mono (EXX.xa K)⟩ : Kc) c = true → ∀ c', Kc.has (⟨K, l.prog, w, clF 0 c_Fold 0 0 0 0 0, hasF false true false false false false false, EXX.xa K, fqE (EXX.xa K), fqE_mono (EXX.xa K)⟩ : Kc) c' = true → True → PySem.W.notFirst K (Kc.cl (⟨K, l.prog, w, clF 0 c_Fold 0 0 0 0 0, hasF false true false false false false false, EXX.xa K, fqE (EXX.xa K), fqE_mono (EXX.xa K)⟩ : Kc) c) (.ref (Kc.cl (⟨K, l.prog, w, clF 0 c_Fold 0 0 0 0 0, hasF false true false false false false false, EXX.xa K, fqE (EXX.xa K), fqE_mono (EXX.xa K)⟩ : Kc) c')) = true := fun c h => by
    rcases c with _ | _ | _ | _ | _ | _ | _ | c
    · exact absurd (show false = true from h) Bool.false_ne_true
    · intro c' h' nn
      rcases c' with _ | _ | _ | _ | _ | _ | _ | c'
      · exact absurd (show false = true from h') Bool.false_ne_true
      · exact nf_Fold_Fold
      · exact absurd (show false = true from h') Bool.false_ne_true
      · exact absurd (show false = true from h') Bool.false_ne_true
      · exact absurd (show false = true from h') Bool.false_ne_true
      · exact absurd (show false = true from h') Bool.false_ne_true
      · exact absurd (show false = true from h') Bool.false_ne_true
      · exact absurd (show false = true from h') Bool.false_ne_true
    · exact absurd (show false = true from h) Bool.false_ne_true
    · exact absurd (show false = true from h) Bool.false_ne_true
    · exact absurd (show false = true from h) Bool.false_ne_true
    · exact absurd (show false = true from h) Bool.false_ne_true
    · exact absurd (show false = true from h) Bool.false_ne_true
    · exact absurd (show false = true from h) Bool.false_ne_true
  have Tnb : ∀ n ∈ bltNames, mg n = none := fun n hn => by
    simp only [bltNames, List.mem_cons, List.not_mem_nil, or_false] at hn
    rcases hn with rfl | rfl | rfl | rfl | rfl | rfl | rfl | rfl | rfl | rfl | rfl | rfl | rfl | rfl | rfl | rfl | rfl | rfl | rfl | rfl
    · exact zz_isinstance
    · exact zz_len
    · exact zz_int
    · exact zz_bool
    · exact zz_str
    · exact zz_tuple
    · exact zz_list
    · exact zz_range
    · exact zz_enumerate
    · exact zz_abs
    · exact zz_max
    · exact zz_min
    · exact zz_all
    · exact zz_any
    · exact zz_sum
    · exact zz_repr
    · exact zz_sorted
    · exact zz_set
    · exact zz_dict
    · exact zz_zip
  have T : Tx (⟨K, l.prog, w, clF 0 c_Fold 0 0 0 0 0, hasF false true false false false false false, EXX.xa K, fqE (EXX.xa K), fqE_mono (EXX.xa K)⟩ : Kc) mg := ⟨Tnb, Tcn, Tins, Tna, TkO, TkB, fun c c' h h' n => TkC c h c' h' n, fun c c' h h' => Tnf c h c' h' trivial, TnT, Tne, fun h => absurd (show false = true from h) Bool.false_ne_true, fun h => absurd (show false = true from h) Bool.false_ne_true, fun h => absurd (show false = true from h) Bool.false_ne_true, fun h => absurd (show false = true from h) Bool.false_ne_true⟩
  have h_Fold : Kc.has (⟨K, l.prog, w, clF 0 c_Fold 0 0 0 0 0, hasF false true false false false false false, EXX.xa K, fqE (EXX.xa K), fqE_mono (EXX.xa K)⟩ : Kc) 1 = true := rfl
  have vqe : Kc.fq (⟨K, l.prog, w, clF 0 c_Fold 0 0 0 0 0, hasF false true false false false false false, EXX.xa K, fqE (EXX.xa K), fqE_mono (EXX.xa K)⟩ : Kc) = fqE (Kc.xc (⟨K, l.prog, w, clF 0 c_Fold 0 0 0 0 0, hasF false true false false false false false, EXX.xa K, fqE (EXX.xa K), fqE_mono (EXX.xa K)⟩ : Kc)) := rfl
  have md_100 : MkD l.prog w (⟨K, l.prog, w, clF 0 c_Fold 0 0 0 0 0, hasF false true false false false false false, EXX.xa K, fqE (EXX.xa K), fqE_mono (EXX.xa K)⟩ : Kc) mg 100 := (md_v (P := l.prog) (w := w) (C := (⟨K, l.prog, w, clF 0 c_Fold 0 0 0 0 0, hasF false true false false false false false, EXX.xa K, fqE (EXX.xa K), fqE_mono (EXX.xa K)⟩ : Kc)) xt_100 rfl).1
  have mdK_100 : MkDK l.prog w (⟨K, l.prog, w, clF 0 c_Fold 0 0 0 0 0, hasF false true false false false false false, EXX.xa K, fqE (EXX.xa K), fqE_mono (EXX.xa K)⟩ : Kc) mg 100 ["value"] [0] := (md_v (P := l.prog) (w := w) (C := (⟨K, l.prog, w, clF 0 c_Fold 0 0 0 0 0, hasF false true false false false false false, EXX.xa K, fqE (EXX.xa K), fqE_mono (EXX.xa K)⟩ : Kc)) xt_100 rfl).2
  have md_101 : MkD l.prog w (⟨K, l.prog, w, clF 0 c_Fold 0 0 0 0 0, hasF false true false false false false false, EXX.xa K, fqE (EXX.xa K), fqE_mono (EXX.xa K)⟩ : Kc) mg 101 := (md_v (P := l.prog) (w := w) (C := (⟨K, l.prog, w, clF 0 c_Fold 0 0 0 0 0, hasF false true false false false false false, EXX.xa K, fqE (EXX.xa K), fqE_mono (EXX.xa K)⟩ : Kc)) xt_101 rfl).1
  have mdK_101 : MkDK l.prog w (⟨K, l.prog, w, clF 0 c_Fold 0 0 0 0 0, hasF false true false false false false false, EXX.xa K, fqE (EXX.xa K), fqE_mono (EXX.xa K)⟩ : Kc) mg 101 ["value"] [0] := (md_v (P := l.prog) (w := w) (C := (⟨K, l.prog, w, clF 0 c_Fold 0 0 0 0 0, hasF false true false false false false false, EXX.xa K, fqE (EXX.xa K), fqE_mono (EXX.xa K)⟩ : Kc)) xt_101 rfl).2
  have md_102 : MkD l.prog w (⟨K, l.prog, w, clF 0 c_Fold 0 0 0 0 0, hasF false true false false false false false, EXX.xa K, fqE (EXX.xa K), fqE_mono (EXX.xa K)⟩ : Kc) mg 102 := (md_i (P := l.prog) (w := w) (C := (⟨K, l.prog, w, clF 0 c_Fold 0 0 0 0 0, hasF false true false false false false false, EXX.xa K, fqE (EXX.xa K), fqE_mono (EXX.xa K)⟩ : Kc)) xt_102 rfl).1
  have mdK_102 : MkDK l.prog w (⟨K, l.prog, w, clF 0 c_Fold 0 0 0 0 0, hasF false true false false false false false, EXX.xa K, fqE (EXX.xa K), fqE_mono (EXX.xa K)⟩ : Kc) mg 102 ["index"] [0] := (md_i (P := l.prog) (w := w) (C := (⟨K, l.prog, w, clF 0 c_Fold 0 0 0 0 0, hasF false true false false false false false, EXX.xa K, fqE (EXX.xa K), fqE_mono (EXX.xa K)⟩ : Kc)) xt_102 rfl).2
  have md_103 : MkD l.prog w (⟨K, l.prog, w, clF 0 c_Fold 0 0 0 0 0, hasF false true false false false false false, EXX.xa K, fqE (EXX.xa K), fqE_mono (EXX.xa K)⟩ : Kc) mg 103 := (md_v (P := l.prog) (w := w) (C := (⟨K, l.prog, w, clF 0 c_Fold 0 0 0 0 0, hasF false true false false false false false, EXX.xa K, fqE (EXX.xa K), fqE_mono (EXX.xa K)⟩ : Kc)) xt_103 rfl).1
  have mdK_103 : MkDK l.prog w (⟨K, l.prog, w, clF 0 c_Fold 0 0 0 0 0, hasF false true false false false false false, EXX.xa K, fqE (EXX.xa K), fqE_mono (EXX.xa K)⟩ : Kc) mg 103 ["value"] [0] := (md_v (P := l.prog) (w := w) (C := (⟨K, l.prog, w, clF 0 c_Fold 0 0 0 0 0, hasF false true false false false false false, EXX.xa K, fqE (EXX.xa K), fqE_mono (EXX.xa K)⟩ : Kc)) xt_103 rfl).2
  have md_104 : MkD l.prog w (⟨K, l.prog, w, clF 0 c_Fold 0 0 0 0 0, hasF false true false false false false false, EXX.xa K, fqE (EXX.xa K), fqE_mono (EXX.xa K)⟩ : Kc) mg 104 := (md_v (P := l.prog) (w := w) (C := (⟨K, l.prog, w, clF 0 c_Fold 0 0 0 0 0, hasF false true false false false false false, EXX.xa K, fqE (EXX.xa K), fqE_mono (EXX.xa K)⟩ : Kc)) xt_104 rfl).1
  have mdK_104 : MkDK l.prog w (⟨K, l.prog, w, clF 0 c_Fold 0 0 0 0 0, hasF false true false false false false false, EXX.xa K, fqE (EXX.xa K), fqE_mono (EXX.xa K)⟩ : Kc) mg 104 ["value"] [0] := (md_v (P := l.prog) (w := w) (C := (⟨K, l.prog, w, clF 0 c_Fold 0 0 0 0 0, hasF false true false false false false false, EXX.xa K, fqE (EXX.xa K), fqE_mono (EXX.xa K)⟩ : Kc)) xt_104 rfl).2
  have md_105 : MkD l.prog w (⟨K, l.prog, w, clF 0 c_Fold 0 0 0 0 0, hasF false true false false false false false, EXX.xa K, fqE (EXX.xa K), fqE_mono (EXX.xa K)⟩ : Kc) mg 105 := (md_v (P := l.prog) (w := w) (C := (⟨K, l.prog, w, clF 0 c_Fold 0 0 0 0 0, hasF false true false false false false false, EXX.xa K, fqE (EXX.xa K), fqE_mono (EXX.xa K)⟩ : Kc)) xt_105 rfl).1
  have mdK_105 : MkDK l.prog w (⟨K, l.prog, w, clF 0 c_Fold 0 0 0 0 0, hasF false true false false false false false, EXX.xa K, fqE (EXX.xa K), fqE_mono (EXX.xa K)⟩ : Kc) mg 105 ["value"] [0] := (md_v (P := l.prog) (w := w) (C := (⟨K, l.prog, w, clF 0 c_Fold 0 0 0 0 0, hasF false true false false false false false, EXX.xa K, fqE (EXX.xa K), fqE_mono (EXX.xa K)⟩ : Kc)) xt_105 rfl).2
  have md_106 : MkD l.prog w (⟨K, l.prog, w, clF 0 c_Fold 0 0 0 0 0, hasF false true false false false false false, EXX.xa K, fqE (EXX.xa K), fqE_mono (EXX.xa K)⟩ : Kc) mg 106 := (md_v (P := l.prog) (w := w) (C := (⟨K, l.prog, w, clF 0 c_Fold 0 0 0 0 0, hasF false true false false false false false, EXX.xa K, fqE (EXX.xa K), fqE_mono (EXX.xa K)⟩ : Kc)) xt_106 rfl).1
  have mdK_106 : MkDK l.prog w (⟨K, l.prog, w, clF 0 c_Fold 0 0 0 0 0, hasF false true false false false false false, EXX.xa K, fqE (EXX.xa K), fqE_mono (EXX.xa K)⟩ : Kc) mg 106 ["value"] [0] := (md_v (P := l.prog) (w := w) (C := (⟨K, l.prog, w, clF 0 c_Fold 0 0 0 0 0, hasF false true false false false false false, EXX.xa K, fqE (EXX.xa K), fqE_mono (EXX.xa K)⟩ : Kc)) xt_106 rfl).2
  have md_107 : MkD l.prog w (⟨K, l.prog, w, clF 0 c_Fold 0 0 0 0 0, hasF false true false false false false false, EXX.xa K, fqE (EXX.xa K), fqE_mono (EXX.xa K)⟩ : Kc) mg 107 := (md_v (P := l.prog) (w := w) (C := (⟨K, l.prog, w, clF 0 c_Fold 0 0 0 0 0, hasF false true false false false false false, EXX.xa K, fqE (EXX.xa K), fqE_mono (EXX.xa K)⟩ : Kc)) xt_107 rfl).1
  have mdK_107 : MkDK l.prog w (⟨K, l.prog, w, clF 0 c_Fold 0 0 0 0 0, hasF false true false false false false false, EXX.xa K, fqE (EXX.xa K), fqE_mono (EXX.xa K)⟩ : Kc) mg 107 ["value"] [0] := (md_v (P := l.prog) (w := w) (C := (⟨K, l.prog, w, clF 0 c_Fold 0 0 0 0 0, hasF false true false false false false false, EXX.xa K, fqE (EXX.xa K), fqE_mono (EXX.xa K)⟩ : Kc)) xt_107 rfl).2
  have md_108 : MkD l.prog w (⟨K, l.prog, w, clF 0 c_Fold 0 0 0 0 0, hasF false true false false false false false, EXX.xa K, fqE (EXX.xa K), fqE_mono (EXX.xa K)⟩ : Kc) mg 108 := (md_i (P := l.prog) (w := w) (C := (⟨K, l.prog, w, clF 0 c_Fold 0 0 0 0 0, hasF false true false false false false false, EXX.xa K, fqE (EXX.xa K), fqE_mono (EXX.xa K)⟩ : Kc)) xt_108 rfl).1
  have mdK_108 : MkDK l.prog w (⟨K, l.prog, w, clF 0 c_Fold 0 0 0 0 0, hasF false true false false false false false, EXX.xa K, fqE (EXX.xa K), fqE_mono (EXX.xa K)⟩ : Kc) mg 108 ["index"] [0] := (md_i (P := l.prog) (w := w) (C := (⟨K, l.prog, w, clF 0 c_Fold 0 0 0 0 0, hasF false true false false false false false, EXX.xa K, fqE (EXX.xa K), fqE_mono (EXX.xa K)⟩ : Kc)) xt_108 rfl).2
  have md_109 : MkD l.prog w (⟨K, l.prog, w, clF 0 c_Fold 0 0 0 0 0, hasF false true false false false false false, EXX.xa K, fqE (EXX.xa K), fqE_mono (EXX.xa K)⟩ : Kc) mg 109 := (md_v (P := l.prog) (w := w) (C := (⟨K, l.prog, w, clF 0 c_Fold 0 0 0 0 0, hasF false true false false false false false, EXX.xa K, fqE (EXX.xa K), fqE_mono (EXX.xa K)⟩ : Kc)) xt_109 rfl).1
  have mdK_109 : MkDK l.prog w (⟨K, l.prog, w, clF 0 c_Fold 0 0 0 0 0, hasF false true false false false false false, EXX.xa K, fqE (EXX.xa K), fqE_mono (EXX.xa K)⟩ : Kc) mg 109 ["value"] [0] := (md_v (P := l.prog) (w := w) (C := (⟨K, l.prog, w, clF 0 c_Fold 0 0 0 0 0, hasF false true false false false false false, EXX.xa K, fqE (EXX.xa K), fqE_mono (EXX.xa K)⟩ : Kc)) xt_109 rfl).2
  have md_110 : MkD l.prog w (⟨K, l.prog, w, clF 0 c_Fold 0 0 0 0 0, hasF false true false false false false false, EXX.xa K, fqE (EXX.xa K), fqE_mono (EXX.xa K)⟩ : Kc) mg 110 := (md_v (P := l.prog) (w := w) (C := (⟨K, l.prog, w, clF 0 c_Fold 0 0 0 0 0, hasF false true false false false false false, EXX.xa K, fqE (EXX.xa K), fqE_mono (EXX.xa K)⟩ : Kc)) xt_110 rfl).1
  have mdK_110 : MkDK l.prog w (⟨K, l.prog, w, clF 0 c_Fold 0 0 0 0 0, hasF false true false false false false false, EXX.xa K, fqE (EXX.xa K), fqE_mono (EXX.xa K)⟩ : Kc) mg 110 ["value"] [0] := (md_v (P := l.prog) (w := w) (C := (⟨K, l.prog, w, clF 0 c_Fold 0 0 0 0 0, hasF false true false false false false false, EXX.xa K, fqE (EXX.xa K), fqE_mono (EXX.xa K)⟩ : Kc)) xt_110 rfl).2
  have md_111 : MkD l.prog w (⟨K, l.prog, w, clF 0 c_Fold 0 0 0 0 0, hasF false true false false false false false, EXX.xa K, fqE (EXX.xa K), fqE_mono (EXX.xa K)⟩ : Kc) mg 111 := (md_v (P := l.prog) (w := w) (C := (⟨K, l.prog, w, clF 0 c_Fold 0 0 0 0 0, hasF false true false false false false false, EXX.xa K, fqE (EXX.xa K), fqE_mono (EXX.xa K)⟩ : Kc)) xt_111 rfl).1
  have mdK_111 : MkDK l.prog w (⟨K, l.prog, w, clF 0 c_Fold 0 0 0 0 0, hasF false true false false false false false, EXX.xa K, fqE (EXX.xa K), fqE_mono (EXX.xa K)⟩ : Kc) mg 111 ["value"] [0] := (md_v (P := l.prog) (w := w) (C := (⟨K, l.prog, w, clF 0 c_Fold 0 0 0 0 0, hasF false true false false false false false, EXX.xa K, fqE (EXX.xa K), fqE_mono (EXX.xa K)⟩ : Kc)) xt_111 rfl).2
  have md_112 : MkD l.prog w (⟨K, l.prog, w, clF 0 c_Fold 0 0 0 0 0, hasF false true false false false false false, EXX.xa K, fqE (EXX.xa K), fqE_mono (EXX.xa K)⟩ : Kc) mg 112 := (md_i (P := l.prog) (w := w) (C := (⟨K, l.prog, w, clF 0 c_Fold 0 0 0 0 0, hasF false true false false false false false, EXX.xa K, fqE (EXX.xa K), fqE_mono (EXX.xa K)⟩ : Kc)) xt_112 rfl).1
  have mdK_112 : MkDK l.prog w (⟨K, l.prog, w, clF 0 c_Fold 0 0 0 0 0, hasF false true false false false false false, EXX.xa K, fqE (EXX.xa K), fqE_mono (EXX.xa K)⟩ : Kc) mg 112 ["index"] [0] := (md_i (P := l.prog) (w := w) (C := (⟨K, l.prog, w, clF 0 c_Fold 0 0 0 0 0, hasF false true false false false false false, EXX.xa K, fqE (EXX.xa K), fqE_mono (EXX.xa K)⟩ : Kc)) xt_112 rfl).2
  have md_113 : MkD l.prog w (⟨K, l.prog, w, clF 0 c_Fold 0 0 0 0 0, hasF false true false false false false false, EXX.xa K, fqE (EXX.xa K), fqE_mono (EXX.xa K)⟩ : Kc) mg 113 := (md_i (P := l.prog) (w := w) (C := (⟨K, l.prog, w, clF 0 c_Fold 0 0 0 0 0, hasF false true false false false false false, EXX.xa K, fqE (EXX.xa K), fqE_mono (EXX.xa K)⟩ : Kc)) xt_113 rfl).1
  have mdK_113 : MkDK l.prog w (⟨K, l.prog, w, clF 0 c_Fold 0 0 0 0 0, hasF false true false false false false false, EXX.xa K, fqE (EXX.xa K), fqE_mono (EXX.xa K)⟩ : Kc) mg 113 ["index"] [0] := (md_i (P := l.prog) (w := w) (C := (⟨K, l.prog, w, clF 0 c_Fold 0 0 0 0 0, hasF false true false false false false false, EXX.xa K, fqE (EXX.xa K), fqE_mono (EXX.xa K)⟩ : Kc)) xt_113 rfl).2
  have md_114 : MkD l.prog w (⟨K, l.prog, w, clF 0 c_Fold 0 0 0 0 0, hasF false true false false false false false, EXX.xa K, fqE (EXX.xa K), fqE_mono (EXX.xa K)⟩ : Kc) mg 114 := (md_v (P := l.prog) (w := w) (C := (⟨K, l.prog, w, clF 0 c_Fold 0 0 0 0 0, hasF false true false false false false false, EXX.xa K, fqE (EXX.xa K), fqE_mono (EXX.xa K)⟩ : Kc)) xt_114 rfl).1
  have mdK_114 : MkDK l.prog w (⟨K, l.prog, w, clF 0 c_Fold 0 0 0 0 0, hasF false true false false false false false, EXX.xa K, fqE (EXX.xa K), fqE_mono (EXX.xa K)⟩ : Kc) mg 114 ["value"] [0] := (md_v (P := l.prog) (w := w) (C := (⟨K, l.prog, w, clF 0 c_Fold 0 0 0 0 0, hasF false true false false false false false, EXX.xa K, fqE (EXX.xa K), fqE_mono (EXX.xa K)⟩ : Kc)) xt_114 rfl).2
  have md_115 : MkD l.prog w (⟨K, l.prog, w, clF 0 c_Fold 0 0 0 0 0, hasF false true false false false false false, EXX.xa K, fqE (EXX.xa K), fqE_mono (EXX.xa K)⟩ : Kc) mg 115 := (md_v (P := l.prog) (w := w) (C := (⟨K, l.prog, w, clF 0 c_Fold 0 0 0 0 0, hasF false true false false false false false, EXX.xa K, fqE (EXX.xa K), fqE_mono (EXX.xa K)⟩ : Kc)) xt_115 rfl).1
  have mdK_115 : MkDK l.prog w (⟨K, l.prog, w, clF 0 c_Fold 0 0 0 0 0, hasF false true false false false false false, EXX.xa K, fqE (EXX.xa K), fqE_mono (EXX.xa K)⟩ : Kc) mg 115 ["value"] [0] := (md_v (P := l.prog) (w := w) (C := (⟨K, l.prog, w, clF 0 c_Fold 0 0 0 0 0, hasF false true false false false false false, EXX.xa K, fqE (EXX.xa K), fqE_mono (EXX.xa K)⟩ : Kc)) xt_115 rfl).2
  have md_116 : MkD l.prog w (⟨K, l.prog, w, clF 0 c_Fold 0 0 0 0 0, hasF false true false false false false false, EXX.xa K, fqE (EXX.xa K), fqE_mono (EXX.xa K)⟩ : Kc) mg 116 := (md_v (P := l.prog) (w := w) (C := (⟨K, l.prog, w, clF 0 c_Fold 0 0 0 0 0, hasF false true false false false false false, EXX.xa K, fqE (EXX.xa K), fqE_mono (EXX.xa K)⟩ : Kc)) xt_116 rfl).1
  have mdK_116 : MkDK l.prog w (⟨K, l.prog, w, clF 0 c_Fold 0 0 0 0 0, hasF false true false false false false false, EXX.xa K, fqE (EXX.xa K), fqE_mono (EXX.xa K)⟩ : Kc) mg 116 ["value"] [0] := (md_v (P := l.prog) (w := w) (C := (⟨K, l.prog, w, clF 0 c_Fold 0 0 0 0 0, hasF false true false false false false false, EXX.xa K, fqE (EXX.xa K), fqE_mono (EXX.xa K)⟩ : Kc)) xt_116 rfl).2
  have md_117 : MkD l.prog w (⟨K, l.prog, w, clF 0 c_Fold 0 0 0 0 0, hasF false true false false false false false, EXX.xa K, fqE (EXX.xa K), fqE_mono (EXX.xa K)⟩ : Kc) mg 117 := (md_v (P := l.prog) (w := w) (C := (⟨K, l.prog, w, clF 0 c_Fold 0 0 0 0 0, hasF false true false false false false false, EXX.xa K, fqE (EXX.xa K), fqE_mono (EXX.xa K)⟩ : Kc)) xt_117 rfl).1
  have mdK_117 : MkDK l.prog w (⟨K, l.prog, w, clF 0 c_Fold 0 0 0 0 0, hasF false true false false false false false, EXX.xa K, fqE (EXX.xa K), fqE_mono (EXX.xa K)⟩ : Kc) mg 117 ["value"] [0] := (md_v (P := l.prog) (w := w) (C := (⟨K, l.prog, w, clF 0 c_Fold 0 0 0 0 0, hasF false true false false false false false, EXX.xa K, fqE (EXX.xa K), fqE_mono (EXX.xa K)⟩ : Kc)) xt_117 rfl).2
  have md_118 : MkD l.prog w (⟨K, l.prog, w, clF 0 c_Fold 0 0 0 0 0, hasF false true false false false false false, EXX.xa K, fqE (EXX.xa K), fqE_mono (EXX.xa K)⟩ : Kc) mg 118 := (md_v (P := l.prog) (w := w) (C := (⟨K, l.prog, w, clF 0 c_Fold 0 0 0 0 0, hasF false true false false false false false, EXX.xa K, fqE (EXX.xa K), fqE_mono (EXX.xa K)⟩ : Kc)) xt_118 rfl).1
  have mdK_118 : MkDK l.prog w (⟨K, l.prog, w, clF 0 c_Fold 0 0 0 0 0, hasF false true false false false false false, EXX.xa K, fqE (EXX.xa K), fqE_mono (EXX.xa K)⟩ : Kc) mg 118 ["value"] [0] := (md_v (P := l.prog) (w := w) (C := (⟨K, l.prog, w, clF 0 c_Fold 0 0 0 0 0, hasF false true false false false false false, EXX.xa K, fqE (EXX.xa K), fqE_mono (EXX.xa K)⟩ : Kc)) xt_118 rfl).2
  have md_119 : MkD l.prog w (⟨K, l.prog, w, clF 0 c_Fold 0 0 0 0 0, hasF false true false false false false false, EXX.xa K, fqE (EXX.xa K), fqE_mono (EXX.xa K)⟩ : Kc) mg 119 := (md_g (P := l.prog) (w := w) (C := (⟨K, l.prog, w, clF 0 c_Fold 0 0 0 0 0, hasF false true false false false false false, EXX.xa K, fqE (EXX.xa K), fqE_mono (EXX.xa K)⟩ : Kc)) xt_119 rfl).1
  have mdK_119 : MkDK l.prog w (⟨K, l.prog, w, clF 0 c_Fold 0 0 0 0 0, hasF false true false false false false false, EXX.xa K, fqE (EXX.xa K), fqE_mono (EXX.xa K)⟩ : Kc) mg 119 ["given"] [0] := (md_g (P := l.prog) (w := w) (C := (⟨K, l.prog, w, clF 0 c_Fold 0 0 0 0 0, hasF false true false false false false false, EXX.xa K, fqE (EXX.xa K), fqE_mono (EXX.xa K)⟩ : Kc)) xt_119 rfl).2
  have md_122 : MkD l.prog w (⟨K, l.prog, w, clF 0 c_Fold 0 0 0 0 0, hasF false true false false false false false, EXX.xa K, fqE (EXX.xa K), fqE_mono (EXX.xa K)⟩ : Kc) mg 122 := (md_r (P := l.prog) (w := w) (C := (⟨K, l.prog, w, clF 0 c_Fold 0 0 0 0 0, hasF false true false false false false false, EXX.xa K, fqE (EXX.xa K), fqE_mono (EXX.xa K)⟩ : Kc)) xt_122 rfl).1
  have mdK_122 : MkDK l.prog w (⟨K, l.prog, w, clF 0 c_Fold 0 0 0 0 0, hasF false true false false false false false, EXX.xa K, fqE (EXX.xa K), fqE_mono (EXX.xa K)⟩ : Kc) mg 122 ["shown", "deed"] [1, 0] := (md_r (P := l.prog) (w := w) (C := (⟨K, l.prog, w, clF 0 c_Fold 0 0 0 0 0, hasF false true false false false false false, EXX.xa K, fqE (EXX.xa K), fqE_mono (EXX.xa K)⟩ : Kc)) xt_122 rfl).2
  have md_123 : MkD l.prog w (⟨K, l.prog, w, clF 0 c_Fold 0 0 0 0 0, hasF false true false false false false false, EXX.xa K, fqE (EXX.xa K), fqE_mono (EXX.xa K)⟩ : Kc) mg 123 := (md_l (P := l.prog) (w := w) (C := (⟨K, l.prog, w, clF 0 c_Fold 0 0 0 0 0, hasF false true false false false false false, EXX.xa K, fqE (EXX.xa K), fqE_mono (EXX.xa K)⟩ : Kc)) xt_123 rfl).1
  have mdK_123 : MkDK l.prog w (⟨K, l.prog, w, clF 0 c_Fold 0 0 0 0 0, hasF false true false false false false false, EXX.xa K, fqE (EXX.xa K), fqE_mono (EXX.xa K)⟩ : Kc) mg 123 ["limit"] [0] := (md_l (P := l.prog) (w := w) (C := (⟨K, l.prog, w, clF 0 c_Fold 0 0 0 0 0, hasF false true false false false false false, EXX.xa K, fqE (EXX.xa K), fqE_mono (EXX.xa K)⟩ : Kc)) xt_123 rfl).2
  have t_Ratio_str : (⟨K, l.prog, w, clF 0 c_Fold 0 0 0 0 0, hasF false true false false false false false, EXX.xa K, fqE (EXX.xa K), fqE_mono (EXX.xa K)⟩ : Kc).has 0 = true → Met l.prog w (⟨K, l.prog, w, clF 0 c_Fold 0 0 0 0 0, hasF false true false false false false false, EXX.xa K, fqE (EXX.xa K), fqE_mono (EXX.xa K)⟩ : Kc) mg base 1 0 "__str__" (spF (⟨K, l.prog, w, clF 0 c_Fold 0 0 0 0 0, hasF false true false false false false false, EXX.xa K, fqE (EXX.xa K), fqE_mono (EXX.xa K)⟩ : Kc) (l1 Ratio_str)) := fun h => absurd (show false = true from h) Bool.false_ne_true
  have t_Raisin_str : (⟨K, l.prog, w, clF 0 c_Fold 0 0 0 0 0, hasF false true false false false false false, EXX.xa K, fqE (EXX.xa K), fqE_mono (EXX.xa K)⟩ : Kc).has 2 = true → Met l.prog w (⟨K, l.prog, w, clF 0 c_Fold 0 0 0 0 0, hasF false true false false false false false, EXX.xa K, fqE (EXX.xa K), fqE_mono (EXX.xa K)⟩ : Kc) mg base 4 2 "__str__" (spF (⟨K, l.prog, w, clF 0 c_Fold 0 0 0 0 0, hasF false true false false false false false, EXX.xa K, fqE (EXX.xa K), fqE_mono (EXX.xa K)⟩ : Kc) (l1 Raisin_str)) := fun h => absurd (show false = true from h) Bool.false_ne_true
  have t_Watch_len : (⟨K, l.prog, w, clF 0 c_Fold 0 0 0 0 0, hasF false true false false false false false, EXX.xa K, fqE (EXX.xa K), fqE_mono (EXX.xa K)⟩ : Kc).has 4 = true → Met l.prog w (⟨K, l.prog, w, clF 0 c_Fold 0 0 0 0 0, hasF false true false false false false false, EXX.xa K, fqE (EXX.xa K), fqE_mono (EXX.xa K)⟩ : Kc) mg base 1 4 "__len__" (spF (⟨K, l.prog, w, clF 0 c_Fold 0 0 0 0 0, hasF false true false false false false false, EXX.xa K, fqE (EXX.xa K), fqE_mono (EXX.xa K)⟩ : Kc) (l1 Watch_len)) := fun h => absurd (show false = true from h) Bool.false_ne_true
  have t_Ratio_eq : (⟨K, l.prog, w, clF 0 c_Fold 0 0 0 0 0, hasF false true false false false false false, EXX.xa K, fqE (EXX.xa K), fqE_mono (EXX.xa K)⟩ : Kc).has 0 = true → Met l.prog w (⟨K, l.prog, w, clF 0 c_Fold 0 0 0 0 0, hasF false true false false false false false, EXX.xa K, fqE (EXX.xa K), fqE_mono (EXX.xa K)⟩ : Kc) mg base 5 0 "__eq__" (spF (⟨K, l.prog, w, clF 0 c_Fold 0 0 0 0 0, hasF false true false false false false false, EXX.xa K, fqE (EXX.xa K), fqE_mono (EXX.xa K)⟩ : Kc) (l2 Ratio_eq)) := fun h => absurd (show false = true from h) Bool.false_ne_true
  have t_Raisin_eq : (⟨K, l.prog, w, clF 0 c_Fold 0 0 0 0 0, hasF false true false false false false false, EXX.xa K, fqE (EXX.xa K), fqE_mono (EXX.xa K)⟩ : Kc).has 2 = true → Met l.prog w (⟨K, l.prog, w, clF 0 c_Fold 0 0 0 0 0, hasF false true false false false false false, EXX.xa K, fqE (EXX.xa K), fqE_mono (EXX.xa K)⟩ : Kc) mg base 7 2 "__eq__" (spF (⟨K, l.prog, w, clF 0 c_Fold 0 0 0 0 0, hasF false true false false false false false, EXX.xa K, fqE (EXX.xa K), fqE_mono (EXX.xa K)⟩ : Kc) (l2 Raisin_eq)) := fun h => absurd (show false = true from h) Bool.false_ne_true
  have t_Watch_eq : (⟨K, l.prog, w, clF 0 c_Fold 0 0 0 0 0, hasF false true false false false false false, EXX.xa K, fqE (EXX.xa K), fqE_mono (EXX.xa K)⟩ : Kc).has 4 = true → Met l.prog w (⟨K, l.prog, w, clF 0 c_Fold 0 0 0 0 0, hasF false true false false false false false, EXX.xa K, fqE (EXX.xa K), fqE_mono (EXX.xa K)⟩ : Kc) mg base 2 4 "__eq__" (spF (⟨K, l.prog, w, clF 0 c_Fold 0 0 0 0 0, hasF false true false false false false false, EXX.xa K, fqE (EXX.xa K), fqE_mono (EXX.xa K)⟩ : Kc) (l2 Watch_eq)) := fun h => absurd (show false = true from h) Bool.false_ne_true
  have t_Fold_eq : (⟨K, l.prog, w, clF 0 c_Fold 0 0 0 0 0, hasF false true false false false false false, EXX.xa K, fqE (EXX.xa K), fqE_mono (EXX.xa K)⟩ : Kc).has 1 = true → Met l.prog w (⟨K, l.prog, w, clF 0 c_Fold 0 0 0 0 0, hasF false true false false false false false, EXX.xa K, fqE (EXX.xa K), fqE_mono (EXX.xa K)⟩ : Kc) mg base 1 1 "__eq__" (spF (⟨K, l.prog, w, clF 0 c_Fold 0 0 0 0 0, hasF false true false false false false false, EXX.xa K, fqE (EXX.xa K), fqE_mono (EXX.xa K)⟩ : Kc) (l2 Fold_eq)) := fun _ => ⟨_, _, _, (ok_Fold_eq (C := (⟨K, l.prog, w, clF 0 c_Fold 0 0 0 0 0, hasF false true false false false false false, EXX.xa K, fqE (EXX.xa K), fqE_mono (EXX.xa K)⟩ : Kc)) (mg := mg) (base := base) F_Fold_eq T h_Fold), cl_Fold, me_Fold_eq, b_Fold_eq⟩
  have c_cell_text := cal_mk (C := (⟨K, l.prog, w, clF 0 c_Fold 0 0 0 0 0, hasF false true false false false false false, EXX.xa K, fqE (EXX.xa K), fqE_mono (EXX.xa K)⟩ : Kc)) (ok_f_cell_text (C := (⟨K, l.prog, w, clF 0 c_Fold 0 0 0 0 0, hasF false true false false false false false, EXX.xa K, fqE (EXX.xa K), fqE_mono (EXX.xa K)⟩ : Kc)) (mg := mg) (base := base) F_cell_text T ) F_cell_text b_cell_text g_cell_text
  have t_Fold_str : (⟨K, l.prog, w, clF 0 c_Fold 0 0 0 0 0, hasF false true false false false false false, EXX.xa K, fqE (EXX.xa K), fqE_mono (EXX.xa K)⟩ : Kc).has 1 = true → Met l.prog w (⟨K, l.prog, w, clF 0 c_Fold 0 0 0 0 0, hasF false true false false false false false, EXX.xa K, fqE (EXX.xa K), fqE_mono (EXX.xa K)⟩ : Kc) mg base 2 1 "__str__" (spF (⟨K, l.prog, w, clF 0 c_Fold 0 0 0 0 0, hasF false true false false false false false, EXX.xa K, fqE (EXX.xa K), fqE_mono (EXX.xa K)⟩ : Kc) (l1 Fold_str)) := fun _ => ⟨_, _, _, (ok_Fold_str (C := (⟨K, l.prog, w, clF 0 c_Fold 0 0 0 0 0, hasF false true false false false false false, EXX.xa K, fqE (EXX.xa K), fqE_mono (EXX.xa K)⟩ : Kc)) (mg := mg) (base := base) F_Fold_str T c_cell_text), cl_Fold, me_Fold_str, b_Fold_str⟩
  have c_are_figures := cal_mk (C := (⟨K, l.prog, w, clF 0 c_Fold 0 0 0 0 0, hasF false true false false false false false, EXX.xa K, fqE (EXX.xa K), fqE_mono (EXX.xa K)⟩ : Kc)) (ok_f_are_figures (C := (⟨K, l.prog, w, clF 0 c_Fold 0 0 0 0 0, hasF false true false false false false false, EXX.xa K, fqE (EXX.xa K), fqE_mono (EXX.xa K)⟩ : Kc)) (mg := mg) (base := base) F_are_figures T ) F_are_figures b_are_figures g_are_figures
  have c_cell_in := cal_mk (C := (⟨K, l.prog, w, clF 0 c_Fold 0 0 0 0 0, hasF false true false false false false false, EXX.xa K, fqE (EXX.xa K), fqE_mono (EXX.xa K)⟩ : Kc)) (ok_f_cell_in (C := (⟨K, l.prog, w, clF 0 c_Fold 0 0 0 0 0, hasF false true false false false false false, EXX.xa K, fqE (EXX.xa K), fqE_mono (EXX.xa K)⟩ : Kc)) (mg := mg) (base := base) F_cell_in T c_are_figures) F_cell_in b_cell_in g_cell_in
  have c_is_integer := cal_mk (C := (⟨K, l.prog, w, clF 0 c_Fold 0 0 0 0 0, hasF false true false false false false false, EXX.xa K, fqE (EXX.xa K), fqE_mono (EXX.xa K)⟩ : Kc)) (ok_f_is_integer (C := (⟨K, l.prog, w, clF 0 c_Fold 0 0 0 0 0, hasF false true false false false false false, EXX.xa K, fqE (EXX.xa K), fqE_mono (EXX.xa K)⟩ : Kc)) (mg := mg) (base := base) F_is_integer T ) F_is_integer b_is_integer g_is_integer
  have c_is_between := cal_mk (C := (⟨K, l.prog, w, clF 0 c_Fold 0 0 0 0 0, hasF false true false false false false false, EXX.xa K, fqE (EXX.xa K), fqE_mono (EXX.xa K)⟩ : Kc)) (ok_f_is_between (C := (⟨K, l.prog, w, clF 0 c_Fold 0 0 0 0 0, hasF false true false false false false false, EXX.xa K, fqE (EXX.xa K), fqE_mono (EXX.xa K)⟩ : Kc)) (mg := mg) (base := base) F_is_between T c_is_integer) F_is_between b_is_between g_is_between
  have c_is_cell := cal_mk (C := (⟨K, l.prog, w, clF 0 c_Fold 0 0 0 0 0, hasF false true false false false false false, EXX.xa K, fqE (EXX.xa K), fqE_mono (EXX.xa K)⟩ : Kc)) (ok_f_is_cell (C := (⟨K, l.prog, w, clF 0 c_Fold 0 0 0 0 0, hasF false true false false false false false, EXX.xa K, fqE (EXX.xa K), fqE_mono (EXX.xa K)⟩ : Kc)) (mg := mg) (base := base) F_is_cell T c_is_between) F_is_cell b_is_cell g_is_cell
  have c_check_cells := cal_mk (C := (⟨K, l.prog, w, clF 0 c_Fold 0 0 0 0 0, hasF false true false false false false false, EXX.xa K, fqE (EXX.xa K), fqE_mono (EXX.xa K)⟩ : Kc)) (ok_f_check_cells (C := (⟨K, l.prog, w, clF 0 c_Fold 0 0 0 0 0, hasF false true false false false false false, EXX.xa K, fqE (EXX.xa K), fqE_mono (EXX.xa K)⟩ : Kc)) (mg := mg) (base := base) F_check_cells T g_MOST_CELLS c_is_cell) F_check_cells b_check_cells g_check_cells
  have oI_Fold := (ok_Fold_init (C := (⟨K, l.prog, w, clF 0 c_Fold 0 0 0 0 0, hasF false true false false false false false, EXX.xa K, fqE (EXX.xa K), fqE_mono (EXX.xa K)⟩ : Kc)) (mg := mg) (base := base) F_Fold_init T c_check_cells h_Fold)
  have m_Fold_1 : Mak l.prog w (⟨K, l.prog, w, clF 0 c_Fold 0 0 0 0 0, hasF false true false false false false false, EXX.xa K, fqE (EXX.xa K), fqE_mono (EXX.xa K)⟩ : Kc) mg base 5 "Fold" 1 (fun ds fs => l1 Fold_init ds = .ok fs) [] := ⟨_, _, _, [], [], oI_Fold, gc_Fold, M_Fold, b_Fold_init, .nil, fun _ => .nil, rfl⟩
  have st_Fold_read : Sta l.prog w (⟨K, l.prog, w, clF 0 c_Fold 0 0 0 0 0, hasF false true false false false false false, EXX.xa K, fqE (EXX.xa K), fqE_mono (EXX.xa K)⟩ : Kc) mg base 7 1 "read" (spF (⟨K, l.prog, w, clF 0 c_Fold 0 0 0 0 0, hasF false true false false false false false, EXX.xa K, fqE (EXX.xa K), fqE_mono (EXX.xa K)⟩ : Kc) (l1 Fold_read)) := ⟨_, _, _, (ok_Fold_read (C := (⟨K, l.prog, w, clF 0 c_Fold 0 0 0 0 0, hasF false true false false false false false, EXX.xa K, fqE (EXX.xa K), fqE_mono (EXX.xa K)⟩ : Kc)) (mg := mg) (base := base) F_Fold_read T c_cell_in m_Fold_1 t_Ratio_str t_Fold_str t_Raisin_str), gc_Fold, sm_Fold_read, b_Fold_read⟩
  have c_baker := cal_mk (C := (⟨K, l.prog, w, clF 0 c_Fold 0 0 0 0 0, hasF false true false false false false false, EXX.xa K, fqE (EXX.xa K), fqE_mono (EXX.xa K)⟩ : Kc)) (ok_f_baker (C := (⟨K, l.prog, w, clF 0 c_Fold 0 0 0 0 0, hasF false true false false false false false, EXX.xa K, fqE (EXX.xa K), fqE_mono (EXX.xa K)⟩ : Kc)) (mg := mg) (base := base) F_baker T st_Fold_read) F_baker b_baker g_baker
  have c_tent := cal_mk (C := (⟨K, l.prog, w, clF 0 c_Fold 0 0 0 0 0, hasF false true false false false false false, EXX.xa K, fqE (EXX.xa K), fqE_mono (EXX.xa K)⟩ : Kc)) (ok_f_tent (C := (⟨K, l.prog, w, clF 0 c_Fold 0 0 0 0 0, hasF false true false false false false false, EXX.xa K, fqE (EXX.xa K), fqE_mono (EXX.xa K)⟩ : Kc)) (mg := mg) (base := base) F_tent T st_Fold_read) F_tent b_tent g_tent
  have c_golden := cal_mk (C := (⟨K, l.prog, w, clF 0 c_Fold 0 0 0 0 0, hasF false true false false false false false, EXX.xa K, fqE (EXX.xa K), fqE_mono (EXX.xa K)⟩ : Kc)) (ok_f_golden (C := (⟨K, l.prog, w, clF 0 c_Fold 0 0 0 0 0, hasF false true false false false false false, EXX.xa K, fqE (EXX.xa K), fqE_mono (EXX.xa K)⟩ : Kc)) (mg := mg) (base := base) F_golden T st_Fold_read) F_golden b_golden g_golden
  have c_roller := cal_mk (C := (⟨K, l.prog, w, clF 0 c_Fold 0 0 0 0 0, hasF false true false false false false false, EXX.xa K, fqE (EXX.xa K), fqE_mono (EXX.xa K)⟩ : Kc)) (ok_f_roller (C := (⟨K, l.prog, w, clF 0 c_Fold 0 0 0 0 0, hasF false true false false false false false, EXX.xa K, fqE (EXX.xa K), fqE_mono (EXX.xa K)⟩ : Kc)) (mg := mg) (base := base) F_roller T st_Fold_read) F_roller b_roller g_roller
  have t_Fold_len : (⟨K, l.prog, w, clF 0 c_Fold 0 0 0 0 0, hasF false true false false false false false, EXX.xa K, fqE (EXX.xa K), fqE_mono (EXX.xa K)⟩ : Kc).has 1 = true → Met l.prog w (⟨K, l.prog, w, clF 0 c_Fold 0 0 0 0 0, hasF false true false false false false false, EXX.xa K, fqE (EXX.xa K), fqE_mono (EXX.xa K)⟩ : Kc) mg base 1 1 "__len__" (spF (⟨K, l.prog, w, clF 0 c_Fold 0 0 0 0 0, hasF false true false false false false false, EXX.xa K, fqE (EXX.xa K), fqE_mono (EXX.xa K)⟩ : Kc) (l1 Fold_len)) := fun _ => ⟨_, _, _, (ok_Fold_len (C := (⟨K, l.prog, w, clF 0 c_Fold 0 0 0 0 0, hasF false true false false false false false, EXX.xa K, fqE (EXX.xa K), fqE_mono (EXX.xa K)⟩ : Kc)) (mg := mg) (base := base) F_Fold_len T ), cl_Fold, me_Fold_len, b_Fold_len⟩
  have c_law_bag := cal_mk (C := (⟨K, l.prog, w, clF 0 c_Fold 0 0 0 0 0, hasF false true false false false false false, EXX.xa K, fqE (EXX.xa K), fqE_mono (EXX.xa K)⟩ : Kc)) (ok_f_law_bag (C := (⟨K, l.prog, w, clF 0 c_Fold 0 0 0 0 0, hasF false true false false false false false, EXX.xa K, fqE (EXX.xa K), fqE_mono (EXX.xa K)⟩ : Kc)) (mg := mg) (base := base) F_law_bag T t_Fold_len t_Watch_len) F_law_bag b_law_bag g_law_bag
  have c_law_draw := cal_mk (C := (⟨K, l.prog, w, clF 0 c_Fold 0 0 0 0 0, hasF false true false false false false false, EXX.xa K, fqE (EXX.xa K), fqE_mono (EXX.xa K)⟩ : Kc)) (ok_f_law_draw (C := (⟨K, l.prog, w, clF 0 c_Fold 0 0 0 0 0, hasF false true false false false false false, EXX.xa K, fqE (EXX.xa K), fqE_mono (EXX.xa K)⟩ : Kc)) (mg := mg) (base := base) F_law_draw T ) F_law_draw b_law_draw g_law_draw
  have c_law_one := cal_mk (C := (⟨K, l.prog, w, clF 0 c_Fold 0 0 0 0 0, hasF false true false false false false false, EXX.xa K, fqE (EXX.xa K), fqE_mono (EXX.xa K)⟩ : Kc)) (ok_f_law_one (C := (⟨K, l.prog, w, clF 0 c_Fold 0 0 0 0 0, hasF false true false false false false false, EXX.xa K, fqE (EXX.xa K), fqE_mono (EXX.xa K)⟩ : Kc)) (mg := mg) (base := base) F_law_one T t_Fold_len t_Watch_len c_law_draw) F_law_one b_law_one g_law_one
  have c_law_values := cal_mk (C := (⟨K, l.prog, w, clF 0 c_Fold 0 0 0 0 0, hasF false true false false false false false, EXX.xa K, fqE (EXX.xa K), fqE_mono (EXX.xa K)⟩ : Kc)) (ok_f_law_values (C := (⟨K, l.prog, w, clF 0 c_Fold 0 0 0 0 0, hasF false true false false false false false, EXX.xa K, fqE (EXX.xa K), fqE_mono (EXX.xa K)⟩ : Kc)) (mg := mg) (base := base) F_law_values T vqe md_100 md_101 md_103 md_104 md_105 md_106 md_107 md_109 md_110 md_111 md_114 md_115 md_116 md_117 md_118 mdK_100 mdK_101 mdK_103 mdK_104 mdK_105 mdK_106 mdK_107 mdK_109 mdK_110 mdK_111 mdK_114 mdK_115 mdK_116 mdK_117 mdK_118) F_law_values b_law_values g_law_values
  have c_law_classes := cal_mk (C := (⟨K, l.prog, w, clF 0 c_Fold 0 0 0 0 0, hasF false true false false false false false, EXX.xa K, fqE (EXX.xa K), fqE_mono (EXX.xa K)⟩ : Kc)) (ok_f_law_classes (C := (⟨K, l.prog, w, clF 0 c_Fold 0 0 0 0 0, hasF false true false false false false false, EXX.xa K, fqE (EXX.xa K), fqE_mono (EXX.xa K)⟩ : Kc)) (mg := mg) (base := base) F_law_classes T vqe te) F_law_classes b_law_classes g_law_classes
  have c_law_is := cal_mk (C := (⟨K, l.prog, w, clF 0 c_Fold 0 0 0 0 0, hasF false true false false false false false, EXX.xa K, fqE (EXX.xa K), fqE_mono (EXX.xa K)⟩ : Kc)) (ok_f_law_is (C := (⟨K, l.prog, w, clF 0 c_Fold 0 0 0 0 0, hasF false true false false false false false, EXX.xa K, fqE (EXX.xa K), fqE_mono (EXX.xa K)⟩ : Kc)) (mg := mg) (base := base) F_law_is T c_law_classes vqe te) F_law_is b_law_is g_law_is
  have c_law_indexes := cal_mk (C := (⟨K, l.prog, w, clF 0 c_Fold 0 0 0 0 0, hasF false true false false false false false, EXX.xa K, fqE (EXX.xa K), fqE_mono (EXX.xa K)⟩ : Kc)) (ok_f_law_indexes (C := (⟨K, l.prog, w, clF 0 c_Fold 0 0 0 0 0, hasF false true false false false false false, EXX.xa K, fqE (EXX.xa K), fqE_mono (EXX.xa K)⟩ : Kc)) (mg := mg) (base := base) F_law_indexes T vqe md_102 md_108 md_112 md_113 mdK_102 mdK_108 mdK_112 mdK_113) F_law_indexes b_law_indexes g_law_indexes
  have c_law_others_right := calG_mk (C := (⟨K, l.prog, w, clF 0 c_Fold 0 0 0 0 0, hasF false true false false false false false, EXX.xa K, fqE (EXX.xa K), fqE_mono (EXX.xa K)⟩ : Kc)) (ok_f_law_others_right (C := (⟨K, l.prog, w, clF 0 c_Fold 0 0 0 0 0, hasF false true false false false false false, EXX.xa K, fqE (EXX.xa K), fqE_mono (EXX.xa K)⟩ : Kc)) (mg := mg) (base := base) F_law_others_right T vqe md_122 mdK_122 te c_law_is md_119 mdK_119 md_123 mdK_123 md0_120 md0_121) F_law_others_right b_law_others_right g_law_others_right
  have c_law_right := calG_mk (C := (⟨K, l.prog, w, clF 0 c_Fold 0 0 0 0 0, hasF false true false false false false false, EXX.xa K, fqE (EXX.xa K), fqE_mono (EXX.xa K)⟩ : Kc)) (ok_f_law_right (C := (⟨K, l.prog, w, clF 0 c_Fold 0 0 0 0 0, hasF false true false false false false false, EXX.xa K, fqE (EXX.xa K), fqE_mono (EXX.xa K)⟩ : Kc)) (mg := mg) (base := base) F_law_right T c_law_one c_law_values vqe te c_law_is c_law_indexes c_law_others_right) F_law_right b_law_right g_law_right
  exact law_ofG (C := (⟨K, l.prog, w, clF 0 c_Fold 0 0 0 0 0, hasF false true false false false false false, EXX.xa K, fqE (EXX.xa K), fqE_mono (EXX.xa K)⟩ : Kc)) (ok_f_law (C := (⟨K, l.prog, w, clF 0 c_Fold 0 0 0 0 0, hasF false true false false false false false, EXX.xa K, fqE (EXX.xa K), fqE_mono (EXX.xa K)⟩ : Kc)) (mg := mg) (base := base) F_law T g_MOST_CELLS g_MOST_STANDS g_MOST_PLACES g_MOST_ROW g_MOST_TURNS g_MOST_REST g_MOST_LISTED g_MOST_GUARDS t_Ratio_eq t_Fold_eq t_Raisin_eq t_Watch_eq g_MOST_DEEDS t_Ratio_str t_Fold_str t_Raisin_str c_baker c_tent c_golden c_roller t_Fold_len t_Watch_len c_law_bag c_law_right) fun is h => SL.K22.main is h
def r_Fold_eq : EX.DR := ⟨fun K => (He.ma K (He.ga K "Fold") "__eq__"), "__eq__", "Fold.__eq__", defArgs s_Fold_eq, defBody s_Fold_eq, defScope s_Fold_eq, []⟩
def r_cell_text : EX.DR := ⟨fun K => (He.ga K "cell_text"), "cell_text", "cell_text", defArgs s_f_cell_text, defBody s_f_cell_text, defScope s_f_cell_text, []⟩
def r_Fold_str : EX.DR := ⟨fun K => (He.ma K (He.ga K "Fold") "__str__"), "__str__", "Fold.__str__", defArgs s_Fold_str, defBody s_Fold_str, defScope s_Fold_str, []⟩
def r_are_figures : EX.DR := ⟨fun K => (He.ga K "are_figures"), "are_figures", "are_figures", defArgs s_f_are_figures, defBody s_f_are_figures, defScope s_f_are_figures, []⟩
def r_cell_in : EX.DR := ⟨fun K => (He.ga K "cell_in"), "cell_in", "cell_in", defArgs s_f_cell_in, defBody s_f_cell_in, defScope s_f_cell_in, []⟩
def r_is_integer : EX.DR := ⟨fun K => (He.ga K "is_integer"), "is_integer", "is_integer", defArgs s_f_is_integer, defBody s_f_is_integer, defScope s_f_is_integer, []⟩
def r_is_between : EX.DR := ⟨fun K => (He.ga K "is_between"), "is_between", "is_between", defArgs s_f_is_between, defBody s_f_is_between, defScope s_f_is_between, []⟩
def r_is_cell : EX.DR := ⟨fun K => (He.ga K "is_cell"), "is_cell", "is_cell", defArgs s_f_is_cell, defBody s_f_is_cell, defScope s_f_is_cell, []⟩
def r_check_cells : EX.DR := ⟨fun K => (He.ga K "check_cells"), "check_cells", "check_cells", defArgs s_f_check_cells, defBody s_f_check_cells, defScope s_f_check_cells, []⟩
def r_Fold_init : EX.DR := ⟨fun K => (He.ma K (He.ga K "Fold") "__init__"), "__init__", "Fold.__init__", defArgs s_Fold_init, defBody s_Fold_init, defScope s_Fold_init, []⟩
def r_Fold_read : EX.DR := ⟨fun K => (EX.stA K "Fold" "read"), "read", "Fold.read", defArgs s_Fold_read, defBody s_Fold_read, defScope s_Fold_read, []⟩
def r_baker : EX.DR := ⟨fun K => (He.ga K "baker"), "baker", "baker", defArgs s_f_baker, defBody s_f_baker, defScope s_f_baker, []⟩
def r_tent : EX.DR := ⟨fun K => (He.ga K "tent"), "tent", "tent", defArgs s_f_tent, defBody s_f_tent, defScope s_f_tent, []⟩
def r_golden : EX.DR := ⟨fun K => (He.ga K "golden"), "golden", "golden", defArgs s_f_golden, defBody s_f_golden, defScope s_f_golden, []⟩
def r_roller : EX.DR := ⟨fun K => (He.ga K "roller"), "roller", "roller", defArgs s_f_roller, defBody s_f_roller, defScope s_f_roller, []⟩
def r_Fold_len : EX.DR := ⟨fun K => (He.ma K (He.ga K "Fold") "__len__"), "__len__", "Fold.__len__", defArgs s_Fold_len, defBody s_Fold_len, defScope s_Fold_len, []⟩
def r_law_bag : EX.DR := ⟨fun K => (He.ga K "_law_bag"), "_law_bag", "_law_bag", defArgs s_f_law_bag, defBody s_f_law_bag, defScope s_f_law_bag, []⟩
def r_law_draw : EX.DR := ⟨fun K => (He.ga K "_law_draw"), "_law_draw", "_law_draw", defArgs s_f_law_draw, defBody s_f_law_draw, defScope s_f_law_draw, []⟩
def r_law_one : EX.DR := ⟨fun K => (He.ga K "_law_one"), "_law_one", "_law_one", defArgs s_f_law_one, defBody s_f_law_one, defScope s_f_law_one, []⟩
def r_law_values : EX.DR := ⟨fun K => (He.ga K "_law_values"), "_law_values", "_law_values", defArgs s_f_law_values, defBody s_f_law_values, defScope s_f_law_values, []⟩
def r_law_classes : EX.DR := ⟨fun K => (He.ga K "_law_classes"), "_law_classes", "_law_classes", defArgs s_f_law_classes, defBody s_f_law_classes, defScope s_f_law_classes, []⟩
def r_law_is : EX.DR := ⟨fun K => (He.ga K "_law_is"), "_law_is", "_law_is", defArgs s_f_law_is, defBody s_f_law_is, defScope s_f_law_is, []⟩
def r_law_indexes : EX.DR := ⟨fun K => (He.ga K "_law_indexes"), "_law_indexes", "_law_indexes", defArgs s_f_law_indexes, defBody s_f_law_indexes, defScope s_f_law_indexes, []⟩
def r_law_others_right : EX.DR := ⟨fun K => (He.ga K "_law_others_right"), "_law_others_right", "_law_others_right", defArgs s_f_law_others_right, defBody s_f_law_others_right, defScope s_f_law_others_right, []⟩
def r_law_right : EX.DR := ⟨fun K => (He.ga K "_law_right"), "_law_right", "_law_right", defArgs s_f_law_right, defBody s_f_law_right, defScope s_f_law_right, []⟩
def r_law : EX.DR := ⟨fun K => (He.ga K "law"), "law", "law", defArgs s_f_law, defBody s_f_law, defScope s_f_law, []⟩
def r_xi100 : EX.DR := ⟨fun K => (He.ma K (He.ga K "InvalidNumber") "__init__"), "__init__", "InvalidNumber.__init__", defArgs s_xi_100, defBody s_xi_100, defScope s_xi_100, []⟩
def r_xi101 : EX.DR := ⟨fun K => (He.ma K (He.ga K "InvalidText") "__init__"), "__init__", "InvalidText.__init__", defArgs s_xi_101, defBody s_xi_101, defScope s_xi_101, []⟩
def r_xi102 : EX.DR := ⟨fun K => (He.ma K (He.ga K "InvalidCells") "__init__"), "__init__", "InvalidCells.__init__", defArgs s_xi_102, defBody s_xi_102, defScope s_xi_102, []⟩
def r_xi103 : EX.DR := ⟨fun K => (He.ma K (He.ga K "InvalidPlace") "__init__"), "__init__", "InvalidPlace.__init__", defArgs s_xi_103, defBody s_xi_103, defScope s_xi_103, []⟩
def r_xi104 : EX.DR := ⟨fun K => (He.ma K (He.ga K "InvalidSide") "__init__"), "__init__", "InvalidSide.__init__", defArgs s_xi_104, defBody s_xi_104, defScope s_xi_104, []⟩
def r_xi105 : EX.DR := ⟨fun K => (He.ma K (He.ga K "InvalidRow") "__init__"), "__init__", "InvalidRow.__init__", defArgs s_xi_105, defBody s_xi_105, defScope s_xi_105, []⟩
def r_xi106 : EX.DR := ⟨fun K => (He.ma K (He.ga K "InvalidColours") "__init__"), "__init__", "InvalidColours.__init__", defArgs s_xi_106, defBody s_xi_106, defScope s_xi_106, []⟩
def r_xi107 : EX.DR := ⟨fun K => (He.ma K (He.ga K "InvalidLetters") "__init__"), "__init__", "InvalidLetters.__init__", defArgs s_xi_107, defBody s_xi_107, defScope s_xi_107, []⟩
def r_xi108 : EX.DR := ⟨fun K => (He.ma K (He.ga K "InvalidMoves") "__init__"), "__init__", "InvalidMoves.__init__", defArgs s_xi_108, defBody s_xi_108, defScope s_xi_108, []⟩
def r_xi109 : EX.DR := ⟨fun K => (He.ma K (He.ga K "InvalidGood") "__init__"), "__init__", "InvalidGood.__init__", defArgs s_xi_109, defBody s_xi_109, defScope s_xi_109, []⟩
def r_xi110 : EX.DR := ⟨fun K => (He.ma K (He.ga K "InvalidKind") "__init__"), "__init__", "InvalidKind.__init__", defArgs s_xi_110, defBody s_xi_110, defScope s_xi_110, []⟩
def r_xi111 : EX.DR := ⟨fun K => (He.ma K (He.ga K "InvalidAmounts") "__init__"), "__init__", "InvalidAmounts.__init__", defArgs s_xi_111, defBody s_xi_111, defScope s_xi_111, []⟩
def r_xi112 : EX.DR := ⟨fun K => (He.ma K (He.ga K "InvalidGuards") "__init__"), "__init__", "InvalidGuards.__init__", defArgs s_xi_112, defBody s_xi_112, defScope s_xi_112, []⟩
def r_xi113 : EX.DR := ⟨fun K => (He.ma K (He.ga K "InvalidDeeds") "__init__"), "__init__", "InvalidDeeds.__init__", defArgs s_xi_113, defBody s_xi_113, defScope s_xi_113, []⟩
def r_xi114 : EX.DR := ⟨fun K => (He.ma K (He.ga K "InvalidLine") "__init__"), "__init__", "InvalidLine.__init__", defArgs s_xi_114, defBody s_xi_114, defScope s_xi_114, []⟩
def r_xi115 : EX.DR := ⟨fun K => (He.ma K (He.ga K "NotAFold") "__init__"), "__init__", "NotAFold.__init__", defArgs s_xi_115, defBody s_xi_115, defScope s_xi_115, []⟩
def r_xi116 : EX.DR := ⟨fun K => (He.ma K (He.ga K "NotARaisin") "__init__"), "__init__", "NotARaisin.__init__", defArgs s_xi_116, defBody s_xi_116, defScope s_xi_116, []⟩
def r_xi117 : EX.DR := ⟨fun K => (He.ma K (He.ga K "NotAWatch") "__init__"), "__init__", "NotAWatch.__init__", defArgs s_xi_117, defBody s_xi_117, defScope s_xi_117, []⟩
def r_xi118 : EX.DR := ⟨fun K => (He.ma K (He.ga K "Outside") "__init__"), "__init__", "Outside.__init__", defArgs s_xi_118, defBody s_xi_118, defScope s_xi_118, []⟩
def r_xi119 : EX.DR := ⟨fun K => (He.ma K (He.ga K "OtherColours") "__init__"), "__init__", "OtherColours.__init__", defArgs s_xi_119, defBody s_xi_119, defScope s_xi_119, []⟩
def r_xi122 : EX.DR := ⟨fun K => (He.ma K (He.ga K "Refused") "__init__"), "__init__", "Refused.__init__", defArgs s_xi_122, defBody s_xi_122, defScope s_xi_122, []⟩
def r_xi123 : EX.DR := ⟨fun K => (He.ma K (He.ga K "TooMany") "__init__"), "__init__", "TooMany.__init__", defArgs s_xi_123, defBody s_xi_123, defScope s_xi_123, []⟩
def rs : List EX.DR := [r_Fold_eq, r_cell_text, r_Fold_str, r_are_figures, r_cell_in, r_is_integer, r_is_between, r_is_cell, r_check_cells, r_Fold_init, r_Fold_read, r_baker, r_tent, r_golden, r_roller, r_Fold_len, r_law_bag, r_law_draw, r_law_one, r_law_values, r_law_classes, r_law_is, r_law_indexes, r_law_others_right, r_law_right, r_law, r_xi100, r_xi101, r_xi102, r_xi103, r_xi104, r_xi105, r_xi106, r_xi107, r_xi108, r_xi109, r_xi110, r_xi111, r_xi112, r_xi113, r_xi114, r_xi115, r_xi116, r_xi117, r_xi118, r_xi119, r_xi122, r_xi123]
def exs (K : PySem.W.Frag) : List Bool := [EX.getB K,
  He.Fa.ok K (He.Fa.glo "Fold"),
  He.Fa.ok K (He.Fa.cls "Fold"),
  EX.insB K (He.ga K "Fold"),
  He.Fa.ok K (He.Fa.meth "Fold" "__eq__"),
  He.Fa.ok K (He.Fa.glo "cell_text"),
  He.Fa.ok K (He.Fa.meth "Fold" "__str__"),
  He.Fa.ok K (He.Fa.glo "are_figures"),
  He.Fa.ok K (He.Fa.glo "cell_in"),
  He.Fa.ok K (He.Fa.glo "is_integer"),
  He.Fa.ok K (He.Fa.glo "is_between"),
  He.Fa.ok K (He.Fa.glo "is_cell"),
  He.Fa.ok K (He.Fa.glo "check_cells"),
  He.Fa.ok K (He.Fa.meth "Fold" "__init__"),
  He.Fa.ok K (He.Fa.mkr "Fold"),
  EX.staB K "Fold" "read",
  EX.readB K (He.ga K "Fold"),
  He.Fa.ok K (He.Fa.glo "baker"),
  He.Fa.ok K (He.Fa.glo "tent"),
  He.Fa.ok K (He.Fa.glo "golden"),
  He.Fa.ok K (He.Fa.glo "roller"),
  He.Fa.ok K (He.Fa.meth "Fold" "__len__"),
  He.Fa.ok K (He.Fa.glo "_law_bag"),
  He.Fa.ok K (He.Fa.glo "_law_draw"),
  He.Fa.ok K (He.Fa.glo "_law_one"),
  He.Fa.ok K (He.Fa.glo "_law_values"),
  He.Fa.ok K (He.Fa.glo "_law_classes"),
  He.Fa.ok K (He.Fa.glo "_law_is"),
  He.Fa.ok K (He.Fa.glo "_law_indexes"),
  He.Fa.ok K (He.Fa.glo "_law_others_right"),
  He.Fa.ok K (He.Fa.glo "_law_right"),
  He.Fa.ok K (He.Fa.glo "law"),
  EXX.txB K LX LN,
  He.Fa.ok K (He.Fa.glo "InvalidNumber"),
  EXX.xvB K (He.ga K "InvalidNumber") (He.ma K (He.ga K "InvalidNumber") "__init__") "value",
  He.Fa.ok K (He.Fa.glo "InvalidText"),
  EXX.xvB K (He.ga K "InvalidText") (He.ma K (He.ga K "InvalidText") "__init__") "value",
  He.Fa.ok K (He.Fa.glo "InvalidCells"),
  EXX.xvB K (He.ga K "InvalidCells") (He.ma K (He.ga K "InvalidCells") "__init__") "index",
  He.Fa.ok K (He.Fa.glo "InvalidPlace"),
  EXX.xvB K (He.ga K "InvalidPlace") (He.ma K (He.ga K "InvalidPlace") "__init__") "value",
  He.Fa.ok K (He.Fa.glo "InvalidSide"),
  EXX.xvB K (He.ga K "InvalidSide") (He.ma K (He.ga K "InvalidSide") "__init__") "value",
  He.Fa.ok K (He.Fa.glo "InvalidRow"),
  EXX.xvB K (He.ga K "InvalidRow") (He.ma K (He.ga K "InvalidRow") "__init__") "value",
  He.Fa.ok K (He.Fa.glo "InvalidColours"),
  EXX.xvB K (He.ga K "InvalidColours") (He.ma K (He.ga K "InvalidColours") "__init__") "value",
  He.Fa.ok K (He.Fa.glo "InvalidLetters"),
  EXX.xvB K (He.ga K "InvalidLetters") (He.ma K (He.ga K "InvalidLetters") "__init__") "value",
  He.Fa.ok K (He.Fa.glo "InvalidMoves"),
  EXX.xvB K (He.ga K "InvalidMoves") (He.ma K (He.ga K "InvalidMoves") "__init__") "index",
  He.Fa.ok K (He.Fa.glo "InvalidGood"),
  EXX.xvB K (He.ga K "InvalidGood") (He.ma K (He.ga K "InvalidGood") "__init__") "value",
  He.Fa.ok K (He.Fa.glo "InvalidKind"),
  EXX.xvB K (He.ga K "InvalidKind") (He.ma K (He.ga K "InvalidKind") "__init__") "value",
  He.Fa.ok K (He.Fa.glo "InvalidAmounts"),
  EXX.xvB K (He.ga K "InvalidAmounts") (He.ma K (He.ga K "InvalidAmounts") "__init__") "value",
  He.Fa.ok K (He.Fa.glo "InvalidGuards"),
  EXX.xvB K (He.ga K "InvalidGuards") (He.ma K (He.ga K "InvalidGuards") "__init__") "index",
  He.Fa.ok K (He.Fa.glo "InvalidDeeds"),
  EXX.xvB K (He.ga K "InvalidDeeds") (He.ma K (He.ga K "InvalidDeeds") "__init__") "index",
  He.Fa.ok K (He.Fa.glo "InvalidLine"),
  EXX.xvB K (He.ga K "InvalidLine") (He.ma K (He.ga K "InvalidLine") "__init__") "value",
  He.Fa.ok K (He.Fa.glo "NotAFold"),
  EXX.xvB K (He.ga K "NotAFold") (He.ma K (He.ga K "NotAFold") "__init__") "value",
  He.Fa.ok K (He.Fa.glo "NotARaisin"),
  EXX.xvB K (He.ga K "NotARaisin") (He.ma K (He.ga K "NotARaisin") "__init__") "value",
  He.Fa.ok K (He.Fa.glo "NotAWatch"),
  EXX.xvB K (He.ga K "NotAWatch") (He.ma K (He.ga K "NotAWatch") "__init__") "value",
  He.Fa.ok K (He.Fa.glo "Outside"),
  EXX.xvB K (He.ga K "Outside") (He.ma K (He.ga K "Outside") "__init__") "value",
  He.Fa.ok K (He.Fa.glo "OtherColours"),
  EXX.xvB K (He.ga K "OtherColours") (He.ma K (He.ga K "OtherColours") "__init__") "given",
  He.Fa.ok K (He.Fa.glo "Busy"),
  EXX.xnB K (He.ga K "Busy"),
  He.Fa.ok K (He.Fa.glo "NothingToUndo"),
  EXX.xnB K (He.ga K "NothingToUndo"),
  He.Fa.ok K (He.Fa.glo "Refused"),
  EXX.xrB K (He.ga K "Refused") (He.ma K (He.ga K "Refused") "__init__"),
  He.Fa.ok K (He.Fa.glo "TooMany"),
  EXX.xvB K (He.ga K "TooMany") (He.ma K (He.ga K "TooMany") "__init__") "limit",
  He.Fa.ok K (He.Fa.free "isinstance"),
  He.Fa.ok K (He.Fa.free "len"),
  He.Fa.ok K (He.Fa.free "int"),
  He.Fa.ok K (He.Fa.free "bool"),
  He.Fa.ok K (He.Fa.free "str"),
  He.Fa.ok K (He.Fa.free "tuple"),
  He.Fa.ok K (He.Fa.free "list"),
  He.Fa.ok K (He.Fa.free "range"),
  He.Fa.ok K (He.Fa.free "enumerate"),
  He.Fa.ok K (He.Fa.free "abs"),
  He.Fa.ok K (He.Fa.free "max"),
  He.Fa.ok K (He.Fa.free "min"),
  He.Fa.ok K (He.Fa.free "all"),
  He.Fa.ok K (He.Fa.free "any"),
  He.Fa.ok K (He.Fa.free "sum"),
  He.Fa.ok K (He.Fa.free "repr"),
  He.Fa.ok K (He.Fa.free "sorted"),
  He.Fa.ok K (He.Fa.free "set"),
  He.Fa.ok K (He.Fa.free "dict"),
  He.Fa.ok K (He.Fa.free "zip"),
  He.Fa.ok K (He.Fa.noat "Fold" "cells"),
  EX.eqB (PySem.W.kitOne K (.ref (He.ga K "Fold")) (.type "int")) false,
  EX.eqB (PySem.W.kitOne K (.ref (He.ga K "Fold")) (.type "bool")) false,
  EX.eqB (PySem.W.kitOne K (.ref (He.ga K "Fold")) (.type "str")) false,
  EX.eqB (PySem.W.kitOne K (.ref (He.ga K "Fold")) (.type "tuple")) false,
  EX.eqB (PySem.W.kitOne K (.type "NoneType") (.ref (He.ga K "Fold"))) false,
  EX.eqB (PySem.W.kitOne K (.type "bool") (.ref (He.ga K "Fold"))) false,
  EX.eqB (PySem.W.kitOne K (.type "int") (.ref (He.ga K "Fold"))) false,
  EX.eqB (PySem.W.kitOne K (.type "str") (.ref (He.ga K "Fold"))) false,
  EX.eqB (PySem.W.kitOne K (.type "tuple") (.ref (He.ga K "Fold"))) false,
  EX.eqB (PySem.W.kitOne K (.type "list") (.ref (He.ga K "Fold"))) false,
  EX.eqB (PySem.W.kitOne K (.type "dict") (.ref (He.ga K "Fold"))) false,
  PySem.W.notFirst K (He.ga K "Fold") (.type "NoneType"),
  PySem.W.notFirst K (He.ga K "Fold") (.type "bool"),
  PySem.W.notFirst K (He.ga K "Fold") (.type "int"),
  PySem.W.notFirst K (He.ga K "Fold") (.type "str"),
  PySem.W.notFirst K (He.ga K "Fold") (.type "tuple"),
  PySem.W.notFirst K (He.ga K "Fold") (.type "list"),
  PySem.W.notFirst K (He.ga K "Fold") (.type "dict"),
  He.eqO (PySem.W.findIn K (.ref (He.ga K "Fold")) "__ne__") (some (some (.builtin "object.__ne__"))),
  PySem.W.notFirst K (He.ga K "Fold") (.ref (He.ga K "Fold")),
  He.Fa.ok K (He.Fa.int "MOST_CELLS" 8),
  He.Fa.ok K (He.Fa.int "MOST_STANDS" 6),
  He.Fa.ok K (He.Fa.int "MOST_PLACES" 1000),
  He.Fa.ok K (He.Fa.int "MOST_ROW" 200),
  He.Fa.ok K (He.Fa.int "MOST_TURNS" 10000000000000000000000000000000000000000),
  He.Fa.ok K (He.Fa.int "MOST_REST" 1000000000),
  He.Fa.ok K (He.Fa.int "MOST_LISTED" 500),
  He.Fa.ok K (He.Fa.int "MOST_GUARDS" 4),
  He.Fa.ok K (He.Fa.int "MOST_DEEDS" 100)]
theorem facts {l : PySem.W.OpenLaw} {w : World} {K : PySem.W.Frag} {hp : Heap} {mg : Str → Option Value} {fa : Addr} (X : K.In hp) (G : hp.Ns mainGlobals mg) (hfa : mg "law" = some (.ref fa)) (c : EX.obsY rs exs K = EX.valY rs)
    : ∃ fd : FuncData, (∀ (s : Shared) (v : Value), BindsTo s fd ⟨[v], []⟩ [("_law_script", v)]) ∧ ∀ base : Heap, K.In base → base.Ns mainGlobals mg → FnG l.prog w K mg base 9 fa fd ["_law_script"] (spLaw K) := by
  obtain ⟨fd_Fold_eq, FD_Fold_eq⟩ : ∃ fd, FunD K "__eq__" "Fold.__eq__" (defArgs s_Fold_eq) (defBody s_Fold_eq) (defScope s_Fold_eq) [] [] (He.ma K (He.ga K "Fold") "__eq__") fd := EX.defAt c 0 (d := r_Fold_eq) rfl
  obtain ⟨fd_cell_text, FD_cell_text⟩ : ∃ fd, FunD K "cell_text" "cell_text" (defArgs s_f_cell_text) (defBody s_f_cell_text) (defScope s_f_cell_text) [] [] (He.ga K "cell_text") fd := EX.defAt c 1 (d := r_cell_text) rfl
  obtain ⟨fd_Fold_str, FD_Fold_str⟩ : ∃ fd, FunD K "__str__" "Fold.__str__" (defArgs s_Fold_str) (defBody s_Fold_str) (defScope s_Fold_str) [] [] (He.ma K (He.ga K "Fold") "__str__") fd := EX.defAt c 2 (d := r_Fold_str) rfl
  obtain ⟨fd_are_figures, FD_are_figures⟩ : ∃ fd, FunD K "are_figures" "are_figures" (defArgs s_f_are_figures) (defBody s_f_are_figures) (defScope s_f_are_figures) [] [] (He.ga K "are_figures") fd := EX.defAt c 3 (d := r_are_figures) rfl
  obtain ⟨fd_cell_in, FD_cell_in⟩ : ∃ fd, FunD K "cell_in" "cell_in" (defArgs s_f_cell_in) (defBody s_f_cell_in) (defScope s_f_cell_in) [] [] (He.ga K "cell_in") fd := EX.defAt c 4 (d := r_cell_in) rfl
  obtain ⟨fd_is_integer, FD_is_integer⟩ : ∃ fd, FunD K "is_integer" "is_integer" (defArgs s_f_is_integer) (defBody s_f_is_integer) (defScope s_f_is_integer) [] [] (He.ga K "is_integer") fd := EX.defAt c 5 (d := r_is_integer) rfl
  obtain ⟨fd_is_between, FD_is_between⟩ : ∃ fd, FunD K "is_between" "is_between" (defArgs s_f_is_between) (defBody s_f_is_between) (defScope s_f_is_between) [] [] (He.ga K "is_between") fd := EX.defAt c 6 (d := r_is_between) rfl
  obtain ⟨fd_is_cell, FD_is_cell⟩ : ∃ fd, FunD K "is_cell" "is_cell" (defArgs s_f_is_cell) (defBody s_f_is_cell) (defScope s_f_is_cell) [] [] (He.ga K "is_cell") fd := EX.defAt c 7 (d := r_is_cell) rfl
  obtain ⟨fd_check_cells, FD_check_cells⟩ : ∃ fd, FunD K "check_cells" "check_cells" (defArgs s_f_check_cells) (defBody s_f_check_cells) (defScope s_f_check_cells) [] [] (He.ga K "check_cells") fd := EX.defAt c 8 (d := r_check_cells) rfl
  obtain ⟨fd_Fold_init, FD_Fold_init⟩ : ∃ fd, FunD K "__init__" "Fold.__init__" (defArgs s_Fold_init) (defBody s_Fold_init) (defScope s_Fold_init) [] [] (He.ma K (He.ga K "Fold") "__init__") fd := EX.defAt c 9 (d := r_Fold_init) rfl
  obtain ⟨fd_Fold_read, FD_Fold_read⟩ : ∃ fd, FunD K "read" "Fold.read" (defArgs s_Fold_read) (defBody s_Fold_read) (defScope s_Fold_read) [] [] (EX.stA K "Fold" "read") fd := EX.defAt c 10 (d := r_Fold_read) rfl
  obtain ⟨fd_baker, FD_baker⟩ : ∃ fd, FunD K "baker" "baker" (defArgs s_f_baker) (defBody s_f_baker) (defScope s_f_baker) [] [] (He.ga K "baker") fd := EX.defAt c 11 (d := r_baker) rfl
  obtain ⟨fd_tent, FD_tent⟩ : ∃ fd, FunD K "tent" "tent" (defArgs s_f_tent) (defBody s_f_tent) (defScope s_f_tent) [] [] (He.ga K "tent") fd := EX.defAt c 12 (d := r_tent) rfl
  obtain ⟨fd_golden, FD_golden⟩ : ∃ fd, FunD K "golden" "golden" (defArgs s_f_golden) (defBody s_f_golden) (defScope s_f_golden) [] [] (He.ga K "golden") fd := EX.defAt c 13 (d := r_golden) rfl
  obtain ⟨fd_roller, FD_roller⟩ : ∃ fd, FunD K "roller" "roller" (defArgs s_f_roller) (defBody s_f_roller) (defScope s_f_roller) [] [] (He.ga K "roller") fd := EX.defAt c 14 (d := r_roller) rfl
  obtain ⟨fd_Fold_len, FD_Fold_len⟩ : ∃ fd, FunD K "__len__" "Fold.__len__" (defArgs s_Fold_len) (defBody s_Fold_len) (defScope s_Fold_len) [] [] (He.ma K (He.ga K "Fold") "__len__") fd := EX.defAt c 15 (d := r_Fold_len) rfl
  obtain ⟨fd_law_bag, FD_law_bag⟩ : ∃ fd, FunD K "_law_bag" "_law_bag" (defArgs s_f_law_bag) (defBody s_f_law_bag) (defScope s_f_law_bag) [] [] (He.ga K "_law_bag") fd := EX.defAt c 16 (d := r_law_bag) rfl
  obtain ⟨fd_law_draw, FD_law_draw⟩ : ∃ fd, FunD K "_law_draw" "_law_draw" (defArgs s_f_law_draw) (defBody s_f_law_draw) (defScope s_f_law_draw) [] [] (He.ga K "_law_draw") fd := EX.defAt c 17 (d := r_law_draw) rfl
  obtain ⟨fd_law_one, FD_law_one⟩ : ∃ fd, FunD K "_law_one" "_law_one" (defArgs s_f_law_one) (defBody s_f_law_one) (defScope s_f_law_one) [] [] (He.ga K "_law_one") fd := EX.defAt c 18 (d := r_law_one) rfl
  obtain ⟨fd_law_values, FD_law_values⟩ : ∃ fd, FunD K "_law_values" "_law_values" (defArgs s_f_law_values) (defBody s_f_law_values) (defScope s_f_law_values) [] [] (He.ga K "_law_values") fd := EX.defAt c 19 (d := r_law_values) rfl
  obtain ⟨fd_law_classes, FD_law_classes⟩ : ∃ fd, FunD K "_law_classes" "_law_classes" (defArgs s_f_law_classes) (defBody s_f_law_classes) (defScope s_f_law_classes) [] [] (He.ga K "_law_classes") fd := EX.defAt c 20 (d := r_law_classes) rfl
  obtain ⟨fd_law_is, FD_law_is⟩ : ∃ fd, FunD K "_law_is" "_law_is" (defArgs s_f_law_is) (defBody s_f_law_is) (defScope s_f_law_is) [] [] (He.ga K "_law_is") fd := EX.defAt c 21 (d := r_law_is) rfl
  obtain ⟨fd_law_indexes, FD_law_indexes⟩ : ∃ fd, FunD K "_law_indexes" "_law_indexes" (defArgs s_f_law_indexes) (defBody s_f_law_indexes) (defScope s_f_law_indexes) [] [] (He.ga K "_law_indexes") fd := EX.defAt c 22 (d := r_law_indexes) rfl
  obtain ⟨fd_law_others_right, FD_law_others_right⟩ : ∃ fd, FunD K "_law_others_right" "_law_others_right" (defArgs s_f_law_others_right) (defBody s_f_law_others_right) (defScope s_f_law_others_right) [] [] (He.ga K "_law_others_right") fd := EX.defAt c 23 (d := r_law_others_right) rfl
  obtain ⟨fd_law_right, FD_law_right⟩ : ∃ fd, FunD K "_law_right" "_law_right" (defArgs s_f_law_right) (defBody s_f_law_right) (defScope s_f_law_right) [] [] (He.ga K "_law_right") fd := EX.defAt c 24 (d := r_law_right) rfl
  obtain ⟨fd_law, FD_law⟩ : ∃ fd, FunD K "law" "law" (defArgs s_f_law) (defBody s_f_law) (defScope s_f_law) [] [] (He.ga K "law") fd := EX.defAt c 25 (d := r_law) rfl
  obtain ⟨fd_xi100, FD_xi100⟩ : ∃ fd, FunD K "__init__" "InvalidNumber.__init__" (defArgs s_xi_100) (defBody s_xi_100) (defScope s_xi_100) [] [] (He.ma K (He.ga K "InvalidNumber") "__init__") fd := EX.defAt c 26 (d := r_xi100) rfl
  obtain ⟨fd_xi101, FD_xi101⟩ : ∃ fd, FunD K "__init__" "InvalidText.__init__" (defArgs s_xi_101) (defBody s_xi_101) (defScope s_xi_101) [] [] (He.ma K (He.ga K "InvalidText") "__init__") fd := EX.defAt c 27 (d := r_xi101) rfl
  obtain ⟨fd_xi102, FD_xi102⟩ : ∃ fd, FunD K "__init__" "InvalidCells.__init__" (defArgs s_xi_102) (defBody s_xi_102) (defScope s_xi_102) [] [] (He.ma K (He.ga K "InvalidCells") "__init__") fd := EX.defAt c 28 (d := r_xi102) rfl
  obtain ⟨fd_xi103, FD_xi103⟩ : ∃ fd, FunD K "__init__" "InvalidPlace.__init__" (defArgs s_xi_103) (defBody s_xi_103) (defScope s_xi_103) [] [] (He.ma K (He.ga K "InvalidPlace") "__init__") fd := EX.defAt c 29 (d := r_xi103) rfl
  obtain ⟨fd_xi104, FD_xi104⟩ : ∃ fd, FunD K "__init__" "InvalidSide.__init__" (defArgs s_xi_104) (defBody s_xi_104) (defScope s_xi_104) [] [] (He.ma K (He.ga K "InvalidSide") "__init__") fd := EX.defAt c 30 (d := r_xi104) rfl
  obtain ⟨fd_xi105, FD_xi105⟩ : ∃ fd, FunD K "__init__" "InvalidRow.__init__" (defArgs s_xi_105) (defBody s_xi_105) (defScope s_xi_105) [] [] (He.ma K (He.ga K "InvalidRow") "__init__") fd := EX.defAt c 31 (d := r_xi105) rfl
  obtain ⟨fd_xi106, FD_xi106⟩ : ∃ fd, FunD K "__init__" "InvalidColours.__init__" (defArgs s_xi_106) (defBody s_xi_106) (defScope s_xi_106) [] [] (He.ma K (He.ga K "InvalidColours") "__init__") fd := EX.defAt c 32 (d := r_xi106) rfl
  obtain ⟨fd_xi107, FD_xi107⟩ : ∃ fd, FunD K "__init__" "InvalidLetters.__init__" (defArgs s_xi_107) (defBody s_xi_107) (defScope s_xi_107) [] [] (He.ma K (He.ga K "InvalidLetters") "__init__") fd := EX.defAt c 33 (d := r_xi107) rfl
  obtain ⟨fd_xi108, FD_xi108⟩ : ∃ fd, FunD K "__init__" "InvalidMoves.__init__" (defArgs s_xi_108) (defBody s_xi_108) (defScope s_xi_108) [] [] (He.ma K (He.ga K "InvalidMoves") "__init__") fd := EX.defAt c 34 (d := r_xi108) rfl
  obtain ⟨fd_xi109, FD_xi109⟩ : ∃ fd, FunD K "__init__" "InvalidGood.__init__" (defArgs s_xi_109) (defBody s_xi_109) (defScope s_xi_109) [] [] (He.ma K (He.ga K "InvalidGood") "__init__") fd := EX.defAt c 35 (d := r_xi109) rfl
  obtain ⟨fd_xi110, FD_xi110⟩ : ∃ fd, FunD K "__init__" "InvalidKind.__init__" (defArgs s_xi_110) (defBody s_xi_110) (defScope s_xi_110) [] [] (He.ma K (He.ga K "InvalidKind") "__init__") fd := EX.defAt c 36 (d := r_xi110) rfl
  obtain ⟨fd_xi111, FD_xi111⟩ : ∃ fd, FunD K "__init__" "InvalidAmounts.__init__" (defArgs s_xi_111) (defBody s_xi_111) (defScope s_xi_111) [] [] (He.ma K (He.ga K "InvalidAmounts") "__init__") fd := EX.defAt c 37 (d := r_xi111) rfl
  obtain ⟨fd_xi112, FD_xi112⟩ : ∃ fd, FunD K "__init__" "InvalidGuards.__init__" (defArgs s_xi_112) (defBody s_xi_112) (defScope s_xi_112) [] [] (He.ma K (He.ga K "InvalidGuards") "__init__") fd := EX.defAt c 38 (d := r_xi112) rfl
  obtain ⟨fd_xi113, FD_xi113⟩ : ∃ fd, FunD K "__init__" "InvalidDeeds.__init__" (defArgs s_xi_113) (defBody s_xi_113) (defScope s_xi_113) [] [] (He.ma K (He.ga K "InvalidDeeds") "__init__") fd := EX.defAt c 39 (d := r_xi113) rfl
  obtain ⟨fd_xi114, FD_xi114⟩ : ∃ fd, FunD K "__init__" "InvalidLine.__init__" (defArgs s_xi_114) (defBody s_xi_114) (defScope s_xi_114) [] [] (He.ma K (He.ga K "InvalidLine") "__init__") fd := EX.defAt c 40 (d := r_xi114) rfl
  obtain ⟨fd_xi115, FD_xi115⟩ : ∃ fd, FunD K "__init__" "NotAFold.__init__" (defArgs s_xi_115) (defBody s_xi_115) (defScope s_xi_115) [] [] (He.ma K (He.ga K "NotAFold") "__init__") fd := EX.defAt c 41 (d := r_xi115) rfl
  obtain ⟨fd_xi116, FD_xi116⟩ : ∃ fd, FunD K "__init__" "NotARaisin.__init__" (defArgs s_xi_116) (defBody s_xi_116) (defScope s_xi_116) [] [] (He.ma K (He.ga K "NotARaisin") "__init__") fd := EX.defAt c 42 (d := r_xi116) rfl
  obtain ⟨fd_xi117, FD_xi117⟩ : ∃ fd, FunD K "__init__" "NotAWatch.__init__" (defArgs s_xi_117) (defBody s_xi_117) (defScope s_xi_117) [] [] (He.ma K (He.ga K "NotAWatch") "__init__") fd := EX.defAt c 43 (d := r_xi117) rfl
  obtain ⟨fd_xi118, FD_xi118⟩ : ∃ fd, FunD K "__init__" "Outside.__init__" (defArgs s_xi_118) (defBody s_xi_118) (defScope s_xi_118) [] [] (He.ma K (He.ga K "Outside") "__init__") fd := EX.defAt c 44 (d := r_xi118) rfl
  obtain ⟨fd_xi119, FD_xi119⟩ : ∃ fd, FunD K "__init__" "OtherColours.__init__" (defArgs s_xi_119) (defBody s_xi_119) (defScope s_xi_119) [] [] (He.ma K (He.ga K "OtherColours") "__init__") fd := EX.defAt c 45 (d := r_xi119) rfl
  obtain ⟨fd_xi122, FD_xi122⟩ : ∃ fd, FunD K "__init__" "Refused.__init__" (defArgs s_xi_122) (defBody s_xi_122) (defScope s_xi_122) [] [] (He.ma K (He.ga K "Refused") "__init__") fd := EX.defAt c 46 (d := r_xi122) rfl
  obtain ⟨fd_xi123, FD_xi123⟩ : ∃ fd, FunD K "__init__" "TooMany.__init__" (defArgs s_xi_123) (defBody s_xi_123) (defScope s_xi_123) [] [] (He.ma K (He.ga K "TooMany") "__init__") fd := EX.defAt c 47 (d := r_xi123) rfl
  exact all_mk (c_Fold := (He.ga K "Fold")) (fA_Fold_eq := (He.ma K (He.ga K "Fold") "__eq__")) (fA_cell_text := (He.ga K "cell_text")) (fA_Fold_str := (He.ma K (He.ga K "Fold") "__str__")) (fA_are_figures := (He.ga K "are_figures")) (fA_cell_in := (He.ga K "cell_in")) (fA_is_integer := (He.ga K "is_integer")) (fA_is_between := (He.ga K "is_between")) (fA_is_cell := (He.ga K "is_cell")) (fA_check_cells := (He.ga K "check_cells")) (fA_Fold_init := (He.ma K (He.ga K "Fold") "__init__")) (fA_Fold_read := (EX.stA K "Fold" "read")) (fA_baker := (He.ga K "baker")) (fA_tent := (He.ga K "tent")) (fA_golden := (He.ga K "golden")) (fA_roller := (He.ga K "roller")) (fA_Fold_len := (He.ma K (He.ga K "Fold") "__len__")) (fA_law_bag := (He.ga K "_law_bag")) (fA_law_draw := (He.ga K "_law_draw")) (fA_law_one := (He.ga K "_law_one")) (fA_law_values := (He.ga K "_law_values")) (fA_law_classes := (He.ga K "_law_classes")) (fA_law_is := (He.ga K "_law_is")) (fA_law_indexes := (He.ga K "_law_indexes")) (fA_law_others_right := (He.ga K "_law_others_right")) (fA_law_right := (He.ga K "_law_right")) (fA_law := (He.ga K "law")) hfa
    (He.glo_ok X G (EX.fact c 1 rfl))
    (EX.ins_of (EX.fact c 2 rfl) (EX.fact c 3 rfl) (EX.fact c 0 rfl))
    FD_Fold_eq
    (EX.meth_of (EX.fact c 4 rfl))
    FD_cell_text
    (He.glo_ok X G (EX.fact c 5 rfl))
    FD_Fold_str
    (EX.meth_of (EX.fact c 6 rfl))
    FD_are_figures
    (He.glo_ok X G (EX.fact c 7 rfl))
    FD_cell_in
    (He.glo_ok X G (EX.fact c 8 rfl))
    FD_is_integer
    (He.glo_ok X G (EX.fact c 9 rfl))
    FD_is_between
    (He.glo_ok X G (EX.fact c 10 rfl))
    FD_is_cell
    (He.glo_ok X G (EX.fact c 11 rfl))
    FD_check_cells
    (He.glo_ok X G (EX.fact c 12 rfl))
    FD_Fold_init
    (EX.meth_of (EX.fact c 13 rfl))
    (EX.mk_of (EX.fact c 14 rfl))
    FD_Fold_read
    ⟨(EX.read_of (EX.fact c 16 rfl)), (EX.staB_ok (EX.fact c 15 rfl)), FD_Fold_read.kp⟩
    FD_baker
    (He.glo_ok X G (EX.fact c 17 rfl))
    FD_tent
    (He.glo_ok X G (EX.fact c 18 rfl))
    FD_golden
    (He.glo_ok X G (EX.fact c 19 rfl))
    FD_roller
    (He.glo_ok X G (EX.fact c 20 rfl))
    FD_Fold_len
    (EX.meth_of (EX.fact c 21 rfl))
    FD_law_bag
    (He.glo_ok X G (EX.fact c 22 rfl))
    FD_law_draw
    (He.glo_ok X G (EX.fact c 23 rfl))
    FD_law_one
    (He.glo_ok X G (EX.fact c 24 rfl))
    FD_law_values
    (He.glo_ok X G (EX.fact c 25 rfl))
    FD_law_classes
    (He.glo_ok X G (EX.fact c 26 rfl))
    FD_law_is
    (He.glo_ok X G (EX.fact c 27 rfl))
    FD_law_indexes
    (He.glo_ok X G (EX.fact c 28 rfl))
    FD_law_others_right
    (He.glo_ok X G (EX.fact c 29 rfl))
    FD_law_right
    (He.glo_ok X G (EX.fact c 30 rfl))
    FD_law
    (He.glo_ok X G (EX.fact c 31 rfl))
    (EXX.tx_of rfl X G (EX.fact c 32 rfl))
    (EXX.xv_at xs_100 (He.glo_ok X G (EX.fact c 33 rfl)) (EX.fact c 34 rfl) FD_xi100)
    (EXX.xv_at xs_101 (He.glo_ok X G (EX.fact c 35 rfl)) (EX.fact c 36 rfl) FD_xi101)
    (EXX.xi_at xs_102 (He.glo_ok X G (EX.fact c 37 rfl)) (EX.fact c 38 rfl) FD_xi102)
    (EXX.xv_at xs_103 (He.glo_ok X G (EX.fact c 39 rfl)) (EX.fact c 40 rfl) FD_xi103)
    (EXX.xv_at xs_104 (He.glo_ok X G (EX.fact c 41 rfl)) (EX.fact c 42 rfl) FD_xi104)
    (EXX.xv_at xs_105 (He.glo_ok X G (EX.fact c 43 rfl)) (EX.fact c 44 rfl) FD_xi105)
    (EXX.xv_at xs_106 (He.glo_ok X G (EX.fact c 45 rfl)) (EX.fact c 46 rfl) FD_xi106)
    (EXX.xv_at xs_107 (He.glo_ok X G (EX.fact c 47 rfl)) (EX.fact c 48 rfl) FD_xi107)
    (EXX.xi_at xs_108 (He.glo_ok X G (EX.fact c 49 rfl)) (EX.fact c 50 rfl) FD_xi108)
    (EXX.xv_at xs_109 (He.glo_ok X G (EX.fact c 51 rfl)) (EX.fact c 52 rfl) FD_xi109)
    (EXX.xv_at xs_110 (He.glo_ok X G (EX.fact c 53 rfl)) (EX.fact c 54 rfl) FD_xi110)
    (EXX.xv_at xs_111 (He.glo_ok X G (EX.fact c 55 rfl)) (EX.fact c 56 rfl) FD_xi111)
    (EXX.xi_at xs_112 (He.glo_ok X G (EX.fact c 57 rfl)) (EX.fact c 58 rfl) FD_xi112)
    (EXX.xi_at xs_113 (He.glo_ok X G (EX.fact c 59 rfl)) (EX.fact c 60 rfl) FD_xi113)
    (EXX.xv_at xs_114 (He.glo_ok X G (EX.fact c 61 rfl)) (EX.fact c 62 rfl) FD_xi114)
    (EXX.xv_at xs_115 (He.glo_ok X G (EX.fact c 63 rfl)) (EX.fact c 64 rfl) FD_xi115)
    (EXX.xv_at xs_116 (He.glo_ok X G (EX.fact c 65 rfl)) (EX.fact c 66 rfl) FD_xi116)
    (EXX.xv_at xs_117 (He.glo_ok X G (EX.fact c 67 rfl)) (EX.fact c 68 rfl) FD_xi117)
    (EXX.xv_at xs_118 (He.glo_ok X G (EX.fact c 69 rfl)) (EX.fact c 70 rfl) FD_xi118)
    (EXX.xg_at xs_119 (He.glo_ok X G (EX.fact c 71 rfl)) (EX.fact c 72 rfl) FD_xi119)
    (EXX.xn_at (He.glo_ok X G (EX.fact c 73 rfl)) (EX.fact c 74 rfl))
    (EXX.xn_at (He.glo_ok X G (EX.fact c 75 rfl)) (EX.fact c 76 rfl))
    (EXX.xr_at xs_122 (He.glo_ok X G (EX.fact c 77 rfl)) (EX.fact c 78 rfl) FD_xi122)
    (EXX.xl_at xs_123 (He.glo_ok X G (EX.fact c 79 rfl)) (EX.fact c 80 rfl) FD_xi123)
    (He.free_ok X G (EX.fact c 81 rfl))
    (He.free_ok X G (EX.fact c 82 rfl))
    (He.free_ok X G (EX.fact c 83 rfl))
    (He.free_ok X G (EX.fact c 84 rfl))
    (He.free_ok X G (EX.fact c 85 rfl))
    (He.free_ok X G (EX.fact c 86 rfl))
    (He.free_ok X G (EX.fact c 87 rfl))
    (He.free_ok X G (EX.fact c 88 rfl))
    (He.free_ok X G (EX.fact c 89 rfl))
    (He.free_ok X G (EX.fact c 90 rfl))
    (He.free_ok X G (EX.fact c 91 rfl))
    (He.free_ok X G (EX.fact c 92 rfl))
    (He.free_ok X G (EX.fact c 93 rfl))
    (He.free_ok X G (EX.fact c 94 rfl))
    (He.free_ok X G (EX.fact c 95 rfl))
    (He.free_ok X G (EX.fact c 96 rfl))
    (He.free_ok X G (EX.fact c 97 rfl))
    (He.free_ok X G (EX.fact c 98 rfl))
    (He.free_ok X G (EX.fact c 99 rfl))
    (He.free_ok X G (EX.fact c 100 rfl))
    (EX.eqO_ok (EX.fact c 101 rfl))
    (EX.eqB_ok (EX.fact c 102 rfl))
    (EX.eqB_ok (EX.fact c 103 rfl))
    (EX.eqB_ok (EX.fact c 104 rfl))
    (EX.eqB_ok (EX.fact c 105 rfl))
    (EX.eqB_ok (EX.fact c 106 rfl))
    (EX.eqB_ok (EX.fact c 107 rfl))
    (EX.eqB_ok (EX.fact c 108 rfl))
    (EX.eqB_ok (EX.fact c 109 rfl))
    (EX.eqB_ok (EX.fact c 110 rfl))
    (EX.eqB_ok (EX.fact c 111 rfl))
    (EX.eqB_ok (EX.fact c 112 rfl))
    (EX.fact c 113 rfl)
    (EX.fact c 114 rfl)
    (EX.fact c 115 rfl)
    (EX.fact c 116 rfl)
    (EX.fact c 117 rfl)
    (EX.fact c 118 rfl)
    (EX.fact c 119 rfl)
    (EX.eqO_ok (EX.fact c 120 rfl))
    (EX.fact c 121 rfl)
    (He.int_ok X G (EX.fact c 122 rfl))
    (He.int_ok X G (EX.fact c 123 rfl))
    (He.int_ok X G (EX.fact c 124 rfl))
    (He.int_ok X G (EX.fact c 125 rfl))
    (He.int_ok X G (EX.fact c 126 rfl))
    (He.int_ok X G (EX.fact c 127 rfl))
    (He.int_ok X G (EX.fact c 128 rfl))
    (He.int_ok X G (EX.fact c 129 rfl))
    (He.int_ok X G (EX.fact c 130 rfl))
def nm0 : List Str := ["ShapeError", "InvalidNumber", "InvalidText", "InvalidCells", "InvalidPlace", "InvalidSide", "InvalidRow", "InvalidColours", "InvalidLetters", "InvalidMoves", "InvalidGood", "InvalidKind", "InvalidAmounts", "InvalidGuards", "InvalidDeeds", "InvalidLine", "NotAFold", "NotARaisin", "NotAWatch", "QuestionError", "Outside", "OtherColours", "Busy", "NothingToUndo", "Refused", "SizeError", "TooMany", "MOST_CELLS", "MOST_STANDS", "MOST_PLACES"]
def nm1 : List Str := ["MOST_ROW", "MOST_TURNS", "MOST_REST", "MOST_LISTED", "MOST_GUARDS", "MOST_DEEDS", "is_integer", "is_between", "are_figures", "is_cell", "check_cells", "cell_in", "cell_text", "Fold", "run_of", "factor_of", "check_cell", "baker", "tent", "golden", "roller", "_law_bag", "_law_draw", "_law_one", "_law_values", "_law_indexes", "_law_classes", "_law_is", "_law_others_right", "_law_right"]
def nms : List Str := nm0 ++ nm1
abbrev RR : PySem.W.OpenRow := PySem.W.OpenLaw.row PySem.Challenge.rw_doughfolds_k22_errors_limits_and_samples
theorem run (w : World) : HandSHeadRun.RunEq RR (PySem.W.view RR.prog [65]) (EX.hookY rs exs) (EX.obY rs exs) 60000 nms w := by
  intro os
  kernel_rfl
end SL.K22
open PySem PySem.W PySem.Calls PyProof.Rows in
set_option maxRecDepth 100000 in
set_option maxHeartbeats 0 in
theorem PySem.Challenge.cw_doughfolds_k22_errors_limits_and_samples_holds : PySem.Challenge.rw_doughfolds_k22_errors_limits_and_samples.Holds := by
  w_on; o_law
  refine HandSHeadRun.head_any (r := OpenLaw.row PySem.Challenge.rw_doughfolds_k22_errors_limits_and_samples) (q := view (OpenLaw.row PySem.Challenge.rw_doughfolds_k22_errors_limits_and_samples).prog [65]) (H := EX.hookY SL.K22.rs SL.K22.exs) (ob := EX.obY SL.K22.rs SL.K22.exs) (M := 60000) (loose := SL.K22.nms) (d := HandSHeadRun.topDef (OpenLaw.row PySem.Challenge.rw_doughfolds_k22_errors_limits_and_samples).prog 65) (kwd := []) (EX.obY_eq SL.K22.rs SL.K22.exs)
    (by kernel_rfl) (fun s => by kernel_rfl) SL.K22.run (by kernel_rfl) (by kernel_rfl) (by kernel_rfl) (by rfl) (by first | assumption | decide +kernel) (by decide +kernel) ⟨rfl, rfl, rfl, rfl, rfl, by decide +kernel⟩ ?hw ?hc
  case hw => w_witness2
  case hc =>
    refine EX.walkGE (l := PySem.Challenge.rw_doughfolds_k22_errors_limits_and_samples) (k := 9) "_law_script" (by decide) (hn := rfl) (hdf := by kernel_rfl) (F := ?F)
    intro w mg fa hp Y G hmg0
    obtain ⟨K, KX, c⟩ := Y
    have hmg : mg ("law" : PySem.Str) = some (.ref fa) := by
      have e : (HandSHeadRun.topDef (OpenLaw.row PySem.Challenge.rw_doughfolds_k22_errors_limits_and_samples).prog 65).name = ("law" : PySem.Str) := by kernel_rfl
      rw [← e]
      exact hmg0
    obtain ⟨fd, hb, hF⟩ := SL.K22.facts (l := PySem.Challenge.rw_doughfolds_k22_errors_limits_and_samples) (w := w) KX G hmg c
    exact ⟨K, fd, KX, hb, hF⟩
#print axioms PySem.Challenge.cw_doughfolds_k22_errors_limits_and_samples_holds
