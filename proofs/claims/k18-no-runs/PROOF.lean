import PyProof.Rows.All
import Wide.All
import OpenK.AllK
import Wide.FinOn
import HandS.ForMost
import HandS.Wide
import HandS.IsInst
import HandS.TupAny
import HandS.TupMul
import HandS.SortInts
import HandS.Zip
import HandS.NoneIn
import KE.GoesEnum
import HandS.Rev
import HandS.Conv
import HandS.More
import HandS.Exc
import KE.GoesMore
import HandS.TryOnly
import HandS.ExcOwn
import HandS.ExcIs
import HandS.WordsExc
import HandS.ExcBuiltin
import KE.RegKIsAll
import PySem.Challenge.RW_evennotes_k18_no_runs
set_option Elab.async false
set_option linter.all false
set_option maxRecDepth 100000
set_option maxHeartbeats 4000000
/-! FL1: what a slot holds, and how the heap bears it -/
namespace FL
open PySem PySem.Spec PyProof.Rows L2

abbrev D := PyData

/-- a row under making: the rows ahead of it, in which of its lists one stands -/
inductive Fr where
  | lp (rows : List D)
  | e1 (rows : List D)
  | e2 (rows ones : List D)
/-- a tree of one's own: data, a place whose value is held elsewhere, lists, tuples, dicts -/
inductive Tr where
  | lf (d : D)
  | ho (v : V)
  | ls (ts : List Tr)
  | tp (ts : List Tr)
  | dc (ks : List Key) (ts : List Tr)
/-- other things of one's own: an either, a loop with empty lists; a datum, a list of one's own, a datum; rows under making, by a stack of lists of lists, by a stack of lists; a tuple of two lists of one's own, perhaps a dict behind; no thing, but that a heap still stands -/
inductive Ow where
  | ei
  | lo
  | tri (a : D) (ds : List D) (c : D)
  | bs (root : Addr) (cur : List D) (ctx : List Fr)
  | bw (root : Addr) (cur : List D) (ctx : List Fr)
  | tu (a b : List D) (c : Option (List (Key × D)))
  | gh (G : Hp)
  | nl (rs : List (List D))
  | nlh (ra : List (List D)) (q : Addr) (rb : List (List D))
  | tr (t : Tr)
  | fd (es : List (Key × D))
  | fl (ess : List (List (Key × D)))
  | go (os : List Addr) (F : Hp)
def sEither : Str := Str.ofString "either"
def sLoop : Str := Str.ofString "loop"

/-- what a slot holds: nothing, data that stands still, a list or a dict that this slot alone holds, an instance, a look at another slot -/
inductive Sl where
  | no
  | sh (d : D)
  | ol (ds : List D)
  | od (kvs : List (Key × D))
  | td (kvs : List (List Key × D))
  | tt (d : D) (ds : List D)
  | oi (c : Str) (fs : List (Str × Sl))
  | vw (i : Nat)
  | sc (ns : List Int)
  | ow (x : Ow)

abbrev Lo := List Sl

/-- an outcome -/
inductive Res (α : Type) where
  | bad
  | ok (a : α)
  | ex (c : Str) (p : D)
namespace Res
def bind {α β : Type} : Res α → (α → Res β) → Res β
  | .bad, _ => .bad
  | .ok a, f => f a
  | .ex c p, _ => .ex c p
instance : Monad Res where
  pure := .ok
  bind := Res.bind
theorem bind_ok {α β : Type} {x : Res α} {f : α → Res β} {b : β} (h : (x >>= f) = .ok b) : ∃ a, x = .ok a ∧ f a = .ok b := by
  cases x with
  | bad => cases h
  | ok a => exact ⟨a, rfl, h⟩
  | ex c p => cases h
@[simp] theorem ok_bind {α β : Type} (a : α) (f : α → Res β) : ((Res.ok a) >>= f) = f a := rfl
@[simp] theorem bad_bind {α β : Type} (f : α → Res β) : ((Res.bad : Res α) >>= f) = .bad := rfl
@[simp] theorem ex_bind {α β : Type} (c : Str) (p : D) (f : α → Res β) : ((Res.ex c p : Res α) >>= f) = .ex c p := rfl
@[simp] theorem pure_eq {α : Type} (a : α) : (pure a : Res α) = .ok a := rfl
def ofO {α : Type} : Option α → Res α
  | some a => .ok a
  | none => .bad
@[simp] theorem ofO_some {α : Type} (a : α) : ofO (some a) = .ok a := rfl
@[simp] theorem ofO_none {α : Type} : ofO (none : Option α) = .bad := rfl
theorem ofO_ok {α : Type} {o : Option α} {a : α} (h : ofO o = .ok a) : o = some a := by
  cases o with
  | none => cases h
  | some b => cases h; rfl
end Res

/-- a tuple that the written part has -/
def KTup (K : PySem.W.Frag) (a : Addr) (xs : List V) : Prop := ∃ (o : Obj) (its : Array Value) (n : Nat), K.lookup a = some o ∧ o.cls = .type "tuple" ∧ o.data = .seq its n ∧ its.size ≤ sizeLine ∧ Vals xs its.toList
/-- a tuple that stands still -/
def TupAt (K : PySem.W.Frag) (H : Hp) (a : Addr) (xs : List V) : Prop := H a = some (.tup xs) ∨ KTup K a xs
theorem TupAt.mono {K : PySem.W.Frag} {H H' : Hp} {a : Addr} {xs : List V} (e : Same H H') (h : TupAt K H a xs) : TupAt K H' a xs := h.imp_left fun h => e _ _ h
theorem TupAt.sq {K : PySem.W.Frag} {H : Hp} {a : Addr} {xs : List V} (h : TupAt K H a xs) : SqT K H a xs := by
  rcases h with h | h
  · exact .of h
  · exact .inr h
theorem TupAt.ty {K : PySem.W.Frag} {H : Hp} {a : Addr} {xs : List V} (h : TupAt K H a xs) : TyX K H (.ref a) (.type "tuple") := by
  rcases h with h | ⟨o, its, n, h1, h2, _⟩
  · exact .base (.tup h)
  · exact .kTuple h1 h2
mutual
inductive Dt (K : PySem.W.Frag) (H : Hp) : V → PyData → Prop
  | non : Dt K H .non .none
  | bl (b : Bool) : Dt K H (.bl b) (.bool b)
  | int (i : Int) : Dt K H (.int i) (.int i)
  | str (x : Str) : Dt K H (.str x) (.str x)
  | lst {a : Addr} {xs : List V} {ds : List PyData} : H a = some (.lst xs) → DtAll K H xs ds → Dt K H (.ref a) (.list ds)
  | tup {a : Addr} {xs : List V} {ds : List PyData} : TupAt K H a xs → DtAll K H xs ds → Dt K H (.ref a) (.tuple ds)
inductive DtAll (K : PySem.W.Frag) (H : Hp) : List V → List PyData → Prop
  | nil : DtAll K H [] []
  | cons {v : V} {vs : List V} {d : PyData} {ds : List PyData} : Dt K H v d → DtAll K H vs ds → DtAll K H (v :: vs) (d :: ds)
end
mutual
theorem Dt.deep {K : PySem.W.Frag} {H : Hp} : ∀ (d : PyData) (v : V), Dt K H v d → L2.Dp K H v d
  | .none, _, h => by cases h; exact .non
  | .bool b, _, h => by cases h; exact .bl b
  | .int i, _, h => by cases h; exact .int i
  | .str x, _, h => by cases h; exact .str x
  | .list ds, _, h => by
    cases h with
    | lst hs ha => exact .lst (.of hs) (DtAll.deep ds _ ha)
  | .tuple ds, _, h => by
    cases h with
    | tup hs ha => exact .tup hs.sq (DtAll.deep ds _ ha)
  | .dict _, _, h => by cases h
theorem DtAll.deep {K : PySem.W.Frag} {H : Hp} : ∀ (ds : List PyData) (vs : List V), DtAll K H vs ds → L2.DpAll K H vs ds
  | [], _, h => by cases h; exact .nil
  | d :: ds, _, h => by
    cases h with
    | cons h1 h2 => exact .cons (Dt.deep d _ h1) (DtAll.deep ds _ h2)
end
section
variable {K : PySem.W.Frag} {H H' : Hp}
theorem sameRd {a : Addr} {u : HO} (e : Same H H') (h : Rd H a u) : Rd H' a u := by
  rcases h with h | ⟨o, h⟩
  · exact .inl (e _ _ h)
  · exact .inr ⟨o, e _ _ h⟩
theorem sameTup {a : Addr} {xs : List V} (e : Same H H') (h : SqT K H a xs) : SqT K H' a xs := by
  rcases h with h | h
  · exact .inl (sameRd e h)
  · exact .inr h
mutual
theorem Dt.mono (e : Same H H') : ∀ (d : PyData) (v : V), Dt K H v d → Dt K H' v d
  | .none, _, h => by cases h; exact .non
  | .bool b, _, h => by cases h; exact .bl b
  | .int i, _, h => by cases h; exact .int i
  | .str x, _, h => by cases h; exact .str x
  | .list ds, _, h => by
    cases h with
    | lst hs ha => exact .lst (e _ _ hs) (DtAll.mono e ds _ ha)
  | .tuple ds, _, h => by
    cases h with
    | tup hs ha => exact .tup (hs.mono e) (DtAll.mono e ds _ ha)
  | .dict _, _, h => by cases h
theorem DtAll.mono (e : Same H H') : ∀ (ds : List PyData) (vs : List V), DtAll K H vs ds → DtAll K H' vs ds
  | [], _, h => by cases h; exact .nil
  | d :: ds, _, h => by
    cases h with
    | cons h1 h2 => exact .cons (Dt.mono e d _ h1) (DtAll.mono e ds _ h2)
end
theorem DtAll.length : ∀ {vs : List V} {ds : List PyData}, DtAll K H vs ds → vs.length = ds.length
  | _, _, .nil => rfl
  | _, _, .cons _ t => by rw [List.length_cons, List.length_cons, t.length]
theorem DtAll.get : ∀ {vs : List V} {ds : List PyData} {i : Nat} {d : PyData}, DtAll K H vs ds → ds[i]? = some d → ∃ v, vs[i]? = some v ∧ Dt K H v d
  | _, _, _, _, .nil, e => by simp at e
  | _, _, 0, _, .cons r _, e => by simp at e; subst e; exact ⟨_, rfl, r⟩
  | _, _, i + 1, d, .cons _ t, e => by
    obtain ⟨v, h1, h2⟩ := DtAll.get (i := i) (d := d) t (by simpa using e)
    exact ⟨v, by simpa using h1, h2⟩
theorem DtAll.get' : ∀ {vs : List V} {ds : List PyData} {i : Nat} {v : V}, DtAll K H vs ds → vs[i]? = some v → ∃ d, ds[i]? = some d ∧ Dt K H v d
  | _, _, _, _, .nil, e => by simp at e
  | _, _, 0, _, .cons r _, e => by simp at e; subst e; exact ⟨_, rfl, r⟩
  | _, _, i + 1, d, .cons _ t, e => by
    obtain ⟨v, h1, h2⟩ := DtAll.get' (i := i) (v := d) t (by simpa using e)
    exact ⟨v, by simpa using h1, h2⟩
theorem DtAll.append : ∀ {xs ys : List V} {ds es : List PyData}, DtAll K H xs ds → DtAll K H ys es → DtAll K H (xs ++ ys) (ds ++ es)
  | _, _, _, _, .nil, s => s
  | _, _, _, _, .cons r t, s => .cons r (DtAll.append t s)
theorem DtAll.take : ∀ {xs : List V} {ds : List PyData} (n : Nat), DtAll K H xs ds → DtAll K H (xs.take n) (ds.take n)
  | _, _, 0, _ => .nil
  | _, _, _ + 1, .nil => .nil
  | _, _, n + 1, .cons r t => .cons r (DtAll.take n t)
theorem DtAll.drop : ∀ {xs : List V} {ds : List PyData} (n : Nat), DtAll K H xs ds → DtAll K H (xs.drop n) (ds.drop n)
  | _, _, 0, r => r
  | _, _, _ + 1, .nil => .nil
  | _, _, n + 1, .cons _ t => DtAll.drop n t
theorem DtAll.set {x : V} {d : PyData} (r : Dt K H x d) : ∀ {xs : List V} {ds : List PyData} (i : Nat), DtAll K H xs ds → DtAll K H (xs.set i x) (ds.set i d)
  | _, _, _, .nil => .nil
  | _, _, 0, .cons _ t => .cons r t
  | _, _, i + 1, .cons q t => .cons q (DtAll.set r i t)
theorem DtAll.one {x : V} {d : PyData} (r : Dt K H x d) : DtAll K H [x] [d] := .cons r .nil
theorem DtAll.reverse : ∀ {xs : List V} {ds : List PyData}, DtAll K H xs ds → DtAll K H xs.reverse ds.reverse
  | _, _, .nil => .nil
  | _, _, .cons r t => by
    rw [List.reverse_cons, List.reverse_cons]
    exact (DtAll.reverse t).append (.one r)
theorem DtAll.eraseIdx : ∀ {xs : List V} {ds : List PyData} (i : Nat), DtAll K H xs ds → DtAll K H (xs.eraseIdx i) (ds.eraseIdx i)
  | _, _, _, .nil => .nil
  | _, _, 0, .cons _ t => t
  | _, _, i + 1, .cons q t => .cons q (DtAll.eraseIdx i t)
theorem DtAll.rep : ∀ {xs : List V} {ds : List PyData} (n : Nat), DtAll K H xs ds → DtAll K H (List.replicate n xs).flatten (List.replicate n ds).flatten
  | _, _, 0, _ => .nil
  | _, _, n + 1, r => by
    rw [List.replicate_succ, List.replicate_succ, List.flatten_cons, List.flatten_cons]
    exact r.append (DtAll.rep n r)
theorem DtAll.ints : ∀ (ns : List Int), DtAll K H (ns.map V.int) (ns.map PyData.int)
  | [] => .nil
  | n :: ns => .cons (.int n) (DtAll.ints ns)
theorem DtAll.strs : ∀ (ns : List Str), DtAll K H (ns.map V.str) (ns.map PyData.str)
  | [] => .nil
  | n :: ns => .cons (.str n) (DtAll.strs ns)
theorem DtAll.of_ints : ∀ {vs : List V} {ns : List Int}, DtAll K H vs (ns.map PyData.int) → vs = ns.map V.int
  | _, [], h => by cases h; rfl
  | _, n :: ns, h => by
    cases h with
    | cons r t => cases r; rw [DtAll.of_ints t]; rfl
theorem DtAll.of_strs : ∀ {vs : List V} {ns : List Str}, DtAll K H vs (ns.map PyData.str) → vs = ns.map V.str
  | _, [], h => by cases h; rfl
  | _, n :: ns, h => by
    cases h with
    | cons r t => cases r; rw [DtAll.of_strs t]; rfl

end
section
variable {K : PySem.W.Frag} {H H' : Hp}
/-- a dict's entries -/
inductive DpKV (K : PySem.W.Frag) (H : Hp) : List (Key × V) → List (Key × D) → Prop
  | nil : DpKV K H [] []
  | cons {k : Key} {v : V} {d : D} {ks : List (Key × V)} {es : List (Key × D)} : Dt K H v d → DpKV K H ks es → DpKV K H ((k, v) :: ks) ((k, d) :: es)
theorem DpKV.mono (e : Same H H') : ∀ {ks : List (Key × V)} {es : List (Key × D)}, DpKV K H ks es → DpKV K H' ks es
  | _, _, .nil => .nil
  | _, _, .cons r t => .cons (Dt.mono e _ _ r) (DpKV.mono e t)
theorem DpKV.length : ∀ {ks : List (Key × V)} {es : List (Key × D)}, DpKV K H ks es → ks.length = es.length
  | _, _, .nil => rfl
  | _, _, .cons _ t => by rw [List.length_cons, List.length_cons, t.length]
theorem DpKV.keys : ∀ {ks : List (Key × V)} {es : List (Key × D)}, DpKV K H ks es → ks.map (·.1) = es.map (·.1)
  | _, _, .nil => rfl
  | _, _, .cons _ t => by rw [List.map_cons, List.map_cons, t.keys]

/-- the entries of a dict whose keys are tuples -/
inductive DpKT (K : PySem.W.Frag) (H : Hp) : List (List Key × V) → List (List Key × D) → Prop
  | nil : DpKT K H [] []
  | cons {k : List Key} {v : V} {d : D} {ks : List (List Key × V)} {es : List (List Key × D)} : Dt K H v d → DpKT K H ks es → DpKT K H ((k, v) :: ks) ((k, d) :: es)
theorem DpKT.mono (e : Same H H') : ∀ {ks : List (List Key × V)} {es : List (List Key × D)}, DpKT K H ks es → DpKT K H' ks es
  | _, _, .nil => .nil
  | _, _, .cons r t => .cons (Dt.mono e _ _ r) (DpKT.mono e t)
theorem DpKT.length : ∀ {ks : List (List Key × V)} {es : List (List Key × D)}, DpKT K H ks es → ks.length = es.length
  | _, _, .nil => rfl
  | _, _, .cons _ t => by rw [List.length_cons, List.length_cons, t.length]

/-- a box: data that stands still (in G), a list or a dict of one's own (in H) -/
inductive RB (K : PySem.W.Frag) (G H : Hp) : V → Sl → List Addr → Prop
  | sh {v : V} {d : D} : Dt K G v d → RB K G H v (.sh d) []
  | ol {p : Addr} {vs : List V} {ds : List D} : H p = some (.lst vs) → DtAll K G vs ds → RB K G H (.ref p) (.ol ds) [p]
  | od {p : Addr} {ks : List (Key × V)} {es : List (Key × D)} : H p = some (.dK ks) → DpKV K G ks es → RB K G H (.ref p) (.od es) [p]
  | td {p : Addr} {ks : List (List Key × V)} {es : List (List Key × D)} : H p = some (.dT ks) → DpKT K G ks es → RB K G H (.ref p) (.td es) [p]
  | tt {p q : Addr} {v : V} {d : D} {vs : List V} {ds : List D} : H p = some (.tup [v, .ref q]) → Dt K G v d → H q = some (.lst vs) → DtAll K G vs ds → RB K G H (.ref p) (.tt d ds) [p, q]
  | sc {p : Addr} {ns : List Int} : SqL K G p (ns.map V.int) → RB K G H (.ref p) (.sc ns) []
inductive RF (K : PySem.W.Frag) (G H : Hp) : List (Str × V) → List (Str × Sl) → List Addr → Prop
  | nil : RF K G H [] [] []
  | cons {f : Str} {v : V} {s : Sl} {o os : List Addr} {fs : List (Str × V)} {ss : List (Str × Sl)} : RB K G H v s o → RF K G H fs ss os → RF K G H ((f, v) :: fs) ((f, s) :: ss) (o ++ os)
/-- the rows above a list under making: the stack's parts, what is one's own -/
inductive CtxR (K : PySem.W.Frag) (G H : Hp) (root : Addr) : Addr → List Fr → List (List Addr) → List Addr → Prop
  | nil : CtxR K G H root root [] [[root]] []
  | lp {b a t : Addr} {vs : List V} {rows : List D} {fs : List Fr} {es : List (List Addr)} {os : List Addr} : H t = some (.tup [.str sLoop, .ref b]) → H a = some (.lst (vs ++ [.ref t])) → DtAll K G vs rows → CtxR K G H root a fs es os → CtxR K G H root b (.lp rows :: fs) ([b] :: es) (a :: t :: os)
  | e1 {b c a t : Addr} {vs : List V} {rows : List D} {fs : List Fr} {es : List (List Addr)} {os : List Addr} : H t = some (.tup [.str sEither, .ref b, .ref c]) → H c = some (.lst []) → H a = some (.lst (vs ++ [.ref t])) → DtAll K G vs rows → CtxR K G H root a fs es os → CtxR K G H root b (.e1 rows :: fs) ([b, c] :: es) (a :: t :: c :: os)
  | e2 {b b' a t : Addr} {vs : List V} {rows ones : List D} {fs : List Fr} {es : List (List Addr)} {os : List Addr} : H t = some (.tup [.str sEither, .ref b', .ref b]) → Dt K G (.ref b') (.list ones) → H a = some (.lst (vs ++ [.ref t])) → DtAll K G vs rows → CtxR K G H root a fs es os → CtxR K G H root b (.e2 rows ones :: fs) ([b] :: es) (a :: t :: os)
/-- lists of addresses -/
inductive QsR (H : Hp) : List Addr → List (List Addr) → Prop
  | nil : QsR H [] []
  | cons {q : Addr} {e : List Addr} {qs : List Addr} {es : List (List Addr)} : H q = some (.lst (e.map V.ref)) → QsR H qs es → QsR H (q :: qs) (e :: es)
/-- own lists of data -/
inductive NlR (K : PySem.W.Frag) (G H : Hp) : List Addr → List (List D) → Prop
  | nil : NlR K G H [] []
  | cons {q : Addr} {qs : List Addr} {vs : List V} {ds : List D} {rs : List (List D)} : H q = some (.lst vs) → DtAll K G vs ds → NlR K G H qs rs → NlR K G H (q :: qs) (ds :: rs)
mutual
/-- a tree of one's own -/
inductive TrR (K : PySem.W.Frag) (G H : Hp) : V → Tr → List Addr → Prop
  | lf {v : V} {d : D} : Dt K G v d → TrR K G H v (.lf d) []
  | ho {v : V} : TrR K G H v (.ho v) []
  | ls {a : Addr} {xs : List V} {ts : List Tr} {os : List Addr} : H a = some (.lst xs) → TrA K G H xs ts os → TrR K G H (.ref a) (.ls ts) (a :: os)
  | tp {a : Addr} {xs : List V} {ts : List Tr} {os : List Addr} : H a = some (.tup xs) → TrA K G H xs ts os → TrR K G H (.ref a) (.tp ts) (a :: os)
  | dc {a : Addr} {ks : List Key} {xs : List V} {ts : List Tr} {os : List Addr} : H a = some (.dK (ks.zip xs)) → ks.length = xs.length → TrA K G H xs ts os → TrR K G H (.ref a) (.dc ks ts) (a :: os)
inductive TrA (K : PySem.W.Frag) (G H : Hp) : List V → List Tr → List Addr → Prop
  | nil : TrA K G H [] [] []
  | cons {v : V} {t : Tr} {vs : List V} {ts : List Tr} {o os : List Addr} : TrR K G H v t o → TrA K G H vs ts os → TrA K G H (v :: vs) (t :: ts) (o ++ os)
end
/-- dicts that stand still -/
inductive FdR (K : PySem.W.Frag) (G : Hp) : List Addr → List (List (Key × D)) → Prop
  | nil : FdR K G [] []
  | cons {a : Addr} {as : List Addr} {ks : List (Key × V)} {es : List (Key × D)} {ess : List (List (Key × D))} : G a = some (.dK ks) → DpKV K G ks es → FdR K G as ess → FdR K G (a :: as) (es :: ess)
inductive OwR (K : PySem.W.Frag) (G H : Hp) : V → Ow → List Addr → Prop
  | ei {t b c : Addr} : H t = some (.tup [.str sEither, .ref b, .ref c]) → H b = some (.lst []) → H c = some (.lst []) → OwR K G H (.ref t) .ei [t, b, c]
  | lo {t b : Addr} : H t = some (.tup [.str sLoop, .ref b]) → H b = some (.lst []) → OwR K G H (.ref t) .lo [t, b]
  | tri {t l : Addr} {x y : V} {a c : D} {vs : List V} {ds : List D} : H t = some (.tup [x, .ref l, y]) → Dt K G x a → H l = some (.lst vs) → DtAll K G vs ds → Dt K G y c → OwR K G H (.ref t) (.tri a ds c) [t, l]
  | bs {st root b : Addr} {qs : List Addr} {es : List (List Addr)} {vs : List V} {cur : List D} {ctx : List Fr} {os : List Addr} : H st = some (.lst (qs.reverse.map V.ref)) → QsR H qs es → H b = some (.lst vs) → DtAll K G vs cur → CtxR K G H root b ctx es os → OwR K G H (.ref st) (.bs root cur ctx) (st :: b :: (qs ++ os))
  | bw {st root b : Addr} {es : List (List Addr)} {vs : List V} {cur : List D} {ctx : List Fr} {os : List Addr} : H st = some (.lst ((es.filterMap List.head?).reverse.map V.ref)) → H b = some (.lst vs) → DtAll K G vs cur → CtxR K G H root b ctx es os → OwR K G H (.ref st) (.bw root cur ctx) (st :: b :: os)
  | tu2 {t p q : Addr} {vs ws : List V} {a b : List D} : H t = some (.tup [.ref p, .ref q]) → H p = some (.lst vs) → DtAll K G vs a → H q = some (.lst ws) → DtAll K G ws b → OwR K G H (.ref t) (.tu a b none) [t, p, q]
  | tu3 {t p q r : Addr} {vs ws : List V} {a b : List D} {ks : List (Key × V)} {c : List (Key × D)} : H t = some (.tup [.ref p, .ref q, .ref r]) → H p = some (.lst vs) → DtAll K G vs a → H q = some (.lst ws) → DtAll K G ws b → H r = some (.dK ks) → DpKV K G ks c → OwR K G H (.ref t) (.tu a b (some c)) [t, p, q, r]
  | gh {G0 : Hp} {v : V} : Same G0 G → OwR K G H v (.gh G0) []
  | nl {p : Addr} {qs : List Addr} {rs : List (List D)} : H p = some (.lst (qs.map V.ref)) → NlR K G H qs rs → OwR K G H (.ref p) (.nl rs) (p :: qs)
  | nlh {p q : Addr} {A B : List Addr} {ra rb : List (List D)} : H p = some (.lst ((A ++ q :: B).map V.ref)) → NlR K G H A ra → NlR K G H B rb → OwR K G H (.ref p) (.nlh ra q rb) (p :: (A ++ B))
  | tr {v : V} {t : Tr} {os : List Addr} : TrR K G H v t os → OwR K G H v (.tr t) os
  | fd {p : Addr} {ks : List (Key × V)} {es : List (Key × D)} : G p = some (.dK ks) → DpKV K G ks es → OwR K G H (.ref p) (.fd es) []
  | fl {p : Addr} {as : List Addr} {ess : List (List (Key × D))} : G p = some (.lst (as.map V.ref)) → FdR K G as ess → OwR K G H (.ref p) (.fl ess) []
  | go {v : V} {os : List Addr} {F : Hp} : (∀ a ∈ os, ∃ o, F a = some o ∧ H a = some o) → OwR K G H v (.go os F) os
inductive RI (K : PySem.W.Frag) (mg : Str → Option Value) (G H : Hp) : Option V → Sl → List Addr → Prop
  | no {ov : Option V} : RI K mg G H ov .no []
  | vw {v : V} {i : Nat} : RI K mg G H (some v) (.vw i) []
  | bx {v : V} {s : Sl} {o : List Addr} : RB K G H v s o → RI K mg G H (some v) s o
  | oi {c : Str} {C p dx : Addr} {fs : List (Str × V)} {ss : List (Str × Sl)} {o : List Addr} : mg c = some (.ref C) → H p = some (.ins C dx fs) → RF K G H fs ss o → RI K mg G H (some (.ref p)) (.oi c ss) (p :: o)
  | ow {v : V} {x : Ow} {o : List Addr} : OwR K G H v x o → RI K mg G H (some v) (.ow x) o
abbrev Item := Option V × Sl
inductive RL (K : PySem.W.Frag) (mg : Str → Option Value) (G H : Hp) : List Item → List Addr → Prop
  | nil : RL K mg G H [] []
  | cons {ov : Option V} {s : Sl} {o os : List Addr} {l : List Item} : RI K mg G H ov s o → RL K mg G H l os → RL K mg G H ((ov, s) :: l) (o ++ os)
/-- the heap bears the items: G what stands still -/
structure Rp (K : PySem.W.Frag) (mg : Str → Option Value) (G H : Hp) (l : List Item) (os : List Addr) : Prop where
  same : Same G H
  rl : RL K mg G H l os
  nd : os.Nodup
  off : ∀ a ∈ os, G a = none
def Rep (K : PySem.W.Frag) (mg : Str → Option Value) (H : Hp) (l : List Item) : Prop := ∃ G os, Rp K mg G H l os

variable {mg : Str → Option Value} {G G' : Hp} {l l' : List Item} {os : List Addr} {v : V} {s : Sl} {ov : Option V} {p : Addr}

theorem RB.mono (e : Same G G') (e' : ∀ a ∈ os, ∀ o, H a = some o → H' a = some o) (h : RB K G H v s os) : RB K G' H' v s os := by
  cases h with
  | sh d => exact .sh (Dt.mono e _ _ d)
  | ol hp ha => exact .ol (e' _ (by simp) _ hp) (DtAll.mono e _ _ ha)
  | od hp ha => exact .od (e' _ (by simp) _ hp) (ha.mono e)
  | td hp ha => exact .td (e' _ (by simp) _ hp) (ha.mono e)
  | tt hp hd hq ha => exact .tt (e' _ (by simp) _ hp) (Dt.mono e _ _ hd) (e' _ (by simp) _ hq) (DtAll.mono e _ _ ha)
  | sc hs => exact .sc (e.seq hs)
theorem RF.mono (e : Same G G') : ∀ {fs : List (Str × V)} {ss : List (Str × Sl)} {os : List Addr}, (∀ a ∈ os, ∀ o, H a = some o → H' a = some o) → RF K G H fs ss os → RF K G' H' fs ss os
  | _, _, _, _, .nil => .nil
  | _, _, _, e', .cons r t => .cons (r.mono e fun a ha => e' a (List.mem_append_left _ ha)) (RF.mono e (fun a ha => e' a (List.mem_append_right _ ha)) t)
theorem CtxR.mono (e : Same G G') : ∀ {root b : Addr} {fs : List Fr} {es : List (List Addr)} {os : List Addr}, (∀ a ∈ os, ∀ o, H a = some o → H' a = some o) → CtxR K G H root b fs es os → CtxR K G' H' root b fs es os
  | _, _, _, _, _, _, .nil => .nil
  | _, _, _, _, _, e', .lp h1 h2 h3 t => .lp (e' _ (by simp) _ h1) (e' _ (by simp) _ h2) (DtAll.mono e _ _ h3) (CtxR.mono e (fun a ha => e' a (by simp [ha])) t)
  | _, _, _, _, _, e', .e1 h1 h2 h3 h4 t => .e1 (e' _ (by simp) _ h1) (e' _ (by simp) _ h2) (e' _ (by simp) _ h3) (DtAll.mono e _ _ h4) (CtxR.mono e (fun a ha => e' a (by simp [ha])) t)
  | _, _, _, _, _, e', .e2 h1 h2 h3 h4 t => .e2 (e' _ (by simp) _ h1) (Dt.mono e _ _ h2) (e' _ (by simp) _ h3) (DtAll.mono e _ _ h4) (CtxR.mono e (fun a ha => e' a (by simp [ha])) t)
theorem QsR.mono : ∀ {qs : List Addr} {es : List (List Addr)}, (∀ a ∈ qs, ∀ o, H a = some o → H' a = some o) → QsR H qs es → QsR H' qs es
  | _, _, _, .nil => .nil
  | _, _, e', .cons h t => .cons (e' _ (by simp) _ h) (QsR.mono (fun a ha => e' a (by simp [ha])) t)
theorem NlR.mono (e : Same G G') : ∀ {qs : List Addr} {rs : List (List D)}, (∀ a ∈ qs, ∀ o, H a = some o → H' a = some o) → NlR K G H qs rs → NlR K G' H' qs rs
  | _, _, _, .nil => .nil
  | _, _, e', .cons h d t => .cons (e' _ (by simp) _ h) (DtAll.mono e _ _ d) (NlR.mono e (fun a ha => e' a (by simp [ha])) t)
mutual
theorem TrR.mono (e : Same G G') : ∀ {t : Tr} {v : V} {os : List Addr}, (∀ a ∈ os, ∀ o, H a = some o → H' a = some o) → TrR K G H v t os → TrR K G' H' v t os
  | .lf _, _, _, _, h => by cases h with | lf h => exact .lf (Dt.mono e _ _ h)
  | .ho _, _, _, _, h => by cases h with | ho => exact .ho
  | .ls ts, _, _, e', h => by cases h with | ls h t => exact .ls (e' _ (by simp) _ h) (TrA.mono e (fun a ha => e' a (by simp [ha])) t)
  | .tp ts, _, _, e', h => by cases h with | tp h t => exact .tp (e' _ (by simp) _ h) (TrA.mono e (fun a ha => e' a (by simp [ha])) t)
  | .dc ks ts, _, _, e', h => by cases h with | dc h hl t => exact .dc (e' _ (by simp) _ h) hl (TrA.mono e (fun a ha => e' a (by simp [ha])) t)
theorem TrA.mono (e : Same G G') : ∀ {ts : List Tr} {vs : List V} {os : List Addr}, (∀ a ∈ os, ∀ o, H a = some o → H' a = some o) → TrA K G H vs ts os → TrA K G' H' vs ts os
  | [], _, _, _, h => by cases h; exact .nil
  | t :: ts, _, _, e', h => by cases h with | cons h r => exact .cons (TrR.mono e (fun a ha => e' a (List.mem_append_left _ ha)) h) (TrA.mono e (fun a ha => e' a (List.mem_append_right _ ha)) r)
end
mutual
theorem TrR.there : ∀ {t : Tr} {v : V} {os : List Addr}, TrR K G H v t os → ∀ a ∈ os, ∃ o, H a = some o
  | .lf _, _, _, h, a, ha => by cases h with | lf h => cases ha
  | .ho _, _, _, h, a, ha => by cases h with | ho => cases ha
  | .ls ts, _, _, h, a, ha => by
    cases h with
    | ls h t =>
      rcases List.mem_cons.mp ha with rfl | ha
      · exact ⟨_, h⟩
      · exact TrA.there t a ha
  | .tp ts, _, _, h, a, ha => by
    cases h with
    | tp h t =>
      rcases List.mem_cons.mp ha with rfl | ha
      · exact ⟨_, h⟩
      · exact TrA.there t a ha
  | .dc ks ts, _, _, h, a, ha => by
    cases h with
    | dc h hl t =>
      rcases List.mem_cons.mp ha with rfl | ha
      · exact ⟨_, h⟩
      · exact TrA.there t a ha
theorem TrA.there : ∀ {ts : List Tr} {vs : List V} {os : List Addr}, TrA K G H vs ts os → ∀ a ∈ os, ∃ o, H a = some o
  | [], _, _, h, a, ha => by cases h; cases ha
  | t :: ts, _, _, h, a, ha => by
    cases h with
    | cons h r =>
      rcases List.mem_append.mp ha with ha | ha
      · exact TrR.there h a ha
      · exact TrA.there r a ha
end
theorem FdR.mono (e : Same G G') : ∀ {as : List Addr} {ess : List (List (Key × D))}, FdR K G as ess → FdR K G' as ess
  | _, _, .nil => .nil
  | _, _, .cons h d t => .cons (e _ _ h) (d.mono e) (FdR.mono e t)
theorem OwR.mono {x : Ow} (e : Same G G') (e' : ∀ a ∈ os, ∀ o, H a = some o → H' a = some o) (h : OwR K G H v x os) : OwR K G' H' v x os := by
  cases h with
  | ei h1 h2 h3 => exact .ei (e' _ (by simp) _ h1) (e' _ (by simp) _ h2) (e' _ (by simp) _ h3)
  | lo h1 h2 => exact .lo (e' _ (by simp) _ h1) (e' _ (by simp) _ h2)
  | tri h1 h2 h3 h4 h5 => exact .tri (e' _ (by simp) _ h1) (Dt.mono e _ _ h2) (e' _ (by simp) _ h3) (DtAll.mono e _ _ h4) (Dt.mono e _ _ h5)
  | bs h1 h2 h3 h4 h5 => exact .bs (e' _ (by simp) _ h1) (h2.mono fun a ha => e' a (by simp [ha])) (e' _ (by simp) _ h3) (DtAll.mono e _ _ h4) (h5.mono e fun a ha => e' a (by simp [ha]))
  | bw h1 h3 h4 h5 => exact .bw (e' _ (by simp) _ h1) (e' _ (by simp) _ h3) (DtAll.mono e _ _ h4) (h5.mono e fun a ha => e' a (by simp [ha]))
  | tu2 h1 h2 h3 h4 h5 => exact .tu2 (e' _ (by simp) _ h1) (e' _ (by simp) _ h2) (DtAll.mono e _ _ h3) (e' _ (by simp) _ h4) (DtAll.mono e _ _ h5)
  | gh h1 => exact .gh (h1.trans e)
  | nl h1 h2 => exact .nl (e' _ (by simp) _ h1) (h2.mono e fun a ha => e' a (by simp [ha]))
  | nlh h1 h2 h3 => exact .nlh (e' _ (by simp) _ h1) (h2.mono e fun a ha => e' a (by simp [ha])) (h3.mono e fun a ha => e' a (by simp [ha]))
  | tr h => exact .tr (h.mono e e')
  | fd h1 h2 => exact .fd (e _ _ h1) (h2.mono e)
  | fl h1 h2 => exact .fl (e _ _ h1) (h2.mono e)
  | go h1 =>
    refine .go fun a ha => ?_
    obtain ⟨o, f1, f2⟩ := h1 a ha
    exact ⟨o, f1, e' _ ha _ f2⟩
  | tu3 h1 h2 h3 h4 h5 h6 h7 => exact .tu3 (e' _ (by simp) _ h1) (e' _ (by simp) _ h2) (DtAll.mono e _ _ h3) (e' _ (by simp) _ h4) (DtAll.mono e _ _ h5) (e' _ (by simp) _ h6) (h7.mono e)
theorem RI.mono (e : Same G G') (e' : ∀ a ∈ os, ∀ o, H a = some o → H' a = some o) (h : RI K mg G H ov s os) : RI K mg G' H' ov s os := by
  cases h with
  | no => exact .no
  | vw => exact .vw
  | bx b => exact .bx (b.mono e e')
  | oi hm hp hf => exact .oi hm (e' _ (by simp) _ hp) (hf.mono e fun a ha => e' a (List.mem_cons_of_mem _ ha))
  | ow h => exact .ow (h.mono e e')
theorem RL.mono (e : Same G G') : ∀ {l : List Item} {os : List Addr}, (∀ a ∈ os, ∀ o, H a = some o → H' a = some o) → RL K mg G H l os → RL K mg G' H' l os
  | _, _, _, .nil => .nil
  | _, _, e', .cons r t => .cons (r.mono e fun a ha => e' a (List.mem_append_left _ ha)) (RL.mono e (fun a ha => e' a (List.mem_append_right _ ha)) t)
/-- each address of one's own is known -/
theorem RB.there (h : RB K G H v s os) : ∀ a ∈ os, ∃ o, H a = some o := by
  cases h with
  | sh d => intro a ha; cases ha
  | ol hp ha => intro a ha; simp at ha; subst ha; exact ⟨_, hp⟩
  | od hp ha => intro a ha; simp at ha; subst ha; exact ⟨_, hp⟩
  | td hp ha => intro a ha; simp at ha; subst ha; exact ⟨_, hp⟩
  | tt hp hd hq ha =>
    intro a ha
    simp at ha
    rcases ha with rfl | rfl
    · exact ⟨_, hp⟩
    · exact ⟨_, hq⟩
  | sc _ => intro a ha; cases ha
theorem RF.there : ∀ {fs : List (Str × V)} {ss : List (Str × Sl)} {os : List Addr}, RF K G H fs ss os → ∀ a ∈ os, ∃ o, H a = some o
  | _, _, _, .nil, a, ha => by cases ha
  | _, _, _, .cons r t, a, ha => by
    rcases List.mem_append.mp ha with ha | ha
    · exact r.there a ha
    · exact RF.there t a ha
theorem CtxR.there : ∀ {root b : Addr} {fs : List Fr} {es : List (List Addr)} {os : List Addr}, CtxR K G H root b fs es os → ∀ a ∈ os, ∃ o, H a = some o
  | _, _, _, _, _, .nil, a, ha => by cases ha
  | _, _, _, _, _, .lp h1 h2 h3 t, a, ha => by
    rcases List.mem_cons.mp ha with rfl | ha
    · exact ⟨_, h2⟩
    rcases List.mem_cons.mp ha with rfl | ha
    · exact ⟨_, h1⟩
    exact CtxR.there t a ha
  | _, _, _, _, _, .e1 h1 h2 h3 h4 t, a, ha => by
    rcases List.mem_cons.mp ha with rfl | ha
    · exact ⟨_, h3⟩
    rcases List.mem_cons.mp ha with rfl | ha
    · exact ⟨_, h1⟩
    rcases List.mem_cons.mp ha with rfl | ha
    · exact ⟨_, h2⟩
    exact CtxR.there t a ha
  | _, _, _, _, _, .e2 h1 h2 h3 h4 t, a, ha => by
    rcases List.mem_cons.mp ha with rfl | ha
    · exact ⟨_, h3⟩
    rcases List.mem_cons.mp ha with rfl | ha
    · exact ⟨_, h1⟩
    exact CtxR.there t a ha
theorem QsR.there : ∀ {qs : List Addr} {es : List (List Addr)}, QsR H qs es → ∀ a ∈ qs, ∃ o, H a = some o
  | _, _, .nil, a, ha => by cases ha
  | _, _, .cons h t, a, ha => by
    rcases List.mem_cons.mp ha with rfl | ha
    · exact ⟨_, h⟩
    · exact QsR.there t a ha
theorem NlR.there : ∀ {qs : List Addr} {rs : List (List D)}, NlR K G H qs rs → ∀ a ∈ qs, ∃ o, H a = some o
  | _, _, .nil, a, ha => by cases ha
  | _, _, .cons h _ t, a, ha => by
    rcases List.mem_cons.mp ha with rfl | ha
    · exact ⟨_, h⟩
    · exact NlR.there t a ha
theorem OwR.there {x : Ow} (h : OwR K G H v x os) : ∀ a ∈ os, ∃ o, H a = some o := by
  intro a ha
  cases h with
  | ei h1 h2 h3 =>
    simp at ha
    rcases ha with rfl | rfl | rfl
    · exact ⟨_, h1⟩
    · exact ⟨_, h2⟩
    · exact ⟨_, h3⟩
  | lo h1 h2 =>
    simp at ha
    rcases ha with rfl | rfl
    · exact ⟨_, h1⟩
    · exact ⟨_, h2⟩
  | tri h1 h2 h3 h4 h5 =>
    simp at ha
    rcases ha with rfl | rfl
    · exact ⟨_, h1⟩
    · exact ⟨_, h3⟩
  | bs h1 h2 h3 h4 h5 =>
    simp only [List.mem_cons, List.mem_append] at ha
    rcases ha with rfl | rfl | ha | ha
    · exact ⟨_, h1⟩
    · exact ⟨_, h3⟩
    · exact h2.there a ha
    · exact h5.there a ha
  | bw h1 h3 h4 h5 =>
    simp only [List.mem_cons] at ha
    rcases ha with rfl | rfl | ha
    · exact ⟨_, h1⟩
    · exact ⟨_, h3⟩
    · exact h5.there a ha
  | tu2 h1 h2 h3 h4 h5 =>
    simp only [List.mem_cons, List.not_mem_nil, or_false] at ha
    rcases ha with rfl | rfl | rfl
    · exact ⟨_, h1⟩
    · exact ⟨_, h2⟩
    · exact ⟨_, h4⟩
  | gh _ => simp at ha
  | nl h1 h2 =>
    rcases List.mem_cons.mp ha with rfl | ha
    · exact ⟨_, h1⟩
    · exact h2.there a ha
  | nlh h1 h2 h3 =>
    rcases List.mem_cons.mp ha with rfl | ha
    · exact ⟨_, h1⟩
    · rcases List.mem_append.mp ha with ha | ha
      · exact h2.there a ha
      · exact h3.there a ha
  | tr h => exact h.there a ha
  | fd _ _ => cases ha
  | fl _ _ => cases ha
  | go h1 =>
    obtain ⟨o, _, f⟩ := h1 a ha
    exact ⟨o, f⟩
  | tu3 h1 h2 h3 h4 h5 h6 h7 =>
    simp only [List.mem_cons, List.not_mem_nil, or_false] at ha
    rcases ha with rfl | rfl | rfl | rfl
    · exact ⟨_, h1⟩
    · exact ⟨_, h2⟩
    · exact ⟨_, h4⟩
    · exact ⟨_, h6⟩
theorem RI.there (h : RI K mg G H ov s os) : ∀ a ∈ os, ∃ o, H a = some o := by
  cases h with
  | no => intro a ha; cases ha
  | vw => intro a ha; cases ha
  | bx b => exact b.there
  | oi hm hp hf =>
    intro a ha
    rcases List.mem_cons.mp ha with rfl | ha
    · exact ⟨_, hp⟩
    · exact hf.there a ha
  | ow h => exact h.there
theorem RL.there : ∀ {l : List Item} {os : List Addr}, RL K mg G H l os → ∀ a ∈ os, ∃ o, H a = some o
  | _, _, .nil, a, ha => by cases ha
  | _, _, .cons r t, a, ha => by
    rcases List.mem_append.mp ha with ha | ha
    · exact r.there a ha
    · exact RL.there t a ha
theorem RL.perm : ∀ {l l' : List Item}, l.Perm l' → ∀ {os : List Addr}, RL K mg G H l os → ∃ os', RL K mg G H l' os' ∧ os.Perm os' := by
  intro l l' hp
  induction hp with
  | nil => intro os h; exact ⟨os, h, .refl _⟩
  | cons x _ ih =>
    intro os h
    cases h with
    | cons r t =>
      obtain ⟨os', h', q⟩ := ih t
      exact ⟨_, .cons r h', q.append_left _⟩
  | swap x y l =>
    intro os h
    cases h with
    | cons r t =>
      cases t with
      | cons r2 t2 =>
        refine ⟨_, .cons r2 (.cons r t2), ?_⟩
        rw [← List.append_assoc, ← List.append_assoc]
        exact List.perm_append_comm.append_right _
  | trans _ _ ih1 ih2 =>
    intro os h
    obtain ⟨os1, h1, q1⟩ := ih1 h
    obtain ⟨os2, h2, q2⟩ := ih2 h1
    exact ⟨os2, h2, q1.trans q2⟩
theorem Rp.perm (h : Rp K mg G H l os) (hp : l.Perm l') : ∃ os', Rp K mg G H l' os' := by
  obtain ⟨os', r, q⟩ := h.rl.perm hp
  exact ⟨os', h.same, r, q.nodup_iff.mp h.nd, fun a ha => h.off a (q.mem_iff.mpr ha)⟩
theorem Rep.perm (h : Rep K mg H l) (hp : l.Perm l') : Rep K mg H l' := by
  obtain ⟨G, os, h⟩ := h
  obtain ⟨os', h'⟩ := h.perm hp
  exact ⟨G, os', h'⟩
/-- an item less -/
theorem Rp.tail {it : Item} (h : Rp K mg G H (it :: l) os) : ∃ os', Rp K mg G H l os' := by
  obtain ⟨s, r, n, f⟩ := h
  cases r with
  | cons r t => exact ⟨_, s, t, (List.nodup_append.mp n).2.1, fun a ha => f a (List.mem_append_right _ ha)⟩
theorem Rep.tail {it : Item} (h : Rep K mg H (it :: l)) : Rep K mg H l := by
  obtain ⟨G, os, h⟩ := h
  obtain ⟨os', h'⟩ := h.tail
  exact ⟨G, os', h'⟩
/-- an item that has nothing of its own -/
theorem Rp.push (h : Rp K mg G H l os) (r : RI K mg G H ov s []) : Rp K mg G H ((ov, s) :: l) os := by
  refine ⟨h.same, ?_, h.nd, h.off⟩
  have := RL.cons r h.rl
  simpa using this
theorem Rep.no (h : Rep K mg H l) (ov : Option V) : Rep K mg H ((ov, .no) :: l) := by
  obtain ⟨G, os, h⟩ := h
  exact ⟨G, os, h.push .no⟩
theorem Rp.sh (h : Rp K mg G H l os) {d : D} (r : Dt K G v d) : Rp K mg G H ((some v, .sh d) :: l) os := h.push (.bx (.sh r))
/-- a new object that stands still from now on -/
theorem Rp.still {o : HO} (h : Rp K mg G H l os) (hp : H p = none) : Rp K mg (upd G p o) (upd H p o) l os := by
  have gp : G p = none := h.same.free hp
  have hne : ∀ a ∈ os, a ≠ p := fun a ha e => by
    obtain ⟨u, hu⟩ := h.rl.there a ha
    rw [e, hp] at hu; cases hu
  have sG : Same G (upd G p o) := fun b x e => by rw [upd_ne (ne_of_none e gp)]; exact e
  refine ⟨fun b x e => ?_, h.rl.mono sG (fun a ha x e => by rw [upd_ne (hne a ha)]; exact e), h.nd, fun a ha => by rw [upd_ne (hne a ha)]; exact h.off a ha⟩
  by_cases hb : b = p
  · subst hb; rw [upd_same] at e ⊢; exact e
  · rw [upd_ne hb] at e ⊢; exact h.same b x e
theorem sameG {o : HO} (gp : G p = none) : Same G (upd G p o) := fun b x e => by rw [upd_ne (ne_of_none e gp)]; exact e
/-- a new object of one's own -/
theorem Rp.new {o : HO} (h : Rp K mg G H l os) (hp : H p = none) (r : ∀ H', H' p = some o → RI K mg G H' (some (.ref p)) s [p]) : Rp K mg G (upd H p o) ((some (.ref p), s) :: l) (p :: os) := by
  have gp : G p = none := h.same.free hp
  have hne : ∀ a ∈ os, a ≠ p := fun a ha e => by
    obtain ⟨u, hu⟩ := h.rl.there a ha
    rw [e, hp] at hu; cases hu
  refine ⟨fun b x e => by rw [upd_ne (ne_of_none e gp)]; exact h.same b x e, ?_, List.nodup_cons.mpr ⟨fun ha => hne p ha rfl, h.nd⟩, fun a ha => ?_⟩
  · exact RL.cons (r _ upd_same) (h.rl.mono (fun _ _ q => q) fun a ha x e => by rw [upd_ne (hne a ha)]; exact e)
  · rcases List.mem_cons.mp ha with rfl | ha
    · exact gp
    · exact h.off a ha
/-- an unknown object is written that no item holds (a list under making) -/
theorem Rp.newOl {vs : List V} {ds : List D} (h : Rp K mg G H l os) (hp : H p = none) (ha : DtAll K G vs ds) : Rp K mg G (upd H p (.lst vs)) ((some (.ref p), .ol ds) :: l) (p :: os) :=
  h.new hp fun H' e => .bx (.ol e ha)
/-- a list of one's own is changed -/
theorem Rp.mut {o : HO} {s' : Sl} (h : Rp K mg G H ((some (.ref p), s) :: l) os) (hs : ∀ q, RI K mg G H (some (.ref p)) s q → q = [p]) (r : ∀ H', H' p = some o → RI K mg G H' (some (.ref p)) s' [p]) :
    Rp K mg G (upd H p o) ((some (.ref p), s') :: l) os := by
  obtain ⟨sm, rl, n, f⟩ := h
  cases rl with
  | cons ri t =>
    have e := hs _ ri
    subst e
    have gp : G p = none := f p (by simp)
    have n2 : p ∉ _ ∧ _ := List.nodup_cons.mp (by simpa using n)
    refine ⟨fun b x e => by rw [upd_ne (ne_of_none e gp)]; exact sm b x e, ?_, n, f⟩
    exact RL.cons (r _ upd_same) (t.mono (fun _ _ q => q) fun a ha x e => by rw [upd_ne (fun z => n2.1 (by rw [← z]; exact ha))]; exact e)
theorem ol_own {ds : List D} : ∀ q, RI K mg G H (some (.ref p)) (.ol ds) q → q = [p] := fun q h => by
  cases h with
  | bx b => cases b with
    | ol _ _ => rfl
theorem od_own {ds : List (Key × D)} : ∀ q, RI K mg G H (some (.ref p)) (.od ds) q → q = [p] := fun q h => by
  cases h with
  | bx b => cases b with
    | od _ _ => rfl
theorem td_own {ds : List (List Key × D)} : ∀ q, RI K mg G H (some (.ref p)) (.td ds) q → q = [p] := fun q h => by
  cases h with
  | bx b => cases b with
    | td _ _ => rfl
/-- a list of one's own stands still from now on -/
theorem Rp.freeze {ds : List D} (h : Rp K mg G H ((ov, .ol ds) :: l) os) : ∃ G' v, ov = some v ∧ Same G G' ∧ Dt K G' v (.list ds) ∧ ∃ os', Rp K mg G' H ((ov, .sh (.list ds)) :: l) os' := by
  obtain ⟨sm, rl, n, f⟩ := h
  cases rl with
  | cons ri t =>
    cases ri with
    | bx b =>
      cases b with
      | @ol p vs ds hp ha =>
        have gp : G p = none := f p (by simp)
        have n2 : p ∉ _ ∧ _ := List.nodup_cons.mp (by simpa using n)
        have sG : Same G (upd G p (.lst vs)) := sameG gp
        have dd : Dt K (upd G p (.lst vs)) (.ref p) (.list ds) := Dt.lst upd_same (DtAll.mono sG _ _ ha)
        refine ⟨upd G p (.lst vs), .ref p, rfl, sG, dd, _, Rp.sh ⟨fun b x e => ?_, t.mono sG (fun a ha x e => e), n2.2, fun a ha => ?_⟩ dd⟩
        · by_cases hb : b = p
          · subst hb; rw [upd_same] at e; rw [hp]; exact e
          · rw [upd_ne hb] at e; exact sm b x e
        · rw [upd_ne (fun z => n2.1 (by rw [← z]; exact ha))]; exact f a (List.mem_append_right _ ha)
theorem Rep.freeze {ds : List D} (h : Rep K mg H ((ov, .ol ds) :: l)) : Rep K mg H ((ov, .sh (.list ds)) :: l) := by
  obtain ⟨G, os, h⟩ := h
  obtain ⟨G', _, _, _, _, os', h'⟩ := h.freeze
  exact ⟨G', os', h'⟩
theorem Rp.shOf {d : D} (h : Rp K mg G H l os) (hm : (ov, .sh d) ∈ l) : ∃ v, ov = some v ∧ Dt K G v d := by
  have key : ∀ {l : List Item} {os : List Addr}, RL K mg G H l os → (ov, Sl.sh d) ∈ l → ∃ v, ov = some v ∧ Dt K G v d := by
    intro l os r
    induction r with
    | nil => intro h; cases h
    | cons ri t ih =>
      intro h
      rcases List.mem_cons.mp h with e | h
      · cases e
        cases ri with
        | bx b => cases b with
          | sh d => exact ⟨_, rfl, d⟩
      · exact ih h
  exact key h.rl hm
theorem Rp.someOf (h : Rp K mg G H l os) (hm : (ov, s) ∈ l) (hn : s ≠ .no) : ∃ v, ov = some v := by
  have key : ∀ {l : List Item} {os : List Addr}, RL K mg G H l os → (ov, s) ∈ l → ∃ v, ov = some v := by
    intro l os r
    induction r with
    | nil => intro h; cases h
    | cons ri t ih =>
      intro h
      rcases List.mem_cons.mp h with e | h
      · cases e
        cases ri with
        | no => exact absurd rfl hn
        | vw => exact ⟨_, rfl⟩
        | bx b => exact ⟨_, rfl⟩
        | oi _ _ _ => exact ⟨_, rfl⟩
        | ow _ => exact ⟨_, rfl⟩
      · exact ih h
  exact key h.rl hm
end
end FL

/-! FL2: readings as functions: expressions -/
namespace FL
open PySem PySem.Spec PyProof.Rows L2

/-! ### the frame's items -/
theorem zip_perm : ∀ {σ : List (Option V)} {env : Lo} {i : Nat} {ov : Option V} {s : Sl}, σ[i]? = some ov → env[i]? = some s →
    ∃ R : List Item, (σ.zip env).Perm ((ov, s) :: R) ∧ (∀ ov' s', ((σ.set i ov').zip (env.set i s')).Perm ((ov', s') :: R)) ∧ ∀ s', (σ.zip (env.set i s')).Perm ((ov, s') :: R)
  | [], _, _, _, _, h, _ => by simp at h
  | _ :: _, [], _, _, _, _, h => by simp at h
  | a :: σ, b :: env, 0, ov, s, h1, h2 => by
    simp at h1 h2; subst h1; subst h2
    exact ⟨σ.zip env, .refl _, fun _ _ => .refl _, fun _ => .refl _⟩
  | a :: σ, b :: env, i + 1, ov, s, h1, h2 => by
    obtain ⟨R, p1, p2, p3⟩ := zip_perm (σ := σ) (env := env) (i := i) (ov := ov) (s := s) (by simpa using h1) (by simpa using h2)
    refine ⟨(a, b) :: R, ?_, fun ov' s' => ?_, fun s' => ?_⟩
    · exact (p1.cons _).trans (.swap _ _ _)
    · exact ((p2 ov' s').cons _).trans (.swap _ _ _)
    · exact ((p3 s').cons _).trans (.swap _ _ _)
theorem mem_zip : ∀ {σ : List (Option V)} {env : Lo} {i : Nat} {ov : Option V} {s : Sl}, σ[i]? = some ov → env[i]? = some s → (ov, s) ∈ σ.zip env
  | [], _, _, _, _, h, _ => by simp at h
  | _ :: _, [], _, _, _, _, h => by simp at h
  | a :: σ, b :: env, 0, ov, s, h1, h2 => by
    simp at h1 h2; subst h1; subst h2; simp
  | a :: σ, b :: env, i + 1, ov, s, h1, h2 => by
    rw [List.zip_cons_cons]
    exact List.mem_cons_of_mem _ (mem_zip (by simpa using h1) (by simpa using h2))

structure Hold (K : PySem.W.Frag) (mg : Str → Option Value) (H : Hp) (σ : L2.St) (env : Lo) (l : List Item) : Prop where
  len : σ.length = env.length
  rep : Rep K mg H (σ.zip env ++ l)
def VwOk (σ : L2.St) (v : V) (r : Sl) : Prop := ∀ i, r = .vw i → σ[i]? = some (some v)
structure HoldV (K : PySem.W.Frag) (mg : Str → Option Value) (H : Hp) (σ : L2.St) (env : Lo) (l : List Item) (v : V) (r : Sl) : Prop where
  len : σ.length = env.length
  rep : Rep K mg H ((some v, r) :: (σ.zip env ++ l))
  vw : VwOk σ v r

section
variable {K : PySem.W.Frag} {mg : Str → Option Value} {G H H' : Hp} {σ : L2.St} {env : Lo} {l L : List Item} {os : List Addr} {v : V} {r s : Sl} {i : Nat} {ov : Option V}
theorem slot_at (h : σ.length = env.length) (e : env[i]? = some s) : ∃ ov, σ[i]? = some ov := by
  have hi : i < env.length := (List.getElem?_eq_some_iff.mp e).1
  exact ⟨σ[i]'(by omega), List.getElem?_eq_getElem (by omega)⟩
/-- a slot's item is taken out -/
theorem Hold.take (h : Hold K mg H σ env l) (e : env[i]? = some s) : ∃ ov, σ[i]? = some ov ∧ Rep K mg H ((ov, s) :: (σ.zip (env.set i .no) ++ l)) := by
  obtain ⟨ov, e1⟩ := slot_at h.len e
  obtain ⟨R, p1, _, p3⟩ := zip_perm e1 e
  refine ⟨ov, e1, ?_⟩
  have q : Rep K mg H ((ov, s) :: (R ++ l)) := h.rep.perm (p1.append_right l)
  have q2 : Rep K mg H ((ov, .no) :: ((ov, s) :: (R ++ l))) := q.no ov
  refine q2.perm ?_
  refine (List.Perm.swap _ _ _).trans (List.Perm.cons _ ?_)
  exact ((p3 .no).append_right l).symm
/-- .. and put back -/
theorem Rep.put (h : Rep K mg H ((ov, s) :: (σ.zip env ++ l))) (hl : σ.length = env.length) (e : σ[i]? = some ov) : Rep K mg H (σ.zip (env.set i s) ++ l) := by
  have hi : i < σ.length := (List.getElem?_eq_some_iff.mp e).1
  have e2 : env[i]? = some (env[i]'(by omega)) := List.getElem?_eq_getElem (by omega)
  obtain ⟨R, p1, _, p3⟩ := zip_perm e e2
  have q : Rep K mg H ((ov, env[i]'(by omega)) :: ((ov, s) :: (R ++ l))) := h.perm (((p1.append_right l).cons _).trans (.swap _ _ _))
  exact q.tail.perm ((p3 s).append_right l).symm
/-- a slot gets a value -/
theorem Rep.asg (h : Rep K mg H ((some v, r) :: (σ.zip env ++ l))) (hl : σ.length = env.length) (hi : i < env.length) : Rep K mg H ((σ.set i (some v)).zip (env.set i r) ++ l) := by
  have e1 : σ[i]? = some (σ[i]'(by omega)) := List.getElem?_eq_getElem (by omega)
  have e2 : env[i]? = some (env[i]'(by omega)) := List.getElem?_eq_getElem (by omega)
  obtain ⟨R, p1, p2, _⟩ := zip_perm e1 e2
  have q : Rep K mg H ((σ[i]'(by omega), env[i]'(by omega)) :: ((some v, r) :: (R ++ l))) := h.perm (((p1.append_right l).cons _).trans (.swap _ _ _))
  exact q.tail.perm ((p2 _ r).append_right l).symm
theorem Hold.more {it : Item} (h : Hold K mg H σ env (it :: l)) : Hold K mg H σ env l := ⟨h.len, by
  have : Rep K mg H (it :: (σ.zip env ++ l)) := h.rep.perm List.perm_middle
  exact this.tail⟩
theorem HoldV.hold (h : HoldV K mg H σ env l v r) : Hold K mg H σ env ((some v, r) :: l) := ⟨h.len, h.rep.perm List.perm_middle.symm⟩
theorem HoldV.drop (h : HoldV K mg H σ env l v r) : Hold K mg H σ env l := ⟨h.len, h.rep.tail⟩
theorem Hold.toV (h : Hold K mg H σ env ((some v, r) :: l)) (hv : VwOk σ v r) : HoldV K mg H σ env l v r := ⟨h.len, h.rep.perm List.perm_middle, hv⟩

/-! ### what a value is worth now -/
def view (env : Lo) : Sl → Option D
  | .sh d => some d
  | .ol ds => some (.list ds)
  | .vw i => match env[i]? with
    | some (.ol ds) => some (.list ds)
    | _ => none
  | _ => none
/-- data; a list of one's own above data -/
def DpT (K : PySem.W.Frag) (G H : Hp) (v : V) (d : D) : Prop := Dt K G v d ∨ ∃ p vs ds, v = .ref p ∧ d = .list ds ∧ H p = some (.lst vs) ∧ DtAll K G vs ds
theorem DpT.list {ds : List D} (sm : Same G H) (h : DpT K G H v (.list ds)) : ∃ p vs, v = .ref p ∧ H p = some (.lst vs) ∧ DtAll K G vs ds := by
  rcases h with h | ⟨p, vs, ds', rfl, e, hp, ha⟩
  · cases h with
    | lst hs ha => exact ⟨_, _, rfl, sm _ _ hs, ha⟩
  · cases e
    exact ⟨p, vs, rfl, hp, ha⟩
theorem DpT.tuple {ds : List D} (sm : Same G H) (h : DpT K G H v (.tuple ds)) : ∃ p vs, v = .ref p ∧ SqT K H p vs ∧ DtAll K G vs ds := by
  rcases h with h | ⟨p, vs, ds', rfl, e, hp, ha⟩
  · cases h with
    | tup hs ha => exact ⟨_, _, rfl, (hs.mono sm).sq, ha⟩
  · cases e
theorem DpT.int {n : Int} (h : DpT K G H v (.int n)) : v = .int n := by
  rcases h with h | ⟨p, vs, ds', rfl, e, hp, ha⟩
  · cases h; rfl
  · cases e
theorem DpT.str {x : Str} (h : DpT K G H v (.str x)) : v = .str x := by
  rcases h with h | ⟨p, vs, ds', rfl, e, hp, ha⟩
  · cases h; rfl
  · cases e
theorem DpT.bool {b : Bool} (h : DpT K G H v (.bool b)) : v = .bl b := by
  rcases h with h | ⟨p, vs, ds', rfl, e, hp, ha⟩
  · cases h; rfl
  · cases e
theorem DpT.none (h : DpT K G H v .none) : v = .non := by
  rcases h with h | ⟨p, vs, ds', rfl, e, hp, ha⟩
  · cases h; rfl
  · cases e
theorem DpT.dp {d : D} (sm : Same G H) (h : DpT K G H v d) : Dt K H v d := by
  rcases h with h | ⟨p, vs, ds', rfl, rfl, hp, ha⟩
  · exact Dt.mono sm _ _ h
  · exact .lst hp (DtAll.mono sm _ _ ha)
theorem RI.ol_inv {ds : List D} (h : RI K mg G H ov (.ol ds) os) : ∃ p vs, ov = some (.ref p) ∧ os = [p] ∧ H p = some (.lst vs) ∧ DtAll K G vs ds := by
  cases h with
  | bx b => cases b with
    | ol hp ha => exact ⟨_, _, rfl, rfl, hp, ha⟩
theorem RL.mem (h : RL K mg G H L os) (hm : (ov, s) ∈ L) : ∃ o, RI K mg G H ov s o := by
  induction h with
  | nil => cases hm
  | cons ri t ih =>
    rcases List.mem_cons.mp hm with e | hm
    · cases e; exact ⟨_, ri⟩
    · exact ih hm
theorem Rp.view (h : Rp K mg G H L os) (hm : (some v, r) ∈ L) (hz : ∀ it ∈ σ.zip env, it ∈ L) (hv : VwOk σ v r) {d : D} (e : view env r = some d) : DpT K G H v d := by
  cases r with
  | no => cases e
  | sh d' =>
    cases e
    obtain ⟨v', e', q⟩ := h.shOf hm
    cases e'
    exact .inl q
  | ol ds =>
    cases e
    obtain ⟨o, q⟩ := h.rl.mem hm
    obtain ⟨p, vs, e', _, hp, ha⟩ := q.ol_inv
    cases e'
    exact .inr ⟨p, vs, ds, rfl, rfl, hp, ha⟩
  | od _ => cases e
  | td _ => cases e
  | tt _ _ => cases e
  | ow _ => cases e
  | oi _ _ => cases e
  | sc _ => cases e
  | vw i =>
    have e1 := hv i rfl
    have e : (match env[i]? with | some (Sl.ol ds) => some (PyData.list ds) | _ => Option.none) = some d := e
    split at e
    · rename_i ds e2
      cases e
      obtain ⟨o, q⟩ := h.rl.mem (hz _ (mem_zip e1 e2))
      obtain ⟨p, vs, e', _, hp, ha⟩ := q.ol_inv
      cases e'
      exact .inr ⟨p, vs, ds, rfl, rfl, hp, ha⟩
    · cases e

/-! ### new objects -/
inductive Grow (G H : Hp) : Hp → Hp → Prop
  | refl : Grow G H G H
  | step {G1 H1 : Hp} {p : Addr} {o : HO} : Grow G H G1 H1 → H1 p = Option.none → Grow G H (upd G1 p o) (upd H1 p o)
theorem Grow.trans {G1 H1 G2 H2 : Hp} (a : Grow G H G1 H1) (b : Grow G1 H1 G2 H2) : Grow G H G2 H2 := by
  induction b with
  | refl => exact a
  | step _ hp ih => exact .step ih hp
theorem Rp.grow {G' : Hp} (h : Rp K mg G H L os) (g : Grow G H G' H') : Rp K mg G' H' L os := by
  induction g with
  | refl => exact h
  | step _ hp ih => exact ih.still hp
theorem Grow.same {G' : Hp} (sm : Same G H) (g : Grow G H G' H') : Same G G' ∧ Same H H' ∧ Same G' H' := by
  induction g with
  | refl => exact ⟨.refl _, .refl _, sm⟩
  | @step G1 H1 p o _ hp ih =>
    obtain ⟨a, b, c⟩ := ih
    have gp : G1 p = Option.none := c.free hp
    refine ⟨a.trans (sameG gp), b.trans (sameG hp), fun x y e => ?_⟩
    by_cases hx : x = p
    · subst hx; rw [upd_same] at e ⊢; exact e
    · rw [upd_ne hx] at e ⊢; exact c x y e
/-- a pure operation's answer -/
inductive Got (K : PySem.W.Frag) (G H : Hp) : V → Sl → Hp → Prop
  | sh {v : V} {d : D} {G' H' : Hp} : Grow G H G' H' → Dt K G' v d → Got K G H v (.sh d) H'
  | ol {p : Addr} {vs : List V} {ds : List D} {G1 H1 : Hp} : Grow G H G1 H1 → H1 p = Option.none → DtAll K G1 vs ds → Got K G H (.ref p) (.ol ds) (upd H1 p (.lst vs))
theorem Got.now {d : D} (h : Dt K G v d) : Got K G H v (.sh d) H := .sh .refl h
theorem Got.newL {p : Addr} {vs : List V} {ds : List D} (hp : H p = Option.none) (h : DtAll K G vs ds) : Got K G H (.ref p) (.ol ds) (upd H p (.lst vs)) := .ol .refl hp h
theorem Got.newT {p : Addr} {vs : List V} {ds : List D} (sm : Same G H) (hp : H p = Option.none) (h : DtAll K G vs ds) : Got K G H (.ref p) (.sh (.tuple ds)) (upd H p (.tup vs)) :=
  .sh (.step .refl hp) (Dt.tup (.inl upd_same) (DtAll.mono (sameG (sm.free hp)) _ _ h))
theorem Rp.got (h : Rp K mg G H L os) (g : Got K G H v s H') : Rep K mg H' ((some v, s) :: L) := by
  cases g with
  | sh g d => exact ⟨_, _, (h.grow g).sh d⟩
  | ol g hp d => exact ⟨_, _, (h.grow g).newOl hp d⟩
theorem Got.novw (g : Got K G H v s H') : VwOk σ v s := by
  intro i e
  cases g with
  | sh _ _ => cases e
  | ol _ _ _ => cases e
end

/-! ### the judgements -/
abbrev EvF := Lo → Res (Sl × Lo)
abbrev EvT := Lo → Res (Bool × Lo)
abbrev EvA := Lo → Res (List Sl × Lo)
def SemE (K : PySem.W.Frag) (mg : Str → Option Value) (t : TE) (f : EvF) : Prop :=
  ∀ (σ : L2.St) (H : Hp) (env : Lo) (l : List Item) (r : Sl) (env' : Lo), Hold K mg H σ env l → f env = .ok (r, env') → ∀ Q : VK, (∀ v H', HoldV K mg H' σ env' l v r → Q v H') → t σ H Q
def SemT (K : PySem.W.Frag) (mg : Str → Option Value) (t : TT) (f : EvT) : Prop :=
  ∀ (σ : L2.St) (H : Hp) (env : Lo) (l : List Item) (b : Bool) (env' : Lo), Hold K mg H σ env l → f env = .ok (b, env') → ∀ Q : Bool → Hp → Prop, (∀ H', Hold K mg H' σ env' l → Q b H') → t σ H Q
/-- arguments, from the left -/
structure HoldA (K : PySem.W.Frag) (mg : Str → Option Value) (H : Hp) (σ : L2.St) (env : Lo) (l : List Item) (vs : List V) (rs : List Sl) : Prop where
  len : σ.length = env.length
  rep : Rep K mg H ((vs.map some).zip rs ++ (σ.zip env ++ l))
  alen : vs.length = rs.length
  vw : ∀ (k : Nat) (v : V) (r : Sl), vs[k]? = some v → rs[k]? = some r → VwOk σ v r
def SemA (K : PySem.W.Frag) (mg : Str → Option Value) (t : TA) (f : EvA) : Prop :=
  ∀ (σ : L2.St) (H : Hp) (env : Lo) (l : List Item) (rs : List Sl) (env' : Lo), Hold K mg H σ env l → f env = .ok (rs, env') → ∀ Q : List V → Hp → Prop, (∀ vs H', HoldA K mg H' σ env' l vs rs → Q vs H') → t σ H Q
structure SE (X : Cx) (e : Expr) (f : EvF) : Prop where
  ex : ∃ t, PE X e t ∧ SemE X.K X.mg t f
structure ST (X : Cx) (e : Expr) (f : EvT) : Prop where
  ex : ∃ t, PT X e t ∧ SemT X.K X.mg t f
structure SW (X : Cx) (e : Expr) (f : EvT) : Prop where
  ex : ∃ t, PW X e t ∧ SemT X.K X.mg t f
structure SA (X : Cx) (es : List Expr) (f : EvA) : Prop where
  ex : ∃ t, PA X es t ∧ SemA X.K X.mg t f

/-! ### names and constants -/
def fVar (i : Nat) : EvF := fun env => match env[i]? with
  | some (.sh d) => .ok (.sh d, env)
  | some (.ol _) => .ok (.vw i, env)
  | some (.od _) => .ok (.vw i, env)
  | some (.oi _ _) => .ok (.vw i, env)
  | some (.sc ns) => .ok (.sc ns, env)
  | some (.ow _) => .ok (.vw i, env)
  | _ => .bad
theorem sem_var {K : PySem.W.Frag} {mg : Str → Option Value} {i : Nat} : SemE K mg (tVar i) (fVar i) := by
  intro σ H env l r env' h e Q q
  have key : ∀ s, env[i]? = some s → s ≠ .no → ∃ v, σ[i]? = some (some v) ∧ (some v, s) ∈ σ.zip env := fun s e2 hn => by
    obtain ⟨ov, e1⟩ := slot_at h.len e2
    obtain ⟨G, os, rp⟩ := h.rep
    obtain ⟨v, hv⟩ := rp.someOf (List.mem_append_left _ (mem_zip e1 e2)) hn
    subst hv
    exact ⟨v, e1, mem_zip e1 e2⟩
  unfold fVar at e
  split at e
  · rename_i d e2
    cases e
    obtain ⟨v, e1, hm⟩ := key _ e2 (by intro z; cases z)
    refine ⟨v, e1, q v H ⟨h.len, ?_, fun _ z => by cases z⟩⟩
    obtain ⟨G, os, rp⟩ := h.rep
    obtain ⟨v', e', d'⟩ := rp.shOf (List.mem_append_left _ hm)
    cases e'
    exact ⟨G, os, rp.sh d'⟩
  case h_5 =>
    rename_i ns e2
    cases e
    obtain ⟨v, e1, hm⟩ := key _ e2 (by intro z; cases z)
    refine ⟨v, e1, q v H ⟨h.len, ?_, fun _ z => by cases z⟩⟩
    obtain ⟨G, os, rp⟩ := h.rep
    obtain ⟨o, ri⟩ := rp.rl.mem (List.mem_append_left _ hm)
    cases ri with
    | bx b => cases b with
      | sc hs => exact ⟨G, os, rp.push (.bx (.sc hs))⟩
  all_goals first
    | (rename_i e2
       cases e
       obtain ⟨v, e1, hm⟩ := key _ e2 (by intro z; cases z)
       refine ⟨v, e1, q v H ⟨h.len, ?_, fun j z => by cases z; exact e1⟩⟩
       obtain ⟨G, os, rp⟩ := h.rep
       exact ⟨G, os, rp.push .vw⟩)
    | (cases e)
def fC (d : D) : EvF := fun env => .ok (.sh d, env)
theorem sem_c {K : PySem.W.Frag} {mg : Str → Option Value} {v : V} {d : D} (hd : ∀ G, Dt K G v d) : SemE K mg (tC v) (fC d) := by
  intro σ H env l r env' h e Q q
  cases e
  obtain ⟨G, os, rp⟩ := h.rep
  exact q v H ⟨h.len, ⟨G, os, rp.sh (hd G)⟩, fun _ z => by cases z⟩
section
variable {X : Cx} {pos : Pos}
theorem se_v (i : Nat) {x : Str} (hN : X.N[i]? = some x := by rfl) (hv : Vis X.env.scope x := by first | exact Or.inl rfl | exact Or.inr (Or.inl rfl) | exact Or.inr (Or.inr rfl)) (hd : (x == ("__debug__" : Str)) = false := by decide)
    (hcd : (x == ("__classdict__" : Str)) = false := by decide) : SE X (.Name x pos) (fVar i) := ⟨_, pe_var hN hv hd hcd, sem_var⟩
theorem se_int {i j} : SE X (.Constant (.int i) j pos) (fC (.int i)) := ⟨_, pe_int, sem_c fun _ => .int i⟩
theorem se_bl {b j} : SE X (.Constant (.bool b) j pos) (fC (.bool b)) := ⟨_, pe_bl, sem_c fun _ => .bl b⟩
theorem se_non {j} : SE X (.Constant .none j pos) (fC .none) := ⟨_, pe_non, sem_c fun _ => .non⟩
theorem se_str {x j} : SE X (.Constant (.str x) j pos) (fC (.str x)) := ⟨_, pe_str, sem_c fun _ => .str x⟩
end

/-! ### operations by values -/
def SemOp (K : PySem.W.Frag) (r : R2) (op : D → D → Option Sl) : Prop :=
  ∀ (G H : Hp) (x y : V) (dx dy : D) (s : Sl) (Q : VK), Same G H → DpT K G H x dx → DpT K G H y dy → op dx dy = some s → (∀ v H', Got K G H v s H' → Q v H') → r x y H Q
def fOp (op : D → D → Option Sl) (fa fb : EvF) : EvF := fun env => do
  let (ra, e1) ← fa env
  let (rb, e2) ← fb e1
  let a ← Res.ofO (view e2 ra)
  let b ← Res.ofO (view e2 rb)
  let s ← Res.ofO (op a b)
  .ok (s, e2)
theorem sem_op {K : PySem.W.Frag} {mg : Str → Option Value} {r : R2} {op : D → D → Option Sl} {ta tb : TE} {fa fb : EvF} (ho : SemOp K r op) (ha : SemE K mg ta fa) (hb : SemE K mg tb fb) : SemE K mg (tOp r ta tb) (fOp op fa fb) := by
  intro σ H env l s env' h e Q q
  unfold fOp at e
  obtain ⟨⟨ra, e1⟩, ea, e⟩ := Res.bind_ok e
  obtain ⟨⟨rb, e2⟩, eb, e⟩ := Res.bind_ok e
  obtain ⟨a, va, e⟩ := Res.bind_ok e
  obtain ⟨b, vb, e⟩ := Res.bind_ok e
  obtain ⟨s', es, e⟩ := Res.bind_ok e
  cases e
  have va := Res.ofO_ok va
  have vb := Res.ofO_ok vb
  have es := Res.ofO_ok es
  refine ha σ H env l ra e1 h ea _ fun x H1 h1 => ?_
  refine hb σ H1 e1 _ rb _ h1.hold eb _ fun y H2 h2 => ?_
  obtain ⟨G, os, rp⟩ := h2.rep
  have dx : DpT K G H2 x a := rp.view (σ := σ) (List.mem_cons_of_mem _ (List.mem_append_right _ List.mem_cons_self)) (fun it hi => List.mem_cons_of_mem _ (List.mem_append_left _ hi)) h1.vw va
  have dy : DpT K G H2 y b := rp.view (σ := σ) List.mem_cons_self (fun it hi => List.mem_cons_of_mem _ (List.mem_append_left _ hi)) h2.vw vb
  refine ho G H2 x y a b s Q rp.same dx dy es fun v H3 g => q v H3 ⟨h2.len, ?_, g.novw⟩
  have h3 := h2.drop.more
  have : Rep K mg H3 ((some v, s) :: ((some y, rb) :: (σ.zip env' ++ (some x, ra) :: l))) := rp.got g
  have p : ((some v, s) :: ((some y, rb) :: (σ.zip env' ++ (some x, ra) :: l))).Perm ((some y, rb) :: (some x, ra) :: (some v, s) :: (σ.zip env' ++ l)) := by
    refine (List.Perm.swap _ _ _).trans (List.Perm.cons _ ?_)
    exact ((List.perm_middle (l₁ := σ.zip env')).cons _).trans (.swap _ _ _)
  exact (this.perm p).tail.tail
theorem SemOp.or {K : PySem.W.Frag} {r r' : R2} {op op' : D → D → Option Sl} (h : SemOp K r op) (h' : SemOp K r' op') : SemOp K (fun x y H Q => r x y H Q ∨ r' x y H Q) (fun a b => (op a b).orElse fun _ => op' a b) := by
  intro G H x y dx dy s Q sm a b e q
  have e : ((op dx dy).orElse fun _ => op' dx dy) = some s := e
  cases e1 : op dx dy with
  | some s' =>
    rw [e1] at e; cases e
    exact .inl (h G H x y dx dy s Q sm a b e1 q)
  | none =>
    rw [e1] at e
    exact .inr (h' G H x y dx dy s Q sm a b e q)
/-- one operand -/
def fOp1 (op : D → Option Sl) (fa : EvF) : EvF := fun env => do
  let (ra, e1) ← fa env
  let a ← Res.ofO (view e1 ra)
  let s ← Res.ofO (op a)
  .ok (s, e1)
/-- by values, one operand -/
def SemU (K : PySem.W.Frag) (r : V → Hp → VK → Prop) (op : D → Option Sl) : Prop :=
  ∀ (G H : Hp) (x : V) (dx : D) (s : Sl) (Q : VK), Same G H → DpT K G H x dx → op dx = some s → (∀ v H', Got K G H v s H' → Q v H') → r x H Q
theorem sem_un {K : PySem.W.Frag} {mg : Str → Option Value} {r : V → Hp → VK → Prop} {op : D → Option Sl} {ta : TE} {fa : EvF} (ho : SemU K r op) (ha : SemE K mg ta fa) : SemE K mg (fun σ H Q => ta σ H fun x H1 => r x H1 Q) (fOp1 op fa) := by
  intro σ H env l s env' h e Q q
  unfold fOp1 at e
  obtain ⟨⟨ra, e1⟩, ea, e⟩ := Res.bind_ok e
  obtain ⟨a, va, e⟩ := Res.bind_ok e
  obtain ⟨s', es, e⟩ := Res.bind_ok e
  cases e
  have va := Res.ofO_ok va
  have es := Res.ofO_ok es
  refine ha σ H env l ra _ h ea _ fun x H1 h1 => ?_
  obtain ⟨G, os, rp⟩ := h1.rep
  refine ho G H1 x a s Q rp.same (rp.view (σ := σ) List.mem_cons_self (fun it hi => List.mem_cons_of_mem _ (List.mem_append_left _ hi)) h1.vw va) es fun v H3 g => q v H3 ⟨h1.len, ?_, g.novw⟩
  exact ((rp.got g).perm (.swap _ _ _)).tail

/-! ### arguments -/
def fNil : EvA := fun env => .ok ([], env)
def fCons (fa : EvF) (fr : EvA) : EvA := fun env => do
  let (r, e1) ← fa env
  let (rs, e2) ← fr e1
  .ok (r :: rs, e2)
theorem sem_nil {K : PySem.W.Frag} {mg : Str → Option Value} : SemA K mg tNil fNil := by
  intro σ H env l rs env' h e Q q
  cases e
  exact q [] H ⟨h.len, h.rep, rfl, fun k v r e => by simp at e⟩
theorem sem_cons {K : PySem.W.Frag} {mg : Str → Option Value} {ta : TE} {tr : TA} {fa : EvF} {fr : EvA} (ha : SemE K mg ta fa) (hr : SemA K mg tr fr) : SemA K mg (tCons ta tr) (fCons fa fr) := by
  intro σ H env l rs env' h e Q q
  unfold fCons at e
  obtain ⟨⟨ra, e1⟩, ea, e⟩ := Res.bind_ok e
  obtain ⟨⟨rb, e2⟩, eb, e⟩ := Res.bind_ok e
  cases e
  refine ha σ H env l ra e1 h ea _ fun x H1 h1 => ?_
  refine hr σ H1 e1 _ rb _ h1.hold eb _ fun ys H2 h2 => q (x :: ys) H2 ⟨h2.len, ?_, by simp [h2.alen], fun k v r e1 e2 => ?_⟩
  · rw [List.map_cons, List.zip_cons_cons, List.cons_append]
    refine h2.rep.perm ?_
    rw [← List.append_assoc, ← List.append_assoc]
    exact List.perm_middle
  · cases k with
    | zero => simp at e1 e2; subst e1; subst e2; exact h1.vw
    | succ k => exact h2.vw k v r (by simpa using e1) (by simpa using e2)
section
variable {X : Cx}
theorem sa_nil : SA X [] fNil := ⟨_, pa_nil, sem_nil⟩
theorem sa_cons {e : Expr} {es : List Expr} {fa : EvF} {fr : EvA} (ha : SE X e fa) (hr : SA X es fr) (hs : starEach (e :: es) X.env = (false, eval e X.env) :: starEach es X.env := by rfl) : SA X (e :: es) (fCons fa fr) := by
  obtain ⟨t, p, s⟩ := ha.ex
  obtain ⟨t', p', s'⟩ := hr.ex
  exact ⟨_, pa_cons p p' hs, sem_cons s s'⟩
end
end FL

/-! FL3: operators, comparisons, tests, subscripts, displays, calls of built-ins -/
namespace FL
open PySem PySem.Spec PyProof.Rows L2

theorem sizeL {n : Nat} (h : n ≤ 16777216) : n ≤ sizeLine := by rw [sizeLine_eq]; exact h
theorem sizeL' {n : Nat} (h : n < 16777216) : n < sizeLine := by rw [sizeLine_eq]; exact h
section
variable {K : PySem.W.Frag} {G H : Hp}
theorem Got.int {i : Int} : Got K G H (.int i) (.sh (.int i)) H := .now (.int i)
theorem Got.bl {b : Bool} : Got K G H (.bl b) (.sh (.bool b)) H := .now (.bl b)
theorem Got.str {x : Str} : Got K G H (.str x) (.sh (.str x)) H := .now (.str x)
end

/-! ### + - * // % ** -/
def addD : D → D → Option Sl
  | .int i, .int j => some (.sh (.int (i + j)))
  | .str x, .str y => if x.length + y.length ≤ 16777216 then some (.sh (.str (x ++ y))) else none
  | .list a, .list b => if a.length + b.length ≤ 16777216 then some (.ol (a ++ b)) else none
  | .tuple a, .tuple b => if a.length + b.length ≤ 16777216 then some (.sh (.tuple (a ++ b))) else none
  | _, _ => none
def subD : D → D → Option Sl
  | .int i, .int j => some (.sh (.int (i - j)))
  | _, _ => none
def mulOk (i j : Int) : Bool := !(decide (Builtin.Int.intBits i > shortFactorBits) && decide (Builtin.Int.intBits j > shortFactorBits) && Builtin.Int.intTooBig (Builtin.Int.intBits i + Builtin.Int.intBits j))
theorem mulOk_iff {i j : Int} : mulOk i j = true ↔ IntMulOk i j := by
  unfold mulOk IntMulOk
  cases (decide (Builtin.Int.intBits i > shortFactorBits) && decide (Builtin.Int.intBits j > shortFactorBits) && Builtin.Int.intTooBig (Builtin.Int.intBits i + Builtin.Int.intBits j)) <;> simp
theorem mulOk_log {i j : Int} (h : i.natAbs.log2 + j.natAbs.log2 < 1000000) : mulOk i j = true := mulOk_iff.mpr (CMulW.ok h)
theorem mulOk_left {i j : Int} (h1 : -(2 ^ 64) < i) (h2 : i < 2 ^ 64) : mulOk i j = true := mulOk_iff.mpr (.of_left (intBits_le_64 h1 h2))
theorem mulOk_right {i j : Int} (h1 : -(2 ^ 64) < j) (h2 : j < 2 ^ 64) : mulOk i j = true := mulOk_iff.mpr (.of_right (intBits_le_64 h1 h2))
def mulD : D → D → Option Sl
  | .int i, .int j => if mulOk i j = true then some (.sh (.int (i * j))) else none
  | .list a, .int k => if -(2 ^ 63) ≤ k ∧ k < 2 ^ 63 ∧ a.length * k.toNat ≤ 16777216 then some (.ol (List.replicate k.toNat a).flatten) else none
  | .tuple a, .int k => if a ≠ [] ∧ 2 ≤ k ∧ k ≤ 1000 ∧ a.length ≤ 1000 then some (.sh (.tuple (List.replicate k.toNat a).flatten)) else none
  | _, _ => none
def divOk (i j : Int) : Bool := decide (j ≠ 0) && !(Builtin.divisionGoesByPylong i j)
def divD : D → D → Option Sl
  | .int i, .int j => if divOk i j = true then some (.sh (.int (i.fdiv j))) else none
  | _, _ => none
def modD : D → D → Option Sl
  | .int i, .int j => if 0 < j then some (.sh (.int (i % j))) else none
  | _, _ => none
def powD : D → D → Option Sl
  | .int i, .int j => if 0 ≤ j ∧ j ≤ 1000000 ∧ i.natAbs < 2 ^ 64 then some (.sh (.int (i ^ j.toNat))) else none
  | _, _ => none
def rAddAll (K : PySem.W.Frag) : R2 := fun x y H Q => (∃ i j, x = .int i ∧ y = .int j ∧ Q (.int (i + j)) H) ∨
  (∃ i j, x = .str i ∧ y = .str j ∧ i.length + j.length ≤ sizeLine ∧ Q (.str (i ++ j)) H) ∨ rCat x y H Q ∨ rCatA K x y H Q
theorem or_add {X : Cx} : OpR X (binaryOp .Add) (rAddAll X.K) := op_add.or (op_add_str.or (op_cat.or op_catA))
theorem so_add {K : PySem.W.Frag} : SemOp K (rAddAll K) addD := by
  intro G H x y dx dy s Q sm a b e q
  cases dx <;> cases dy <;> first | (cases e; done) | skip
  case int.int i j =>
    cases e
    exact .inl ⟨i, j, a.int, b.int, q _ _ .int⟩
  case str.str i j =>
    by_cases h : i.length + j.length ≤ 16777216
    · rw [show addD (.str i) (.str j) = if i.length + j.length ≤ 16777216 then some (.sh (.str (i ++ j))) else none from rfl, if_pos h] at e
      cases e
      exact .inr (.inl ⟨i, j, a.str, b.str, sizeL h, q _ _ .str⟩)
    · rw [show addD (.str i) (.str j) = if i.length + j.length ≤ 16777216 then some (.sh (.str (i ++ j))) else none from rfl, if_neg h] at e
      cases e
  case list.list i j =>
    by_cases h : i.length + j.length ≤ 16777216
    · rw [show addD (.list i) (.list j) = if i.length + j.length ≤ 16777216 then some (.ol (i ++ j)) else none from rfl, if_pos h] at e
      cases e
      obtain ⟨p, vs, rfl, hp, hv⟩ := a.list sm
      obtain ⟨p', vs', rfl, hp', hv'⟩ := b.list sm
      exact .inr (.inr (.inl ⟨p, p', vs, vs', rfl, rfl, hp, hp', sizeL (by rw [hv.length, hv'.length]; exact h), fun l hl => q _ _ (.newL hl (hv.append hv'))⟩))
    · rw [show addD (.list i) (.list j) = if i.length + j.length ≤ 16777216 then some (.ol (i ++ j)) else none from rfl, if_neg h] at e
      cases e
  case tuple.tuple i j =>
    by_cases h : i.length + j.length ≤ 16777216
    · rw [show addD (.tuple i) (.tuple j) = if i.length + j.length ≤ 16777216 then some (.sh (.tuple (i ++ j))) else none from rfl, if_pos h] at e
      cases e
      have a0 := a
      have b0 := b
      obtain ⟨p, vs, rfl, hp, hv⟩ := a.tuple sm
      obtain ⟨p', vs', rfl, hp', hv'⟩ := b.tuple sm
      refine .inr (.inr (.inr ⟨p, p', vs, vs', rfl, rfl, hp, hp', sizeL (by rw [hv.length, hv'.length]; exact h), fun z => ?_, fun _ z => ?_, fun _ _ l hl => q _ _ (.newT sm hl (hv.append hv'))⟩))
      · subst z; cases hv
        rcases b0 with b0 | ⟨_, _, _, _, z, _⟩
        · exact q _ _ (.now (by simpa using b0))
        · cases z
      · subst z; cases hv'
        rcases a0 with a0 | ⟨_, _, _, _, z, _⟩
        · exact q _ _ (.now (by simpa using a0))
        · cases z
    · rw [show addD (.tuple i) (.tuple j) = if i.length + j.length ≤ 16777216 then some (.sh (.tuple (i ++ j))) else none from rfl, if_neg h] at e
      cases e
def rSubI : R2 := rI0 fun i j => .int (i - j)
theorem so_sub {K : PySem.W.Frag} : SemOp K rSubI subD := by
  intro G H x y dx dy s Q sm a b e q
  cases dx <;> cases dy <;> first | (cases e; done) | skip
  cases e
  exact ⟨_, _, a.int, b.int, q _ _ .int⟩
def rMulAll (K : PySem.W.Frag) : R2 := fun x y H Q => rI (fun i j => mulOk i j = true) (fun i j => .int (i * j)) x y H Q ∨ rRep x y H Q ∨ rRepT K x y H Q
theorem op_mulM {X : Cx} : OpR X (binaryOp .Mult) (rI (fun i j => mulOk i j = true) fun i j => .int (i * j)) := opI fun _ _ _ _ _ _ _ hc q => mul_int q (mulOk_iff.mp hc)
theorem or_mul {X : Cx} : OpR X (binaryOp .Mult) (rMulAll X.K) := op_mulM.or (op_rep.or op_repT)
theorem so_mul {K : PySem.W.Frag} : SemOp K (rMulAll K) mulD := by
  intro G H x y dx dy s Q sm a b e q
  cases dx <;> cases dy <;> first | (cases e; done) | skip
  case int.int i j =>
    by_cases h : mulOk i j = true
    · rw [show mulD (.int i) (.int j) = if mulOk i j = true then some (.sh (.int (i * j))) else none from rfl, if_pos h] at e
      cases e
      exact .inl ⟨i, j, a.int, b.int, h, q _ _ .int⟩
    · rw [show mulD (.int i) (.int j) = if mulOk i j = true then some (.sh (.int (i * j))) else none from rfl, if_neg h] at e
      cases e
  case list.int i k =>
    by_cases h : -(2 ^ 63) ≤ k ∧ k < 2 ^ 63 ∧ i.length * k.toNat ≤ 16777216
    · rw [show mulD (.list i) (.int k) = if -(2 ^ 63) ≤ k ∧ k < 2 ^ 63 ∧ i.length * k.toNat ≤ 16777216 then some (.ol (List.replicate k.toNat i).flatten) else none from rfl, if_pos h] at e
      cases e
      obtain ⟨p, vs, rfl, hp, hv⟩ := a.list sm
      exact .inr (.inl ⟨p, k, vs, rfl, b.int, hp, h.1, h.2.1, sizeL (by rw [hv.length]; exact h.2.2), fun l hl => q _ _ (.newL hl (hv.rep _))⟩)
    · rw [show mulD (.list i) (.int k) = if -(2 ^ 63) ≤ k ∧ k < 2 ^ 63 ∧ i.length * k.toNat ≤ 16777216 then some (.ol (List.replicate k.toNat i).flatten) else none from rfl, if_neg h] at e
      cases e
  case tuple.int i k =>
    by_cases h : i ≠ [] ∧ 2 ≤ k ∧ k ≤ 1000 ∧ i.length ≤ 1000
    · rw [show mulD (.tuple i) (.int k) = if i ≠ [] ∧ 2 ≤ k ∧ k ≤ 1000 ∧ i.length ≤ 1000 then some (.sh (.tuple (List.replicate k.toNat i).flatten)) else none from rfl, if_pos h] at e
      cases e
      obtain ⟨p, vs, rfl, hp, hv⟩ := a.tuple sm
      refine .inr (.inr ⟨p, k, vs, rfl, b.int, hp, fun z => ?_, h.2.1, h.2.2.1, by rw [hv.length]; exact h.2.2.2, fun l hl => q _ _ (.newT sm hl (hv.rep _))⟩)
      subst z; cases hv; exact h.1 rfl
    · rw [show mulD (.tuple i) (.int k) = if i ≠ [] ∧ 2 ≤ k ∧ k ≤ 1000 ∧ i.length ≤ 1000 then some (.sh (.tuple (List.replicate k.toNat i).flatten)) else none from rfl, if_neg h] at e
      cases e
def rDivI : R2 := rI (fun i j => divOk i j = true) fun i j => .int (i.fdiv j)
theorem or_div {X : Cx} : OpR X (binaryOp .FloorDiv) rDivI := opI fun i j _ _ _ _ _ hc q => by
  have h : decide (j ≠ 0) = true ∧ (!(Builtin.divisionGoesByPylong i j)) = true := (Bool.and_eq_true_iff.mp hc)
  exact floordiv_int (of_decide_eq_true h.1) q (.inl (by simpa using h.2))
theorem so_div {K : PySem.W.Frag} : SemOp K rDivI divD := by
  intro G H x y dx dy s Q sm a b e q
  cases dx <;> cases dy <;> first | (cases e; done) | skip
  case int.int i j =>
    by_cases h : divOk i j = true
    · rw [show divD (.int i) (.int j) = if divOk i j = true then some (.sh (.int (i.fdiv j))) else none from rfl, if_pos h] at e
      cases e
      exact ⟨i, j, a.int, b.int, h, q _ _ .int⟩
    · rw [show divD (.int i) (.int j) = if divOk i j = true then some (.sh (.int (i.fdiv j))) else none from rfl, if_neg h] at e
      cases e
def rModI : R2 := rI (fun _ j => 0 < j) fun i j => .int (i % j)
theorem so_mod {K : PySem.W.Frag} : SemOp K rModI modD := by
  intro G H x y dx dy s Q sm a b e q
  cases dx <;> cases dy <;> first | (cases e; done) | skip
  case int.int i j =>
    by_cases h : 0 < j
    · rw [show modD (.int i) (.int j) = if 0 < j then some (.sh (.int (i % j))) else none from rfl, if_pos h] at e
      cases e
      exact ⟨i, j, a.int, b.int, h, q _ _ .int⟩
    · rw [show modD (.int i) (.int j) = if 0 < j then some (.sh (.int (i % j))) else none from rfl, if_neg h] at e
      cases e
def rPowI : R2 := rI CPow fun i j => .int (i ^ j.toNat)
theorem so_pow {K : PySem.W.Frag} : SemOp K rPowI powD := by
  intro G H x y dx dy s Q sm a b e q
  cases dx <;> cases dy <;> first | (cases e; done) | skip
  case int.int i j =>
    by_cases h : 0 ≤ j ∧ j ≤ 1000000 ∧ i.natAbs < 2 ^ 64
    · rw [show powD (.int i) (.int j) = if 0 ≤ j ∧ j ≤ 1000000 ∧ i.natAbs < 2 ^ 64 then some (.sh (.int (i ^ j.toNat))) else none from rfl, if_pos h] at e
      cases e
      exact ⟨i, j, a.int, b.int, h, q _ _ .int⟩
    · rw [show powD (.int i) (.int j) = if 0 ≤ j ∧ j ≤ 1000000 ∧ i.natAbs < 2 ^ 64 then some (.sh (.int (i ^ j.toNat))) else none from rfl, if_neg h] at e
      cases e
section
variable {X : Cx} {a b c : Expr} {fa fb fc : EvF} {pos : Pos}
theorem se_bin {op : Operator} {r : R2} {o : D → D → Option Sl} (ho : OpR X (binaryOp op) r) (so : SemOp X.K r o) (ha : SE X a fa) (hb : SE X b fb) : SE X (.BinOp a op b pos) (fOp o fa fb) := by
  obtain ⟨t, p, s⟩ := ha.ex
  obtain ⟨t', p', s'⟩ := hb.ex
  exact ⟨_, pe_op ho p p', sem_op so s s'⟩
theorem se_add (ha : SE X a fa) (hb : SE X b fb) : SE X (.BinOp a .Add b pos) (fOp addD fa fb) := se_bin or_add so_add ha hb
theorem se_sub (ha : SE X a fa) (hb : SE X b fb) : SE X (.BinOp a .Sub b pos) (fOp subD fa fb) := se_bin op_sub so_sub ha hb
theorem se_mul (ha : SE X a fa) (hb : SE X b fb) : SE X (.BinOp a .Mult b pos) (fOp mulD fa fb) := se_bin or_mul so_mul ha hb
theorem se_div (ha : SE X a fa) (hb : SE X b fb) : SE X (.BinOp a .FloorDiv b pos) (fOp divD fa fb) := se_bin or_div so_div ha hb
theorem se_mod (ha : SE X a fa) (hb : SE X b fb) : SE X (.BinOp a .Mod b pos) (fOp modD fa fb) := se_bin op_mod so_mod ha hb
theorem se_pow (ha : SE X a fa) (hb : SE X b fb) : SE X (.BinOp a .Pow b pos) (fOp powD fa fb) := se_bin op_pow so_pow ha hb
def negD : D → Option Sl
  | .int i => some (.sh (.int (-i)))
  | _ => none
theorem se_neg (ha : SE X a fa) : SE X (.UnaryOp .USub a pos) (fOp1 negD fa) := by
  obtain ⟨t, p, s⟩ := ha.ex
  refine ⟨_, pe_un un_neg p, sem_un (r := rU fun i => .int (-i)) (fun G H x dx s Q sm d e q => ?_) s⟩
  cases dx <;> first | (cases e; done) | skip
  cases e
  exact ⟨_, d.int, q _ _ .int⟩

/-! ### comparisons -/
def shapedD (d : D) : Bool := SeqAt.shaped d
def eqD (a b : D) : Option Sl := if shapedD a = true ∧ shapedD b = true then some (.sh (.bool (PyData.eqv a b))) else none
def neD (a b : D) : Option Sl := if shapedD a = true ∧ shapedD b = true then some (.sh (.bool (!PyData.eqv a b))) else none
def cmpD (p : Int → Int → Bool) : D → D → Option Sl
  | .int i, .int j => some (.sh (.bool (p i j)))
  | _, _ => none
abbrev ltD := cmpD fun i j => decide (i < j)
abbrev leD := cmpD fun i j => decide (i ≤ j)
abbrev gtD := cmpD fun i j => decide (j < i)
abbrev geD := cmpD fun i j => decide (j ≤ i)
def isNone : D → Bool
  | .none => true
  | _ => false
def isND (a b : D) : Option Sl := if isNone b = true then some (.sh (.bool (isNone a))) else none
def notND (a b : D) : Option Sl := if isNone b = true then some (.sh (.bool (!isNone a))) else none
theorem so_eq {K : PySem.W.Frag} : SemOp K (rEqD K) eqD := by
  intro G H x y dx dy s Q sm a b e q
  unfold eqD at e
  split at e
  · rename_i h
    cases e
    exact ⟨dx, dy, Dt.deep _ _ (a.dp sm), Dt.deep _ _ (b.dp sm), h.1, h.2, q _ _ .bl⟩
  · cases e
theorem so_ne {K : PySem.W.Frag} : SemOp K (rNeD K) neD := by
  intro G H x y dx dy s Q sm a b e q
  unfold neD at e
  split at e
  · rename_i h
    cases e
    exact ⟨dx, dy, Dt.deep _ _ (a.dp sm), Dt.deep _ _ (b.dp sm), h.1, h.2, q _ _ .bl⟩
  · cases e
theorem so_cmp {K : PySem.W.Frag} {p : Int → Int → Bool} : SemOp K (rI0 fun i j => .bl (p i j)) (cmpD p) := by
  intro G H x y dx dy s Q sm a b e q
  cases dx <;> cases dy <;> first | (cases e; done) | skip
  cases e
  exact ⟨_, _, a.int, b.int, q _ _ .bl⟩
theorem isNone_eq {K : PySem.W.Frag} {G H : Hp} {x : V} {d : D} (h : DpT K G H x d) : decide (x = .non) = isNone d := by
  rcases h with h | ⟨_, _, _, rfl, rfl, _⟩
  · cases h <;> rfl
  · rfl
theorem so_isN {K : PySem.W.Frag} : SemOp K (fun x y H Q => y = .non ∧ Q (.bl (decide (x = .non))) H) isND := by
  intro G H x y dx dy s Q sm a b e q
  cases dy <;> first | (cases e; done) | skip
  cases e
  exact ⟨b.none, by rw [isNone_eq a]; exact q _ _ .bl⟩
theorem so_notN {K : PySem.W.Frag} : SemOp K (fun x y H Q => y = .non ∧ Q (.bl (!decide (x = .non))) H) notND := by
  intro G H x y dx dy s Q sm a b e q
  cases dy <;> first | (cases e; done) | skip
  cases e
  exact ⟨b.none, by rw [isNone_eq a]; exact q _ _ .bl⟩
/-- in a list or tuple of flat things -/
def flatD : D → Bool
  | .none => true
  | .bool _ => true
  | .int _ => true
  | .str _ => true
  | _ => false
def inL (a : D) (ds : List D) : Bool := ds.any fun z => PyData.eqv z a
def inD (neg : Bool) (a : D) : D → Option Sl
  | .list ds => if flatD a = true ∧ ds.all flatD = true then some (.sh (.bool (if neg then !inL a ds else inL a ds))) else none
  | .tuple ds => if flatD a = true ∧ ds.all flatD = true then some (.sh (.bool (if neg then !inL a ds else inL a ds))) else none
  | _ => none
theorem flat_V {K : PySem.W.Frag} {G : Hp} {x : V} {d : D} (h : Dt K G x d) (f : flatD d = true) : flatV x = true := by
  cases h <;> first | rfl | (cases f)
theorem eq_V {K : PySem.W.Frag} {G : Hp} {x y : V} {d e : D} (h : Dt K G x d) (h' : Dt K G y e) (f : flatD d = true) (f' : flatD e = true) : eqV y x = PyData.eqv e d := by
  cases h <;> first | (cases f; done) | skip
  all_goals (cases h' <;> first | (cases f'; done) | rfl | (simp [eqV, PyData.eqv]; done) | skip)
theorem all_flat {K : PySem.W.Frag} {G : Hp} : ∀ {vs : List V} {ds : List D}, DtAll K G vs ds → ds.all flatD = true → vs.all flatV = true
  | _, _, .nil, _ => rfl
  | _, _, .cons r t, h => by
    rw [List.all_cons, Bool.and_eq_true] at h ⊢
    exact ⟨flat_V r h.1, all_flat t h.2⟩
theorem in_eq {K : PySem.W.Frag} {G : Hp} {x : V} {d : D} (h : Dt K G x d) (f : flatD d = true) : ∀ {vs : List V} {ds : List D}, DtAll K G vs ds → ds.all flatD = true → inV x vs = inL d ds
  | _, _, .nil, _ => rfl
  | _, _, .cons r t, h' => by
    rw [List.all_cons, Bool.and_eq_true] at h'
    unfold inV inL
    rw [List.any_cons, List.any_cons, eq_V h r f h'.1]
    have := in_eq h f t h'.2
    unfold inV inL at this
    rw [this]
theorem flat_sh {K : PySem.W.Frag} {G H : Hp} {x : V} {d : D} (h : DpT K G H x d) (f : flatD d = true) : Dt K G x d := by
  rcases h with h | ⟨_, _, _, _, rfl, _⟩
  · exact h
  · cases f
theorem so_in {K : PySem.W.Frag} {neg : Bool} : SemOp K (rIn K neg) (inD neg) := by
  intro G H x y dx dy s Q sm a b e q
  cases dy <;> first | (cases e; done) | skip
  case list ds =>
    rw [show inD neg dx (.list ds) = if flatD dx = true ∧ ds.all flatD = true then some (.sh (.bool (if neg then !inL dx ds else inL dx ds))) else none from rfl] at e
    split at e
    · rename_i h
      cases e
      obtain ⟨p, vs, rfl, hp, hv⟩ := b.list sm
      have ad := flat_sh a h.1
      refine ⟨p, vs, rfl, .inl (.of hp), flat_V ad h.1, all_flat hv h.2, ?_⟩
      rw [in_eq ad h.1 hv h.2]
      exact q _ _ .bl
    · cases e
  case tuple ds =>
    rw [show inD neg dx (.tuple ds) = if flatD dx = true ∧ ds.all flatD = true then some (.sh (.bool (if neg then !inL dx ds else inL dx ds))) else none from rfl] at e
    split at e
    · rename_i h
      cases e
      obtain ⟨p, vs, rfl, hp, hv⟩ := b.tuple sm
      have ad := flat_sh a h.1
      refine ⟨p, vs, rfl, .inr hp, flat_V ad h.1, all_flat hv h.2, ?_⟩
      rw [in_eq ad h.1 hv h.2]
      exact q _ _ .bl
    · cases e
theorem se_cmp {op : CmpOp} {r : R2} {o : D → D → Option Sl} (ho : OpR X (compareOp op) r) (so : SemOp X.K r o) (ha : SE X a fa) (hb : SE X b fb) (hm : behindInMarks op b = false) : SE X (.Compare a [op] [b] pos) (fOp o fa fb) := by
  obtain ⟨t, p, s⟩ := ha.ex
  obtain ⟨t', p', s'⟩ := hb.ex
  exact ⟨_, pe_cmpR ho p p' hm, sem_op so s s'⟩

/-! ### tests -/
def fTst (f : EvF) : EvT := fun env => do
  let (r, e1) ← f env
  match r with
  | .sh (.bool b) => .ok (b, e1)
  | _ => .bad
theorem sem_tst {K : PySem.W.Frag} {mg : Str → Option Value} {t : TE} {f : EvF} (h : SemE K mg t f) : SemT K mg (tTest t) (fTst f) := by
  intro σ H env l b env' h1 e Q q
  unfold fTst at e
  obtain ⟨⟨r, e1⟩, ea, e⟩ := Res.bind_ok e
  refine h σ H env l r e1 h1 ea _ fun v H1 h2 => ?_
  dsimp only at e
  split at e
  · rename_i b'
    cases e
    obtain ⟨G, os, rp⟩ := h2.rep
    obtain ⟨v', e', d⟩ := rp.shOf List.mem_cons_self
    cases e'
    cases d
    exact ⟨_, rfl, q H1 h2.drop⟩
  · cases e
theorem st_cmp {op : CmpOp} {r : R2} {o : D → D → Option Sl} (ho : OpR X (compareOp op) r) (so : SemOp X.K r o) (ha : SE X a fa) (hb : SE X b fb) (hm : behindInMarks op b = false) : ST X (.Compare a [op] [b] pos) (fTst (fOp o fa fb)) := by
  obtain ⟨t, p, s⟩ := ha.ex
  obtain ⟨t', p', s'⟩ := hb.ex
  exact ⟨_, pt_cmpR ho p p' hm, sem_tst (sem_op so s s')⟩
/-- an expression whose value is a truth -/
theorem st_val (h : SE X a fa) (he : ∀ whole, isTrue a X.env whole = (do let v ← whole; standAt a.pos; holding [v] (truthy v)) := by intro _; rfl) : ST X a (fTst fa) := by
  obtain ⟨t, p, s⟩ := h.ex
  exact ⟨_, pt_val p he, sem_tst s⟩
def fNotT (f : EvT) : EvT := fun env => do
  let (b, e1) ← f env
  .ok (!b, e1)
def fAndT (f g : EvT) : EvT := fun env => do
  let (b, e1) ← f env
  if b = true then g e1 else .ok (false, e1)
def fOrT (f g : EvT) : EvT := fun env => do
  let (b, e1) ← f env
  if b = true then .ok (true, e1) else g e1
variable {tA tB' : EvT} {rest : List Expr}
theorem st_not (h : ST X a tA) : ST X (.UnaryOp .Not a pos) (fNotT tA) := by
  obtain ⟨t, p, s⟩ := h.ex
  refine ⟨_, pt_not p, ?_⟩
  intro σ H env l b env' h1 e Q q
  obtain ⟨⟨r, e1⟩, ea, e⟩ := Res.bind_ok e
  cases e
  exact s σ H env l r _ h1 ea _ fun H1 h2 => q H1 h2
theorem st_of (h : SW X a tA) : ST X a tA := by
  obtain ⟨t, p, s⟩ := h.ex
  exact ⟨_, p.pt, s⟩
theorem sw_and1 (h : ST X a tA) : SW X (.BoolOp .And [a] pos) tA := by
  obtain ⟨t, p, s⟩ := h.ex
  exact ⟨_, pw_and1 p, s⟩
theorem sw_or1 (h : ST X a tA) : SW X (.BoolOp .Or [a] pos) tA := by
  obtain ⟨t, p, s⟩ := h.ex
  exact ⟨_, pw_or1 p, s⟩
theorem sw_and (h : ST X a tA) (h2 : SW X (.BoolOp .And (b :: rest) pos) tB') : SW X (.BoolOp .And (a :: b :: rest) pos) (fAndT tA tB') := by
  obtain ⟨t, p, s⟩ := h.ex
  obtain ⟨t', p', s'⟩ := h2.ex
  refine ⟨_, pw_and p p', ?_⟩
  intro σ H env l b env' h1 e Q q
  obtain ⟨⟨r, e1⟩, ea, e⟩ := Res.bind_ok e
  refine s σ H env l r _ h1 ea _ fun H1 h2 => ?_
  cases r with
  | true => exact iteT (s' σ H1 e1 l b env' h2 e Q q)
  | false => cases e; exact iteF (q H1 h2)
theorem sw_or (h : ST X a tA) (h2 : SW X (.BoolOp .Or (b :: rest) pos) tB') : SW X (.BoolOp .Or (a :: b :: rest) pos) (fOrT tA tB') := by
  obtain ⟨t, p, s⟩ := h.ex
  obtain ⟨t', p', s'⟩ := h2.ex
  refine ⟨_, pw_or p p', ?_⟩
  intro σ H env l b env' h1 e Q q
  obtain ⟨⟨r, e1⟩, ea, e⟩ := Res.bind_ok e
  refine s σ H env l r _ h1 ea _ fun H1 h2 => ?_
  cases r with
  | true => cases e; exact iteT (q H1 h2)
  | false => exact iteF (s' σ H1 e1 l b env' h2 e Q q)
/-! ### .. as values -/
def fAndV (f g : EvF) : EvF := fun env => do
  let (b, e1) ← fTst f env
  if b = true then g e1 else .ok (.sh (.bool false), e1)
def fOrV (f g : EvF) : EvF := fun env => do
  let (b, e1) ← fTst f env
  if b = true then .ok (.sh (.bool true), e1) else g e1
def fNotV (f : EvF) : EvF := fun env => do
  let (b, e1) ← fTst f env
  .ok (.sh (.bool (!b)), e1)
theorem Hold.shV {K : PySem.W.Frag} {mg : Str → Option Value} {H : Hp} {σ : L2.St} {env : Lo} {l : List Item} {v : V} {d : D} (h : Hold K mg H σ env l) (hd : ∀ G, Dt K G v d) : HoldV K mg H σ env l v (.sh d) := by
  obtain ⟨G, os, rp⟩ := h.rep
  exact ⟨h.len, ⟨G, os, rp.sh (hd G)⟩, fun _ z => by cases z⟩
theorem se_one {op} (h : SE X a fa) : SE X (.BoolOp op [a] pos) fa := by
  obtain ⟨t, p, s⟩ := h.ex
  exact ⟨_, pe_one p, s⟩
theorem se_and (h : SE X a fa) (h2 : SE X (.BoolOp .And (b :: rest) pos) fb) : SE X (.BoolOp .And (a :: b :: rest) pos) (fAndV fa fb) := by
  obtain ⟨t, p, s⟩ := h.ex
  obtain ⟨t', p', s'⟩ := h2.ex
  refine ⟨_, pe_and p p', ?_⟩
  intro σ H env l r env' h1 e Q q
  obtain ⟨⟨c, e1⟩, ea, e⟩ := Res.bind_ok e
  refine sem_tst s σ H env l c _ h1 ea (fun c H1 => if c = true then t' σ H1 Q else Q (.bl false) H1) fun H1 h2 => ?_
  cases c with
  | true => exact iteT (s' σ H1 e1 l r env' h2 e Q q)
  | false => cases e; exact iteF (q _ H1 (h2.shV fun _ => .bl _))
theorem se_or (h : SE X a fa) (h2 : SE X (.BoolOp .Or (b :: rest) pos) fb) : SE X (.BoolOp .Or (a :: b :: rest) pos) (fOrV fa fb) := by
  obtain ⟨t, p, s⟩ := h.ex
  obtain ⟨t', p', s'⟩ := h2.ex
  refine ⟨_, pe_or p p', ?_⟩
  intro σ H env l r env' h1 e Q q
  obtain ⟨⟨c, e1⟩, ea, e⟩ := Res.bind_ok e
  refine sem_tst s σ H env l c _ h1 ea (fun c H1 => if c = true then Q (.bl true) H1 else t' σ H1 Q) fun H1 h2 => ?_
  cases c with
  | true => cases e; exact iteT (q _ H1 (h2.shV fun _ => .bl _))
  | false => exact iteF (s' σ H1 e1 l r env' h2 e Q q)
theorem se_not (h : SE X a fa) : SE X (.UnaryOp .Not a pos) (fNotV fa) := by
  obtain ⟨t, p, s⟩ := h.ex
  refine ⟨_, pe_not p, ?_⟩
  intro σ H env l r env' h1 e Q q
  obtain ⟨⟨c, e1⟩, ea, e⟩ := Res.bind_ok e
  cases e
  exact sem_tst s σ H env l c _ h1 ea (fun c H1 => Q (.bl (!c)) H1) fun H1 h2 => q _ H1 (h2.shV fun _ => .bl _)
def fIf (ft : EvT) (fa fb : EvF) : EvF := fun env => do
  let (b, e1) ← ft env
  if b = true then fa e1 else fb e1
theorem se_if (hc : ST X c tA) (h : SE X a fa) (h2 : SE X b fb) : SE X (.IfExp c a b pos) (fIf tA fa fb) := by
  obtain ⟨t0, p0, s0⟩ := hc.ex
  obtain ⟨t, p, s⟩ := h.ex
  obtain ⟨t', p', s'⟩ := h2.ex
  refine ⟨_, pe_ifExp p0 p p', ?_⟩
  intro σ H env l r env' h1 e Q q
  obtain ⟨⟨k, e1⟩, ea, e⟩ := Res.bind_ok e
  refine s0 σ H env l k _ h1 ea _ fun H1 h2 => ?_
  cases k with
  | true => exact iteT (s σ H1 e1 l r env' h2 e Q q)
  | false => exact iteF (s' σ H1 e1 l r env' h2 e Q q)
end
end FL

/-! FL4: subscripts, slices, displays, calls -/
namespace FL
open PySem PySem.Spec PyProof.Rows L2

/-! ### subscripts -/
def ixD : D → D → Option Sl
  | .list ds, .int i => (atI ds i).map .sh
  | .tuple ds, .int i => (atI ds i).map .sh
  | .str x, .int i => if x.length ≤ 16777216 then (atI x.cps.toList i).map fun c => .sh (.str ⟨#[c]⟩) else none
  | _, _ => none
theorem at_all {K : PySem.W.Frag} {G : Hp} {vs : List V} {ds : List D} {i : Int} {d : D} (h : DtAll K G vs ds) (e : atI ds i = some d) : ∃ v, atI vs i = some v ∧ Dt K G v d := by
  unfold atI at e ⊢
  rw [h.length]
  cases q : ixN ds.length i with
  | none => rw [q] at e; cases e
  | some j =>
    rw [q] at e
    obtain ⟨v, e1, e2⟩ := h.get (show ds[j]? = some d from e)
    exact ⟨v, e1, e2⟩
theorem so_ix {K : PySem.W.Frag} : SemOp K (rIx K) ixD := by
  intro G H x y dx dy s Q sm a b e q
  cases dx <;> cases dy <;> first | (cases e; done) | skip
  case list.int ds i =>
    rw [show ixD (.list ds) (.int i) = (atI ds i).map .sh from rfl] at e
    cases ea : atI ds i with
    | none => rw [ea] at e; cases e
    | some d =>
      rw [ea] at e; cases e
      obtain ⟨p, vs, rfl, hp, hv⟩ := a.list sm
      obtain ⟨v, e1, e2⟩ := at_all hv ea
      exact .inl ⟨p, vs, i, v, rfl, b.int, .of hp, e1, q _ _ (.now e2)⟩
  case tuple.int ds i =>
    rw [show ixD (.tuple ds) (.int i) = (atI ds i).map .sh from rfl] at e
    cases ea : atI ds i with
    | none => rw [ea] at e; cases e
    | some d =>
      rw [ea] at e; cases e
      obtain ⟨p, vs, rfl, hp, hv⟩ := a.tuple sm
      obtain ⟨v, e1, e2⟩ := at_all hv ea
      exact .inr (.inl ⟨p, vs, i, v, rfl, b.int, hp, e1, q _ _ (.now e2)⟩)
  case str.int z i =>
    rw [show ixD (.str z) (.int i) = if z.length ≤ 16777216 then (atI z.cps.toList i).map fun c => Sl.sh (.str ⟨#[c]⟩) else none from rfl] at e
    split at e
    · rename_i h
      cases ea : atI z.cps.toList i with
      | none => rw [ea] at e; cases e
      | some c =>
        rw [ea] at e; cases e
        exact .inr (.inr ⟨z, i, c, a.str, b.int, sizeL h, ea, q _ _ .str⟩)
    · cases e
section
variable {X : Cx} {a b c : Expr} {fa fb fc : EvF} {pos : Pos}
theorem se_ix (ha : SE X a fa) (hb : SE X b fb) (hs : PlainIx b := by exact fun _ _ => rfl) : SE X (.Subscript a b pos) (fOp ixD fa fb) := by
  obtain ⟨t, p, s⟩ := ha.ex
  obtain ⟨t', p', s'⟩ := hb.ex
  exact ⟨_, pe_ix ix_seq p p' hs, sem_op so_ix s s'⟩
end

/-! ### slices -/
def cutG {α : Type} (xs : List α) (lo hi : Option Int) : List α := (xs.drop (HT.sIx xs.length 0 lo)).take (HT.sIx xs.length xs.length hi - HT.sIx xs.length 0 lo)
def sliceD : D → Option Int → Option Int → Option Sl
  | .list ds, lo, hi => some (.ol (cutG ds lo hi))
  | .tuple ds, lo, hi => some (.sh (.tuple (cutG ds lo hi)))
  | .str x, lo, hi => if x.length ≤ 16777216 then some (.sh (.str (cutS x lo hi))) else none
  | _, _, _ => none
abbrev EvO := Lo → Res (Option Int × Lo)
def SemO (K : PySem.W.Frag) (mg : Str → Option Value) (t : TO) (f : EvO) : Prop :=
  ∀ (σ : L2.St) (H : Hp) (env : Lo) (l : List Item) (o : Option Int) (env' : Lo), Hold K mg H σ env l → f env = .ok (o, env') → ∀ Q : Option Int → Hp → Prop, (∀ H', Hold K mg H' σ env' l → Q o H') → t σ H Q
structure SO (X : Cx) (e : Option Expr) (f : EvO) : Prop where
  ex : ∃ t, PO X e t ∧ SemO X.K X.mg t f
def fNoPart : EvO := fun env => .ok (none, env)
def fPart (fa : EvF) : EvO := fun env => do
  let (r, e1) ← fa env
  match r with
  | .sh (.int i) => .ok (some i, e1)
  | _ => .bad
section
variable {X : Cx} {a b c : Expr} {fa fb fc : EvF} {pos p2 : Pos} {lo hi : Option Expr} {fl fh : EvO}
theorem so_none : SO X none fNoPart := ⟨_, po_none, fun σ H env l o env' h e Q q => by cases e; exact q H h⟩
theorem so_some (ha : SE X a fa) : SO X (some a) (fPart fa) := by
  obtain ⟨t, p, s⟩ := ha.ex
  refine ⟨_, po_some p, ?_⟩
  intro σ H env l o env' h e Q q
  unfold fPart at e
  obtain ⟨⟨r, e1⟩, ea, e⟩ := Res.bind_ok e
  refine s σ H env l r e1 h ea _ fun v H1 h2 => ?_
  dsimp only at e
  split at e
  · rename_i i
    cases e
    obtain ⟨G, os, rp⟩ := h2.rep
    obtain ⟨v', e', d⟩ := rp.shOf List.mem_cons_self
    cases e'
    cases d
    exact ⟨i, rfl, q H1 h2.drop⟩
  · cases e
def fSlice (fa : EvF) (fl fh : EvO) : EvF := fun env => do
  let (ra, e1) ← fa env
  let (lo, e2) ← fl e1
  let (hi, e3) ← fh e2
  let a ← Res.ofO (view e3 ra)
  let s ← Res.ofO (sliceD a lo hi)
  .ok (s, e3)
def rSlAll (K : PySem.W.Frag) : V → Option Int → Option Int → Hp → VK → Prop := fun x lo hi H Q => rSlL K x lo hi H Q ∨ rSlA K x lo hi H Q ∨ rSlS x lo hi H Q
theorem DtAll.cut {K : PySem.W.Frag} {G : Hp} {vs : List V} {ds : List D} (h : DtAll K G vs ds) (lo hi : Option Int) : DtAll K G (cutV vs lo hi) (cutG ds lo hi) := by
  unfold cutV cutG
  rw [h.length]
  exact (h.drop _).take _
theorem sem_slice {K : PySem.W.Frag} {mg : Str → Option Value} {ta : TE} {tl th : TO} (ha : SemE K mg ta fa) (hl : SemO K mg tl fl) (hh : SemO K mg th fh) : SemE K mg (tSl (rSlAll K) ta tl th) (fSlice fa fl fh) := by
  intro σ H env l s env' h e Q q
  unfold fSlice at e
  obtain ⟨⟨ra, e1⟩, ea, e⟩ := Res.bind_ok e
  obtain ⟨⟨lo, e2⟩, el, e⟩ := Res.bind_ok e
  obtain ⟨⟨hi, e3⟩, eh, e⟩ := Res.bind_ok e
  obtain ⟨a, va, e⟩ := Res.bind_ok e
  obtain ⟨s', es, e⟩ := Res.bind_ok e
  cases e
  replace va := Res.ofO_ok va
  replace es := Res.ofO_ok es
  refine ha σ H env l ra e1 h ea _ fun x H1 h1 => ?_
  refine hl σ H1 e1 _ lo e2 h1.hold el _ fun H2 h2 => ?_
  refine hh σ H2 e2 _ hi _ h2 eh _ fun H3 h3 => ?_
  have h3 := h3.toV h1.vw
  obtain ⟨G, os, rp⟩ := h3.rep
  have dx : DpT K G H3 x a := rp.view (σ := σ) List.mem_cons_self (fun it hi => List.mem_cons_of_mem _ (List.mem_append_left _ hi)) h3.vw va
  have fin : ∀ v H4, Got K G H3 v s H4 → Q v H4 := fun v H4 g => q v H4 ⟨h3.len, ((rp.got g).perm (.swap _ _ _)).tail, g.novw⟩
  cases a <;> first | (cases es; done) | skip
  case list ds =>
    cases es
    obtain ⟨p, vs, rfl, hp, hv⟩ := dx.list rp.same
    exact .inl ⟨p, vs, rfl, .of hp, fun l' hl' => fin _ _ (.newL hl' (hv.cut _ _))⟩
  case tuple ds =>
    cases es
    have dx0 := dx
    obtain ⟨p, vs, rfl, hp, hv⟩ := dx.tuple rp.same
    refine .inr (.inl ⟨p, vs, rfl, hp, fun z => ?_, fun _ l' hl' => fin _ _ (.newT rp.same hl' (hv.cut _ _))⟩)
    refine fin _ _ (.now ?_)
    have e : cutG ds lo hi = ds := by
      unfold cutG
      rw [← hv.length, z.1, z.2]
      rw [List.drop_zero, Nat.sub_zero, List.take_of_length_le (Nat.le_of_eq hv.length.symm)]
    rw [e]
    rcases dx0 with dx0 | ⟨_, _, _, _, z, _⟩
    · exact dx0
    · cases z
  case str z =>
    rw [show sliceD (.str z) lo hi = if z.length ≤ 16777216 then some (Sl.sh (.str (cutS z lo hi))) else none from rfl] at es
    split at es
    · rename_i hz
      cases es
      exact .inr (.inr ⟨z, dx.str, sizeL hz, fin _ _ .str⟩)
    · cases es
theorem se_slice (ha : SE X a fa) (hl : SO X lo fl) (hh : SO X hi fh) : SE X (.Subscript a (.Slice lo hi none p2) pos) (fSlice fa fl fh) := by
  obtain ⟨t, p, s⟩ := ha.ex
  obtain ⟨t1, p1, s1⟩ := hl.ex
  obtain ⟨t2, p2, s2⟩ := hh.ex
  exact ⟨_, pe_slice (sl_list.or (sl_tupA.or sl_str)) p p1 p2, sem_slice s s1 s2⟩
end

/-! ### what is shared from now on -/
def freezeR (env : Lo) : Sl → Option (D × Lo)
  | .sh d => some (d, env)
  | .ol ds => some (.list ds, env)
  | .vw i => match env[i]? with
    | some (.ol ds) => some (.list ds, env.set i (.sh (.list ds)))
    | _ => none
  | _ => none
section
variable {K : PySem.W.Frag} {mg : Str → Option Value} {H : Hp} {σ : L2.St} {env env' : Lo} {l : List Item} {v : V} {r : Sl} {d : D}
theorem HoldV.freeze (h : HoldV K mg H σ env l v r) (e : freezeR env r = some (d, env')) : HoldV K mg H σ env' l v (.sh d) := by
  cases r with
  | no => cases e
  | sh d' => cases e; exact h
  | ol ds => cases e; exact ⟨h.len, h.rep.freeze, fun _ z => by cases z⟩
  | od _ => cases e
  | td _ => cases e
  | tt _ _ => cases e
  | ow _ => cases e
  | oi _ _ => cases e
  | sc _ => cases e
  | vw i =>
    have e1 := h.vw i rfl
    have e : (match env[i]? with | some (Sl.ol ds) => some (PyData.list ds, env.set i (.sh (.list ds))) | _ => Option.none) = some (d, env') := e
    split at e
    · rename_i ds e2
      cases e
      obtain ⟨ov, e3, rp⟩ := Hold.take h.drop e2
      rw [e1] at e3; cases e3
      obtain ⟨G, os, rp⟩ := rp
      obtain ⟨G', v', ev, _, dd, os', rp'⟩ := rp.freeze
      cases ev
      have q := rp'.sh dd
      have q2 : Rep K mg H ((some v, Sl.sh (.list ds)) :: (σ.zip (env.set i .no) ++ ((some v, Sl.sh (.list ds)) :: l))) :=
        Rep.perm ⟨_, _, q⟩ ((List.perm_middle (l₁ := σ.zip (env.set i .no))).symm.cons _)
      have q3 := Rep.put q2 (by rw [List.length_set]; exact h.len) e1
      rw [List.set_set] at q3
      exact ⟨by rw [List.length_set]; exact h.len, q3.perm List.perm_middle, fun _ z => by cases z⟩
    · cases e
def freezeAll (env : Lo) : List Sl → Option (List D × Lo)
  | [] => some ([], env)
  | r :: rs => do
    let (d, e1) ← freezeR env r
    let (ds, e2) ← freezeAll e1 rs
    some (d :: ds, e2)
theorem HoldA.freeze : ∀ {rs : List Sl} {vs : List V} {ds : List D} {env env' : Lo} {l : List Item}, HoldA K mg H σ env l vs rs → freezeAll env rs = some (ds, env') → HoldA K mg H σ env' l vs (ds.map .sh) := by
  intro rs
  induction rs with
  | nil =>
    intro vs ds env env' l h e
    cases e
    have : vs = [] := by have := h.alen; simpa using this
    subst this
    exact h
  | cons r rs ih =>
    intro vs ds env env' l h e
    cases vs with
    | nil => have := h.alen; simp at this
    | cons v vs =>
      simp only [freezeAll, Option.bind_eq_bind, Option.bind_eq_some_iff] at e
      obtain ⟨⟨d, e1⟩, ea, ⟨ds', e2⟩, eb, e⟩ := e
      cases e
      have hv : HoldV K mg H σ env ((vs.map some).zip rs ++ l) v r := ⟨h.len, by
        have := h.rep
        rw [List.map_cons, List.zip_cons_cons, List.cons_append] at this
        refine this.perm (List.Perm.cons _ ?_)
        rw [← List.append_assoc, ← List.append_assoc]
        exact List.perm_append_comm.append_right l, h.vw 0 v r rfl rfl⟩
      have hv2 := hv.freeze ea
      have ha : HoldA K mg H σ e1 ((some v, .sh d) :: l) vs rs := ⟨hv2.len, by
        have := hv2.rep
        refine this.perm ?_
        have : ((vs.map some).zip rs ++ (σ.zip e1 ++ (some v, Sl.sh d) :: l)).Perm ((some v, Sl.sh d) :: ((vs.map some).zip rs ++ (σ.zip e1 ++ l))) := by
          rw [← List.append_assoc, ← List.append_assoc]
          exact List.perm_middle
        refine (List.Perm.cons _ ?_).trans this.symm
        rw [← List.append_assoc, ← List.append_assoc]
        exact List.perm_append_comm.append_right l, by simpa using h.alen, fun k v' r' e1 e2 => h.vw (k + 1) v' r' (by simpa using e1) (by simpa using e2)⟩
      have hb := ih ha eb
      refine ⟨hb.len, ?_, by simpa using hb.alen, fun k v' r' e1 e2 => ?_⟩
      · rw [List.map_cons, List.map_cons, List.zip_cons_cons, List.cons_append]
        refine hb.rep.perm ?_
        rw [← List.append_assoc, ← List.append_assoc]
        exact List.perm_middle
      · cases k with
        | zero => simp at e1 e2; subst e2; intro _ z; cases z
        | succ k => exact hb.vw k v' r' (by simpa using e1) (by simpa using e2)
theorem Rp.all {G : Hp} {L : List Item} {os : List Addr} (h : Rp K mg G H L os) : ∀ {vs : List V} {ds : List D}, vs.length = ds.length → (∀ it ∈ (vs.map some).zip (ds.map Sl.sh), it ∈ L) → DtAll K G vs ds
  | [], [], _, _ => .nil
  | [], _ :: _, e, _ => by simp at e
  | _ :: _, [], e, _ => by simp at e
  | v :: vs, d :: ds, e, hm => by
    obtain ⟨v', e', dd⟩ := h.shOf (hm (some v, .sh d) (by simp))
    cases e'
    exact .cons dd (h.all (by simpa using e) fun it hi => hm it (by
      rw [List.map_cons, List.map_cons, List.zip_cons_cons]
      exact List.mem_cons_of_mem _ hi))
theorem Rep.dropA {L : List Item} : ∀ (M : List Item), Rep K mg H (M ++ L) → Rep K mg H L
  | [], h => h
  | _ :: M, h => Rep.dropA M h.tail
end
/-! ### displays -/
def fTup (fs : EvA) : EvF := fun env => do
  let (rs, e1) ← fs env
  let (ds, e2) ← Res.ofO (freezeAll e1 rs)
  if ds.length ≤ 16777216 then .ok (.sh (.tuple ds), e2) else .bad
def fLst (fs : EvA) : EvF := fun env => do
  let (rs, e1) ← fs env
  let (ds, e2) ← Res.ofO (freezeAll e1 rs)
  if ds.length ≤ 16777216 then .ok (.ol ds, e2) else .bad
section
variable {X : Cx} {es : List Expr} {fs : EvA} {pos : Pos}
theorem se_tup {x1} (h : SA X es fs) : SE X (.Tuple es x1 pos) (fTup fs) := by
  obtain ⟨t, p, s⟩ := h.ex
  refine ⟨_, pe_tup p, ?_⟩
  intro σ H env l r env' h e Q q
  unfold fTup at e
  obtain ⟨⟨rs, e1⟩, ea, e⟩ := Res.bind_ok e
  obtain ⟨⟨ds, e2⟩, eb, e⟩ := Res.bind_ok e
  have eb := Res.ofO_ok eb
  dsimp only at e
  split at e
  · rename_i hz
    cases e
    refine s σ H env l rs e1 h ea _ fun vs H1 h1 => ?_
    have h2 := h1.freeze eb
    have hl : vs.length = ds.length := by simpa using h2.alen
    refine ⟨sizeL (by rw [hl]; exact hz), fun x hx => q _ _ ⟨h2.len, ?_, fun _ z => by cases z⟩⟩
    obtain ⟨G, os, rp⟩ := h2.rep
    have g := Got.newT rp.same hx (rp.all hl fun it hi => List.mem_append_left _ hi)
    have := rp.got g
    have := this.perm (l' := ((vs.map some).zip (ds.map Sl.sh)) ++ ((some (V.ref x), Sl.sh (.tuple ds)) :: (σ.zip env' ++ l))) List.perm_middle.symm
    exact Rep.dropA _ this
  · cases e
theorem se_lst (h : SA X es fs) : SE X (.List es pos) (fLst fs) := by
  obtain ⟨t, p, s⟩ := h.ex
  refine ⟨_, pe_lst p, ?_⟩
  intro σ H env l r env' h e Q q
  unfold fLst at e
  obtain ⟨⟨rs, e1⟩, ea, e⟩ := Res.bind_ok e
  obtain ⟨⟨ds, e2⟩, eb, e⟩ := Res.bind_ok e
  have eb := Res.ofO_ok eb
  dsimp only at e
  split at e
  · rename_i hz
    cases e
    refine s σ H env l rs e1 h ea _ fun vs H1 h1 => ?_
    have h2 := h1.freeze eb
    have hl : vs.length = ds.length := by simpa using h2.alen
    refine ⟨sizeL (by rw [hl]; exact hz), fun x hx => q _ _ ⟨h2.len, ?_, fun _ z => by cases z⟩⟩
    obtain ⟨G, os, rp⟩ := h2.rep
    have g := Got.newL (H := H1) (G := G) hx (rp.all hl fun it hi => List.mem_append_left _ hi)
    have := rp.got g
    have := this.perm (l' := ((vs.map some).zip (ds.map Sl.sh)) ++ ((some (V.ref x), Sl.ol ds) :: (σ.zip env' ++ l))) List.perm_middle.symm
    exact Rep.dropA _ this
  · cases e
end

/-! ### built-ins by their name -/
inductive DTs (K : PySem.W.Frag) (G H : Hp) : List V → List D → Prop
  | nil : DTs K G H [] []
  | cons {v : V} {d : D} {vs : List V} {ds : List D} : DpT K G H v d → DTs K G H vs ds → DTs K G H (v :: vs) (d :: ds)
def SemC (K : PySem.W.Frag) (r : List V → Hp → VK → Prop) (op : List D → Option Sl) : Prop :=
  ∀ (G H : Hp) (vs : List V) (ds : List D) (s : Sl) (Q : VK), Same G H → DTs K G H vs ds → op ds = some s → (∀ v H', Got K G H v s H' → Q v H') → r vs H Q
def views (env : Lo) : List Sl → Option (List D)
  | [] => some []
  | r :: rs => do
    let d ← view env r
    let ds ← views env rs
    some (d :: ds)
def fCB (op : List D → Option Sl) (fs : EvA) : EvF := fun env => do
  let (rs, e1) ← fs env
  let ds ← Res.ofO (views e1 rs)
  let s ← Res.ofO (op ds)
  .ok (s, e1)
theorem views_ok {K : PySem.W.Frag} {mg : Str → Option Value} {G H : Hp} {σ : L2.St} {env : Lo} {L : List Item} {os : List Addr} (rp : Rp K mg G H L os) (hz : ∀ it ∈ σ.zip env, it ∈ L) :
    ∀ {vs : List V} {rs : List Sl} {ds : List D}, vs.length = rs.length → (∀ it ∈ (vs.map some).zip rs, it ∈ L) → (∀ (k : Nat) (v : V) (r : Sl), vs[k]? = some v → rs[k]? = some r → VwOk σ v r) → views env rs = some ds → DTs K G H vs ds
  | [], [], ds, _, _, _, e => by cases e; exact .nil
  | [], _ :: _, _, h, _, _, _ => by simp at h
  | _ :: _, [], _, h, _, _, _ => by simp at h
  | v :: vs, r :: rs, ds, h, hm, hv, e => by
    simp only [views, Option.bind_eq_bind, Option.bind_eq_some_iff] at e
    obtain ⟨d, ed, ds', eds, e⟩ := e
    cases e
    refine .cons (rp.view (σ := σ) (hm _ (by simp)) hz (hv 0 v r rfl rfl) ed) (views_ok rp hz (by simpa using h) (fun it hi => hm it ?_) (fun k v r e1 e2 => hv (k + 1) v r (by simpa using e1) (by simpa using e2)) eds)
    rw [List.map_cons, List.zip_cons_cons]
    exact List.mem_cons_of_mem _ hi
theorem sem_cb {K : PySem.W.Frag} {mg : Str → Option Value} {r : List V → Hp → VK → Prop} {op : List D → Option Sl} {t : TA} {fs : EvA} (ho : SemC K r op) (hs : SemA K mg t fs) : SemE K mg (tCB r t) (fCB op fs) := by
  intro σ H env l s env' h e Q q
  unfold fCB at e
  obtain ⟨⟨rs, e1⟩, ea, e⟩ := Res.bind_ok e
  obtain ⟨ds, ev, e⟩ := Res.bind_ok e
  obtain ⟨s', es, e⟩ := Res.bind_ok e
  cases e
  have ev := Res.ofO_ok ev
  have es := Res.ofO_ok es
  refine hs σ H env l rs _ h ea _ fun vs H1 h1 => ?_
  obtain ⟨G, os, rp⟩ := h1.rep
  refine ho G H1 vs ds s Q rp.same (views_ok rp (fun it hi => List.mem_append_right _ (List.mem_append_left _ hi)) h1.alen (fun it hi => List.mem_append_left _ hi) h1.vw ev) es fun v H2 g => q v H2 ⟨h1.len, ?_, g.novw⟩
  have := rp.got g
  have := this.perm (l' := ((vs.map some).zip rs) ++ ((some v, s) :: (σ.zip env' ++ l))) List.perm_middle.symm
  exact Rep.dropA _ this
section
variable {X : Cx} {x : Str} {p pos : Pos} {e : Expr} {es : List Expr} {fs : EvA} {id T : String} {r : List V → Hp → VK → Prop} {op : List D → Option Sl}
theorem se_cB (hc : CallR X (.builtin id) r) (so : SemC X.K r op) (hg : Gl X x) (hm : X.mg x = none) (hv : bootBuiltins x = some (.builtin id)) (ha : SA X (e :: es) fs) (hn : x ≠ "__name__" := by decide) (hdb : (x == ("__debug__" : Str)) = false := by decide)
    (he : starEach (e :: es) X.env = (false, eval e X.env) :: starEach es X.env := by rfl) (hpl : (backTo pos (starEach es X.env)).any (·.1) = false := by rfl) : SE X (.Call (.Name x p) (e :: es) [] pos) (fCB op fs) := by
  obtain ⟨t, p', s⟩ := ha.ex
  exact ⟨_, pe_callB hc hg hm hv p' hn hdb he hpl, sem_cb so s⟩
theorem se_cTy (hc : CallR X (.type T) r) (so : SemC X.K r op) (hg : Gl X x) (hm : X.mg x = none) (hv : bootBuiltins x = some (.type T)) (ha : SA X (e :: es) fs) (hn : x ≠ "__name__" := by decide) (hdb : (x == ("__debug__" : Str)) = false := by decide)
    (he : starEach (e :: es) X.env = (false, eval e X.env) :: starEach es X.env := by rfl) (hpl : (backTo pos (starEach es X.env)).any (·.1) = false := by rfl) : SE X (.Call (.Name x p) (e :: es) [] pos) (fCB op fs) := by
  obtain ⟨t, p', s⟩ := ha.ex
  exact ⟨_, pe_callTy hc hg hm hv p' hn hdb he hpl, sem_cb so s⟩
end
theorem DTs.one {K : PySem.W.Frag} {G H : Hp} {vs : List V} {d : D} (h : DTs K G H vs [d]) : ∃ v, vs = [v] ∧ DpT K G H v d := by
  cases h with
  | cons a b => cases b; exact ⟨_, rfl, a⟩
theorem DTs.two {K : PySem.W.Frag} {G H : Hp} {vs : List V} {d d' : D} (h : DTs K G H vs [d, d']) : ∃ v v', vs = [v, v'] ∧ DpT K G H v d ∧ DpT K G H v' d' := by
  cases h with
  | cons a b => cases b with
    | cons b c => cases c; exact ⟨_, _, rfl, a, b⟩
def lenD : List D → Option Sl
  | [.list ds] => some (.sh (.int ds.length))
  | [.tuple ds] => some (.sh (.int ds.length))
  | [.str x] => if x.length ≤ 16777216 then some (.sh (.int x.length)) else none
  | _ => none
def rLenAll (K : PySem.W.Frag) : List V → Hp → VK → Prop := fun xs H Q => (∃ p ys, xs = [.ref p] ∧ (SqL K H p ys ∨ SqT K H p ys) ∧ Q (.int ys.length) H) ∨ ∃ z, xs = [.str z] ∧ z.length ≤ sizeLine ∧ Q (.int z.length) H
theorem CallR.or {X : Cx} {f : Value} {r r' : List V → Hp → VK → Prop} (h : CallR X f r) (h' : CallR X f r') : CallR X f (fun xs H Q => r xs H Q ∨ r' xs H Q) := by
  intro pins s σ H xs us Q I rx q
  rcases q with q | q
  · exact h pins s σ H xs us Q I rx q
  · exact h' pins s σ H xs us Q I rx q
theorem oc_len {X : Cx} : CallR X (.builtin "len") (rLenAll X.K) := call_len_seq.or call_len_str
theorem sc_len {K : PySem.W.Frag} : SemC K (rLenAll K) lenD := by
  intro G H vs ds s Q sm h e q
  unfold lenD at e
  split at e
  · cases e
    obtain ⟨v, rfl, d⟩ := h.one
    obtain ⟨p, ws, rfl, hp, hv⟩ := d.list sm
    exact .inl ⟨p, ws, rfl, .inl (.of hp), by rw [hv.length]; exact q _ _ .int⟩
  · cases e
    obtain ⟨v, rfl, d⟩ := h.one
    obtain ⟨p, ws, rfl, hp, hv⟩ := d.tuple sm
    exact .inl ⟨p, ws, rfl, .inr hp, by rw [hv.length]; exact q _ _ .int⟩
  · split at e
    · rename_i hz
      cases e
      obtain ⟨v, rfl, d⟩ := h.one
      exact .inr ⟨_, by rw [d.str], sizeL hz, q _ _ .int⟩
    · cases e
  · cases e
def intsOf : List D → Option (List Int)
  | [] => some []
  | .int i :: ds => (intsOf ds).map (i :: ·)
  | _ => none
theorem intsOf_eq : ∀ {ds : List D} {ns : List Int}, intsOf ds = some ns → ds = ns.map PyData.int
  | [], ns, e => by cases e; rfl
  | .int i :: ds, ns, e => by
    simp only [intsOf, Option.map_eq_some_iff] at e
    obtain ⟨ms, e1, e2⟩ := e
    subst e2
    rw [intsOf_eq e1]; rfl
  | .none :: _, _, e => by cases e
  | .bool _ :: _, _, e => by cases e
  | .str _ :: _, _, e => by cases e
  | .list _ :: _, _, e => by cases e
  | .tuple _ :: _, _, e => by cases e
  | .dict _ :: _, _, e => by cases e
theorem intsOf_map : ∀ (ns : List Int), intsOf (ns.map PyData.int) = some ns
  | [] => rfl
  | n :: ns => by simp only [List.map_cons, intsOf, intsOf_map ns, Option.map_some]
def boolsOf : List D → Option (List Bool)
  | [] => some []
  | .bool i :: ds => (boolsOf ds).map (i :: ·)
  | _ => none
theorem boolsOf_eq : ∀ {ds : List D} {ns : List Bool}, boolsOf ds = some ns → ds = ns.map PyData.bool
  | [], ns, e => by cases e; rfl
  | .bool i :: ds, ns, e => by
    simp only [boolsOf, Option.map_eq_some_iff] at e
    obtain ⟨ms, e1, e2⟩ := e
    subst e2
    rw [boolsOf_eq e1]; rfl
  | .none :: _, _, e => by cases e
  | .int _ :: _, _, e => by cases e
  | .str _ :: _, _, e => by cases e
  | .list _ :: _, _, e => by cases e
  | .tuple _ :: _, _, e => by cases e
  | .dict _ :: _, _, e => by cases e
theorem boolsOf_map : ∀ (ns : List Bool), boolsOf (ns.map PyData.bool) = some ns
  | [] => rfl
  | n :: ns => by simp only [List.map_cons, boolsOf, boolsOf_map ns, Option.map_some]
theorem DtAll.of_bools {K : PySem.W.Frag} {G : Hp} : ∀ {vs : List V} {ns : List Bool}, DtAll K G vs (ns.map PyData.bool) → vs = ns.map V.bl
  | _, [], h => by cases h; rfl
  | _, n :: ns, h => by
    cases h with
    | cons r t => cases r; rw [DtAll.of_bools t]; rfl
def sumD : List D → Option Sl
  | [.list ds] => (intsOf ds).map fun ns => .sh (.int ns.sum)
  | _ => none
theorem sc_sum {K : PySem.W.Frag} : SemC K (rSum K) sumD := by
  intro G H vs ds s Q sm h e q
  unfold sumD at e
  split at e
  · rename_i ds
    simp only [Option.map_eq_some_iff] at e
    obtain ⟨ns, e1, e2⟩ := e
    subst e2
    have := intsOf_eq e1
    subst this
    obtain ⟨v, rfl, d⟩ := h.one
    obtain ⟨p, ws, rfl, hp, hv⟩ := d.list sm
    have := hv.of_ints
    subst this
    exact ⟨p, ns, rfl, .of hp, q _ _ .int⟩
  · cases e
def anyD : List D → Option Sl
  | [.list ds] => (boolsOf ds).map fun ns => .sh (.bool (ns.any id))
  | _ => none
def allD : List D → Option Sl
  | [.list ds] => (boolsOf ds).map fun ns => .sh (.bool (ns.all id))
  | _ => none
theorem sc_any {K : PySem.W.Frag} : SemC K (rAny K) anyD := by
  intro G H vs ds s Q sm h e q
  unfold anyD at e
  split at e
  · rename_i ds
    simp only [Option.map_eq_some_iff] at e
    obtain ⟨ns, e1, e2⟩ := e
    subst e2
    have := boolsOf_eq e1
    subst this
    obtain ⟨v, rfl, d⟩ := h.one
    obtain ⟨p, ws, rfl, hp, hv⟩ := d.list sm
    have := hv.of_bools
    subst this
    exact ⟨p, ns, rfl, .of hp, q _ _ .bl⟩
  · cases e
theorem sc_all {K : PySem.W.Frag} : SemC K (rAll K) allD := by
  intro G H vs ds s Q sm h e q
  unfold allD at e
  split at e
  · rename_i ds
    simp only [Option.map_eq_some_iff] at e
    obtain ⟨ns, e1, e2⟩ := e
    subst e2
    have := boolsOf_eq e1
    subst this
    obtain ⟨v, rfl, d⟩ := h.one
    obtain ⟨p, ws, rfl, hp, hv⟩ := d.list sm
    have := hv.of_bools
    subst this
    exact ⟨p, ns, rfl, .of hp, q _ _ .bl⟩
  · cases e
def absD : List D → Option Sl
  | [.int i] => some (.sh (.int (if i < 0 then -i else i)))
  | _ => none
theorem sc_abs {K : PySem.W.Frag} : SemC K (fun xs H Q => ∃ i, xs = [V.int i] ∧ Q (.int (if i < 0 then -i else i)) H) absD := by
  intro G H vs ds s Q sm h e q
  unfold absD at e
  split at e
  · cases e
    obtain ⟨v, rfl, d⟩ := h.one
    exact ⟨_, by rw [d.int], q _ _ .int⟩
  · cases e
def intD : List D → Option Sl
  | [.int i] => some (.sh (.int i))
  | [.bool b] => some (.sh (.int (if b then 1 else 0)))
  | _ => none
theorem sc_int {K : PySem.W.Frag} : SemC K (fun xs H Q => (∃ i, xs = [V.int i] ∧ Q (.int i) H) ∨ ∃ k, xs = [V.bl k] ∧ Q (.int (if k then 1 else 0)) H) intD := by
  intro G H vs ds s Q sm h e q
  unfold intD at e
  split at e
  · cases e
    obtain ⟨v, rfl, d⟩ := h.one
    exact .inl ⟨_, by rw [d.int], q _ _ .int⟩
  · cases e
    obtain ⟨v, rfl, d⟩ := h.one
    exact .inr ⟨_, by rw [d.bool], q _ _ .int⟩
  · cases e
def maxD : List D → Option Sl
  | [.int i, .int j] => some (.sh (.int (if j > i then j else i)))
  | _ => none
theorem sc_max {K : PySem.W.Frag} : SemC K (fun xs H Q => ∃ i j, xs = [V.int i, .int j] ∧ Q (.int (if j > i then j else i)) H) maxD := by
  intro G H vs ds s Q sm h e q
  unfold maxD at e
  split at e
  · cases e
    obtain ⟨v, v', rfl, d, d'⟩ := h.two
    exact ⟨_, _, by rw [d.int, d'.int], q _ _ .int⟩
  · cases e
def tupleD : List D → Option Sl
  | [.list ds] => some (.sh (.tuple ds))
  | [.tuple ds] => some (.sh (.tuple ds))
  | _ => none
theorem sc_tuple {K : PySem.W.Frag} : SemC K (fun xs H Q => ∃ p ys, xs = [V.ref p] ∧ ((SqL K H p ys ∧ ∀ l, H l = Option.none → Q (.ref l) (upd H l (.tup ys))) ∨ (SqT K H p ys ∧ Q (.ref p) H))) tupleD := by
  intro G H vs ds s Q sm h e q
  unfold tupleD at e
  split at e
  · cases e
    obtain ⟨v, rfl, d⟩ := h.one
    obtain ⟨p, ws, rfl, hp, hv⟩ := d.list sm
    exact ⟨p, ws, rfl, .inl ⟨.of hp, fun l hl => q _ _ (.newT sm hl hv)⟩⟩
  · cases e
    obtain ⟨v, rfl, d⟩ := h.one
    have d0 := d
    obtain ⟨p, ws, rfl, hp, hv⟩ := d.tuple sm
    refine ⟨p, ws, rfl, .inr ⟨hp, q _ _ (.now ?_)⟩⟩
    rcases d0 with d0 | ⟨_, _, _, _, z, _⟩
    · exact d0
    · cases z
  · cases e
def listD : List D → Option Sl
  | [.list ds] => some (.ol ds)
  | [.tuple ds] => some (.ol ds)
  | _ => none
theorem sc_list {K : PySem.W.Frag} : SemC K (fun xs H Q => ∃ p ys, xs = [V.ref p] ∧ (SqL K H p ys ∨ SqT K H p ys) ∧ ∀ l, H l = Option.none → Q (.ref l) (upd H l (.lst ys))) listD := by
  intro G H vs ds s Q sm h e q
  unfold listD at e
  split at e
  · cases e
    obtain ⟨v, rfl, d⟩ := h.one
    obtain ⟨p, ws, rfl, hp, hv⟩ := d.list sm
    exact ⟨p, ws, rfl, .inl (.of hp), fun l hl => q _ _ (.newL hl hv)⟩
  · cases e
    obtain ⟨v, rfl, d⟩ := h.one
    obtain ⟨p, ws, rfl, hp, hv⟩ := d.tuple sm
    exact ⟨p, ws, rfl, .inr hp, fun l hl => q _ _ (.newL hl hv)⟩
  · cases e
end FL

/-! FL5: calls of the text's own defs, statements, loops, comprehensions -/
namespace FL
open PySem PySem.Spec PyProof.Rows L2

/-! ### a def as a function of what its arguments hold -/
abbrev Fn := List Sl → Res (Sl × List Sl)
def isVw : Sl → Bool
  | .vw _ => true
  | _ => false
def spF (K : PySem.W.Frag) (mg : Str → Option Value) (n : Nat) (F : Fn) : Sp := fun vs H Q _ => vs.length = n ∧ ∃ (args : List Sl) (l : List Item) (r : Sl) (args' : List Sl), args.length = n ∧ Rep K mg H ((vs.map some).zip args ++ l) ∧ F args = .ok (r, args') ∧
  ∀ v H', Rep K mg H' ((some v, r) :: ((vs.map some).zip args' ++ l)) → isVw r = false → Q v H'
structure FnF (P : Program) (w : World) (K : PySem.W.Frag) (mg : Str → Option Value) (base : Heap) (x : Str) (n k : Nat) (F : Fn) : Prop where
  ex : ∃ (f : Addr) (fd : FuncData) (ps : List Str), mg x = some (.ref f) ∧ PySem.W.keepIn K (.ref f) = true ∧ Binds K fd ps [] ∧ FnOk P w K mg base CX0 k f fd ps (spF K mg n F)
def moveIn (env : Lo) : List Sl → List Sl × Lo
  | [] => ([], env)
  | r :: rs => match r with
    | .vw i => let p := moveIn (env.set i .no) rs; ((env[i]?.getD .no) :: p.1, p.2)
    | r => let p := moveIn env rs; (r :: p.1, p.2)
def moveBack (env : Lo) : List Sl → List Sl → Lo
  | r :: rs, a :: as => match r with
    | .vw i => moveBack (env.set i a) rs as
    | _ => moveBack env rs as
  | _, _ => env
def fCall (F : Fn) (fs : EvA) : EvF := fun env => do
  let (rs, e1) ← fs env
  let (r, as') ← F (moveIn e1 rs).1
  if isVw r = true then .bad else .ok (r, moveBack (moveIn e1 rs).2 rs as')
section
variable {K : PySem.W.Frag} {mg : Str → Option Value} {H : Hp} {σ : L2.St} {l : List Item}
theorem perm_mid {α : Type} {a : α} {A B : List α} : (a :: (A ++ B)).Perm (A ++ a :: B) := List.perm_middle.symm
theorem moveIn_ok : ∀ {rs : List Sl} {vs : List V} {env : Lo} {l : List Item}, HoldA K mg H σ env l vs rs → σ.length = (moveIn env rs).2.length ∧ (moveIn env rs).1.length = rs.length ∧ Rep K mg H ((vs.map some).zip (moveIn env rs).1 ++ (σ.zip (moveIn env rs).2 ++ l)) := by
  intro rs
  induction rs with
  | nil => intro vs env l h; exact ⟨h.len, rfl, h.rep⟩
  | cons r rs ih =>
    intro vs env l h
    cases vs with
    | nil => have := h.alen; simp at this
    | cons v vs =>
      have h0 : Rep K mg H ((some v, r) :: ((vs.map some).zip rs ++ (σ.zip env ++ l))) := by
        have := h.rep
        rw [List.map_cons, List.zip_cons_cons, List.cons_append] at this
        exact this
      have hw : ∀ (k : Nat) (v' : V) (r' : Sl), vs[k]? = some v' → rs[k]? = some r' → VwOk σ v' r' := fun k v' r' e1 e2 => h.vw (k + 1) v' r' (by simpa using e1) (by simpa using e2)
      by_cases hr : ∃ i, r = .vw i
      · obtain ⟨i, rfl⟩ := hr
        have e1 : σ[i]? = some (some v) := h.vw 0 v _ rfl rfl i rfl
        have hi : i < env.length := by have := (List.getElem?_eq_some_iff.mp e1).1; have := h.len; omega
        have e2 : env[i]? = some env[i] := List.getElem?_eq_getElem hi
        have hh : Hold K mg H σ env ((vs.map some).zip rs ++ l) := ⟨h.len, by
          refine h0.tail.perm ?_
          rw [← List.append_assoc, ← List.append_assoc]
          exact List.perm_append_comm.append_right l⟩
        obtain ⟨ov, e3, rp⟩ := hh.take e2
        rw [e1] at e3; cases e3
        have ha : HoldA K mg H σ (env.set i .no) ((some v, env[i]) :: l) vs rs := ⟨by rw [List.length_set]; exact h.len, by
          refine rp.perm ?_
          refine List.Perm.trans (List.Perm.cons _ ?_) (l₂ := (some v, env[i]) :: ((vs.map some).zip rs ++ (σ.zip (env.set i .no) ++ l))) ?_
          · rw [← List.append_assoc, ← List.append_assoc]
            exact List.perm_append_comm.append_right l
          · rw [← List.append_assoc, ← List.append_assoc]
            exact perm_mid, by have := h.alen; simpa using this, hw⟩
        obtain ⟨a, b, c⟩ := ih ha
        have es : moveIn env (Sl.vw i :: rs) = (env[i] :: (moveIn (env.set i .no) rs).1, (moveIn (env.set i .no) rs).2) := by
          show ((env[i]?.getD .no) :: _, _) = _
          rw [e2]; rfl
        rw [es]
        refine ⟨a, by simp [b], ?_⟩
        rw [List.map_cons, List.zip_cons_cons, List.cons_append]
        refine c.perm ?_
        rw [← List.append_assoc, ← List.append_assoc]
        exact perm_mid.symm
      · have es : moveIn env (r :: rs) = (r :: (moveIn env rs).1, (moveIn env rs).2) := by
          cases r <;> first | rfl | exact absurd ⟨_, rfl⟩ hr
        have ha : HoldA K mg H σ env ((some v, r) :: l) vs rs := ⟨h.len, by
          refine h0.perm ?_
          rw [← List.append_assoc, ← List.append_assoc]
          exact perm_mid, by have := h.alen; simpa using this, hw⟩
        obtain ⟨a, b, c⟩ := ih ha
        rw [es]
        refine ⟨a, by simp [b], ?_⟩
        rw [List.map_cons, List.zip_cons_cons, List.cons_append]
        refine c.perm ?_
        rw [← List.append_assoc, ← List.append_assoc]
        exact perm_mid.symm
theorem moveBack_ok : ∀ {rs as : List Sl} {vs : List V} {env : Lo} {l : List Item}, σ.length = env.length → vs.length = rs.length → Rep K mg H ((vs.map some).zip as ++ (σ.zip env ++ l)) →
    (∀ (k : Nat) (v : V) (r : Sl), vs[k]? = some v → rs[k]? = some r → VwOk σ v r) → σ.length = (moveBack env rs as).length ∧ Rep K mg H (σ.zip (moveBack env rs as) ++ l) := by
  intro rs
  induction rs with
  | nil => intro as vs env l h1 h2 h3 h4; exact ⟨h1, Rep.dropA _ h3⟩
  | cons r rs ih =>
    intro as vs env l h1 h2 h3 h4
    cases as with
    | nil => exact ⟨h1, Rep.dropA _ h3⟩
    | cons a as =>
      cases vs with
      | nil => simp at h2
      | cons v vs =>
        have h0 : Rep K mg H ((some v, a) :: ((vs.map some).zip as ++ (σ.zip env ++ l))) := by
          rw [List.map_cons, List.zip_cons_cons, List.cons_append] at h3
          exact h3
        have hw : ∀ (k : Nat) (v' : V) (r' : Sl), vs[k]? = some v' → rs[k]? = some r' → VwOk σ v' r' := fun k v' r' e1 e2 => h4 (k + 1) v' r' (by simpa using e1) (by simpa using e2)
        by_cases hr : ∃ i, r = .vw i
        · obtain ⟨i, rfl⟩ := hr
          have e1 : σ[i]? = some (some v) := h4 0 v _ rfl rfl i rfl
          have hp : Rep K mg H ((some v, a) :: (σ.zip env ++ ((vs.map some).zip as ++ l))) := by
            refine h0.perm (List.Perm.cons _ ?_)
            rw [← List.append_assoc, ← List.append_assoc]
            exact List.perm_append_comm.append_right l
          have q := Rep.put hp h1 e1
          show σ.length = (moveBack (env.set i a) rs as).length ∧ _
          refine ih (by rw [List.length_set]; exact h1) (by simpa using h2) (q.perm ?_) hw
          rw [← List.append_assoc, ← List.append_assoc]
          exact List.perm_append_comm.append_right l
        · have es : moveBack env (r :: rs) (a :: as) = moveBack env rs as := by
            cases r <;> first | rfl | exact absurd ⟨_, rfl⟩ hr
          rw [es]
          exact ih h1 (by simpa using h2) h0.tail hw
theorem sem_call {n : Nat} {F : Fn} {t : TA} {fs : EvA} {na : Nat} (hn : na = n) (hs : SemA K mg t fs) (hl : ∀ env rs env', fs env = .ok (rs, env') → rs.length = na) : SemE K mg (tCall (spF K mg n F) [] E0 t) (fCall F fs) := by
  subst hn
  intro σ H env l r env' h e Q q
  unfold fCall at e
  obtain ⟨⟨rs, e1⟩, ea, e⟩ := Res.bind_ok e
  obtain ⟨⟨r', as'⟩, eF, e⟩ := Res.bind_ok e
  dsimp only at eF e
  split at e
  · cases e
  · rename_i hr
    cases e
    refine hs σ H env l rs e1 h ea _ fun vs H1 h1 => ?_
    obtain ⟨a, b, c⟩ := moveIn_ok h1
    show spF K mg na F (vs ++ []) H1 Q E0
    rw [List.append_nil]
    have hlen := hl _ _ _ ea
    refine ⟨by rw [h1.alen, hlen], _, _, r, as', by rw [b, hlen], c, eF, fun v H2 rp hv => q v H2 ?_⟩
    have rp2 : Rep K mg H2 ((vs.map some).zip as' ++ (σ.zip (moveIn e1 rs).2 ++ ((some v, r) :: l))) := by
      refine rp.perm ?_
      have p1 : ((some v, r) :: ((vs.map some).zip as' ++ (σ.zip (moveIn e1 rs).2 ++ l))).Perm ((vs.map some).zip as' ++ ((some v, r) :: (σ.zip (moveIn e1 rs).2 ++ l))) := perm_mid
      exact p1.trans (List.Perm.append_left _ perm_mid)
    obtain ⟨x, y⟩ := moveBack_ok a h1.alen rp2 h1.vw
    exact ⟨x, y.perm perm_mid.symm, fun i z => by subst z; simp [isVw] at hr⟩
end
/-- how many arguments -/
structure ArN (fs : EvA) (n : Nat) : Prop where
  eq : ∀ env rs env', fs env = .ok (rs, env') → rs.length = n
theorem ar_nil : ArN fNil 0 := ⟨fun _ _ _ e => by cases e; rfl⟩
theorem ar_cons {fa : EvF} {fr : EvA} {n : Nat} (h : ArN fr n) : ArN (fCons fa fr) (n + 1) := ⟨fun env rs env' e => by
  unfold fCons at e
  obtain ⟨⟨ra, e1⟩, ea, e⟩ := Res.bind_ok e
  obtain ⟨⟨rb, e2⟩, eb, e⟩ := Res.bind_ok e
  cases e
  simp [h.eq _ _ _ eb]⟩
section
variable {X : Cx} {x : Str} {n k : Nat} {F : Fn} {p pos : Pos} {e : Expr} {es : List Expr} {fs : EvA}
theorem se_call (hF : FnF X.prog X.w X.K X.mg X.base x n k F) (hr : Room k X.A) (hg : Gl X x) (ha : SA X (e :: es) fs) (hn : ArN fs n) (hdb : (x == ("__debug__" : Str)) = false := by decide)
    (he : starEach (e :: es) X.env = (false, eval e X.env) :: starEach es X.env := by rfl) (hpl : (backTo pos (starEach es X.env)).any (·.1) = false := by rfl) : SE X (.Call (.Name x p) (e :: es) [] pos) (fCall F fs) := by
  obtain ⟨f, fd, ps, hm, hk, hb, F⟩ := hF.ex
  obtain ⟨t, p', s⟩ := ha.ex
  exact ⟨_, pe_call F hr hg hm hk hb .nil pass0 p' hdb he hpl, sem_call rfl s hn.eq⟩
end

/-! ### statements -/
inductive Out where
  | nx (env : Lo)
  | rt (r : Sl) (env : Lo)
  | bk (env : Lo)
  | ct (env : Lo)
abbrev EvS := Lo → Res Out
def KeepEq (ks : List Nat) (σ σ' : L2.St) : Prop := ∀ k ∈ ks, σ'[k]? = σ[k]?
theorem KeepEq.refl {ks : List Nat} {σ : L2.St} : KeepEq ks σ σ := fun _ _ => rfl
theorem KeepEq.trans {ks : List Nat} {σ σ1 σ2 : L2.St} (a : KeepEq ks σ σ1) (b : KeepEq ks σ1 σ2) : KeepEq ks σ σ2 := fun k h => (b k h).trans (a k h)
def PostS (K : PySem.W.Frag) (mg : Str → Option Value) (D : Ends) (ks : List Nat) (σ : L2.St) (l : List Item) : Out → Prop
  | .nx env' => ∀ σ' H', Hold K mg H' σ' env' l → KeepEq ks σ σ' → D.nx σ' H'
  | .bk env' => ∀ σ' H', Hold K mg H' σ' env' l → KeepEq ks σ σ' → D.bk σ' H'
  | .ct env' => ∀ σ' H', Hold K mg H' σ' env' l → KeepEq ks σ σ' → D.ct σ' H'
  | .rt r env' => ∀ v σ' H', HoldV K mg H' σ' env' l v r → isVw r = false → KeepEq ks σ σ' → D.rt v H'
def SemS (K : PySem.W.Frag) (mg : Str → Option Value) (ks : List Nat) (t : TS) (f : EvS) : Prop :=
  ∀ (σ : L2.St) (H : Hp) (env : Lo) (l : List Item) (o : Out), Hold K mg H σ env l → f env = .ok o → ∀ D : Ends, PostS K mg D ks σ l o → t D σ H
structure SS (X : Cx) (ks : List Nat) (st : Stmt) (f : EvS) : Prop where
  ex : ∃ t, PS X st t ∧ SemS X.K X.mg ks t f
structure SSs (X : Cx) (ks : List Nat) (st : List Stmt) (f : EvS) : Prop where
  ex : ∃ t, PSs X st t ∧ SemS X.K X.mg ks t f
theorem PostS.keep {K : PySem.W.Frag} {mg : Str → Option Value} {D : Ends} {ks : List Nat} {σ σ1 : L2.St} {l : List Item} {o : Out} (k : KeepEq ks σ σ1) (p : PostS K mg D ks σ l o) : PostS K mg D ks σ1 l o := by
  cases o with
  | nx e => exact fun σ' H' h q => p σ' H' h (k.trans q)
  | bk e => exact fun σ' H' h q => p σ' H' h (k.trans q)
  | ct e => exact fun σ' H' h q => p σ' H' h (k.trans q)
  | rt r e => exact fun v σ' H' h n q => p v σ' H' h n (k.trans q)
def fNext : EvS := fun env => .ok (.nx env)
def fSeq (f g : EvS) : EvS := fun env => do
  match ← f env with
  | .nx e => g e
  | o => .ok o
theorem fSeq_eq {f g : EvS} {env : Lo} : fSeq f g env = (f env).bind fun o => match o with | .nx e => g e | o => .ok o := rfl
section
variable {X : Cx} {ks : List Nat} {st : Stmt} {rest body : List Stmt} {f g : EvS} {e : Expr} {fa : EvF} {pos : Pos} {i : Nat} {x : Str}
theorem ss_nil : SSs X ks [] fNext := ⟨_, pss_nil, fun σ H env l o h e D p => by cases e; exact p σ H h .refl⟩
theorem ss_one (h : SS X ks st f) : SSs X ks [st] f := by
  obtain ⟨t, p, s⟩ := h.ex
  exact ⟨_, pss_one p, s⟩
theorem ss_cons (h : SS X ks st f) (h2 : SSs X ks rest g) : SSs X ks (st :: rest) (fSeq f g) := by
  obtain ⟨t, p, s⟩ := h.ex
  obtain ⟨t', p', s'⟩ := h2.ex
  refine ⟨_, pss_cons p p', ?_⟩
  intro σ H env l o h e D post
  obtain ⟨o1, e1, e⟩ := Res.bind_ok e
  refine s σ H env l o1 h e1 _ ?_
  cases o1 with
  | nx e2 => exact fun σ' H' h' k => s' σ' H' e2 l o h' e D (post.keep k)
  | bk e2 => cases e; exact post
  | ct e2 => cases e; exact post
  | rt r e2 => cases e; exact post
theorem ss_pass : SS X ks (.Pass pos) fNext := ⟨_, ps_pass, fun σ H env l o h e D p => by cases e; exact p σ H h .refl⟩
def fBrk : EvS := fun env => .ok (.bk env)
def fCont : EvS := fun env => .ok (.ct env)
theorem ss_brk : SS X ks (.Break pos) fBrk := ⟨_, ps_break, fun σ H env l o h e D p => by cases e; exact p σ H h .refl⟩
theorem ss_cont : SS X ks (.Continue pos) fCont := ⟨_, ps_continue, fun σ H env l o h e D p => by cases e; exact p σ H h .refl⟩
/-- a value for a slot -/
def asgR (env : Lo) (r : Sl) : Option (Sl × Lo) := match r with
  | .vw i => (freezeR env (.vw i)).map fun p => (.sh p.1, p.2)
  | .no => none
  | r => some (r, env)
theorem HoldV.asg {K : PySem.W.Frag} {mg : Str → Option Value} {H : Hp} {σ : L2.St} {env env' : Lo} {l : List Item} {v : V} {r r' : Sl} (h : HoldV K mg H σ env l v r) (e : asgR env r = some (r', env')) : HoldV K mg H σ env' l v r' ∧ isVw r' = false := by
  cases r with
  | no => cases e
  | vw i =>
    simp only [asgR, Option.map_eq_some_iff] at e
    obtain ⟨⟨d, e1⟩, ea, eb⟩ := e
    cases eb
    exact ⟨h.freeze ea, rfl⟩
  | sh d => cases e; exact ⟨h, rfl⟩
  | ol ds => cases e; exact ⟨h, rfl⟩
  | od _ => cases e; exact ⟨h, rfl⟩
  | td _ => cases e; exact ⟨h, rfl⟩
  | tt _ _ => cases e; exact ⟨h, rfl⟩
  | ow _ => cases e; exact ⟨h, rfl⟩
  | oi _ _ => cases e; exact ⟨h, rfl⟩
  | sc _ => cases e; exact ⟨h, rfl⟩
def fAsg (i : Nat) (fa : EvF) : EvS := fun env => do
  let (r, e1) ← fa env
  let (r', e2) ← Res.ofO (asgR e1 r)
  if i < e2.length then .ok (.nx (e2.set i r')) else .bad
theorem keep_set {ks : List Nat} {σ : L2.St} {i : Nat} {ov : Option V} (h : i ∉ ks) : KeepEq ks σ (σ.set i ov) := fun k hk => List.getElem?_set_ne (fun e => h (by rw [e]; exact hk))
theorem sem_asg {K : PySem.W.Frag} {mg : Str → Option Value} {te : TE} (s : SemE K mg te fa) (hk : i ∉ ks) : SemS K mg ks (tAsg te (gName i)) (fAsg i fa) := by
  intro σ H env l o h e D post
  unfold fAsg at e
  obtain ⟨⟨r, e1⟩, ea, e⟩ := Res.bind_ok e
  obtain ⟨⟨r', e2⟩, eb, e⟩ := Res.bind_ok e
  have eb := Res.ofO_ok eb
  dsimp only at e
  split at e
  · rename_i hi
    cases e
    refine s σ H env l r e1 h ea _ fun v H1 h1 => ?_
    obtain ⟨h2, hv⟩ := h1.asg eb
    exact post _ H1 ⟨by rw [List.length_set, List.length_set]; exact h2.len, h2.rep.asg h2.len hi⟩ (keep_set hk)
  · cases e
theorem ss_set {pos' : Pos} (hN : X.N.Nodup) (hi : X.N[i]? = some x) (hx : Loc X.env.scope x) (he : SE X e fa) (hk : i ∉ ks := by decide) (hs : swapsWith e (some (.Name x pos')) pos.line X.env = pure false := by rfl) (hf : X.fn x = true ∨ X.env.scope.names.lookup x = some .local := by first | exact .inl rfl | exact .inr rfl | assumption) :
    SS X ks (.Assign [.Name x pos'] e pos) (fAsg i fa) := by
  obtain ⟨t, p, s⟩ := he.ex
  exact ⟨_, ps_set hN hi hx p hs hf, sem_asg s hk⟩
def fDrop (fa : EvF) : EvS := fun env => do
  let (_, e1) ← fa env
  .ok (.nx e1)
theorem ss_expr (he : SE X e fa) (hs : swapsWith e none pos.line X.env = pure false := by rfl) : SS X ks (.Expr e pos) (fDrop fa) := by
  obtain ⟨t, p, s⟩ := he.ex
  refine ⟨_, ps_expr p hs, ?_⟩
  intro σ H env l o h e D post
  obtain ⟨⟨r, e1⟩, ea, e⟩ := Res.bind_ok e
  cases e
  exact s σ H env l r e1 h ea _ fun v H1 h1 => post σ H1 h1.drop .refl
/-- a value to hand back: a slot's own goes along -/
def retR (env : Lo) : Sl → Option (Sl × Lo)
  | .vw i => match env[i]? with
    | some (.vw _) => none
    | some s => some (s, env.set i .no)
    | none => none
  | .no => none
  | r => some (r, env)
theorem HoldV.ret {K : PySem.W.Frag} {mg : Str → Option Value} {H : Hp} {σ : L2.St} {env env' : Lo} {l : List Item} {v : V} {r r' : Sl} (h : HoldV K mg H σ env l v r) (e : retR env r = some (r', env')) : HoldV K mg H σ env' l v r' ∧ isVw r' = false := by
  cases r with
  | no => cases e
  | vw i =>
    have e1 := h.vw i rfl
    unfold retR at e
    dsimp only at e
    cases hs : env[i]? with
    | none => rw [hs] at e; cases e
    | some s =>
      rw [hs] at e
      have hn : isVw s = false := by cases s <;> first | rfl | (cases e)
      have e : some (s, env.set i .no) = some (r', env') := by cases s <;> first | exact e | (cases e)
      cases e
      obtain ⟨ov, e3, rp⟩ := Hold.take h.drop hs
      rw [e1] at e3; cases e3
      exact ⟨⟨by rw [List.length_set]; exact h.len, rp, fun j z => by subst z; cases hn⟩, hn⟩
  | sh d => cases e; exact ⟨h, rfl⟩
  | ol ds => cases e; exact ⟨h, rfl⟩
  | od _ => cases e; exact ⟨h, rfl⟩
  | td _ => cases e; exact ⟨h, rfl⟩
  | tt _ _ => cases e; exact ⟨h, rfl⟩
  | ow _ => cases e; exact ⟨h, rfl⟩
  | oi _ _ => cases e; exact ⟨h, rfl⟩
  | sc _ => cases e; exact ⟨h, rfl⟩
def fRet (fa : EvF) : EvS := fun env => do
  let (r, e1) ← fa env
  let (r', e2) ← Res.ofO (retR e1 r)
  .ok (.rt r' e2)
theorem ss_ret (he : SE X e fa) : SS X ks (.Return (some e) pos) (fRet fa) := by
  obtain ⟨t, p, s⟩ := he.ex
  refine ⟨_, ps_ret p, ?_⟩
  intro σ H env l o h e D post
  obtain ⟨⟨r, e1⟩, ea, e⟩ := Res.bind_ok e
  obtain ⟨⟨r', e2⟩, eb, e⟩ := Res.bind_ok e
  have eb := Res.ofO_ok eb
  cases e
  refine s σ H env l r e1 h ea _ fun v H1 h1 => ?_
  obtain ⟨h2, hv⟩ := h1.ret eb
  exact post v σ H1 h2 hv .refl
def fRetN : EvS := fun env => .ok (.rt (.sh .none) env)
theorem ss_retN : SS X ks (.Return none pos) fRetN := ⟨_, ps_retN, fun σ H env l o h e D p => by cases e; exact p _ σ H (h.shV fun _ => .non) rfl .refl⟩
def fIfS (ft : EvT) (f g : EvS) : EvS := fun env => do
  let (b, e1) ← ft env
  if b = true then f e1 else g e1
theorem ss_if {c : Expr} {a b : List Stmt} {fc : EvT} (hc : ST X c fc) (ha : SSs X ks a f) (hb : SSs X ks b g) : SS X ks (.If c a b pos) (fIfS fc f g) := by
  obtain ⟨t0, p0, s0⟩ := hc.ex
  obtain ⟨t, p, s⟩ := ha.ex
  obtain ⟨t', p', s'⟩ := hb.ex
  refine ⟨_, ps_if p0 p p', ?_⟩
  intro σ H env l o h e D post
  obtain ⟨⟨k, e1⟩, ea, e⟩ := Res.bind_ok e
  refine s0 σ H env l k e1 h ea _ fun H1 h1 => ?_
  cases k with
  | true => exact iteT (s σ H1 e1 l o h1 e D post)
  | false => exact iteF (s' σ H1 e1 l o h1 e D post)

/-! ### while -/
def whileF (c : EvT) (b : EvS) : Nat → EvS
  | 0, _ => .bad
  | n + 1, env => do
    let (k, e1) ← c env
    if k = true then
      match ← b e1 with
      | .nx e2 => whileF c b n e2
      | .ct e2 => whileF c b n e2
      | .bk e2 => .ok (.nx e2)
      | .rt r e2 => .ok (.rt r e2)
    else .ok (.nx e1)
def fWhile (fuel : Lo → Nat) (c : EvT) (b : EvS) : EvS := fun env => whileF c b (fuel env) env
theorem ss_while {c : Expr} {fc : EvT} (fuel : Lo → Nat) (hp : PassesOwn (model X.prog X.w) X.A X.env X.xe) (hc : ST X c fc) (hb : SSs X ks body f) : SS X ks (.While c body [] pos) (fWhile fuel fc f) := by
  obtain ⟨t0, p0, s0⟩ := hc.ex
  obtain ⟨t, p, s⟩ := hb.ex
  refine ⟨_, ps_while hp p0 p, ?_⟩
  intro σ H env l o h e D post
  refine ⟨fun m σ' H' => KeepEq ks σ σ' ∧ ∃ env', Hold X.K X.mg H' σ' env' l ∧ whileF fc f m env' = .ok o, ⟨fuel env, .refl, env, h, e⟩, ?_⟩
  rintro m σ1 H1 ⟨k1, env1, h1, e1⟩
  cases m with
  | zero => cases e1
  | succ m =>
    unfold whileF at e1
    obtain ⟨⟨k, e2⟩, ea, e1⟩ := Res.bind_ok e1
    refine s0 σ1 H1 env1 l k e2 h1 ea _ fun H2 h2 => ?_
    cases k with
    | false => cases e1; exact iteF (post σ1 H2 h2 k1)
    | true =>
      refine iteT ⟨fun σ' H' => KeepEq ks σ σ' ∧ ∃ env', Hold X.K X.mg H' σ' env' l ∧ whileF fc f m env' = .ok o, fun σ' H' q => ⟨m, Nat.lt_succ_self m, q⟩, ?_⟩
      simp only [if_true] at e1
      obtain ⟨ob, eb, e1⟩ := Res.bind_ok e1
      refine s σ1 H2 e2 l ob h2 eb _ ?_
      cases ob with
      | nx e3 => exact fun σ' H' h' k' => ⟨k1.trans k', e3, h', e1⟩
      | ct e3 => exact fun σ' H' h' k' => ⟨k1.trans k', e3, h', e1⟩
      | bk e3 => cases e1; exact fun σ' H' h' k' => post σ' H' h' (k1.trans k')
      | rt r e3 => cases e1; exact fun v σ' H' h' n k' => post v σ' H' h' n (k1.trans k')
end
end FL

/-! FL6: targets, what is walked, for, comprehensions -/
namespace FL
open PySem PySem.Spec PyProof.Rows L2

/-! ### targets -/
inductive Tgt where
  | nm (i : Nat)
  | tp (is : List Nat)
def Tgt.slots : Tgt → List Nat
  | .nm i => [i]
  | .tp is => is
def setAll (env : Lo) : List Nat → List D → Option Lo
  | [], [] => some env
  | i :: is, d :: ds => if i < env.length then setAll (env.set i (.sh d)) is ds else none
  | _, _ => none
def bindT : Tgt → D → Lo → Option Lo
  | .nm i, d, env => if i < env.length then some (env.set i (.sh d)) else none
  | .tp is, .tuple ds, env => setAll env is ds
  | _, _, _ => none
def OffEq (is : List Nat) (σ σ' : L2.St) : Prop := σ'.length = σ.length ∧ ∀ k, k ∉ is → σ'[k]? = σ[k]?
def SemG (K : PySem.W.Frag) (mg : Str → Option Value) (g : TG) (tg : Tgt) : Prop :=
  ∀ (σ : L2.St) (H : Hp) (env env' : Lo) (l : List Item) (v : V) (d : D), Hold K mg H σ env ((some v, .sh d) :: l) → bindT tg d env = some env' → ∀ Q : L2.St → Hp → Prop, (∀ σ', Hold K mg H σ' env' l → OffEq tg.slots σ σ' → Q σ' H) → g v σ H Q
theorem semg_nm {K : PySem.W.Frag} {mg : Str → Option Value} {i : Nat} : SemG K mg (gName i) (.nm i) := by
  intro σ H env env' l v d h e Q q
  have e : (if i < env.length then some (env.set i (.sh d)) else none) = some env' := e
  split at e
  · rename_i hi
    cases e
    refine q _ ⟨by rw [List.length_set, List.length_set]; exact h.len, Rep.asg (h.rep.perm perm_mid.symm) h.len hi⟩ ⟨by rw [List.length_set], fun k hk => List.getElem?_set_ne (fun z => hk (by simp [Tgt.slots, z]))⟩
  · cases e
def gNames : List Nat → TGs
  | [] => gNil
  | i :: is => gCons (gName i) (gNames is)
theorem setAll_ok {K : PySem.W.Frag} {mg : Str → Option Value} {H : Hp} {l : List Item} : ∀ {is : List Nat} {ds : List D} {σ : L2.St} {env env' : Lo} {vs : List V} {Q : L2.St → Hp → Prop}, vs.length = ds.length → Hold K mg H σ env ((vs.map some).zip (ds.map Sl.sh) ++ l) → setAll env is ds = some env' →
    (∀ σ', Hold K mg H σ' env' l → OffEq is σ σ' → Q σ' H) → gNames is vs σ H Q
  | [], [], σ, env, env', vs, Q, hl, h, e, q => by
    cases e
    have : vs = [] := by simpa using hl
    subst this
    exact ⟨rfl, q σ h ⟨rfl, fun _ _ => rfl⟩⟩
  | [], _ :: _, _, _, _, _, _, _, _, e, _ => by cases e
  | _ :: _, [], _, _, _, _, _, _, _, e, _ => by cases e
  | i :: is, d :: ds, σ, env, env', vs, Q, hl, h, e, q => by
    cases vs with
    | nil => simp at hl
    | cons v vs =>
      unfold setAll at e
      split at e
      · rename_i hi
        have h0 : Rep K mg H ((some v, Sl.sh d) :: (σ.zip env ++ ((vs.map some).zip (ds.map Sl.sh) ++ l))) := h.rep.perm perm_mid.symm
        refine ⟨v, vs, rfl, setAll_ok (σ := σ.set i (some v)) (env := env.set i (.sh d)) (by simpa using hl) ⟨by rw [List.length_set, List.length_set]; exact h.len, h0.asg h.len hi⟩ e fun σ' h' o => q σ' h' ⟨by rw [o.1, List.length_set], fun k hk => ?_⟩⟩
        rw [List.mem_cons, not_or] at hk
        rw [o.2 k hk.2, List.getElem?_set_ne (fun z => hk.1 z.symm)]
      · cases e
theorem dtAll_items {K : PySem.W.Frag} {mg : Str → Option Value} {G H : Hp} {L : List Item} {os : List Addr} (h : Rp K mg G H L os) : ∀ {vs : List V} {ds : List D}, DtAll K G vs ds → Rp K mg G H ((vs.map some).zip (ds.map Sl.sh) ++ L) os
  | _, _, .nil => h
  | _, _, .cons r t => (dtAll_items h t).sh r
theorem semg_tp {K : PySem.W.Frag} {mg : Str → Option Value} {is : List Nat} : SemG K mg (gTup K is.length (gNames is)) (.tp is) := by
  intro σ H env env' l v d h e Q q
  cases d <;> first | (cases e; done) | skip
  rename_i ds
  obtain ⟨G, os, rp⟩ := h.rep
  obtain ⟨v', ev, dd⟩ := rp.shOf (List.mem_append_right _ List.mem_cons_self)
  cases ev
  cases dd with
  | @tup a xs _ hs ha =>
    have e : setAll env is ds = some env' := e
    have hlen : ∀ {is : List Nat} {ds : List D} {env env' : Lo}, setAll env is ds = some env' → ds.length = is.length := by
      intro is
      induction is with
      | nil => intro ds env env' e; cases ds <;> first | rfl | cases e
      | cons i is ih =>
        intro ds env env' e
        cases ds with
        | nil => cases e
        | cons d ds =>
          unfold setAll at e
          split at e
          · simp [ih e]
          · cases e
    refine ⟨a, xs, rfl, (hs.mono rp.same).sq, by rw [ha.length, hlen e], ?_⟩
    refine setAll_ok (by rw [ha.length]) ⟨h.len, ?_⟩ e q
    have := dtAll_items rp ha
    refine Rep.perm (Rep.tail (Rep.perm ⟨_, _, this⟩ (l' := (some (V.ref a), Sl.sh (.tuple ds)) :: ((xs.map some).zip (ds.map Sl.sh) ++ (σ.zip env ++ l))) ?_)) ?_
    · exact (List.Perm.append_left _ perm_mid.symm).trans perm_mid.symm
    · rw [← List.append_assoc, ← List.append_assoc]
      exact List.perm_append_comm.append_right l

/-! ### what is walked -/
abbrev EvI := Lo → Res (List Sl × List D × Lo)
def ItOk (K : PySem.W.Frag) (mg : Str → Option Value) (J : It) (its : List Item) (ds : List D) : Prop :=
  ∀ (i : Nat) (G H : Hp) (os : List Addr) (L : List Item), Rp K mg G H L os → (∀ it ∈ its, it ∈ L) →
    (∀ d, ds[i]? = some d → J.go i H ∧ ∀ x H', J.yld i H x H' → ∃ G', Grow G H G' H' ∧ Dt K G' x d) ∧ (i = ds.length → J.stop i H)
def SemI (K : PySem.W.Frag) (mg : Str → Option Value) (w : TI) (f : EvI) : Prop :=
  ∀ (σ : L2.St) (H : Hp) (env : Lo) (l : List Item) (ks : List Sl) (ds : List D) (env' : Lo), Hold K mg H σ env l → f env = .ok (ks, ds, env') → ∀ R : It → Hp → Prop,
    (∀ J vs H', HoldA K mg H' σ env' l vs ks → ItOk K mg J ((vs.map some).zip ks) ds → R J H') → w σ H R
structure SI (X : Cx) (tg e : Expr) (f : EvI) : Prop where
  ex : ∃ w, PI X tg e w ∧ SemI X.K X.mg w f
theorem HoldV.toA {K : PySem.W.Frag} {mg : Str → Option Value} {H : Hp} {σ : L2.St} {env : Lo} {l : List Item} {v : V} {r : Sl} (h : HoldV K mg H σ env l v r) : HoldA K mg H σ env l [v] [r] :=
  ⟨h.len, h.rep, rfl, fun k v' r' e1 e2 => by
    cases k with
    | zero => simp at e1 e2; subst e1; subst e2; exact h.vw
    | succ k => simp at e1⟩
theorem itok_list {K : PySem.W.Frag} {mg : Str → Option Value} {v : V} {ds : List D} {a : Addr} (hv : v = .ref a) {s : Sl} (hs : s = .sh (.list ds) ∨ s = .ol ds) : ItOk K mg (Itl K a) [(some v, s)] ds := by
  intro i G H os L rp hm
  have hm1 : (some v, s) ∈ L := hm _ (by simp)
  have key : ∃ vs, SqL K H a vs ∧ DtAll K G vs ds := by
    subst hv
    rcases hs with rfl | rfl
    · obtain ⟨v', e, d⟩ := rp.shOf hm1
      cases e
      cases d with
      | lst h1 h2 => exact ⟨_, .of (rp.same _ _ h1), h2⟩
    · obtain ⟨o, ri⟩ := rp.rl.mem hm1
      obtain ⟨p, vs, e, _, hp, ha⟩ := ri.ol_inv
      cases e
      exact ⟨vs, .of hp, ha⟩
  obtain ⟨vs, h1, h2⟩ := key
  refine ⟨fun d hd => ?_, fun hi => ⟨vs, h1, by rw [h2.length]; omega⟩⟩
  obtain ⟨x, e1, e2⟩ := h2.get hd
  refine ⟨⟨vs, x, h1, e1⟩, fun y H' hy => ?_⟩
  obtain ⟨rfl, hy⟩ := hy
  have := hy vs h1
  rw [e1] at this; cases this
  exact ⟨G, .refl, e2⟩
theorem itok_tup {K : PySem.W.Frag} {mg : Str → Option Value} {v : V} {ds : List D} {a : Addr} (hv : v = .ref a) : ItOk K mg (Itt K a) [(some v, .sh (.tuple ds))] ds := by
  intro i G H os L rp hm
  have hm1 : (some v, Sl.sh (.tuple ds)) ∈ L := hm _ (by simp)
  have key : ∃ vs, SqT K H a vs ∧ DtAll K G vs ds := by
    subst hv
    obtain ⟨v', e, d⟩ := rp.shOf hm1
    cases e
    cases d with
    | tup h1 h2 => exact ⟨_, (h1.mono rp.same).sq, h2⟩
  obtain ⟨vs, h1, h2⟩ := key
  refine ⟨fun d hd => ?_, fun hi => ⟨vs, h1, by rw [h2.length]; omega⟩⟩
  obtain ⟨x, e1, e2⟩ := h2.get hd
  refine ⟨⟨vs, x, h1, e1⟩, fun y H' hy => ?_⟩
  obtain ⟨rfl, hy⟩ := hy
  have := hy vs h1
  rw [e1] at this; cases this
  exact ⟨G, .refl, e2⟩
/-- a list or a tuple by its value -/
def fIter (fa : EvF) : EvI := fun env => do
  let (r, e1) ← fa env
  let (d, e2) ← Res.ofO (freezeR e1 r)
  match d with
  | .list ds => .ok ([.sh (.list ds)], ds, e2)
  | .tuple ds => .ok ([.sh (.tuple ds)], ds, e2)
  | _ => .bad
def iSeq (K : PySem.W.Frag) (te : TE) : TI := fun σ H R => te σ H fun x H1 => (∃ a, x = .ref a ∧ (∃ xs, SqL K H1 a xs) ∧ R (Itl K a) H1) ∨ ∃ a, x = .ref a ∧ (∃ xs, SqT K H1 a xs) ∧ R (Itt K a) H1
section
variable {X : Cx} {tg e : Expr} {fa fb : EvF} {te : TE}
theorem pi_seq (he : PE X e te) : PI X tg e (iSeq X.K te) := by
  refine ⟨fun pins s σ H R I h => thn (he.run pins s σ H _ I h) fun v s1 ⟨x, H1, I1, rx, q1⟩ => ?_⟩
  have fr : ∀ b ∈ [s1.heap.objs.size], FpOk X pins H1 b := fun b hb => by
    rw [List.mem_singleton] at hb
    rw [hb]
    exact I1.fpOk (Nat.le_refl _) (I1.hok.fresh (Nat.le_refl _))
  rcases q1 with ⟨a, rfl, ⟨xs, hq⟩, q⟩ | ⟨a, rfl, ⟨xs, hq⟩, q⟩
  · cases rx
    obtain ⟨its, _, pl, _⟩ := I1.list hq
    exact wpAny_pyIter_list pl.isList ⟨_, [s1.heap.objs.size], _, Itl X.K a, H1, rfl, I1.kept (t' := s1.toks) fun b o eb => Heap.get?_push_of_some _ eb, turn_list a _, ⟨_, Heap.get?_push_size _ rfl, rfl, rfl⟩, fr, q⟩
  · cases rx
    obtain ⟨its, _, pt, _⟩ := I1.tuple hq
    exact wpAny_pyIter_tuple (show s1.heap.IsTuple a its.toArray from pt) ⟨_, [s1.heap.objs.size], _, Itt X.K a, H1, rfl, I1.kept (t' := s1.toks) fun b o eb => Heap.get?_push_of_some _ eb, turn_tuple a _, ⟨_, Heap.get?_push_size _ rfl, rfl, rfl⟩, fr, q⟩
theorem si_val (he : SE X e fa) : SI X tg e (fIter fa) := by
  obtain ⟨t, p, s⟩ := he.ex
  refine ⟨_, pi_seq p, ?_⟩
  intro σ H env l ks ds env' h e R q
  unfold fIter at e
  obtain ⟨⟨r, e1⟩, ea, e⟩ := Res.bind_ok e
  obtain ⟨⟨d, e2⟩, eb, e⟩ := Res.bind_ok e
  replace eb := Res.ofO_ok eb
  refine s σ H env l r e1 h ea _ fun v H1 h1 => ?_
  have h2 := h1.freeze eb
  obtain ⟨G, os, rp⟩ := h2.rep
  obtain ⟨v', ev, dd⟩ := rp.shOf List.mem_cons_self
  cases ev
  cases dd <;> first | (cases e; done) | skip
  case lst a xs ds' hs ha =>
    cases e
    exact .inl ⟨a, rfl, ⟨xs, .of (rp.same _ _ hs)⟩, q _ [_] H1 h2.toA (itok_list rfl (.inl rfl))⟩
  case tup a xs ds' hs ha =>
    cases e
    exact .inr ⟨a, rfl, ⟨xs, (hs.mono rp.same).sq⟩, q _ [_] H1 h2.toA (itok_tup rfl)⟩
/-- range(n), range(a, b) -/
def rngD (lo : Int) (n : Nat) : List D := (List.range n).map fun (i : Nat) => PyData.int (lo + i)
theorem itok_rng {K : PySem.W.Frag} {mg : Str → Option Value} {lo : Int} {n : Nat} : ItOk K mg (Itr lo n) [] (rngD lo n) := by
  intro i G H os L rp _
  have hl : (rngD lo n).length = n := by simp [rngD]
  refine ⟨fun d hd => ?_, fun hi => by rw [hl] at hi; show n ≤ i; omega⟩
  have hi : i < n := by
    have := (List.getElem?_eq_some_iff.mp hd).1
    rw [hl] at this; exact this
  refine ⟨hi, fun y H' hy => ?_⟩
  obtain ⟨rfl, rfl⟩ := hy
  have : d = .int (lo + i) := by
    unfold rngD at hd
    rw [List.getElem?_map, List.getElem?_range hi] at hd
    cases hd; rfl
  subst this
  exact ⟨G, .refl, .int _⟩
def fRng (fs : EvA) : EvI := fun env => do
  let (rs, e1) ← fs env
  match rs with
  | [.sh (.int j)] => if -(2 ^ 62) ≤ j ∧ j < 2 ^ 62 then .ok ([], rngD 0 j.toNat, e1) else .bad
  | [.sh (.int i), .sh (.int j)] => if -(2 ^ 62) ≤ i ∧ i < 2 ^ 62 ∧ -(2 ^ 62) ≤ j ∧ j < 2 ^ 62 then .ok ([], rngD i (j - i).toNat, e1) else .bad
  | _ => .bad
theorem HoldA.none {K : PySem.W.Frag} {mg : Str → Option Value} {H : Hp} {σ : L2.St} {env : Lo} {l : List Item} {vs : List V} {rs : List Sl} (h : HoldA K mg H σ env l vs rs) : HoldA K mg H σ env l [] [] :=
  ⟨h.len, Rep.dropA _ h.rep, rfl, fun k v r e => by simp at e⟩
theorem HoldA.int1 {K : PySem.W.Frag} {mg : Str → Option Value} {H : Hp} {σ : L2.St} {env : Lo} {l : List Item} {vs : List V} {ns : List Int} (h : HoldA K mg H σ env l vs (ns.map fun i => Sl.sh (.int i))) : vs = ns.map V.int := by
  obtain ⟨G, os, rp⟩ := h.rep
  have e : (ns.map fun i => Sl.sh (.int i)) = (ns.map PyData.int).map Sl.sh := by simp
  have hl : vs.length = (ns.map PyData.int).length := by have := h.alen; simpa using this
  rw [e] at rp
  exact (rp.all hl fun it hi => List.mem_append_left _ hi).of_ints
theorem si_rng1 {a : Expr} {fs : EvA} {p pos : Pos} (hg : Gl X "range") (hm : X.mg "range" = none) (ha : SA X [a] fs) (hs : starEach [a] X.env = [(false, eval a X.env)] := by rfl) (hn : ArN fs 1 := by exact ar_cons ar_nil) : SI X tg (.Call (.Name "range" p) [a] [] pos) (fRng fs) := by
  obtain ⟨t, p', s⟩ := ha.ex
  refine ⟨_, pi_range1 hg hm p' hs, ?_⟩
  intro σ H env l ks ds env' h e R q
  unfold fRng at e
  obtain ⟨⟨rs, e1⟩, ea, e⟩ := Res.bind_ok e
  have har := hn.eq _ _ _ ea
  refine s σ H env l rs e1 h ea _ fun vs H1 h1 => ?_
  dsimp only at e
  split at e
  · rename_i j
    split at e
    · rename_i hj
      cases e
      have : vs = [V.int j] := HoldA.int1 (ns := [j]) h1
      subst this
      exact ⟨j, rfl, hj.1, hj.2, q _ [] H1 h1.none itok_rng⟩
    · cases e
  · simp at har
  · cases e
theorem si_rng2 {a b : Expr} {fs : EvA} {p pos : Pos} (hg : Gl X "range") (hm : X.mg "range" = none) (ha : SA X [a, b] fs) (hs : starEach [a, b] X.env = [(false, eval a X.env), (false, eval b X.env)] := by rfl) (hs2 : starEach [b] X.env = [(false, eval b X.env)] := by rfl) (hn : ArN fs 2 := by exact ar_cons (ar_cons ar_nil)) :
    SI X tg (.Call (.Name "range" p) [a, b] [] pos) (fRng fs) := by
  obtain ⟨t, p', s⟩ := ha.ex
  refine ⟨_, pi_range2 hg hm p' hs hs2, ?_⟩
  intro σ H env l ks ds env' h e R q
  unfold fRng at e
  obtain ⟨⟨rs, e1⟩, ea, e⟩ := Res.bind_ok e
  have har := hn.eq _ _ _ ea
  refine s σ H env l rs e1 h ea _ fun vs H1 h1 => ?_
  dsimp only at e
  split at e
  · simp at har
  · rename_i i j
    split at e
    · rename_i hj
      cases e
      have : vs = [V.int i, V.int j] := HoldA.int1 (ns := [i, j]) h1
      subst this
      exact ⟨i, j, rfl, hj, q _ [] H1 h1.none itok_rng⟩
    · cases e
  · cases e
end

/-! ### for -/
def loopF (tg : Tgt) (b : EvS) : List D → EvS
  | [], env => .ok (.nx env)
  | d :: ds, env => do
    let e1 ← Res.ofO (bindT tg d env)
    match ← b e1 with
    | .nx e2 => loopF tg b ds e2
    | .ct e2 => loopF tg b ds e2
    | .bk e2 => .ok (.nx e2)
    | .rt r e2 => .ok (.rt r e2)
def fFor (fi : EvI) (tg : Tgt) (b : EvS) : EvS := fun env => do
  let (_, ds, e1) ← fi env
  loopF tg b ds e1
theorem keep_off {ks is : List Nat} {σ σ' : L2.St} (h : ∀ k ∈ ks, k ∉ is) (o : OffEq is σ σ') : KeepEq ks σ σ' := fun k hk => o.2 k (h k hk)
theorem Rep.dropM {K : PySem.W.Frag} {mg : Str → Option Value} {H : Hp} {A M L : List Item} (h : Rep K mg H (A ++ (M ++ L))) : Rep K mg H (A ++ L) := by
  refine Rep.dropA M (h.perm ?_)
  rw [← List.append_assoc, ← List.append_assoc]
  exact List.perm_append_comm.append_right L
theorem sem_loop {K : PySem.W.Frag} {mg : Str → Option Value} {ks : List Nat} {g : TG} {tg : Tgt} {tb : TS} {b : EvS} (sg : SemG K mg g tg) (sb : SemS K mg ks tb b) (hk : ∀ k ∈ ks, k ∉ tg.slots) {J : It} {its : List Item} {ds : List D} (ok : ItOk K mg J its ds)
    {σ : L2.St} {H : Hp} {env : Lo} {l : List Item} {o : Out} (h : Hold K mg H σ env (its ++ l)) (e : loopF tg b ds env = .ok o) {D : Ends} (post : PostS K mg D ks σ (its ++ l) o) :
    ∃ W : Nat → Nat → L2.St → Hp → Prop, (∃ m, W 0 m σ H) ∧ ∀ i m σ H, W i m σ H →
      (J.stop i H ∧ D.nx σ H) ∨ (J.go i H ∧ ∃ N : L2.St → Hp → Prop, (∀ σ' H', N σ' H' → ∃ m', m' < m ∧ W (i + 1) m' σ' H') ∧ ∀ x H', J.yld i H x H' → g x σ H' fun σ2 H2 => tb { D with nx := N, ct := N, bk := D.nx } σ2 H2) := by
  refine ⟨fun i m σ' H' => m + i = ds.length ∧ KeepEq ks σ σ' ∧ ∃ env', Hold K mg H' σ' env' (its ++ l) ∧ loopF tg b (ds.drop i) env' = .ok o, ⟨ds.length, rfl, .refl, env, h, e⟩, ?_⟩
  rintro i m σ1 H1 ⟨hm, k1, env1, h1, e1⟩
  obtain ⟨G, os, rp⟩ := h1.rep
  obtain ⟨okg, oks⟩ := ok i G H1 os _ rp fun it hi => List.mem_append_right _ (List.mem_append_left _ hi)
  by_cases hi : i < ds.length
  · have hd : ds[i]? = some ds[i] := List.getElem?_eq_getElem hi
    obtain ⟨go, yl⟩ := okg _ hd
    rw [List.drop_eq_getElem_cons hi] at e1
    unfold loopF at e1
    obtain ⟨e2, eb, e1⟩ := Res.bind_ok e1
    replace eb := Res.ofO_ok eb
    obtain ⟨ob, ec, e1⟩ := Res.bind_ok e1
    refine .inr ⟨go, fun σ' H' => KeepEq ks σ σ' ∧ ∃ env', Hold K mg H' σ' env' (its ++ l) ∧ loopF tg b (ds.drop (i + 1)) env' = .ok o, fun σ' H' q => ⟨m - 1, by omega, by omega, q⟩, fun x H2 hy => ?_⟩
    obtain ⟨G', gr, dd⟩ := yl x H2 hy
    have h2 : Hold K mg H2 σ1 env1 ((some x, .sh ds[i]) :: (its ++ l)) := ⟨h1.len, Rep.perm ⟨_, _, (rp.grow gr).sh dd⟩ perm_mid⟩
    refine sg σ1 H2 env1 e2 _ x _ h2 eb _ fun σ2 h3 off => ?_
    have k2 : KeepEq ks σ σ2 := k1.trans (keep_off hk off)
    refine sb σ2 H2 e2 _ ob h3 ec _ ?_
    cases ob with
    | nx e3 => exact fun σ' H' h' k' => ⟨k2.trans k', e3, h', e1⟩
    | ct e3 => exact fun σ' H' h' k' => ⟨k2.trans k', e3, h', e1⟩
    | bk e3 => cases e1; exact fun σ' H' h' k' => post σ' H' h' (k2.trans k')
    | rt r e3 => cases e1; exact fun v σ' H' h' n k' => post v σ' H' h' n (k2.trans k')
  · rw [List.drop_eq_nil_of_le (by omega)] at e1
    cases e1
    exact .inl ⟨oks (by omega), post σ1 H1 h1 k1⟩
theorem PostS.more {K : PySem.W.Frag} {mg : Str → Option Value} {D : Ends} {ks : List Nat} {σ : L2.St} {M l : List Item} {o : Out} (p : PostS K mg D ks σ l o) : PostS K mg D ks σ (M ++ l) o := by
  have hh : ∀ {H' : Hp} {σ' : L2.St} {e : Lo}, Hold K mg H' σ' e (M ++ l) → Hold K mg H' σ' e l := fun h => ⟨h.len, h.rep.dropM⟩
  cases o with
  | nx e => exact fun σ' H' h q => p σ' H' (hh h) q
  | bk e => exact fun σ' H' h q => p σ' H' (hh h) q
  | ct e => exact fun σ' H' h q => p σ' H' (hh h) q
  | rt r e => exact fun v σ' H' h n q => p v σ' H' ⟨h.len, by
      have := h.rep
      rw [← List.cons_append] at this
      have q := this.dropM
      rw [List.cons_append] at q
      exact q, h.vw⟩ n q
section
variable {X : Cx} {ks : List Nat} {tg iter : Expr} {body : List Stmt} {fi : EvI} {b : EvS} {pos : Pos} {g : TG} {tt : Tgt}
theorem ss_for (hp : PassesOwn (model X.prog X.w) X.A X.env X.xe) (hc : X.calm = true) (hi : SI X tg iter fi) (hg : PG X tg g) (sg : SemG X.K X.mg g tt) (hb : SSs X ks body b) (hk : ∀ k ∈ ks, k ∉ tt.slots := by decide)
    (hs : ∀ x, foldedSetIterable iter X.env x = pure x := by intro _; rfl) : SS X ks (.For tg iter body [] pos) (fFor fi tt b) := by
  obtain ⟨w, pi, si⟩ := hi.ex
  obtain ⟨t, p, s⟩ := hb.ex
  refine ⟨_, ps_for hp hc pi hg p hs, ?_⟩
  intro σ H env l o h e D post
  unfold fFor at e
  obtain ⟨⟨ksl, ds, e1⟩, ea, e⟩ := Res.bind_ok e
  refine si σ H env l ksl ds e1 h ea _ fun J vs H1 h1 ok => ?_
  refine sem_loop sg s hk ok ⟨h1.len, ?_⟩ e post.more
  refine h1.rep.perm ?_
  rw [← List.append_assoc, ← List.append_assoc]
  exact List.perm_append_comm.append_right l
end
end FL

/-! FL7: comprehensions, a def's promise, zip, changes of one's own -/
namespace FL
open PySem PySem.Spec PyProof.Rows L2

/-! ### the reading that a function makes by itself -/
def tCan (K : PySem.W.Frag) (mg : Str → Option Value) (f : EvF) : TE := fun σ H Q => ∃ (env : Lo) (l : List Item) (r : Sl) (env' : Lo), Hold K mg H σ env l ∧ f env = .ok (r, env') ∧ ∀ v H', HoldV K mg H' σ env' l v r → Q v H'
def tCanT (K : PySem.W.Frag) (mg : Str → Option Value) (f : EvT) : TT := fun σ H Q => ∃ (env : Lo) (l : List Item) (b : Bool) (env' : Lo), Hold K mg H σ env l ∧ f env = .ok (b, env') ∧ ∀ H', Hold K mg H' σ env' l → Q b H'
theorem SE.canon {X : Cx} {e : Expr} {f : EvF} (h : SE X e f) : PE X e (tCan X.K X.mg f) := by
  obtain ⟨t, p, s⟩ := h.ex
  exact ⟨fun pins s' σ H Q I ⟨env, l, r, env', h1, h2, h3⟩ => p.run pins s' σ H Q I (s σ H env l r env' h1 h2 Q h3)⟩
theorem ST.canon {X : Cx} {e : Expr} {f : EvT} (h : ST X e f) : PT X e (tCanT X.K X.mg f) := by
  obtain ⟨t, p, s⟩ := h.ex
  exact ⟨fun pins s' σ H Q I ⟨env, l, r, env', h1, h2, h3⟩ => p.run pins s' σ H Q I (s σ H env l r env' h1 h2 Q h3)⟩

/-! ### comprehensions -/
def wipeE (env : Lo) : List Nat → Lo
  | [] => env
  | v :: vs => (wipeE env vs).set v .no
def restoreE (env : Lo) : List Nat → Lo → Lo
  | [], e => e
  | j :: js, e => restoreE env js (e.set j ((wipeE env js)[j]?.getD .no))
theorem wipeE_length (env : Lo) : ∀ vs : List Nat, (wipeE env vs).length = env.length
  | [] => rfl
  | v :: vs => by unfold wipeE; rw [List.length_set, wipeE_length env vs]
section
variable {K : PySem.W.Frag} {mg : Str → Option Value} {H : Hp} {σ : L2.St} {env : Lo} {l : List Item}
/-- a slot's item given up -/
theorem Hold.give (h : Hold K mg H σ env l) (j : Nat) : Hold K mg H (σ.set j none) (env.set j .no) l := by
  refine ⟨by rw [List.length_set, List.length_set]; exact h.len, ?_⟩
  by_cases hj : j < env.length
  · have e1 : σ[j]? = some (σ[j]'(by have := h.len; omega)) := List.getElem?_eq_getElem _
    have e2 : env[j]? = some env[j] := List.getElem?_eq_getElem hj
    obtain ⟨R, p1, p2, _⟩ := zip_perm e1 e2
    have q : Rep K mg H ((σ[j]'(by have := h.len; omega), env[j]) :: (R ++ l)) := h.rep.perm (p1.append_right l)
    exact (q.tail.no none).perm ((p2 none .no).append_right l).symm
  · rw [List.set_eq_of_length_le (by have := h.len; omega), List.set_eq_of_length_le (by omega)]
    exact h.rep
theorem Hold.wipe (h : Hold K mg H σ env l) : ∀ vs : List Nat, Hold K mg H (L2.wipe σ vs) (wipeE env vs) l
  | [] => h
  | v :: vs => (h.wipe vs).give v
/-- the block's own slots: what they held is put aside -/
theorem Hold.aside (h : Hold K mg H σ env l) : ∀ vs : List Nat, (∀ j ∈ vs, j < env.length) → ∃ sv : List Item, Hold K mg H (L2.wipe σ vs) (wipeE env vs) (sv ++ l) ∧
    ∀ H' env' L, Hold K mg H' (L2.wipe σ vs) env' (sv ++ L) → Hold K mg H' σ (restoreE env vs env') L := by
  intro vs
  induction vs with
  | nil => intro _; exact ⟨[], h, fun H' env' L h' => h'⟩
  | cons j js ih =>
    intro hlt
    obtain ⟨sv, h1, h2⟩ := ih fun i hi => hlt i (List.mem_cons_of_mem _ hi)
    have hj : j < (wipeE env js).length := by rw [wipeE_length]; exact hlt j List.mem_cons_self
    have e2 : (wipeE env js)[j]? = some (wipeE env js)[j] := List.getElem?_eq_getElem hj
    obtain ⟨ov, e1, rp⟩ := h1.take e2
    refine ⟨(ov, (wipeE env js)[j]) :: sv, ?_, fun H' env' L h' => ?_⟩
    · have hh : Hold K mg H (L2.wipe σ js) ((wipeE env js).set j .no) ((ov, (wipeE env js)[j]) :: (sv ++ l)) := ⟨by rw [List.length_set]; exact h1.len, rp.perm perm_mid⟩
      have := hh.give j
      rw [List.set_set] at this
      exact this
    · refine h2 H' _ L ?_
      have hlen : ((L2.wipe σ js).set j none).length = env'.length := h'.len
      rw [List.length_set] at hlen
      have hj2 : j < env'.length := by rw [← hlen, h1.len]; exact hj
      have hr : Rep K mg H' ((ov, (wipeE env js)[j]) :: (((L2.wipe σ js).set j none).zip env' ++ (sv ++ L))) := h'.rep.perm perm_mid.symm
      have e3 : ((L2.wipe σ js).set j none)[j]? = some none := List.getElem?_set_self (by omega)
      have e4 : env'[j]? = some env'[j] := List.getElem?_eq_getElem hj2
      obtain ⟨R, p1, p2, _⟩ := zip_perm e3 e4
      refine ⟨by rw [List.length_set]; exact hlen, ?_⟩
      rw [e2]
      have q : Rep K mg H' ((none, env'[j]) :: ((ov, (wipeE env js)[j]) :: (R ++ (sv ++ L)))) := hr.perm (((p1.append_right _).cons _).trans (.swap _ _ _))
      have q2 := q.tail.perm ((p2 ov (wipeE env js)[j]).append_right (sv ++ L)).symm
      rw [List.set_set] at q2
      have e5 : (L2.wipe σ js).set j ov = L2.wipe σ js := by
        apply List.ext_getElem?
        intro k
        by_cases hk : j = k
        · subst hk
          rw [List.getElem?_set_self (by rw [h1.len]; exact hj), e1]
        · rw [List.getElem?_set_ne hk]
      rw [e5] at q2
      exact q2
theorem wipe_get (σ : L2.St) (vs : List Nat) (k : Nat) : (L2.wipe σ vs)[k]? = if k ∈ vs then (if k < σ.length then some none else none) else σ[k]? := by
  induction vs with
  | nil => rfl
  | cons v vs ih =>
    show ((L2.wipe σ vs).set v none)[k]? = _
    by_cases h : v = k
    · subst h
      rw [if_pos List.mem_cons_self]
      split
      · rename_i hl
        exact List.getElem?_set_self (by rw [wipe_length]; exact hl)
      · rename_i hl
        rw [List.getElem?_eq_none (by rw [List.length_set, wipe_length]; omega)]
    · rw [List.getElem?_set_ne h, ih]
      have e : (k ∈ v :: vs) ↔ k ∈ vs := by simp [show ¬ k = v from fun z => h z.symm]
      simp only [e]
theorem wipe_off {σ2 : L2.St} {is vs : List Nat} (o : OffEq is (L2.wipe σ vs) σ2) (h : ∀ k ∈ is, k ∈ vs) : L2.wipe σ2 vs = L2.wipe σ vs := by
  apply List.ext_getElem?
  intro k
  have hl : σ2.length = σ.length := by rw [o.1, wipe_length]
  rw [wipe_get, wipe_get, hl]
  by_cases hk : k ∈ vs
  · rw [if_pos hk, if_pos hk]
  · rw [if_neg hk, if_neg hk, o.2 k (fun z => hk (h k z)), wipe_get, if_neg hk]
end
def compF (tg : Tgt) (ft : EvT) (fe : EvF) (own : List Nat) : List D → List D → Lo → Res (List D × Lo)
  | [], acc, env => .ok (acc, env)
  | d :: ds, acc, env => do
    let e1 ← Res.ofO (bindT tg d env)
    let (b, e2) ← ft e1
    if b = true then
      let (r, e3) ← fe e2
      let (d', e4) ← Res.ofO (freezeR e3 r)
      if acc.length < 16777216 then compF tg ft fe own ds (acc ++ [d']) (wipeE e4 own) else .bad
    else compF tg ft fe own ds acc (wipeE e2 own)
def fLc (fi : EvI) (tg : Tgt) (ft : EvT) (fe : EvF) (own : List Nat) : EvF := fun env => do
  let (_, ds, e1) ← fi env
  if ∀ j ∈ own, j < e1.length then
    let (acc, e2) ← compF tg ft fe own ds [] (wipeE e1 own)
    .ok (.ol acc, restoreE e1 own e2)
  else .bad
def fYes : EvT := fun env => .ok (true, env)
theorem semt_yes {K : PySem.W.Frag} {mg : Str → Option Value} : SemT K mg tYes fYes := fun σ H env l b env' h e Q q => by cases e; exact q H h
theorem semt_can {K : PySem.W.Frag} {mg : Str → Option Value} {f : EvT} : SemT K mg (tCanT K mg f) f := fun σ H env l b env' h e Q q => ⟨env, l, b, env', h, e, q⟩
theorem sem_lc {K : PySem.W.Frag} {mg : Str → Option Value} {w : TI} {fi : EvI} {g : TG} {tg : Tgt} {tt : TT} {ft : EvT} {fe : EvF} {own : List Nat} (si : SemI K mg w fi) (sg : SemG K mg g tg) (st : SemT K mg tt ft) (ho : ∀ k ∈ tg.slots, k ∈ own) :
    SemE K mg (tLc w g tt (tCan K mg fe) own) (fLc fi tg ft fe own) := by
  intro σ H env l r env' h e Q q
  unfold fLc at e
  obtain ⟨⟨ks, ds, e1⟩, ea, e⟩ := Res.bind_ok e
  dsimp only at e
  split at e
  · rename_i hown
    obtain ⟨⟨accF, e2⟩, eb, e⟩ := Res.bind_ok e
    cases e
    refine si σ H env l ks ds e1 h ea _ fun J vs H1 h1 ok => fun Dd hD => ?_
    -- the new list
    obtain ⟨G1, os1, rp1⟩ := h1.rep
    have h2 : Hold K mg (upd H1 Dd (.lst [])) σ e1 ((some (.ref Dd), .ol []) :: ((vs.map some).zip ks ++ l)) := ⟨h1.len, by
      have := Rp.newOl (K := K) (mg := mg) rp1 hD (.nil)
      refine Rep.perm ⟨_, _, this⟩ ?_
      refine List.Perm.trans (List.Perm.cons _ ?_) perm_mid
      rw [← List.append_assoc, ← List.append_assoc]
      exact List.perm_append_comm.append_right l⟩
    obtain ⟨sv, h3, back⟩ := h2.aside own hown
    refine ⟨fun i m H' => m + i = ds.length ∧ ∃ env3 acc, Hold K mg H' (L2.wipe σ own) env3 (sv ++ ((some (.ref Dd), .ol acc) :: ((vs.map some).zip ks ++ l))) ∧ compF tg ft fe own (ds.drop i) acc env3 = .ok (accF, e2), ⟨ds.length, rfl, _, [], h3, eb⟩, ?_⟩
    rintro i m H4 ⟨hm, env4, acc, h4, e4⟩
    obtain ⟨G4, os4, rp4⟩ := h4.rep
    obtain ⟨okg, oks⟩ := ok i G4 H4 os4 _ rp4 fun it hi => List.mem_append_right _ (List.mem_append_right _ (List.mem_cons_of_mem _ (List.mem_append_left _ hi)))
    by_cases hi : i < ds.length
    · have hd : ds[i]? = some ds[i] := List.getElem?_eq_getElem hi
      obtain ⟨go, yl⟩ := okg _ hd
      rw [List.drop_eq_getElem_cons hi] at e4
      unfold compF at e4
      obtain ⟨e5, ec, e4⟩ := Res.bind_ok e4
      replace ec := Res.ofO_ok ec
      obtain ⟨⟨b, e6⟩, et, e4⟩ := Res.bind_ok e4
      refine .inr ⟨go, fun H' => ∃ env3 acc, Hold K mg H' (L2.wipe σ own) env3 (sv ++ ((some (.ref Dd), .ol acc) :: ((vs.map some).zip ks ++ l))) ∧ compF tg ft fe own (ds.drop (i + 1)) acc env3 = .ok (accF, e2), fun H' q => ⟨m - 1, by omega, by omega, q⟩, fun x H5 hy => ?_⟩
      obtain ⟨G', gr, dd⟩ := yl x H5 hy
      have h5 : Hold K mg H5 (L2.wipe σ own) env4 ((some x, .sh ds[i]) :: (sv ++ ((some (.ref Dd), .ol acc) :: ((vs.map some).zip ks ++ l)))) := ⟨h4.len, Rep.perm ⟨_, _, (rp4.grow gr).sh dd⟩ perm_mid⟩
      refine sg _ H5 env4 e5 _ x _ h5 ec _ fun σ2 h6 off => ?_
      have hw : L2.wipe σ2 own = L2.wipe σ own := wipe_off off ho
      refine ⟨hw, ?_⟩
      refine st σ2 H5 e5 _ b e6 h6 et _ fun H6 h7 => ?_
      dsimp only at e4
      cases b with
      | false =>
        rw [if_neg Bool.false_ne_true] at e4
        refine iteF ⟨_, acc, ?_, e4⟩
        have := h7.wipe own
        rw [hw] at this
        exact this
      | true =>
        rw [if_pos rfl] at e4
        obtain ⟨⟨r, e7⟩, ef, e4⟩ := Res.bind_ok e4
        obtain ⟨⟨d', e8⟩, eg, e4⟩ := Res.bind_ok e4
        replace eg := Res.ofO_ok eg
        dsimp only at e4
        split at e4
        · rename_i hz
          refine iteT ⟨e6, _, r, e7, h7, ef, fun y H7 h8 => ?_⟩
          have h9 := h8.freeze eg
          -- the list at Dd
          have p1 : ((some y, Sl.sh d') :: (σ2.zip e8 ++ (sv ++ ((some (V.ref Dd), Sl.ol acc) :: ((vs.map some).zip ks ++ l))))).Perm ((some (V.ref Dd), Sl.ol acc) :: ((some y, Sl.sh d') :: (σ2.zip e8 ++ (sv ++ ((vs.map some).zip ks ++ l))))) := by
            refine List.Perm.trans (List.Perm.cons _ ?_) (.swap _ _ _)
            rw [← List.append_assoc, ← List.append_assoc]
            exact perm_mid.symm
          obtain ⟨G8, os8, rp8⟩ := h9.rep
          obtain ⟨os9, rp9⟩ := rp8.perm p1
          obtain ⟨o, ri⟩ := rp9.rl.mem List.mem_cons_self
          obtain ⟨p, ws, ev, _, hp, ha⟩ := ri.ol_inv
          cases ev
          obtain ⟨v', ev, dy⟩ := rp9.shOf (List.mem_cons_of_mem _ List.mem_cons_self)
          cases ev
          refine ⟨ws, hp, sizeL' (by rw [ha.length]; exact hz), wipeE e8 own, acc ++ [d'], ?_, e4⟩
          have rp10 := rp9.mut (s' := .ol (acc ++ [d'])) (o := .lst (ws ++ [y])) ol_own fun H' e => .bx (.ol e (ha.append (.one dy)))
          have h10 : Hold K mg (upd H7 Dd (.lst (ws ++ [y]))) σ2 e8 (sv ++ ((some (V.ref Dd), Sl.ol (acc ++ [d'])) :: ((vs.map some).zip ks ++ l))) := ⟨h9.len, by
            refine (Rep.tail (Rep.perm ⟨_, _, rp10⟩ (.swap _ _ _))).perm ?_
            exact perm_mid.trans (List.Perm.append_left _ perm_mid)⟩
          have := h10.wipe own
          rw [hw] at this
          exact this
        · cases e4
    · rw [List.drop_eq_nil_of_le (by omega)] at e4
      cases e4
      refine .inl ⟨oks (by omega), q _ H4 ?_⟩
      have hb := back H4 _ _ h4
      refine ⟨hb.len, ?_, fun _ z => by cases z⟩
      have : Rep K mg H4 ((some (V.ref Dd), Sl.ol accF) :: (σ.zip (restoreE e1 own e2) ++ ((vs.map some).zip ks ++ l))) := hb.rep.perm perm_mid.symm
      rw [← List.cons_append] at this
      have := this.dropM
      rw [List.cons_append] at this
      exact this
  · cases e
section
variable {X : Cx} {elt tg iter : Expr} {ifs : List Expr} {scope : Scope} {own : List (Str × Nat)} {pos spos py : Pos} {g : TG} {tt : Tgt} {fi : EvI} {ft : EvT} {fe : EvF} {i : Nat} {y : Str} {ks : List Nat}
/-- a clause's tests -/
structure STs (X : Cx) (ifs : List Expr) (f : EvT) : Prop where
  pts : PTs X ifs (tCanT X.K X.mg f)
theorem sts_nil : STs X [] fYes := ⟨⟨fun pins s σ H Q I ⟨env, l, b, env', h1, h2, h3⟩ => by cases h2; exact pts_nil.run pins s σ H Q I (h3 H h1)⟩⟩
theorem sts_one {c : Expr} (h : ST X c ft) : STs X [c] ft := ⟨pts_one h.canon⟩
theorem se_lc (hc : X.calm = true) (hN : X.N.Nodup) (hi : SI X tg iter fi) (ok : BlkOk X.N X.env.scope scope own) (sg : SemG X.K X.mg g tt) (ho : ∀ k ∈ tt.slots, k ∈ own.map (·.2))
    (hg : ∀ (s : Shared) (H : Hp) (C : Addr) (cl : List (Str × Addr)) (fp : List Addr), PG (X.blk s H scope (compEnvC scope cl C X.env) fp) tg g) (ht : ∀ (s : Shared) (H : Hp) (C : Addr) (cl : List (Str × Addr)) (fp : List Addr), STs (X.blk s H scope (compEnvC scope cl C X.env) fp) ifs ft)
    (he : ∀ (s : Shared) (H : Hp) (C : Addr) (cl : List (Str × Addr)) (fp : List Addr), SE (X.blk s H scope (compEnvC scope cl C X.env) fp) elt fe) (hs : ∀ x, foldedSetIterable iter X.env x = pure x := by intro _; rfl) :
    SE X (.ListComp elt [⟨tg, iter, ifs, 0⟩] scope pos) (fLc fi tt ft fe (own.map (·.2))) := by
  obtain ⟨w, p, s⟩ := hi.ex
  exact ⟨_, pe_lc hc hN p ok hg (fun s H C cl fp => (ht s H C cl fp).pts) (fun s H C cl fp => (he s H C cl fp).canon) hs, sem_lc s sg semt_can ho⟩
theorem ss_setLc (hc : X.calm = true) (hN : X.N.Nodup) (hy : X.N[i]? = some y) (hyl : X.env.scope.names.lookup y = some .local)
    (hsw : swapsWith (.ListComp elt [⟨tg, iter, ifs, 0⟩] scope pos) (some (.Name y py)) spos.line X.env = pure true) (hi : SI X tg iter fi) (ok : BlkOk X.N X.env.scope scope own) (sg : SemG X.K X.mg g tt) (ho : ∀ k ∈ tt.slots, k ∈ own.map (·.2))
    (hg : ∀ (s : Shared) (H : Hp) (C : Addr) (cl : List (Str × Addr)) (fp : List Addr), PG (X.blk s H scope (compEnvC scope cl C X.env) fp) tg g) (ht : ∀ (s : Shared) (H : Hp) (C : Addr) (cl : List (Str × Addr)) (fp : List Addr), STs (X.blk s H scope (compEnvC scope cl C X.env) fp) ifs ft)
    (he : ∀ (s : Shared) (H : Hp) (C : Addr) (cl : List (Str × Addr)) (fp : List Addr), SE (X.blk s H scope (compEnvC scope cl C X.env) fp) elt fe) (hk : i ∉ ks := by decide) (hs : ∀ x, foldedSetIterable iter X.env x = pure x := by intro _; rfl) :
    SS X ks (.Assign [.Name y py] (.ListComp elt [⟨tg, iter, ifs, 0⟩] scope pos) spos) (fAsg i (fLc fi tt ft fe (own.map (·.2)))) := by
  obtain ⟨w, p, s⟩ := hi.ex
  exact ⟨_, ps_setLc hc hN hy hyl hsw p ok hg (fun s H C cl fp => (ht s H C cl fp).pts) (fun s H C cl fp => (he s H C cl fp).canon) hs, sem_asg (sem_lc s sg semt_can ho) hk⟩
end

/-! ### a def's promise -/
def backArgs (io : List Nat) (n : Nat) (env : Lo) : List Sl := (List.range n).map fun k => if k ∈ io then env[k]?.getD .no else .no
/-- m slots, n parameters; io: the parameters that are never stored -/
def runFn (m n : Nat) (io : List Nat) (b : EvS) : Fn := fun args => do
  match ← b (args ++ List.replicate (m - n) .no) with
  | .nx env => if n ≤ env.length then .ok (.sh .none, backArgs io n env) else .bad
  | .rt r env => if n ≤ env.length then .ok (r, backArgs io n env) else .bad
  | _ => .bad
theorem zip_start {K : PySem.W.Frag} {mg : Str → Option Value} {H : Hp} : ∀ {vs : List V} {args : List Sl} {m : Nat} {l : List Item}, vs.length = args.length → Rep K mg H ((vs.map some).zip args ++ l) → Rep K mg H ((vs.map some ++ List.replicate m none).zip (args ++ List.replicate m Sl.no) ++ l) := by
  intro vs args m l hl h
  rw [List.zip_append (by simpa using hl), List.append_assoc]
  have key : ∀ (m : Nat) {M : List Item}, Rep K mg H M → Rep K mg H ((List.replicate m (none : Option V)).zip (List.replicate m Sl.no) ++ M) := by
    intro m
    induction m with
    | zero => intro M h; exact h
    | succ m ih => intro M h; rw [List.replicate_succ, List.replicate_succ, List.zip_cons_cons, List.cons_append]; exact (ih h).no none
  refine (key m h).perm ?_
  rw [← List.append_assoc, ← List.append_assoc]
  exact List.perm_append_comm.append_right l
theorem RL.sub {K : PySem.W.Frag} {mg : Str → Option Value} {G H : Hp} : ∀ {l l' : List Item}, l'.Sublist l → ∀ {os : List Addr}, RL K mg G H l os → ∃ os', RL K mg G H l' os' ∧ os'.Sublist os := by
  intro l l' h
  induction h with
  | slnil => intro os r; exact ⟨os, r, .refl _⟩
  | cons a _ ih =>
    intro os r
    cases r with
    | cons ri t =>
      obtain ⟨os', r', s⟩ := ih t
      exact ⟨os', r', s.trans (List.sublist_append_right _ _)⟩
  | cons_cons a _ ih =>
    intro os r
    cases r with
    | cons ri t =>
      obtain ⟨os', r', s⟩ := ih t
      exact ⟨_, .cons ri r', s.append_left _⟩
/-- back to the parameters -/
theorem back_items {K : PySem.W.Frag} {mg : Str → Option Value} {H : Hp} {vs : List V} {σ' : L2.St} {env' : Lo} {io : List Nat} {it : Item} {l : List Item} (n : Nat) (hv : vs.length = n) (hlen : σ'.length = env'.length) (hn : n ≤ env'.length)
    (hk : ∀ k ∈ io, k < n → σ'[k]? = some (vs[k]?)) (h : Rep K mg H (it :: (σ'.zip env' ++ l))) : Rep K mg H (it :: ((vs.map some).zip (backArgs io n env') ++ l)) := by
  -- prefix of the frame's items, each kept or given up
  have key : ∀ (vs : List V) (σ' : L2.St) (env' : Lo) (f : Nat → Bool) (M : List Item), vs.length ≤ env'.length → σ'.length = env'.length → (∀ k, f k = true → k < vs.length → σ'[k]? = some (vs[k]?)) → Rep K mg H (σ'.zip env' ++ M) →
      Rep K mg H ((vs.map some).zip ((List.range vs.length).map fun k => if f k = true then env'[k]?.getD .no else .no) ++ M) := by
    intro vs
    induction vs with
    | nil => intro σ' env' f M _ _ _ h; exact Rep.dropA _ h
    | cons v vs ih =>
      intro σ' env' f M h1 h2 h3 h4
      cases env' with
      | nil => simp at h1
      | cons e env' =>
        cases σ' with
        | nil => simp at h2
        | cons o σ' =>
          have h5 : Rep K mg H (σ'.zip env' ++ ((o, e) :: M)) := by
            rw [List.zip_cons_cons, List.cons_append] at h4
            exact h4.perm perm_mid
          have h6 := ih σ' env' (fun k => f (k + 1)) ((o, e) :: M) (by simpa using h1) (by simpa using h2) (fun k a b => by have := h3 (k + 1) a (by simpa using b); simpa using this) h5
          rw [List.length_cons, List.range_succ_eq_map, List.map_cons, List.map_cons, List.zip_cons_cons, List.cons_append, List.map_map]
          have e7 : (fun k => if f (k + 1) = true then env'[k]?.getD Sl.no else Sl.no) = ((fun k => if f k = true then (e :: env')[k]?.getD Sl.no else Sl.no) ∘ Nat.succ) := by
            funext k
            simp [Function.comp, Nat.succ_eq_add_one]
          rw [e7] at h6
          have h8 : Rep K mg H ((o, e) :: ((vs.map some).zip ((List.range vs.length).map ((fun k => if f k = true then (e :: env')[k]?.getD Sl.no else Sl.no) ∘ Nat.succ)) ++ M)) := h6.perm perm_mid.symm
          by_cases hf : f 0 = true
          · have eo := h3 0 hf (by simp)
            simp at eo
            subst eo
            rw [if_pos hf]
            exact h8
          · rw [if_neg hf]
            exact h8.tail.no _
  subst hv
  have h' : Rep K mg H (σ'.zip env' ++ (it :: l)) := h.perm perm_mid
  have := key vs σ' env' (fun k => decide (k ∈ io)) (it :: l) hn hlen (fun k a b => hk k (of_decide_eq_true a) b) h'
  have e : ((List.range vs.length).map fun k => if decide (k ∈ io) = true then env'[k]?.getD Sl.no else Sl.no) = backArgs io vs.length env' := by
    unfold backArgs
    congr 1
    funext k
    by_cases hk : k ∈ io
    · rw [if_pos hk, if_pos (decide_eq_true hk)]
    · rw [if_neg hk, if_neg (by simpa using hk)]
  rw [e] at this
  exact this.perm perm_mid.symm
theorem fn_ok {P : Program} {w : World} {K : PySem.W.Frag} {mg : Str → Option Value} {base : Heap} {x qual : Str} {st : Stmt} {f : Addr} {fd : FuncData} {N ps : List Str} {k : Nat} {io : List Nat} {b : EvS} (F : Fun K x qual st f fd) (S : FnScope N ps (defScope st)) (hio : ∀ k ∈ io, k < ps.length)
    (hb : ∀ (cdv : Value) (A : Around) (outer : List Env) (s : Shared) (H : Hp) (E : XK), Room k (A.deeper (envOfC qual (defScope st) s.heap.objs.size f cdv)) → SSs (cxOf CX0 P w K mg base N qual (defScope st) f cdv A outer s H E).nox io (defBody st) b) :
    FnOk P w K mg base CX0 (k + 1) f fd ps (spF K mg ps.length (runFn N.length ps.length io b)) := by
  refine F.ok S (fun vs H Q E h => h.1) fun cdv A outer s H vs Q E hr h => ?_
  obtain ⟨hl, args, l, r, args', ha, rp, e, q⟩ := h
  obtain ⟨t, p, sem⟩ := (hb cdv A outer s H E hr).ex
  refine ⟨t, p, ?_⟩
  unfold runFn at e
  obtain ⟨o, eo, e⟩ := Res.bind_ok e
  have hst : Hold K mg H (L2.start N vs) (args ++ List.replicate (N.length - ps.length) .no) l := by
    refine ⟨?_, ?_⟩
    · unfold L2.start
      rw [List.length_append, List.length_append, List.length_map, List.length_replicate, List.length_replicate, hl, ha]
    · unfold L2.start
      rw [hl]
      exact zip_start (by rw [hl, ha]) rp
  have kk : ∀ {σ' : L2.St}, KeepEq io (L2.start N vs) σ' → ∀ k ∈ io, k < ps.length → σ'[k]? = some (vs[k]?) := fun {σ'} kq k hk hlt => by
    rw [kq k hk]
    unfold L2.start
    rw [List.getElem?_append_left (by rw [List.length_map]; omega), List.getElem?_map]
    rw [List.getElem?_eq_getElem (by omega)]
    rfl
  refine sem (L2.start N vs) H _ l o hst eo _ ?_
  cases o with
  | nx env' =>
    dsimp only at e
    split at e
    · rename_i hn
      cases e
      intro σ' H' h' kq
      have hv := h'.shV (v := .non) (d := .none) fun _ => .non
      exact q .non H' (back_items ps.length hl h'.len hn (kk kq) hv.rep) rfl
    · cases e
  | rt r' env' =>
    dsimp only at e
    split at e
    · rename_i hn
      cases e
      intro v σ' H' h' hv kq
      exact q v H' (back_items ps.length hl h'.len hn (kk kq) h'.rep) hv
    · cases e
  | bk _ => cases e
  | ct _ => cases e
end FL

/-! FL8: zip of lists and tuples, enumerate, what a slot's own list becomes, unpacking, the script -/
namespace FL
open PySem PySem.Spec PyProof.Rows L2

/-! ### zip of lists and tuples in any mix -/
def sqS (K : PySem.W.Frag) (H : Hp) (tp : Bool) (a : Addr) (xs : List V) : Prop := match tp with
  | true => SqT K H a xs
  | false => SqL K H a xs
def itS (h : Heap) (it a : Addr) (i : Nat) (tp : Bool) : Prop := match tp with
  | true => h.IsTupleIter it a i
  | false => h.IsListIter it a i
def seS (h : Heap) (a : Addr) (items : Array Value) (tp : Bool) : Prop := match tp with
  | true => h.IsTuple a items
  | false => h.IsList a items
theorem seS_of {X : Cx} {pins : List (Addr × Obj)} {σ : L2.St} {H : Hp} {s : Shared} {a : Addr} {xs : List V} {tp : Bool} (I : Inv X pins σ H s) (h : sqS X.K H tp a xs) : ∃ its : List Value, Vals xs its ∧ seS s.heap a its.toArray tp ∧ a < s.heap.objs.size := by
  cases tp with
  | true =>
    obtain ⟨its, r, p, _⟩ := I.tuple h
    have p' : s.heap.IsTuple a its.toArray := p
    exact ⟨its, r, p', let ⟨_, e, _⟩ := p'; Heap.lt_size e⟩
  | false =>
    obtain ⟨its, r, p, _⟩ := I.list h
    exact ⟨its, r, p.isList, p.lt⟩
theorem sqS_inj {X : Cx} {pins : List (Addr × Obj)} {σ : L2.St} {H : Hp} {s : Shared} {a : Addr} {xs ys : List V} {tp : Bool} (I : Inv X pins σ H s) (h : sqS X.K H tp a xs) (h' : sqS X.K H tp a ys) : xs = ys := by
  cases tp with
  | true => exact I.tuple_inj h h'
  | false => exact I.list_inj h h'
theorem drS {prog : Program} {w : World} {A : Around} (hh : A.handled = none) (it l : Addr) (hne : l ≠ it) (items : Array Value) (tp : Bool) :
    Draws prog w A it [it, l] items.size (fun i v => items[i]? = some v) (fun i h => itS h it l i tp ∧ seS h l items tp) := by
  cases tp with
  | true => exact Draws.tuple hh it l hne items
  | false => exact Draws.list hh it l hne items
theorem itS.at' {h h' : Heap} {it a : Addr} {i : Nat} {tp : Bool} (x : itS h it a i tp) (k : ∀ o, h.get? it = some o → h'.get? it = some o) : itS h' it a i tp := by
  cases tp with
  | true => exact Heap.IsTupleIter.at x k
  | false => exact Heap.IsListIter.at x k
theorem itS.obj {h : Heap} {it a : Addr} {i : Nat} {tp : Bool} (x : itS h it a i tp) : ∃ o, h.get? it = some o ∧ ∀ v, o.data ≠ .cell v := by
  cases tp with
  | true => obtain ⟨o, e, _, d⟩ := x; exact ⟨o, e, fun v q => by rw [d] at q; cases q⟩
  | false => obtain ⟨o, e, _, d⟩ := x; exact ⟨o, e, fun v q => by rw [d] at q; cases q⟩
def ItzM (K : PySem.W.Frag) (ta tb : Bool) (a b : Addr) : It :=
  ⟨fun i H => ∃ (xs ys : List V) (x y : V), sqS K H ta a xs ∧ sqS K H tb b ys ∧ xs[i]? = some x ∧ ys[i]? = some y,
   fun i H v H' => ∃ T x y, v = .ref T ∧ H T = none ∧ H' = upd H T (.tup [x, y]) ∧ (∀ xs, sqS K H ta a xs → xs[i]? = some x) ∧ ∀ ys, sqS K H tb b ys → ys[i]? = some y,
   fun i H => ∃ xs ys : List V, sqS K H ta a xs ∧ sqS K H tb b ys ∧ (xs.length = i ∨ ys.length = i) ∧ i ≤ xs.length ∧ i ≤ ys.length⟩
theorem turn_zipM {P : Program} {w : World} {K : PySem.W.Frag} {elts : List Expr} {kk : Nat} {tpos : Pos} {ta tb : Bool} {a b z TI TO i1 i2 : Addr} (S : ZipSep2 z TI TO i1 i2 [i1, a] [i2, b]) :
    Turn P w K (.Tuple elts kk tpos) (ItzM K ta tb a b) [z, TI, TO, i1, i2] z (fun i h => IsZip h z TI TO .none ∧ IsTupOf2 h TI (.ref i1) (.ref i2) ∧ (∃ x y, IsTupOf2 h TO x y) ∧ itS h i1 a i ta ∧ itS h i2 b i tb) where
  mem := by simp
  obj := fun i h ⟨hz, hTI, ⟨x, y, hTO⟩, h1, h2⟩ c hc => by
    have e' : c = z ∨ c = TI ∨ c = TO ∨ c = i1 ∨ c = i2 := by simpa using hc
    rcases e' with rfl | rfl | rfl | rfl | rfl
    · exact ⟨_, hz, fun v q => nomatch q⟩
    · exact ⟨_, hTI, fun v q => nomatch q⟩
    · exact ⟨_, hTO, fun v q => nomatch q⟩
    · exact h1.obj
    · exact h2.obj
  keep := fun i h h' ⟨hz, hTI, ⟨x, y, hTO⟩, h1, h2⟩ k =>
    ⟨k z (by simp) _ hz, k TI (by simp) _ hTI, ⟨x, y, k TO (by simp) _ hTO⟩, h1.at' fun o q => k i1 (by simp) o q, h2.at' fun o q => k i2 (by simp) o q⟩
  item := by
    intro X hP hw hK hc i pins s σ H E I hf ⟨hz, hTI, ⟨x0, y0, hTO⟩, h1, h2⟩ ⟨xs, ys, x, y, hqx, hqy, hx, hy⟩
    subst hP hw hK
    obtain ⟨its, rv, p, la⟩ := seS_of I hqx
    obtain ⟨its2, rv2, p2, lb⟩ := seS_of I hqy
    obtain ⟨u, hu, ru⟩ := rv.get hx
    obtain ⟨u2, hu2, ru2⟩ := rv2.get hy
    have ha1 : a ≠ i1 := fun q => by
      subst q
      obtain ⟨o, e, d⟩ := h1.obj
      cases ta with
      | true => obtain ⟨o1, e1, c1, _⟩ := p; obtain ⟨o2, e2, c2, _⟩ := h1; rw [e1] at e2; cases e2; rw [c1] at c2; simp at c2
      | false => obtain ⟨o1, e1, c1, _⟩ := p; obtain ⟨o2, e2, c2, _⟩ := h1; rw [e1] at e2; cases e2; rw [c1] at c2; simp at c2
    have hb2 : b ≠ i2 := fun q => by
      subst q
      cases tb with
      | true => obtain ⟨o1, e1, c1, _⟩ := p2; obtain ⟨o2, e2, c2, _⟩ := h2; rw [e1] at e2; cases e2; rw [c1] at c2; simp at c2
      | false => obtain ⟨o1, e1, c1, _⟩ := p2; obtain ⟨o2, e2, c2, _⟩ := h2; rw [e1] at e2; cases e2; rw [c1] at c2; simp at c2
    have D1 := drS (prog := X.prog) (w := X.w) (A := X.A.in1) (I.ok.hd hc) i1 a ha1 its.toArray ta
    have D2 := drS (prog := X.prog) (w := X.w) (A := X.A.in1) (I.ok.hd hc) i2 b hb2 its2.toArray tb
    have hzl : z < s.heap.objs.size := Heap.lt_size hz
    have hi1 : i < its.toArray.size := by have := (List.getElem?_eq_some_iff.mp hu).1; simpa using this
    have hi2 : i < its2.toArray.size := by have := (List.getElem?_eq_some_iff.mp hu2).1; simpa using this
    refine wpAny_pyNext_zipD2_item S D1 D2 hz hTI hTO ⟨h1, p⟩ ⟨h2, p2⟩ hi1 hi2 fun x1 x2 h' tk q1 q2 z' TO' st1 st2 hT hsz hk => ?_
    have e1 : x1 = u := by
      have : its.toArray[i]? = some u := by simpa using hu
      rw [this] at q1; cases q1; rfl
    have e2 : x2 = u2 := by
      have : its2.toArray[i]? = some u2 := by simpa using hu2
      rw [this] at q2; cases q2; rfl
    subst e1 e2
    refine ⟨_, rfl, wpAny_letOwnedTupleGo_zip (s := { s with heap := h', toks := tk }) z' fun h'' z'' sb => ?_⟩
    have hT2 : h''.get? s.heap.objs.size = some { cls := .type "tuple", data := .seq #[x1, x2] } := (sb.2 _ (Nat.ne_of_gt hzl)).trans hT
    have new : ObjOk X.prog X.w (upd H s.heap.objs.size (.tup [x, y])) h'' s.heap.objs.size (.tup [x, y]) :=
      ⟨by show 2 ≤ sizeLine; decide, [x1, x2], .cons ru (.cons ru2 .nil), ⟨_, hT2, rfl, _, rfl⟩⟩
    have I1 : Inv X pins σ (upd H s.heap.objs.size (.tup [x, y])) { s with heap := h'', toks := tk } :=
      I.turnedNew (t' := tk) (ch := [z, TI, TO, i1, i2]) (fun c o hb q => (sb.2 c (fun q' => hb (by simp [q']))).trans (hk c o (fun q' => hb (by simp [q'])) (fun q' => hb (by simp [q'])) (fun q' => hb (by simp [q'])) (fun q' => hb (by simp [q'])) q)) hf (Nat.le_refl _) new
    refine ⟨.ref s.heap.objs.size, _, I1, rfl, ⟨_, x, y, rfl, I.hok.fresh (Nat.le_refl _), rfl, fun l hl => by rw [sqS_inj I hl hqx]; exact hx, fun l hl => by rw [sqS_inj I hl hqy]; exact hy⟩, ⟨z'', ?_, ⟨x1, x2, ?_⟩, ?_, ?_⟩, fun c hcm => ?_⟩
    · exact (sb.2 _ S.TIz).trans (hk _ _ S.TIz S.TITO S.TIi1 S.TIi2 hTI)
    · exact (sb.2 _ S.TOz).trans TO'
    · exact st1.1.at' fun o q => (sb.2 _ S.zi1.symm).trans q
    · exact st2.1.at' fun o q => (sb.2 _ S.zi2.symm).trans q
    · have hlt : c < s.heap.objs.size := by
        have e' : c = z ∨ c = TI ∨ c = TO ∨ c = i1 ∨ c = i2 := by simpa using hcm
        rcases e' with rfl | rfl | rfl | rfl | rfl
        · exact hzl
        · exact Heap.lt_size hTI
        · exact Heap.lt_size hTO
        · obtain ⟨_, q, _⟩ := h1.obj; exact Heap.lt_size q
        · obtain ⟨_, q, _⟩ := h2.obj; exact Heap.lt_size q
      rw [upd_ne (Nat.ne_of_lt hlt)]
      exact (hf c hcm).1
  done := by
    intro X hP hw hK hc i pins s σ H E I hf ⟨hz, hTI, ⟨x0, y0, hTO⟩, h1, h2⟩ ⟨xs, ys, hqx, hqy, hend, l1, l2⟩
    subst hP hw hK
    obtain ⟨its, rv, p, la⟩ := seS_of I hqx
    obtain ⟨its2, rv2, p2, lb⟩ := seS_of I hqy
    have ha1 : a ≠ i1 := fun q => by
      subst q
      cases ta with
      | true => obtain ⟨o1, e1, c1, _⟩ := p; obtain ⟨o2, e2, c2, _⟩ := h1; rw [e1] at e2; cases e2; rw [c1] at c2; simp at c2
      | false => obtain ⟨o1, e1, c1, _⟩ := p; obtain ⟨o2, e2, c2, _⟩ := h1; rw [e1] at e2; cases e2; rw [c1] at c2; simp at c2
    have hb2 : b ≠ i2 := fun q => by
      subst q
      cases tb with
      | true => obtain ⟨o1, e1, c1, _⟩ := p2; obtain ⟨o2, e2, c2, _⟩ := h2; rw [e1] at e2; cases e2; rw [c1] at c2; simp at c2
      | false => obtain ⟨o1, e1, c1, _⟩ := p2; obtain ⟨o2, e2, c2, _⟩ := h2; rw [e1] at e2; cases e2; rw [c1] at c2; simp at c2
    have D1 := drS (prog := X.prog) (w := X.w) (A := X.A.in1) (I.ok.hd hc) i1 a ha1 its.toArray ta
    have D2 := drS (prog := X.prog) (w := X.w) (A := X.A.in1) (I.ok.hd hc) i2 b hb2 its2.toArray tb
    have e1 : its.toArray.size = xs.length := by rw [List.size_toArray]; exact rv.length.symm
    have e2 : its2.toArray.size = ys.length := by rw [List.size_toArray]; exact rv2.length.symm
    refine wpAny_pyNext_zipD2_end S D1 D2 hz hTI hTO ⟨h1, p⟩ ⟨h2, p2⟩ (by omega) (by omega) (by omega) fun h' tk hk => ⟨rfl, I.turnedL (t' := tk) (ch := [z, TI, TO, i1, i2]) (fun c o hb q =>
      hk c o (fun q' => hb (by simp [q'])) (fun q' => hb (by simp [q'])) (fun q' => hb (by simp [q'])) (fun q' => hb (by simp [q'])) q) hf⟩
  self := fun A i s Q E st h => wpAny_pyIter_zip st.1 h
def iZipM (K : PySem.W.Frag) (t : TA) : TI := fun σ H R => t σ H fun vs H1 => ∃ ta tb a b xs ys, vs = [.ref a, .ref b] ∧ sqS K H1 ta a xs ∧ sqS K H1 tb b ys ∧ R (ItzM K ta tb a b) H1
def begO (a : Addr) (tp : Bool) : Obj := match tp with
  | true => { cls := .type "tuple_iterator", data := .fields #[.ref a, .int 0 0] }
  | false => { cls := .type "list_iterator", data := .fields #[.ref a, .int 0 0] }
theorem begS (a : Addr) (items : Array Value) (tp : Bool) : Begins (.ref a) (begO a tp) fun h => seS h a items tp := by
  cases tp with
  | true => exact begins_tuple a items
  | false => exact begins_list a items
theorem begO_it {h : Heap} {it a : Addr} {tp : Bool} (e : h.get? it = some (begO a tp)) : itS h it a 0 tp := by
  cases tp with
  | true => exact ⟨_, e, rfl, rfl⟩
  | false => exact ⟨_, e, rfl, rfl⟩
theorem pi_zipM {X : Cx} {e e2 : Expr} {t : TA} {p pos tpos : Pos} {elts : List Expr} {kk : Nat} (hg : Gl X "zip") (hm : X.mg "zip" = none) (ha : PA X [e, e2] t)
    (hs : starEach [e, e2] X.env = (false, eval e X.env) :: starEach [e2] X.env := by rfl) (hpl : (backTo pos (starEach [e2] X.env)).any (·.1) = false := by rfl) :
    PI X (.Tuple elts kk tpos) (.Call (.Name "zip" p) [e, e2] [] pos) (iZipM X.K t) := by
  refine ⟨fun pins s σ H R I h => Call_ (ld_blt I hg hm PyProof.Rows.boot_zip (PyProof.Rows.callWith_type1 (thn (ha.run pos pins s σ H _ I h) fun us s1 ⟨vs, H1, I1, r1, q1⟩ => ?_) hs hpl))⟩
  obtain ⟨ta, tb, a, b, xs, ys, ex, hqx, hqy, q⟩ := q1
  subst ex
  obtain ⟨u1, u2, rfl, ra, rb⟩ := Vals.two r1
  cases ra
  cases rb
  obtain ⟨its, rv, p1, la⟩ := seS_of I1 hqx
  obtain ⟨its2, rv2, p2, lb⟩ := seS_of I1 hqy
  refine zip_begins2 (begS a its.toArray ta) (begS b its2.toArray tb) p1 p2 fun h' hz hTI hTO h1 h2 hsz hk => wpAny_pyIter_zip hz ?_
  have I2 : Inv X pins σ H1 { s1 with heap := h' } := I1.kept (t' := s1.toks) hk
  refine ⟨s1.heap.objs.size + 4, [s1.heap.objs.size + 4, s1.heap.objs.size + 2, s1.heap.objs.size + 3, s1.heap.objs.size, s1.heap.objs.size + 1], _, _, H1, rfl, I2,
    turn_zipM (zip_sep2 (N := s1.heap.objs.size) (fp1 := [a]) (fp2 := [b]) (fun c hc => by rw [List.mem_singleton.mp hc]; exact la) fun c hc => by rw [List.mem_singleton.mp hc]; exact lb), ⟨hz, hTI, ⟨_, _, hTO⟩, begO_it h1, begO_it h2⟩, fun c hcm => ?_, q⟩
  have e' : c = s1.heap.objs.size + 4 ∨ c = s1.heap.objs.size + 2 ∨ c = s1.heap.objs.size + 3 ∨ c = s1.heap.objs.size ∨ c = s1.heap.objs.size + 1 := by simpa using hcm
  have hle : s1.heap.objs.size ≤ c := by
    rcases e' with z | z | z | z | z <;> rw [z] <;> first | exact Nat.le_add_right _ _ | exact Nat.le_refl _
  exact I1.fpOk hle (I1.hok.fresh hle)
def isTup : D → Bool
  | .tuple _ => true
  | _ => false
def seqOf : D → Option (List D)
  | .list ds => some ds
  | .tuple ds => some ds
  | _ => none
def zipD (a b : List D) : List D := List.zipWith (fun x y => PyData.tuple [x, y]) a b
def fZip (fs : EvA) : EvI := fun env => do
  let (rs, e1) ← fs env
  let (ds, e2) ← Res.ofO (freezeAll e1 rs)
  match ds with
  | [a, b] => do
    let xs ← Res.ofO (seqOf a)
    let ys ← Res.ofO (seqOf b)
    .ok ([.sh a, .sh b], zipD xs ys, e2)
  | _ => .bad
theorem seq_at {K : PySem.W.Frag} {G H : Hp} {v : V} {d : D} {xs : List D} (sm : Same G H) (h : Dt K G v d) (e : seqOf d = some xs) : ∃ (tp : Bool) (a : Addr) (vs : List V), v = .ref a ∧ sqS K H tp a vs ∧ DtAll K G vs xs := by
  cases h with
  | lst hs ha => cases e; exact ⟨false, _, _, rfl, .of (sm _ _ hs), ha⟩
  | tup hs ha => cases e; exact ⟨true, _, _, rfl, (hs.mono sm).sq, ha⟩
  | non => cases e
  | bl _ => cases e
  | int _ => cases e
  | str _ => cases e
theorem seq_again {K : PySem.W.Frag} {G H : Hp} {a : Addr} {d : D} {xs : List D} {tp : Bool} (sm : Same G H) (h : Dt K G (.ref a) d) (e : seqOf d = some xs) (ht : tp = isTup d) : ∃ vs : List V, sqS K H tp a vs ∧ DtAll K G vs xs := by
  subst ht
  cases h with
  | lst hs ha => cases e; exact ⟨_, .of (sm _ _ hs), ha⟩
  | tup hs ha => cases e; exact ⟨_, (hs.mono sm).sq, ha⟩
theorem setAll_len : ∀ {is : List Nat} {ds : List D} {env env' : Lo}, setAll env is ds = some env' → ds.length = is.length := by
  intro is
  induction is with
  | nil => intro ds env env' e; cases ds <;> first | rfl | cases e
  | cons i is ih =>
    intro ds env env' e
    cases ds with
    | nil => cases e
    | cons d ds =>
      unfold setAll at e
      split at e
      · simp [ih e]
      · cases e
theorem itok_zip {K : PySem.W.Frag} {mg : Str → Option Value} {a b : Addr} {da db : D} {xs ys : List D} (ea : seqOf da = some xs) (eb : seqOf db = some ys) :
    ItOk K mg (ItzM K (isTup da) (isTup db) a b) [(some (.ref a), .sh da), (some (.ref b), .sh db)] (zipD xs ys) := by
  intro i G H os L rp hm
  obtain ⟨va, e1, d1⟩ := rp.shOf (hm (some (.ref a), .sh da) (by simp))
  obtain ⟨vb, e2, d2⟩ := rp.shOf (hm (some (.ref b), .sh db) (by simp))
  cases e1
  cases e2
  obtain ⟨vs, q1, h1⟩ := seq_again rp.same d1 ea rfl
  obtain ⟨ws, q2, h2⟩ := seq_again rp.same d2 eb rfl
  have hlen : (zipD xs ys).length = min xs.length ys.length := by simp [zipD]
  constructor
  · intro d hd
    have hi := (List.getElem?_eq_some_iff.mp hd).1
    rw [hlen] at hi
    have ex : xs[i]? = some xs[i] := List.getElem?_eq_getElem (by omega)
    have ey : ys[i]? = some ys[i] := List.getElem?_eq_getElem (by omega)
    have ed : d = .tuple [xs[i], ys[i]] := by
      unfold zipD at hd
      rw [List.getElem?_zipWith, ex, ey] at hd
      cases hd; rfl
    obtain ⟨x, x1, x2⟩ := h1.get ex
    obtain ⟨y, y1, y2⟩ := h2.get ey
    refine ⟨⟨vs, ws, x, y, q1, q2, x1, y1⟩, fun v H' hy => ?_⟩
    obtain ⟨T, x', y', rfl, hT, rfl, f1, f2⟩ := hy
    have := f1 vs q1; rw [x1] at this; cases this
    have := f2 ws q2; rw [y1] at this; cases this
    refine ⟨_, .step .refl hT, ?_⟩
    rw [ed]
    have sG : Same G (upd G T (.tup [x, y])) := sameG (rp.same.free hT)
    exact .tup (.inl upd_same) (.cons (Dt.mono sG _ _ x2) (.cons (Dt.mono sG _ _ y2) .nil))
  · intro hi
    rw [hlen] at hi
    have l1 := h1.length
    have l2 := h2.length
    exact ⟨vs, ws, q1, q2, by omega, by omega, by omega⟩
section
variable {X : Cx}
theorem si_zip {e e2 : Expr} {fs : EvA} {p pos tpos : Pos} {elts : List Expr} {kk : Nat} (hg : Gl X "zip") (hm : X.mg "zip" = none) (ha : SA X [e, e2] fs)
    (hs : starEach [e, e2] X.env = (false, eval e X.env) :: starEach [e2] X.env := by rfl) (hpl : (backTo pos (starEach [e2] X.env)).any (·.1) = false := by rfl) :
    SI X (.Tuple elts kk tpos) (.Call (.Name "zip" p) [e, e2] [] pos) (fZip fs) := by
  obtain ⟨t, p', s⟩ := ha.ex
  refine ⟨_, pi_zipM hg hm p' hs hpl, ?_⟩
  intro σ H env l ks ds env' h e R q
  unfold fZip at e
  obtain ⟨⟨rs, e1⟩, ea, e⟩ := Res.bind_ok e
  obtain ⟨⟨es, e2⟩, eb, e⟩ := Res.bind_ok e
  replace eb := Res.ofO_ok eb
  refine s σ H env l rs e1 h ea _ fun vs H1 h1 => ?_
  have h2 := h1.freeze eb
  dsimp only at e
  split at e
  · rename_i da db
    obtain ⟨xs, ex, e⟩ := Res.bind_ok e
    obtain ⟨ys, ey, e⟩ := Res.bind_ok e
    replace ex := Res.ofO_ok ex
    replace ey := Res.ofO_ok ey
    cases e
    obtain ⟨G, os, rp⟩ := h2.rep
    have hl := h2.alen
    match vs, hl with
    | [va, vb], _ =>
      obtain ⟨v1, q1, d1⟩ := rp.shOf (ov := some va) (d := da) (List.mem_append_left _ (by simp))
      cases q1
      obtain ⟨v2, q2, d2⟩ := rp.shOf (ov := some vb) (d := db) (List.mem_append_left _ (by simp))
      cases q2
      have a1 : ∃ a, va = .ref a := by cases d1 <;> first | exact ⟨_, rfl⟩ | cases ex
      have a2 : ∃ a, vb = .ref a := by cases d2 <;> first | exact ⟨_, rfl⟩ | cases ey
      obtain ⟨a, rfl⟩ := a1
      obtain ⟨b, rfl⟩ := a2
      obtain ⟨vs, q1, _⟩ := seq_again rp.same d1 ex rfl
      obtain ⟨ws, q2, _⟩ := seq_again rp.same d2 ey rfl
      exact ⟨_, _, a, b, vs, ws, rfl, q1, q2, q _ [.ref a, .ref b] H1 h2 (itok_zip ex ey)⟩
  · cases e
end

/-! ### a slot's own list, changed by a method -/
def SemM (r : V → List V → Hp → VK → Prop) (K : PySem.W.Frag) (op : List D → List D → Option (List D × D)) : Prop :=
  ∀ (G H : Hp) (p : Addr) (ws : List V) (ds : List D) (vs : List V) (es : List D) (ds' : List D) (y : D) (Q : VK), Same G H → G p = none → H p = some (.lst ws) → DtAll K G ws ds → DtAll K G vs es → op ds es = some (ds', y) →
    (∀ ws' v, DtAll K G ws' ds' → Dt K G v y → Q v (upd H p (.lst ws'))) → r (.ref p) vs H Q
def fMut (i : Nat) (op : List D → List D → Option (List D × D)) (fs : EvA) : EvF := fun env => do
  match env[i]? with
  | some (.ol _) => do
    let (rs, e1) ← fs env
    let (es, e2) ← Res.ofO (freezeAll e1 rs)
    match e2[i]? with
    | some (.ol ds) => do
      let (ds', y) ← Res.ofO (op ds es)
      .ok (.sh y, e2.set i (.ol ds'))
    | _ => .bad
  | _ => .bad
theorem sem_mut {K : PySem.W.Frag} {mg : Str → Option Value} {i : Nat} {op : List D → List D → Option (List D × D)} {r : V → List V → Hp → VK → Prop} {t : TA} {fs : EvA} (ho : SemM r K op) (hs : SemA K mg t fs) : SemE K mg (tBM K "list" r (tVar i) t) (fMut i op fs) := by
  intro σ H env l s env' h e Q q
  unfold fMut at e
  split at e
  · rename_i ds0 e0
    obtain ⟨⟨rs, e1⟩, ea, e⟩ := Res.bind_ok e
    obtain ⟨⟨es, e2⟩, eb, e⟩ := Res.bind_ok e
    replace eb := Res.ofO_ok eb
    dsimp only at e
    split at e
    · rename_i ds e3
      obtain ⟨⟨ds', y⟩, ec, e⟩ := Res.bind_ok e
      replace ec := Res.ofO_ok ec
      cases e
      obtain ⟨ov, eσ, rp0⟩ := h.take e0
      obtain ⟨G0, os0, rp0⟩ := rp0
      obtain ⟨o0, ri0⟩ := rp0.rl.mem List.mem_cons_self
      obtain ⟨p, ws0, rfl, _, hp0, ha0⟩ := ri0.ol_inv
      refine ⟨.ref p, eσ, .inl ⟨rfl, ws0, .of hp0⟩, ?_⟩
      refine hs σ H env l rs e1 h ea _ fun vs H1 h1 => ?_
      have h2 := h1.freeze eb
      have hh : Hold K mg H1 σ e2 ((vs.map some).zip (es.map Sl.sh) ++ l) := ⟨h2.len, by
        refine h2.rep.perm ?_
        rw [← List.append_assoc, ← List.append_assoc]
        exact List.perm_append_comm.append_right l⟩
      obtain ⟨ov', eσ', rp⟩ := hh.take e3
      rw [eσ] at eσ'; cases eσ'
      obtain ⟨G, os, rp⟩ := rp
      obtain ⟨o1, ri⟩ := rp.rl.mem List.mem_cons_self
      obtain ⟨p', ws, ep, _, hp, ha⟩ := ri.ol_inv
      cases ep
      have hlen : vs.length = es.length := by simpa using h2.alen
      have dv : DtAll K G vs es := rp.all hlen fun it hi => List.mem_cons_of_mem _ (List.mem_append_right _ (List.mem_append_left _ hi))
      have gp : G p = none := by
        cases rp.rl with
        | cons r1 t1 =>
          obtain ⟨p2, _, ep, eo, _, _⟩ := r1.ol_inv
          cases ep
          subst eo
          exact rp.off p (by simp)
      refine ho G H1 p ws ds vs es ds' y Q rp.same gp hp ha dv ec fun ws' v hw hy => q v _ ?_
      have rp2 := rp.mut (s' := .ol ds') (o := .lst ws') ol_own fun H' e => .bx (.ol e hw)
      have rp3 : Rep K mg (upd H1 p (.lst ws')) ((some (.ref p), Sl.ol ds') :: (σ.zip (e2.set i .no) ++ ((some v, Sl.sh y) :: ((vs.map some).zip (es.map Sl.sh) ++ l)))) :=
        Rep.perm ⟨_, _, rp2.sh hy⟩ ((List.Perm.swap _ _ _).trans (List.Perm.cons _ perm_mid))
      have rp4 := Rep.put rp3 (by rw [List.length_set]; exact h2.len) eσ
      rw [List.set_set] at rp4
      refine ⟨by rw [List.length_set]; exact h2.len, ?_, fun _ z => by cases z⟩
      have : Rep K mg (upd H1 p (.lst ws')) ((some v, Sl.sh y) :: (σ.zip (e2.set i (.ol ds')) ++ ((vs.map some).zip (es.map Sl.sh) ++ l))) := rp4.perm perm_mid.symm
      rw [← List.cons_append] at this
      have := this.dropM
      rw [List.cons_append] at this
      exact this
    · cases e
  · cases e
def appendM (ds : List D) : List D → Option (List D × D)
  | [d] => if ds.length < 16777216 then some (ds ++ [d], .none) else none
  | _ => none
theorem sm_append {K : PySem.W.Frag} : SemM rAppend K appendM := by
  intro G H p ws ds vs es ds' y Q sm gp hp ha hv e q
  unfold appendM at e
  split at e
  · split at e
    · rename_i d hz
      cases e
      cases hv with
      | cons a b =>
        cases b
        exact ⟨p, ws, _, rfl, rfl, hp, sizeL' (by rw [ha.length]; exact hz), q _ _ (ha.append (.one a)) .non⟩
    · cases e
  · cases e
def extendM (ds : List D) : List D → Option (List D × D)
  | [.list es] => if ds.length + es.length ≤ 16777216 then some (ds ++ es, .none) else none
  | _ => none
theorem sm_extend {K : PySem.W.Frag} : SemM rExtend K extendM := by
  intro G H p ws ds vs es ds' y Q sm gp hp ha hv e q
  unfold extendM at e
  split at e
  · split at e
    · rename_i d hz
      cases e
      cases hv with
      | cons a b =>
        cases b
        cases a with
        | lst hs hb =>
          exact ⟨p, _, ws, _, rfl, rfl, hp, sm _ _ hs, sizeL (by rw [ha.length, hb.length]; exact hz), q _ _ (ha.append hb) .non⟩
    · cases e
  · cases e
def popM (ds : List D) : List D → Option (List D × D)
  | [] => (ds[ds.length - 1]?).map fun d => (ds.dropLast, d)
  | _ => none
theorem DtAll.dropLast {K : PySem.W.Frag} {G : Hp} {vs : List V} {ds : List D} (h : DtAll K G vs ds) : DtAll K G vs.dropLast ds.dropLast := by
  rw [List.dropLast_eq_take, List.dropLast_eq_take, h.length]
  exact h.take _
theorem sm_pop {K : PySem.W.Frag} : SemM rPop K popM := by
  intro G H p ws ds vs es ds' y Q sm gp hp ha hv e q
  unfold popM at e
  split at e
  · simp only [Option.map_eq_some_iff] at e
    obtain ⟨d, e1, e2⟩ := e
    cases e2
    cases hv
    obtain ⟨v, f1, f2⟩ := ha.get e1
    exact ⟨p, ws, v, rfl, rfl, hp, by rw [ha.length]; exact f1, q _ _ ha.dropLast f2⟩
  · cases e
def reverseM (ds : List D) : List D → Option (List D × D)
  | [] => some (ds.reverse, .none)
  | _ => none
theorem sm_reverse {K : PySem.W.Frag} : SemM rReverse K reverseM := by
  intro G H p ws ds vs es ds' y Q sm gp hp ha hv e q
  unfold reverseM at e
  split at e
  · cases e
    cases hv
    exact ⟨p, ws, rfl, rfl, hp, q _ _ ha.reverse .non⟩
  · cases e
def clearM (_ : List D) : List D → Option (List D × D)
  | [] => some ([], .none)
  | _ => none
theorem sm_clear {K : PySem.W.Frag} : SemM rClear K clearM := by
  intro G H p ws ds vs es ds' y Q sm gp hp ha hv e q
  unfold clearM at e
  split at e
  · cases e
    cases hv
    exact ⟨p, ws, rfl, rfl, hp, q _ _ .nil .non⟩
  · cases e
section
variable {X : Cx} {i : Nat} {x : Str} {name : Str} {e : Expr} {es : List Expr} {fs : EvA} {npos apos cpos : Pos} {id : String} {r : V → List V → Hp → VK → Prop} {op : List D → List D → Option (List D × D)}
theorem se_mut (slot : Slot "list" name id) (hty : typeOf (.builtin id) = pure (.type "method_descriptor")) (hm : MtR X id r) (so : SemM r X.K op) (hN : X.N[i]? = some x) (hv : Vis X.env.scope x) (ha : SA X (e :: es) fs)
    (hd : (x == ("__debug__" : Str)) = false := by decide) (hcd : (x == ("__classdict__" : Str)) = false := by decide)
    (hbase : attributeBase (.Name x npos) name X.env (eval (.Name x npos) X.env) = eval (.Name x npos) X.env := by rfl)
    (hfew : ((backTo cpos (starEach (e :: es) X.env)).all (fun x => !x.1) && (backToKw cpos (keywordEach [] X.env)).all (fun x => x.1.isSome)
      && decide ((e :: es).length + ([] : List Keyword).length + (if ([] : List Keyword).isEmpty then 0 else 1) < 30)) = true := by rfl)
    (hline : (apos.endLine == cpos.line) = true := by rfl) (hs : starEach (e :: es) X.env = (false, eval e X.env) :: starEach es X.env := by rfl) (hplain : (backTo cpos (starEach es X.env)).any (·.1) = false := by rfl) :
    SE X (.Call (.Attribute (.Name x npos) name apos) (e :: es) [] cpos) (fMut i op fs) := by
  obtain ⟨t, p, s⟩ := ha.ex
  exact ⟨_, pe_bm PySem.F.plainAttrs_list slot hty hm (pe_var hN hv hd hcd) p hbase hfew hline hs hplain, sem_mut so s⟩
theorem se_mut0 (slot : Slot "list" name id) (hty : typeOf (.builtin id) = pure (.type "method_descriptor")) (hm : MtR X id r) (so : SemM r X.K op) (hN : X.N[i]? = some x) (hv : Vis X.env.scope x)
    (hd : (x == ("__debug__" : Str)) = false := by decide) (hcd : (x == ("__classdict__" : Str)) = false := by decide)
    (hbase : attributeBase (.Name x npos) name X.env (eval (.Name x npos) X.env) = eval (.Name x npos) X.env := by rfl) (hline : (apos.endLine == cpos.line) = true := by rfl) :
    SE X (.Call (.Attribute (.Name x npos) name apos) [] [] cpos) (fMut i op fNil) := by
  refine ⟨_, pe_bm0 PySem.F.plainAttrs_list slot hty hm (pe_var hN hv hd hcd) hbase hline, ?_⟩
  exact fun σ H env l s env' h e Q q => sem_mut (t := tNil) so sem_nil σ H env l s env' h e Q q
end

/-! ### unpacking -/
def fUnp (is : List Nat) (fa : EvF) : EvS := fun env => do
  let (r, e1) ← fa env
  let (d, e2) ← Res.ofO (freezeR e1 r)
  let e3 ← Res.ofO (bindT (.tp is) d e2)
  .ok (.nx e3)
def fUnl (is : List Nat) (fa : EvF) : EvS := fun env => do
  let (r, e1) ← fa env
  let (d, e2) ← Res.ofO (freezeR e1 r)
  match d with
  | .list ds => do
    let e3 ← Res.ofO (setAll e2 is ds)
    .ok (.nx e3)
  | _ => .bad
section
variable {X : Cx} {ks is : List Nat} {tg e : Expr} {fa : EvF} {pos : Pos} {g : TG}
theorem ss_unp (he : SE X e fa) (hg : PG X tg g) (sg : SemG X.K X.mg g (.tp is)) (hk : ∀ k ∈ ks, k ∉ is := by decide) (hs : swapsWithSole [tg] e pos.line X.env = pure false := by rfl) (hw : swappedStores [tg] e X.env = pure none := by rfl)
    (h1 : (assignEach [tg] X.env).map (·.2) = [assign tg X.env] := by rfl) : SS X ks (.Assign [tg] e pos) (fUnp is fa) := by
  obtain ⟨t, p, s⟩ := he.ex
  refine ⟨_, ps_asg p hg hs hw h1, ?_⟩
  intro σ H env l o h e D post
  obtain ⟨⟨r, e1⟩, ea, e⟩ := Res.bind_ok e
  obtain ⟨⟨d, e2⟩, eb, e⟩ := Res.bind_ok e
  obtain ⟨e3, ec, e⟩ := Res.bind_ok e
  replace eb := Res.ofO_ok eb
  replace ec := Res.ofO_ok ec
  cases e
  refine s σ H env l r e1 h ea _ fun v H1 h1 => ?_
  exact sg σ H1 e2 e3 l v d (h1.freeze eb).hold ec _ fun σ' h' off => post σ' H1 h' (keep_off hk off)
theorem ss_unl (hc : X.calm = true) {es : List Expr} {kk : Nat} {tpos : Pos} (he : SE X e fa) (hg : PGs X es (gNames is)) (hn : (assignEach es X.env).length = is.length := by rfl) (hst : (assignEach es X.env).findIdx? (·.1) = none := by rfl)
    (hk : ∀ k ∈ ks, k ∉ is := by decide) (hs : swapsWithSole [(.Tuple es kk tpos)] e pos.line X.env = pure false := by rfl) (hw : swappedStores [(.Tuple es kk tpos)] e X.env = pure none := by rfl)
    (h1 : (assignEach [(.Tuple es kk tpos)] X.env).map (·.2) = [assign (.Tuple es kk tpos) X.env] := by rfl) : SS X ks (.Assign [.Tuple es kk tpos] e pos) (fUnl is fa) := by
  obtain ⟨t, p, s⟩ := he.ex
  refine ⟨_, ps_asg p (pg_unl hc hg hn hst) hs hw h1, ?_⟩
  intro σ H env l o h e D post
  obtain ⟨⟨r, e1⟩, ea, e⟩ := Res.bind_ok e
  obtain ⟨⟨d, e2⟩, eb, e⟩ := Res.bind_ok e
  replace eb := Res.ofO_ok eb
  dsimp only at e
  split at e
  · rename_i ds
    obtain ⟨e3, ec, e⟩ := Res.bind_ok e
    replace ec := Res.ofO_ok ec
    cases e
    refine s σ H env l r e1 h ea _ fun v H1 h1 => ?_
    have h2 := h1.freeze eb
    obtain ⟨G, os, rp⟩ := h2.rep
    obtain ⟨v', ev, dd⟩ := rp.shOf List.mem_cons_self
    cases ev
    cases dd with
    | @lst a xs _ hs ha =>
      refine ⟨a, xs, rfl, .of (rp.same _ _ hs), by rw [ha.length, setAll_len ec], ?_⟩
      refine setAll_ok (by rw [ha.length]) ⟨h2.len, ?_⟩ ec fun σ' h' off => post σ' H1 h' (keep_off hk off)
      have := dtAll_items rp ha
      have q := Rep.perm ⟨_, _, this⟩ (l' := (some (V.ref a), Sl.sh (.list ds)) :: ((xs.map some).zip (ds.map Sl.sh) ++ (σ.zip e2 ++ l))) perm_mid.symm
      refine q.tail.perm ?_
      rw [← List.append_assoc, ← List.append_assoc]
      exact List.perm_append_comm.append_right l
  · cases e
end

/-! ### the script, asked by its place -/
def fScLen (i : Nat) : EvF := fun env => match env[i]? with
  | some (.sc ns) => .ok (.sh (.int ns.length), env)
  | _ => .bad
def fScIx (i : Nat) (fb : EvF) : EvF := fun env => match env[i]? with
  | some (.sc ns) => do
    let (r, e1) ← fb env
    match r with
    | .sh (.int k) => do
      let n ← Res.ofO (atI ns k)
      .ok (.sh (.int n), e1)
    | _ => .bad
  | _ => .bad
theorem Hold.sc {K : PySem.W.Frag} {mg : Str → Option Value} {H : Hp} {σ : L2.St} {env : Lo} {l : List Item} {i : Nat} {ns : List Int} (h : Hold K mg H σ env l) (e : env[i]? = some (.sc ns)) : ∃ a, σ[i]? = some (some (.ref a)) ∧ SqL K H a (ns.map V.int) ∧ Hold K mg H σ env ((some (.ref a), .sc ns) :: l) := by
  obtain ⟨ov, e1⟩ := slot_at h.len e
  obtain ⟨G, os, rp⟩ := h.rep
  obtain ⟨o, ri⟩ := rp.rl.mem (List.mem_append_left _ (mem_zip e1 e))
  cases ri with
  | bx b => cases b with
    | sc hs => exact ⟨_, e1, rp.same.seq hs, h.len, Rep.perm ⟨_, _, rp.push (.bx (.sc hs))⟩ perm_mid⟩
section
variable {X : Cx} {i : Nat} {x nm : Str} {b : Expr} {fb : EvF} {npos pos p : Pos}
theorem se_scLen (hg : Gl X "len") (hm : X.mg "len" = none) (hN : X.N[i]? = some x) (hv : Vis X.env.scope x) (hd : (x == ("__debug__" : Str)) = false := by decide) (hcd : (x == ("__classdict__" : Str)) = false := by decide)
    (he : starEach [.Name x npos] X.env = (false, eval (.Name x npos) X.env) :: starEach [] X.env := by rfl) (hpl : (backTo pos (starEach [] X.env)).any (·.1) = false := by rfl) : SE X (.Call (.Name "len" p) [.Name x npos] [] pos) (fScLen i) := by
  refine ⟨_, pe_callB call_len_seq hg hm PySem.boot_len (pa_cons (pe_var hN hv hd hcd) pa_nil) (by decide) (by decide) he hpl, ?_⟩
  intro σ H env l r env' h e Q q
  unfold fScLen at e
  split at e
  · rename_i ns e0
    cases e
    obtain ⟨a, e1, hs, _⟩ := h.sc e0
    refine ⟨.ref a, e1, a, ns.map V.int, rfl, .inl hs, ?_⟩
    rw [List.length_map]
    exact q _ H (h.shV fun _ => .int _)
  · cases e
theorem se_scIx (hN : X.N[i]? = some x) (hv : Vis X.env.scope x) (hb : SE X b fb) (hd : (x == ("__debug__" : Str)) = false := by decide) (hcd : (x == ("__classdict__" : Str)) = false := by decide)
    (hs : PlainIx b := by exact fun _ _ => rfl) : SE X (.Subscript (.Name x npos) b pos) (fScIx i fb) := by
  obtain ⟨t, p', s⟩ := hb.ex
  refine ⟨_, pe_ix ix_seq (pe_var hN hv hd hcd) p' hs, ?_⟩
  intro σ H env l r env' h e Q q
  unfold fScIx at e
  split at e
  · rename_i ns e0
    obtain ⟨⟨rb, e1⟩, ea, e⟩ := Res.bind_ok e
    dsimp only at e
    split at e
    · rename_i k
      obtain ⟨n, en, e⟩ := Res.bind_ok e
      replace en := Res.ofO_ok en
      cases e
      obtain ⟨a, e1, hs, h1⟩ := h.sc e0
      refine ⟨.ref a, e1, ?_⟩
      refine s σ H env _ _ _ h1 ea _ fun v H1 h2 => ?_
      obtain ⟨G, os, rp⟩ := h2.rep
      obtain ⟨v', ev, dd⟩ := rp.shOf List.mem_cons_self
      cases ev
      cases dd
      obtain ⟨o, ri⟩ := rp.rl.mem (ov := some (.ref a)) (s := .sc ns) (List.mem_cons_of_mem _ (List.mem_append_right _ List.mem_cons_self))
      cases ri with
      | bx bb => cases bb with
        | sc hs2 =>
          refine .inl ⟨a, ns.map V.int, k, .int n, rfl, rfl, rp.same.seq hs2, ?_, q _ H1 ?_⟩
          · unfold atI at en ⊢
            rw [List.length_map]
            cases hx : ixN ns.length k with
            | none => rw [hx] at en; cases en
            | some j =>
              rw [hx] at en
              show (ns.map V.int)[j]? = some (.int n)
              rw [List.getElem?_map, show ns[j]? = some n from en]
              rfl
          · exact h2.drop.more.shV fun _ => .int n
    · cases e
  · cases e
end
end FL

/-! FL9: built-ins by name, isinstance, the law's end -/
namespace FL
open PySem PySem.Spec PyProof.Rows L2

theorem bt_len : bootBuiltins "len" = some (.builtin "len") := by decide +kernel
theorem bt_sum : bootBuiltins "sum" = some (.builtin "sum") := by decide +kernel
theorem bt_any : bootBuiltins "any" = some (.builtin "any") := by decide +kernel
theorem bt_all : bootBuiltins "all" = some (.builtin "all") := by decide +kernel
theorem bt_abs : bootBuiltins "abs" = some (.builtin "abs") := by decide +kernel
theorem bt_max : bootBuiltins "max" = some (.builtin "max") := by decide +kernel
theorem bt_isinstance : bootBuiltins "isinstance" = some (.builtin "isinstance") := by decide +kernel
theorem bt_int : bootBuiltins "int" = some (.type "int") := by decide +kernel
theorem bt_tuple : bootBuiltins "tuple" = some (.type "tuple") := by decide +kernel
theorem bt_list : bootBuiltins "list" = some (.type "list") := by decide +kernel
theorem bt_bool : bootBuiltins "bool" = some (.type "bool") := by decide +kernel
theorem bt_str : bootBuiltins "str" = some (.type "str") := by decide +kernel
section
variable {X : Cx} {a b : Expr} {fs : EvA} {fa : EvF} {p pos : Pos}
theorem se_len (hm : X.mg "len" = none) (ha : SA X [a] fs) (hg : Gl X "len" := by rfl) (he : starEach [a] X.env = (false, eval a X.env) :: starEach [] X.env := by rfl) (hpl : (backTo pos (starEach [] X.env)).any (·.1) = false := by rfl) : SE X (.Call (.Name "len" p) [a] [] pos) (fCB lenD fs) :=
  se_cB oc_len sc_len hg hm bt_len ha (by decide) (by decide) he hpl
theorem se_sum (hc : X.calm = true) (hm : X.mg "sum" = none) (ha : SA X [a] fs) (hg : Gl X "sum" := by rfl) (he : starEach [a] X.env = (false, eval a X.env) :: starEach [] X.env := by rfl) (hpl : (backTo pos (starEach [] X.env)).any (·.1) = false := by rfl) : SE X (.Call (.Name "sum" p) [a] [] pos) (fCB sumD fs) :=
  se_cB (cr_sum hc) sc_sum hg hm bt_sum ha (by decide) (by decide) he hpl
theorem se_any (hc : X.calm = true) (hm : X.mg "any" = none) (ha : SA X [a] fs) (hg : Gl X "any" := by rfl) (he : starEach [a] X.env = (false, eval a X.env) :: starEach [] X.env := by rfl) (hpl : (backTo pos (starEach [] X.env)).any (·.1) = false := by rfl) : SE X (.Call (.Name "any" p) [a] [] pos) (fCB anyD fs) :=
  se_cB (cr_any hc) sc_any hg hm bt_any ha (by decide) (by decide) he hpl
theorem se_all (hc : X.calm = true) (hm : X.mg "all" = none) (ha : SA X [a] fs) (hg : Gl X "all" := by rfl) (he : starEach [a] X.env = (false, eval a X.env) :: starEach [] X.env := by rfl) (hpl : (backTo pos (starEach [] X.env)).any (·.1) = false := by rfl) : SE X (.Call (.Name "all" p) [a] [] pos) (fCB allD fs) :=
  se_cB (cr_all hc) sc_all hg hm bt_all ha (by decide) (by decide) he hpl
theorem se_abs (hm : X.mg "abs" = none) (ha : SA X [a] fs) (hg : Gl X "abs" := by rfl) (he : starEach [a] X.env = (false, eval a X.env) :: starEach [] X.env := by rfl) (hpl : (backTo pos (starEach [] X.env)).any (·.1) = false := by rfl) : SE X (.Call (.Name "abs" p) [a] [] pos) (fCB absD fs) :=
  se_cB call_abs sc_abs hg hm bt_abs ha (by decide) (by decide) he hpl
theorem se_max (hc : X.calm = true) (hm : X.mg "max" = none) (ha : SA X [a, b] fs) (hg : Gl X "max" := by rfl) (he : starEach [a, b] X.env = (false, eval a X.env) :: starEach [b] X.env := by rfl) (hpl : (backTo pos (starEach [b] X.env)).any (·.1) = false := by rfl) : SE X (.Call (.Name "max" p) [a, b] [] pos) (fCB maxD fs) :=
  se_cB (call_max2 hc) sc_max hg hm bt_max ha (by decide) (by decide) he hpl
theorem se_tint (hm : X.mg "int" = none) (ha : SA X [a] fs) (hg : Gl X "int" := by rfl) (he : starEach [a] X.env = (false, eval a X.env) :: starEach [] X.env := by rfl) (hpl : (backTo pos (starEach [] X.env)).any (·.1) = false := by rfl) : SE X (.Call (.Name "int" p) [a] [] pos) (fCB intD fs) :=
  se_cTy call_int1 sc_int hg hm bt_int ha (by decide) (by decide) he hpl
theorem se_ttuple (hm : X.mg "tuple" = none) (ha : SA X [a] fs) (hg : Gl X "tuple" := by rfl) (he : starEach [a] X.env = (false, eval a X.env) :: starEach [] X.env := by rfl) (hpl : (backTo pos (starEach [] X.env)).any (·.1) = false := by rfl) : SE X (.Call (.Name "tuple" p) [a] [] pos) (fCB tupleD fs) :=
  se_cTy call_tuple_of sc_tuple hg hm bt_tuple ha (by decide) (by decide) he hpl
theorem se_tlist (hm : X.mg "list" = none) (ha : SA X [a] fs) (hg : Gl X "list" := by rfl) (he : starEach [a] X.env = (false, eval a X.env) :: starEach [] X.env := by rfl) (hpl : (backTo pos (starEach [] X.env)).any (·.1) = false := by rfl) : SE X (.Call (.Name "list" p) [a] [] pos) (fCB listD fs) :=
  se_cTy call_list_of sc_list hg hm bt_list ha (by decide) (by decide) he hpl

/-! ### isinstance with one built-in class -/
def tyD : D → String
  | .none => "NoneType"
  | .bool _ => "bool"
  | .int _ => "int"
  | .str _ => "str"
  | .list _ => "list"
  | .tuple _ => "tuple"
  | .dict _ => "dict"
def isiD (T : String) (d : D) : Bool := tyD d == T || (T == "int" && tyD d == "bool")
def isiTys : List String := ["int", "bool", "str", "list", "tuple"]
theorem isi_all : ∀ a ∈ ["NoneType", "bool", "int", "str", "list", "tuple"], ∀ T ∈ isiTys, kitB a T = some (a == T || (T == "int" && a == "bool")) := by decide +kernel
def fIsi (T : String) (fa : EvF) : EvF := fOp1 (fun d => some (.sh (.bool (isiD T d)))) fa
theorem tyX_of {K : PySem.W.Frag} {G H : Hp} {v : V} {d : D} (sm : Same G H) (h : DpT K G H v d) : TyX K H v (.type (tyD d)) ∧ tyD d ∈ ["NoneType", "bool", "int", "str", "list", "tuple"] := by
  rcases h with h | ⟨p, vs, ds, rfl, rfl, hp, _⟩
  · cases h with
    | non => exact ⟨.base .non, by decide⟩
    | bl b => exact ⟨.base (.bl b), by show "bool" ∈ _; decide⟩
    | int i => exact ⟨.base (.int i), by show "int" ∈ _; decide⟩
    | str x => exact ⟨.base (.str x), by show "str" ∈ _; decide⟩
    | lst hs ha => exact ⟨.base (.lst (sm _ _ hs)), by show "list" ∈ _; decide⟩
    | tup hs ha =>
      exact ⟨(hs.mono sm).ty, by show "tuple" ∈ _; decide⟩
  · exact ⟨.base (.lst hp), by show "list" ∈ _; decide⟩
theorem se_isi {T : String} {x : Str} {p2 : Pos} (hT : T ∈ isiTys) (hm : X.mg "isinstance" = none) (hmT : X.mg x = none) (hbT : bootBuiltins x = some (.type T)) (ha : SE X a fa) (hg : Gl X "isinstance" := by rfl) (hgT : Gl X x := by rfl) (hn : x ≠ "__name__" := by decide) (hd : (x == ("__debug__" : Str)) = false := by decide)
    (he : starEach [a, .Name x p2] X.env = (false, eval a X.env) :: starEach [.Name x p2] X.env := by rfl) (he2 : starEach [.Name x p2] X.env = (false, eval (.Name x p2) X.env) :: starEach [] X.env := by rfl) (hpl : (backTo pos (starEach [.Name x p2] X.env)).any (·.1) = false := by rfl) :
    SE X (.Call (.Name "isinstance" p) [a, .Name x p2] [] pos) (fIsi T fa) := by
  obtain ⟨t, p', s⟩ := ha.ex
  refine ⟨_, pe_callB call_isi hg hm bt_isinstance (pa_cons p' (pa_cons (pe_bltn (v := .ty T) hgT hmT hbT rfl hn hd) pa_nil he2) he) (by decide) (by decide) he hpl, ?_⟩
  intro σ H env l r env' h e Q q
  unfold fIsi fOp1 at e
  obtain ⟨⟨ra, e1⟩, ea, e⟩ := Res.bind_ok e
  obtain ⟨d, va, e⟩ := Res.bind_ok e
  replace va := Res.ofO_ok va
  cases e
  refine s σ H env l ra _ h ea _ fun v H1 h1 => ?_
  obtain ⟨G, os, rp⟩ := h1.rep
  have dx : DpT X.K G H1 v d := rp.view (σ := σ) List.mem_cons_self (fun it hi => List.mem_cons_of_mem _ (List.mem_append_left _ hi)) h1.vw va
  obtain ⟨ty, hm⟩ := tyX_of rp.same dx
  exact ⟨v, .ty T, .type (tyD d), .type T, _, rfl, .ty T, ty, kit_ty (isi_all _ hm _ hT), q _ H1 (h1.drop.shV fun _ => .bl _)⟩
end

/-! ### the law's own end -/
/-- the law's promise -/
def spLaw (K : PySem.W.Frag) : Sp := fun vs H Q _ => ∃ (a : Addr) (ns : List Int), vs = [.ref a] ∧ SqL K H a (ns.map V.int) ∧ ns.length ≤ 63 ∧ ∀ H', Q (.bl true) H'
theorem law_imp {P : Program} {w : World} {K : PySem.W.Frag} {mg : Str → Option Value} {base : Heap} {k : Nat} {f : Addr} {fd : FuncData} {ps : List Str} {F : Fn} (h : FnOk P w K mg base CX0 k f fd ps (spF K mg 1 F))
    (law : ∀ ns : List Int, ns.length ≤ 63 → ∃ as, F [.sc ns] = .ok (.sh (.bool true), as)) : FnOk P w K mg base CX0 k f fd ps (spLaw K) := by
  refine h.imp fun vs H Q E hq => ?_
  obtain ⟨a, ns, rfl, hs, hl, q⟩ := hq
  obtain ⟨as, e⟩ := law ns hl
  refine ⟨rfl, [.sc ns], [], _, as, rfl, ⟨H, [], .refl _, ?_, .nil, fun a ha => by cases ha⟩, e, fun v H' rp _ => ?_⟩
  · exact RL.cons (o := []) (os := []) (.bx (.sc hs)) .nil
  · obtain ⟨G, os, rp⟩ := rp
    obtain ⟨v', ev, d⟩ := rp.shOf List.mem_cons_self
    cases ev
    cases d
    exact q H'
theorem fnF_mk {P : Program} {w : World} {K : PySem.W.Frag} {mg : Str → Option Value} {base : Heap} {x qual : Str} {st : Stmt} {f : Addr} {fd : FuncData} {ps : List Str} {n k : Nat} {F : Fn} (Fn : Fun K x qual st f fd) (hm : mg x = some (.ref f)) (hb : Binds K fd ps []) (h : FnOk P w K mg base CX0 k f fd ps (spF K mg n F)) : FnF P w K mg base x n k F :=
  ⟨⟨f, fd, ps, hm, Fn.kp, hb, h⟩⟩
end FL

/-! FE: how the functions are reckoned, by simp -/
namespace FL
open PySem PySem.Spec PyProof.Rows L2

/-- an equation whose proof is kept -/
theorem eqq {α : Sort _} {a b : α} (h : a = b) : a = b := h
namespace Res
@[simp] theorem bind_ok' {α β : Type} (a : α) (f : α → Res β) : Res.bind (.ok a) f = f a := eqq rfl
@[simp] theorem bind_bad {α β : Type} (f : α → Res β) : Res.bind (.bad : Res α) f = .bad := eqq rfl
end Res
-- names
def varC (env : Lo) (i : Nat) : Option Sl → Res (Sl × Lo)
  | some (.sh d) => .ok (.sh d, env)
  | some (.ol _) => .ok (.vw i, env)
  | some (.od _) => .ok (.vw i, env)
  | some (.oi _ _) => .ok (.vw i, env)
  | some (.sc ns) => .ok (.sc ns, env)
  | some (.ow _) => .ok (.vw i, env)
  | _ => .bad
@[simp] theorem ev_var (i : Nat) (env : Lo) : fVar i env = varC env i env[i]? := by
  unfold fVar varC
  split <;> simp_all
@[simp] theorem varC_sh (env : Lo) (i : Nat) (d : D) : varC env i (some (.sh d)) = .ok (.sh d, env) := eqq rfl
@[simp] theorem varC_ol (env : Lo) (i : Nat) (d : List D) : varC env i (some (.ol d)) = .ok (.vw i, env) := eqq rfl
@[simp] theorem varC_od (env : Lo) (i : Nat) (d : List (Key × D)) : varC env i (some (.od d)) = .ok (.vw i, env) := eqq rfl
@[simp] theorem varC_ow (env : Lo) (i : Nat) (x : Ow) : varC env i (some (.ow x)) = .ok (.vw i, env) := eqq rfl
@[simp] theorem varC_sc (env : Lo) (i : Nat) (d : List Int) : varC env i (some (.sc d)) = .ok (.sc d, env) := eqq rfl
@[simp] theorem ev_c (d : D) (env : Lo) : fC d env = .ok (.sh d, env) := eqq rfl
-- views
@[simp] theorem view_sh (env : Lo) (d : D) : view env (.sh d) = some d := eqq rfl
@[simp] theorem view_ol (env : Lo) (d : List D) : view env (.ol d) = some (.list d) := eqq rfl
def viewC : Option Sl → Option D
  | some (.ol ds) => some (.list ds)
  | _ => none
@[simp] theorem view_vw (env : Lo) (i : Nat) : view env (.vw i) = viewC env[i]? := by
  show (match env[i]? with | some (Sl.ol ds) => some (PyData.list ds) | _ => none) = _
  unfold viewC
  split <;> simp_all
@[simp] theorem viewC_ol (ds : List D) : viewC (some (.ol ds)) = some (.list ds) := eqq rfl
-- operations
def opE (e : Lo) : Option Sl → Res (Sl × Lo)
  | some s => .ok (s, e)
  | none => .bad
@[simp] theorem opE_some (e : Lo) (s : Sl) : opE e (some s) = .ok (s, e) := eqq rfl
def opV (op : D → D → Option Sl) (e : Lo) : Option D → Option D → Res (Sl × Lo)
  | some a, some b => opE e (op a b)
  | _, _ => .bad
@[simp] theorem opV_some (op : D → D → Option Sl) (e : Lo) (a b : D) : opV op e (some a) (some b) = opE e (op a b) := eqq rfl
def opC2 (op : D → D → Option Sl) (ra : Sl) (p : Sl × Lo) : Res (Sl × Lo) := opV op p.2 (view p.2 ra) (view p.2 p.1)
def opC1 (op : D → D → Option Sl) (fb : EvF) (p : Sl × Lo) : Res (Sl × Lo) := (fb p.2).bind (opC2 op p.1)
@[simp] theorem opC1_ev (op : D → D → Option Sl) (fb : EvF) (ra : Sl) (e : Lo) : opC1 op fb (ra, e) = (fb e).bind (opC2 op ra) := eqq rfl
@[simp] theorem opC2_ev (op : D → D → Option Sl) (ra rb : Sl) (e : Lo) : opC2 op ra (rb, e) = opV op e (view e ra) (view e rb) := eqq rfl
@[simp] theorem ev_op (op : D → D → Option Sl) (fa fb : EvF) (env : Lo) : fOp op fa fb env = (fa env).bind (opC1 op fb) := by
  show (fa env).bind _ = _
  congr 1
  funext ⟨ra, e1⟩
  show (fb e1).bind _ = _
  congr 1
  funext ⟨rb, e2⟩
  show (Res.ofO (view e2 ra)).bind _ = opV op e2 (view e2 ra) (view e2 rb)
  cases view e2 ra with
  | none => rfl
  | some a =>
    show (Res.ofO (view e2 rb)).bind _ = _
    cases view e2 rb with
    | none => rfl
    | some b =>
      show (Res.ofO (op a b)).bind _ = opE e2 (op a b)
      cases op a b <;> rfl
def op1V (op : D → Option Sl) (e : Lo) : Option D → Res (Sl × Lo)
  | some a => opE e (op a)
  | none => .bad
@[simp] theorem op1V_some (op : D → Option Sl) (e : Lo) (a : D) : op1V op e (some a) = opE e (op a) := eqq rfl
def op1C (op : D → Option Sl) (p : Sl × Lo) : Res (Sl × Lo) := op1V op p.2 (view p.2 p.1)
@[simp] theorem op1C_ev (op : D → Option Sl) (ra : Sl) (e : Lo) : op1C op (ra, e) = op1V op e (view e ra) := eqq rfl
@[simp] theorem ev_op1 (op : D → Option Sl) (fa : EvF) (env : Lo) : fOp1 op fa env = (fa env).bind (op1C op) := by
  show (fa env).bind _ = _
  congr 1
  funext ⟨ra, e1⟩
  show (Res.ofO (view e1 ra)).bind _ = op1V op e1 (view e1 ra)
  cases view e1 ra with
  | none => rfl
  | some a =>
    show (Res.ofO (op a)).bind _ = opE e1 (op a)
    cases op a <;> rfl
@[simp] theorem ev_isi (T : String) (fa : EvF) (env : Lo) : fIsi T fa env = (fa env).bind (op1C fun d => some (.sh (.bool (isiD T d)))) := ev_op1 _ _ _
@[simp] theorem isiD_int (T : String) (i : Int) : isiD T (.int i) = (("int" : String) == T) := by
  unfold isiD tyD
  by_cases h : ("int" : String) == T <;> simp [h]
  all_goals (try (intro _; decide))
-- the operators' values
@[simp] theorem addD_int (i j : Int) : addD (.int i) (.int j) = some (.sh (.int (i + j))) := eqq rfl
@[simp] theorem subD_int (i j : Int) : subD (.int i) (.int j) = some (.sh (.int (i - j))) := eqq rfl
theorem mulD_int {i j : Int} (h : mulOk i j = true) : mulD (.int i) (.int j) = some (.sh (.int (i * j))) := if_pos h
theorem mulD_rep {ds : List D} {k : Int} (h : -(2^63) ≤ k ∧ k < 2^63 ∧ ds.length * k.toNat ≤ 16777216) : mulD (.list ds) (.int k) = some (.ol (List.replicate k.toNat ds).flatten) := if_pos h
theorem divD_int {i j : Int} (h : divOk i j = true) : divD (.int i) (.int j) = some (.sh (.int (i.fdiv j))) := if_pos h
theorem modD_int {i j : Int} (h : 0 < j) : modD (.int i) (.int j) = some (.sh (.int (i % j))) := if_pos h
theorem powD_int {i j : Int} (h : 0 ≤ j ∧ j ≤ 1000000 ∧ i.natAbs < 2 ^ 64) : powD (.int i) (.int j) = some (.sh (.int (i ^ j.toNat))) := if_pos h
@[simp] theorem negD_int (i : Int) : negD (.int i) = some (.sh (.int (-i))) := eqq rfl
@[simp] theorem cmpD_int (p : Int → Int → Bool) (i j : Int) : cmpD p (.int i) (.int j) = some (.sh (.bool (p i j))) := eqq rfl
theorem eqD_ok {a b : D} (ha : shapedD a = true) (hb : shapedD b = true) : eqD a b = some (.sh (.bool (PyData.eqv a b))) := if_pos ⟨ha, hb⟩
theorem neD_ok {a b : D} (ha : shapedD a = true) (hb : shapedD b = true) : neD a b = some (.sh (.bool (!PyData.eqv a b))) := if_pos ⟨ha, hb⟩
@[simp] theorem shaped_int (i : Int) : shapedD (.int i) = true := by
  unfold shapedD SeqAt.shaped
  rfl
theorem eqv_int (i j : Int) : PyData.eqv (.int i) (.int j) = (i == j) := by simp [PyData.eqv]
@[simp] theorem ixD_list (ds : List D) (i : Int) : ixD (.list ds) (.int i) = (atI ds i).map .sh := eqq rfl
@[simp] theorem ixD_tuple (ds : List D) (i : Int) : ixD (.tuple ds) (.int i) = (atI ds i).map .sh := eqq rfl
theorem at_nat {α : Type} {xs : List α} {n : Nat} {x : α} (h : xs[n]? = some x) : atI xs (n : Int) = some x := by
  have hn := (List.getElem?_eq_some_iff.mp h).1
  unfold atI ixN
  rw [if_pos (by omega), if_pos (by omega)]
  simpa using h
theorem at_int {α : Type} {xs : List α} {i : Int} {x : α} (h0 : 0 ≤ i) (h : xs[i.toNat]? = some x) : atI xs i = some x := by
  have : i = (i.toNat : Int) := by omega
  rw [this]
  exact at_nat h
-- arguments
@[simp] theorem ev_nil (env : Lo) : fNil env = .ok ([], env) := eqq rfl
def consC2 (r : Sl) (p : List Sl × Lo) : Res (List Sl × Lo) := .ok (r :: p.1, p.2)
def consC1 (fr : EvA) (p : Sl × Lo) : Res (List Sl × Lo) := (fr p.2).bind (consC2 p.1)
@[simp] theorem consC1_ev (fr : EvA) (r : Sl) (e : Lo) : consC1 fr (r, e) = (fr e).bind (consC2 r) := eqq rfl
@[simp] theorem consC2_ev (r : Sl) (rs : List Sl) (e : Lo) : consC2 r (rs, e) = .ok (r :: rs, e) := eqq rfl
@[simp] theorem ev_cons (fa : EvF) (fr : EvA) (env : Lo) : fCons fa fr env = (fa env).bind (consC1 fr) := eqq rfl
@[simp] theorem views_nil (env : Lo) : views env [] = some [] := eqq rfl
def viewsC (a : Option D) (b : Option (List D)) : Option (List D) := a.bind fun d => b.map (d :: ·)
@[simp] theorem viewsC_some (d : D) (ds : List D) : viewsC (some d) (some ds) = some (d :: ds) := eqq rfl
@[simp] theorem views_cons (env : Lo) (r : Sl) (rs : List Sl) : views env (r :: rs) = viewsC (view env r) (views env rs) := by
  unfold viewsC
  show (do let d ← view env r; let ds ← views env rs; some (d :: ds)) = _
  cases view env r <;> simp <;> cases views env rs <;> rfl
def cbV (op : List D → Option Sl) (e : Lo) : Option (List D) → Res (Sl × Lo)
  | some ds => opE e (op ds)
  | none => .bad
@[simp] theorem cbV_some (op : List D → Option Sl) (e : Lo) (ds : List D) : cbV op e (some ds) = opE e (op ds) := eqq rfl
def cbC (op : List D → Option Sl) (p : List Sl × Lo) : Res (Sl × Lo) := cbV op p.2 (views p.2 p.1)
@[simp] theorem cbC_ev (op : List D → Option Sl) (rs : List Sl) (e : Lo) : cbC op (rs, e) = cbV op e (views e rs) := eqq rfl
@[simp] theorem ev_cb (op : List D → Option Sl) (fs : EvA) (env : Lo) : fCB op fs env = (fs env).bind (cbC op) := by
  show (fs env).bind _ = _
  congr 1
  funext ⟨rs, e1⟩
  show (Res.ofO (views e1 rs)).bind _ = cbV op e1 (views e1 rs)
  cases views e1 rs with
  | none => rfl
  | some ds =>
    show (Res.ofO (op ds)).bind _ = opE e1 (op ds)
    cases op ds <;> rfl
@[simp] theorem lenD_list (ds : List D) : lenD [.list ds] = some (.sh (.int ds.length)) := eqq rfl
@[simp] theorem lenD_tuple (ds : List D) : lenD [.tuple ds] = some (.sh (.int ds.length)) := eqq rfl
@[simp] theorem sumD_ints (ns : List Int) : sumD [.list (ns.map PyData.int)] = some (.sh (.int ns.sum)) := by
  show (intsOf _).map _ = _
  rw [intsOf_map]; rfl
@[simp] theorem tupleD_list (ds : List D) : tupleD [.list ds] = some (.sh (.tuple ds)) := eqq rfl
@[simp] theorem tupleD_tuple (ds : List D) : tupleD [.tuple ds] = some (.sh (.tuple ds)) := eqq rfl
@[simp] theorem listD_list (ds : List D) : listD [.list ds] = some (.ol ds) := eqq rfl
@[simp] theorem listD_tuple (ds : List D) : listD [.tuple ds] = some (.ol ds) := eqq rfl
@[simp] theorem absD_int (i : Int) : absD [.int i] = some (.sh (.int (if i < 0 then -i else i))) := eqq rfl
@[simp] theorem intD_int (i : Int) : intD [.int i] = some (.sh (.int i)) := eqq rfl
@[simp] theorem intD_bool (b : Bool) : intD [.bool b] = some (.sh (.int (if b then 1 else 0))) := eqq rfl
-- freezing, displays
@[simp] theorem fz_sh (env : Lo) (d : D) : freezeR env (.sh d) = some (d, env) := eqq rfl
@[simp] theorem fz_ol (env : Lo) (d : List D) : freezeR env (.ol d) = some (.list d, env) := eqq rfl
def fzC (env : Lo) (i : Nat) : Option Sl → Option (D × Lo)
  | some (.ol ds) => some (.list ds, env.set i (.sh (.list ds)))
  | _ => none
@[simp] theorem fzC_ol (env : Lo) (i : Nat) (ds : List D) : fzC env i (some (.ol ds)) = some (.list ds, env.set i (.sh (.list ds))) := eqq rfl
@[simp] theorem fz_vw (env : Lo) (i : Nat) : freezeR env (.vw i) = fzC env i env[i]? := by
  show (match env[i]? with | some (Sl.ol ds) => some (PyData.list ds, env.set i (.sh (.list ds))) | _ => none) = _
  unfold fzC
  split <;> simp_all
@[simp] theorem fza_nil (env : Lo) : freezeAll env [] = some ([], env) := eqq rfl
def fzaC2 (d : D) (p : List D × Lo) : Option (List D × Lo) := some (d :: p.1, p.2)
def fzaC (rs : List Sl) (p : D × Lo) : Option (List D × Lo) := (freezeAll p.2 rs).bind (fzaC2 p.1)
@[simp] theorem fzaC_ev (rs : List Sl) (d : D) (e : Lo) : fzaC rs (d, e) = (freezeAll e rs).bind (fzaC2 d) := eqq rfl
@[simp] theorem fzaC2_ev (d : D) (ds : List D) (e : Lo) : fzaC2 d (ds, e) = some (d :: ds, e) := eqq rfl
@[simp] theorem fza_cons (env : Lo) (r : Sl) (rs : List Sl) : freezeAll env (r :: rs) = (freezeR env r).bind (fzaC rs) := eqq rfl
def tupV : Option (List D × Lo) → Res (Sl × Lo)
  | some (ds, e) => if ds.length ≤ 16777216 then .ok (.sh (.tuple ds), e) else .bad
  | none => .bad
def lstV : Option (List D × Lo) → Res (Sl × Lo)
  | some (ds, e) => if ds.length ≤ 16777216 then .ok (.ol ds, e) else .bad
  | none => .bad
@[simp] theorem tupV_some (ds : List D) (e : Lo) : tupV (some (ds, e)) = if ds.length ≤ 16777216 then .ok (.sh (.tuple ds), e) else .bad := eqq rfl
@[simp] theorem lstV_some (ds : List D) (e : Lo) : lstV (some (ds, e)) = if ds.length ≤ 16777216 then .ok (.ol ds, e) else .bad := eqq rfl
def tupC (p : List Sl × Lo) : Res (Sl × Lo) := tupV (freezeAll p.2 p.1)
def lstC (p : List Sl × Lo) : Res (Sl × Lo) := lstV (freezeAll p.2 p.1)
@[simp] theorem tupC_ev (rs : List Sl) (e : Lo) : tupC (rs, e) = tupV (freezeAll e rs) := eqq rfl
@[simp] theorem lstC_ev (rs : List Sl) (e : Lo) : lstC (rs, e) = lstV (freezeAll e rs) := eqq rfl
@[simp] theorem ev_tup (fs : EvA) (env : Lo) : fTup fs env = (fs env).bind tupC := by
  show (fs env).bind _ = _
  congr 1
  funext ⟨rs, e1⟩
  show (Res.ofO (freezeAll e1 rs)).bind _ = tupV (freezeAll e1 rs)
  cases freezeAll e1 rs <;> rfl
@[simp] theorem ev_lst (fs : EvA) (env : Lo) : fLst fs env = (fs env).bind lstC := by
  show (fs env).bind _ = _
  congr 1
  funext ⟨rs, e1⟩
  show (Res.ofO (freezeAll e1 rs)).bind _ = lstV (freezeAll e1 rs)
  cases freezeAll e1 rs <;> rfl
-- tests
def tstC : Sl × Lo → Res (Bool × Lo)
  | (.sh (.bool b), e) => .ok (b, e)
  | _ => .bad
@[simp] theorem tstC_ev (b : Bool) (e : Lo) : tstC (.sh (.bool b), e) = .ok (b, e) := eqq rfl
@[simp] theorem ev_tst (f : EvF) (env : Lo) : fTst f env = (f env).bind tstC := by
  show (f env).bind _ = _
  congr 1
  funext ⟨r, e1⟩
  cases r <;> first | rfl | (rename_i d; cases d <;> rfl)
def notC (p : Bool × Lo) : Res (Bool × Lo) := .ok (!p.1, p.2)
@[simp] theorem notC_ev (b : Bool) (e : Lo) : notC (b, e) = .ok (!b, e) := eqq rfl
@[simp] theorem ev_notT (f : EvT) (env : Lo) : fNotT f env = (f env).bind notC := eqq rfl
def andC (g : EvT) : Bool × Lo → Res (Bool × Lo)
  | (true, e) => g e
  | (false, e) => .ok (false, e)
def orC (g : EvT) : Bool × Lo → Res (Bool × Lo)
  | (true, e) => .ok (true, e)
  | (false, e) => g e
@[simp] theorem andC_t (g : EvT) (e : Lo) : andC g (true, e) = g e := eqq rfl
@[simp] theorem andC_f (g : EvT) (e : Lo) : andC g (false, e) = .ok (false, e) := eqq rfl
@[simp] theorem orC_t (g : EvT) (e : Lo) : orC g (true, e) = .ok (true, e) := eqq rfl
@[simp] theorem orC_f (g : EvT) (e : Lo) : orC g (false, e) = g e := eqq rfl
@[simp] theorem ev_andT (f g : EvT) (env : Lo) : fAndT f g env = (f env).bind (andC g) := by
  show (f env).bind _ = _
  congr 1
  funext ⟨b, e1⟩
  cases b <;> rfl
@[simp] theorem ev_orT (f g : EvT) (env : Lo) : fOrT f g env = (f env).bind (orC g) := by
  show (f env).bind _ = _
  congr 1
  funext ⟨b, e1⟩
  cases b <;> rfl
def andVC (g : EvF) : Bool × Lo → Res (Sl × Lo)
  | (true, e) => g e
  | (false, e) => .ok (.sh (.bool false), e)
def orVC (g : EvF) : Bool × Lo → Res (Sl × Lo)
  | (true, e) => .ok (.sh (.bool true), e)
  | (false, e) => g e
@[simp] theorem andVC_t (g : EvF) (e : Lo) : andVC g (true, e) = g e := eqq rfl
@[simp] theorem andVC_f (g : EvF) (e : Lo) : andVC g (false, e) = .ok (.sh (.bool false), e) := eqq rfl
@[simp] theorem orVC_t (g : EvF) (e : Lo) : orVC g (true, e) = .ok (.sh (.bool true), e) := eqq rfl
@[simp] theorem orVC_f (g : EvF) (e : Lo) : orVC g (false, e) = g e := eqq rfl
@[simp] theorem ev_andV (f g : EvF) (env : Lo) : fAndV f g env = (fTst f env).bind (andVC g) := by
  show (fTst f env).bind _ = _
  congr 1
  funext ⟨b, e1⟩
  cases b <;> rfl
@[simp] theorem ev_orV (f g : EvF) (env : Lo) : fOrV f g env = (fTst f env).bind (orVC g) := by
  show (fTst f env).bind _ = _
  congr 1
  funext ⟨b, e1⟩
  cases b <;> rfl
def notVC (p : Bool × Lo) : Res (Sl × Lo) := .ok (.sh (.bool (!p.1)), p.2)
@[simp] theorem notVC_ev (b : Bool) (e : Lo) : notVC (b, e) = .ok (.sh (.bool (!b)), e) := eqq rfl
@[simp] theorem ev_notV (f : EvF) (env : Lo) : fNotV f env = (fTst f env).bind notVC := eqq rfl
def ifC (fa fb : EvF) : Bool × Lo → Res (Sl × Lo)
  | (true, e) => fa e
  | (false, e) => fb e
@[simp] theorem ifC_t (fa fb : EvF) (e : Lo) : ifC fa fb (true, e) = fa e := eqq rfl
@[simp] theorem ifC_f (fa fb : EvF) (e : Lo) : ifC fa fb (false, e) = fb e := eqq rfl
@[simp] theorem ev_if (ft : EvT) (fa fb : EvF) (env : Lo) : fIf ft fa fb env = (ft env).bind (ifC fa fb) := by
  show (ft env).bind _ = _
  congr 1
  funext ⟨b, e1⟩
  cases b <;> rfl
@[simp] theorem ev_yes (env : Lo) : fYes env = .ok (true, env) := eqq rfl
-- slices
@[simp] theorem ev_noPart (env : Lo) : fNoPart env = .ok (none, env) := eqq rfl
def partC : Sl × Lo → Res (Option Int × Lo)
  | (.sh (.int i), e) => .ok (some i, e)
  | _ => .bad
@[simp] theorem partC_ev (i : Int) (e : Lo) : partC (.sh (.int i), e) = .ok (some i, e) := eqq rfl
@[simp] theorem ev_part (fa : EvF) (env : Lo) : fPart fa env = (fa env).bind partC := by
  show (fa env).bind _ = _
  congr 1
  funext ⟨r, e1⟩
  cases r <;> first | rfl | (rename_i d; cases d <;> rfl)
def slV (lo hi : Option Int) (e : Lo) : Option D → Res (Sl × Lo)
  | some a => opE e (sliceD a lo hi)
  | none => .bad
@[simp] theorem slV_some (lo hi : Option Int) (e : Lo) (a : D) : slV lo hi e (some a) = opE e (sliceD a lo hi) := eqq rfl
def slC3 (ra : Sl) (lo : Option Int) (p : Option Int × Lo) : Res (Sl × Lo) := slV lo p.1 p.2 (view p.2 ra)
def slC2 (fh : EvO) (ra : Sl) (p : Option Int × Lo) : Res (Sl × Lo) := (fh p.2).bind (slC3 ra p.1)
def slC1 (fl fh : EvO) (p : Sl × Lo) : Res (Sl × Lo) := (fl p.2).bind (slC2 fh p.1)
@[simp] theorem slC1_ev (fl fh : EvO) (ra : Sl) (e : Lo) : slC1 fl fh (ra, e) = (fl e).bind (slC2 fh ra) := eqq rfl
@[simp] theorem slC2_ev (fh : EvO) (ra : Sl) (lo : Option Int) (e : Lo) : slC2 fh ra (lo, e) = (fh e).bind (slC3 ra lo) := eqq rfl
@[simp] theorem slC3_ev (ra : Sl) (lo hi : Option Int) (e : Lo) : slC3 ra lo (hi, e) = slV lo hi e (view e ra) := eqq rfl
@[simp] theorem ev_slice (fa : EvF) (fl fh : EvO) (env : Lo) : fSlice fa fl fh env = (fa env).bind (slC1 fl fh) := by
  show (fa env).bind _ = _
  congr 1
  funext ⟨ra, e1⟩
  show (fl e1).bind _ = (fl e1).bind _
  congr 1
  funext ⟨lo, e2⟩
  show (fh e2).bind _ = (fh e2).bind _
  congr 1
  funext ⟨hi, e3⟩
  show (Res.ofO (view e3 ra)).bind _ = slV lo hi e3 (view e3 ra)
  cases view e3 ra with
  | none => rfl
  | some a =>
    show (Res.ofO (sliceD a lo hi)).bind _ = opE e3 (sliceD a lo hi)
    cases sliceD a lo hi <;> rfl
@[simp] theorem sliceD_list (ds : List D) (lo hi : Option Int) : sliceD (.list ds) lo hi = some (.ol (cutG ds lo hi)) := eqq rfl
@[simp] theorem sliceD_tuple (ds : List D) (lo hi : Option Int) : sliceD (.tuple ds) lo hi = some (.sh (.tuple (cutG ds lo hi))) := eqq rfl
theorem cutG_from {α : Type} (xs : List α) (k : Nat) : cutG xs (some (k : Int)) none = xs.drop k := by
  unfold cutG
  rw [HT.sIx_nat, HT.sIx_none]
  by_cases h : k ≤ xs.length
  · rw [Nat.min_eq_left h, List.take_of_length_le (by rw [List.length_drop]; exact Nat.le_refl _)]
  · rw [Nat.min_eq_right (by omega), List.drop_eq_nil_of_le (Nat.le_refl _), List.drop_eq_nil_of_le (by omega)]; simp
theorem cutG_to {α : Type} (xs : List α) (k : Nat) : cutG xs none (some (k : Int)) = xs.take k := by
  unfold cutG
  rw [HT.sIx_nat, HT.sIx_none, List.drop_zero, Nat.sub_zero]
  by_cases h : k ≤ xs.length
  · rw [Nat.min_eq_left h]
  · rw [Nat.min_eq_right (by omega), List.take_of_length_le (Nat.le_refl _), List.take_of_length_le (by omega)]
-- calls
@[simp] theorem mvi_nil (env : Lo) : moveIn env [] = ([], env) := eqq rfl
@[simp] theorem mvi_sh (env : Lo) (d : D) (rs : List Sl) : moveIn env (.sh d :: rs) = (.sh d :: (moveIn env rs).1, (moveIn env rs).2) := eqq rfl
@[simp] theorem mvi_ol (env : Lo) (d : List D) (rs : List Sl) : moveIn env (.ol d :: rs) = (.ol d :: (moveIn env rs).1, (moveIn env rs).2) := eqq rfl
@[simp] theorem mvi_ow (env : Lo) (x : Ow) (rs : List Sl) : moveIn env (.ow x :: rs) = (.ow x :: (moveIn env rs).1, (moveIn env rs).2) := eqq rfl
@[simp] theorem mvb_ow (env : Lo) (x : Ow) (rs : List Sl) (a : Sl) (as : List Sl) : moveBack env (.ow x :: rs) (a :: as) = moveBack env rs as := eqq rfl
@[simp] theorem mvi_sc (env : Lo) (d : List Int) (rs : List Sl) : moveIn env (.sc d :: rs) = (.sc d :: (moveIn env rs).1, (moveIn env rs).2) := eqq rfl
@[simp] theorem mvi_vw (env : Lo) (i : Nat) (rs : List Sl) : moveIn env (.vw i :: rs) = ((env[i]?.getD .no) :: (moveIn (env.set i .no) rs).1, (moveIn (env.set i .no) rs).2) := eqq rfl
@[simp] theorem mvb_nil (env : Lo) (as : List Sl) : moveBack env [] as = env := by cases as <;> rfl
@[simp] theorem mvb_sh (env : Lo) (d : D) (rs : List Sl) (a : Sl) (as : List Sl) : moveBack env (.sh d :: rs) (a :: as) = moveBack env rs as := eqq rfl
@[simp] theorem mvb_ol (env : Lo) (d : List D) (rs : List Sl) (a : Sl) (as : List Sl) : moveBack env (.ol d :: rs) (a :: as) = moveBack env rs as := eqq rfl
@[simp] theorem mvb_sc (env : Lo) (d : List Int) (rs : List Sl) (a : Sl) (as : List Sl) : moveBack env (.sc d :: rs) (a :: as) = moveBack env rs as := eqq rfl
@[simp] theorem mvb_vw (env : Lo) (i : Nat) (rs : List Sl) (a : Sl) (as : List Sl) : moveBack env (.vw i :: rs) (a :: as) = moveBack (env.set i a) rs as := eqq rfl
def callC2 (e2 : Lo) (rs : List Sl) (p : Sl × List Sl) : Res (Sl × Lo) := if isVw p.1 = true then .bad else .ok (p.1, moveBack e2 rs p.2)
def callC1 (F : Fn) (p : List Sl × Lo) : Res (Sl × Lo) := (F (moveIn p.2 p.1).1).bind (callC2 (moveIn p.2 p.1).2 p.1)
@[simp] theorem callC1_ev (F : Fn) (rs : List Sl) (e : Lo) : callC1 F (rs, e) = (F (moveIn e rs).1).bind (callC2 (moveIn e rs).2 rs) := eqq rfl
@[simp] theorem callC2_sh (e2 : Lo) (rs : List Sl) (d : D) (as : List Sl) : callC2 e2 rs (.sh d, as) = .ok (.sh d, moveBack e2 rs as) := eqq rfl
@[simp] theorem callC2_ol (e2 : Lo) (rs : List Sl) (d : List D) (as : List Sl) : callC2 e2 rs (.ol d, as) = .ok (.ol d, moveBack e2 rs as) := eqq rfl
@[simp] theorem ev_call (F : Fn) (fs : EvA) (env : Lo) : fCall F fs env = (fs env).bind (callC1 F) := eqq rfl
-- statements
@[simp] theorem ev_next (env : Lo) : fNext env = .ok (.nx env) := eqq rfl
@[simp] theorem ev_brk (env : Lo) : fBrk env = .ok (.bk env) := eqq rfl
@[simp] theorem ev_cont (env : Lo) : fCont env = .ok (.ct env) := eqq rfl
def seqC (g : EvS) : Out → Res Out
  | .nx e => g e
  | o => .ok o
@[simp] theorem seqC_nx (g : EvS) (e : Lo) : seqC g (.nx e) = g e := eqq rfl
@[simp] theorem seqC_rt (g : EvS) (r : Sl) (e : Lo) : seqC g (.rt r e) = .ok (.rt r e) := eqq rfl
@[simp] theorem seqC_bk (g : EvS) (e : Lo) : seqC g (.bk e) = .ok (.bk e) := eqq rfl
@[simp] theorem seqC_ct (g : EvS) (e : Lo) : seqC g (.ct e) = .ok (.ct e) := eqq rfl
@[simp] theorem ev_seq (f g : EvS) (env : Lo) : fSeq f g env = (f env).bind (seqC g) := by
  show (f env).bind _ = _
  cases f env with
  | ok o => cases o <;> rfl
  | bad => rfl
  | ex _ _ => rfl
@[simp] theorem asg_sh (e : Lo) (d : D) : asgR e (.sh d) = some (.sh d, e) := eqq rfl
@[simp] theorem asg_ol (e : Lo) (d : List D) : asgR e (.ol d) = some (.ol d, e) := eqq rfl
@[simp] theorem asg_od (e : Lo) (d : List (Key × D)) : asgR e (.od d) = some (.od d, e) := eqq rfl
@[simp] theorem asg_ow (e : Lo) (x : Ow) : asgR e (.ow x) = some (.ow x, e) := eqq rfl
@[simp] theorem ret_ow (e : Lo) (x : Ow) : retR e (.ow x) = some (.ow x, e) := eqq rfl
@[simp] theorem callC2_ow (e2 : Lo) (rs : List Sl) (x : Ow) (as : List Sl) : callC2 e2 rs (.ow x, as) = .ok (.ow x, moveBack e2 rs as) := eqq rfl
@[simp] theorem asg_sc (e : Lo) (d : List Int) : asgR e (.sc d) = some (.sc d, e) := eqq rfl
@[simp] theorem asg_vw (e : Lo) (i : Nat) : asgR e (.vw i) = (freezeR e (.vw i)).map fun p => (.sh p.1, p.2) := eqq rfl
def asgV (i : Nat) : Option (Sl × Lo) → Res Out
  | some (r, e) => if i < e.length then .ok (.nx (e.set i r)) else .bad
  | none => .bad
@[simp] theorem asgV_some (i : Nat) (r : Sl) (e : Lo) : asgV i (some (r, e)) = if i < e.length then .ok (.nx (e.set i r)) else .bad := eqq rfl
def asgC (i : Nat) (p : Sl × Lo) : Res Out := asgV i (asgR p.2 p.1)
@[simp] theorem asgC_ev (i : Nat) (r : Sl) (e : Lo) : asgC i (r, e) = asgV i (asgR e r) := eqq rfl
@[simp] theorem ev_asg (i : Nat) (fa : EvF) (env : Lo) : fAsg i fa env = (fa env).bind (asgC i) := by
  show (fa env).bind _ = _
  congr 1
  funext ⟨r, e1⟩
  show (Res.ofO (asgR e1 r)).bind _ = asgV i (asgR e1 r)
  cases asgR e1 r <;> rfl
def dropC (p : Sl × Lo) : Res Out := .ok (.nx p.2)
@[simp] theorem dropC_ev (r : Sl) (e : Lo) : dropC (r, e) = .ok (.nx e) := eqq rfl
@[simp] theorem ev_drop (fa : EvF) (env : Lo) : fDrop fa env = (fa env).bind dropC := eqq rfl
@[simp] theorem ret_sh (e : Lo) (d : D) : retR e (.sh d) = some (.sh d, e) := eqq rfl
@[simp] theorem ret_ol (e : Lo) (d : List D) : retR e (.ol d) = some (.ol d, e) := eqq rfl
def retVw (e : Lo) (i : Nat) : Option Sl → Option (Sl × Lo)
  | some (.vw _) => none
  | some s => some (s, e.set i .no)
  | none => none
@[simp] theorem retVw_ol (e : Lo) (i : Nat) (d : List D) : retVw e i (some (.ol d)) = some (.ol d, e.set i .no) := eqq rfl
@[simp] theorem retVw_ow (e : Lo) (i : Nat) (x : Ow) : retVw e i (some (.ow x)) = some (.ow x, e.set i .no) := eqq rfl
@[simp] theorem retVw_od (e : Lo) (i : Nat) (d : List (Key × D)) : retVw e i (some (.od d)) = some (.od d, e.set i .no) := eqq rfl
@[simp] theorem ret_vw (e : Lo) (i : Nat) : retR e (.vw i) = retVw e i e[i]? := by
  show (match e[i]? with | some (Sl.vw _) => none | some s => some (s, e.set i .no) | none => none) = _
  unfold retVw
  cases e[i]? with
  | none => rfl
  | some s => cases s <;> rfl
def retV : Option (Sl × Lo) → Res Out
  | some (r, e) => .ok (.rt r e)
  | none => .bad
@[simp] theorem retV_some (r : Sl) (e : Lo) : retV (some (r, e)) = .ok (.rt r e) := eqq rfl
def retC (p : Sl × Lo) : Res Out := retV (retR p.2 p.1)
@[simp] theorem retC_ev (r : Sl) (e : Lo) : retC (r, e) = retV (retR e r) := eqq rfl
@[simp] theorem ev_ret (fa : EvF) (env : Lo) : fRet fa env = (fa env).bind retC := by
  show (fa env).bind _ = _
  congr 1
  funext ⟨r, e1⟩
  show (Res.ofO (retR e1 r)).bind _ = retV (retR e1 r)
  cases retR e1 r <;> rfl
@[simp] theorem ev_retN (env : Lo) : fRetN env = .ok (.rt (.sh .none) env) := eqq rfl
def ifSC (f g : EvS) : Bool × Lo → Res Out
  | (true, e) => f e
  | (false, e) => g e
@[simp] theorem ifSC_t (f g : EvS) (e : Lo) : ifSC f g (true, e) = f e := eqq rfl
@[simp] theorem ifSC_f (f g : EvS) (e : Lo) : ifSC f g (false, e) = g e := eqq rfl
@[simp] theorem ev_ifS (ft : EvT) (f g : EvS) (env : Lo) : fIfS ft f g env = (ft env).bind (ifSC f g) := by
  show (ft env).bind _ = _
  congr 1
  funext ⟨b, e1⟩
  cases b <;> rfl
-- methods
def mutV (i : Nat) (op : List D → List D → Option (List D × D)) (es : List D) (e : Lo) : Option Sl → Res (Sl × Lo)
  | some (.ol ds) => match op ds es with
    | some (ds', y) => .ok (.sh y, e.set i (.ol ds'))
    | none => .bad
  | _ => .bad
def mutF (i : Nat) (op : List D → List D → Option (List D × D)) : Option (List D × Lo) → Res (Sl × Lo)
  | some (es, e) => mutV i op es e e[i]?
  | none => .bad
def mutC (i : Nat) (op : List D → List D → Option (List D × D)) (p : List Sl × Lo) : Res (Sl × Lo) := mutF i op (freezeAll p.2 p.1)
def mutS (i : Nat) (op : List D → List D → Option (List D × D)) (fs : EvA) (env : Lo) : Option Sl → Res (Sl × Lo)
  | some (.ol _) => (fs env).bind (mutC i op)
  | _ => .bad
@[simp] theorem mutS_ol (i : Nat) (op : List D → List D → Option (List D × D)) (fs : EvA) (env : Lo) (ds : List D) : mutS i op fs env (some (.ol ds)) = (fs env).bind (mutC i op) := eqq rfl
@[simp] theorem mutC_ev (i : Nat) (op : List D → List D → Option (List D × D)) (rs : List Sl) (e : Lo) : mutC i op (rs, e) = mutF i op (freezeAll e rs) := eqq rfl
@[simp] theorem mutF_some (i : Nat) (op : List D → List D → Option (List D × D)) (es : List D) (e : Lo) : mutF i op (some (es, e)) = mutV i op es e e[i]? := eqq rfl
theorem mutV_ol {i : Nat} {op : List D → List D → Option (List D × D)} {es : List D} {e : Lo} {ds ds' : List D} {y : D} (h : op ds es = some (ds', y)) : mutV i op es e (some (.ol ds)) = .ok (.sh y, e.set i (.ol ds')) := by
  unfold mutV
  simp [h]
@[simp] theorem ev_mut (i : Nat) (op : List D → List D → Option (List D × D)) (fs : EvA) (env : Lo) : fMut i op fs env = mutS i op fs env env[i]? := by
  unfold fMut mutS
  split
  · rename_i ds h
    try rw [h]
    show (fs env).bind _ = (fs env).bind _
    congr 1
    funext ⟨rs, e1⟩
    show (Res.ofO (freezeAll e1 rs)).bind _ = mutF i op (freezeAll e1 rs)
    cases freezeAll e1 rs with
    | none => rfl
    | some p =>
      obtain ⟨es, e2⟩ := p
      have key : ∀ o : Option Sl, o = e2[i]? → (match o with | some (Sl.ol ds) => (do let (ds', y) ← Res.ofO (op ds es); Res.ok (Sl.sh y, e2.set i (.ol ds'))) | _ => Res.bad) = mutV i op es e2 o := by
        intro o ho
        cases o with
        | none => rfl
        | some s =>
          cases s <;> first | rfl | skip
          rename_i ds2
          show (Res.ofO (op ds2 es)).bind _ = (match op ds2 es with | some (ds', y) => _ | none => Res.bad)
          cases op ds2 es with
          | none => rfl
          | some q => obtain ⟨a, b⟩ := q; rfl
      exact key _ rfl
  · rename_i h
    first
    | rfl
    | (split
       · rename_i ds3 h3; exact absurd h3 (h ds3)
       · rfl)
@[simp] theorem mutV_append (i : Nat) (d : D) (e : Lo) (ds : List D) : mutV i appendM [d] e (some (.ol ds)) = if ds.length < 16777216 then .ok (.sh .none, e.set i (.ol (ds ++ [d]))) else .bad := by
  unfold mutV appendM
  by_cases h : ds.length < 16777216 <;> simp [h]
@[simp] theorem mutV_clear (i : Nat) (e : Lo) (ds : List D) : mutV i clearM [] e (some (.ol ds)) = .ok (.sh .none, e.set i (.ol [])) := eqq rfl
@[simp] theorem mutV_reverse (i : Nat) (e : Lo) (ds : List D) : mutV i reverseM [] e (some (.ol ds)) = .ok (.sh .none, e.set i (.ol ds.reverse)) := eqq rfl
@[simp] theorem mutV_extend (i : Nat) (d : List D) (e : Lo) (ds : List D) : mutV i extendM [.list d] e (some (.ol ds)) = if ds.length + d.length ≤ 16777216 then .ok (.sh .none, e.set i (.ol (ds ++ d))) else .bad := by
  unfold mutV extendM
  by_cases h : ds.length + d.length ≤ 16777216 <;> simp [h]
-- walks
def iterV : Option (D × Lo) → Res (List Sl × List D × Lo)
  | some (.list ds, e) => .ok ([.sh (.list ds)], ds, e)
  | some (.tuple ds, e) => .ok ([.sh (.tuple ds)], ds, e)
  | _ => .bad
@[simp] theorem iterV_list (ds : List D) (e : Lo) : iterV (some (.list ds, e)) = .ok ([.sh (.list ds)], ds, e) := eqq rfl
@[simp] theorem iterV_tuple (ds : List D) (e : Lo) : iterV (some (.tuple ds, e)) = .ok ([.sh (.tuple ds)], ds, e) := eqq rfl
def iterC (p : Sl × Lo) : Res (List Sl × List D × Lo) := iterV (freezeR p.2 p.1)
@[simp] theorem iterC_ev (r : Sl) (e : Lo) : iterC (r, e) = iterV (freezeR e r) := eqq rfl
@[simp] theorem ev_iter (fa : EvF) (env : Lo) : fIter fa env = (fa env).bind iterC := by
  show (fa env).bind _ = _
  congr 1
  funext ⟨r, e1⟩
  show (Res.ofO (freezeR e1 r)).bind _ = iterV (freezeR e1 r)
  cases freezeR e1 r with
  | none => rfl
  | some p => obtain ⟨d, e2⟩ := p; cases d <;> rfl
def rngV (rs : List Sl) (e1 : Lo) : Res (List Sl × List D × Lo) :=
  match rs with
  | [.sh (.int j)] => if -(2 ^ 62) ≤ j ∧ j < 2 ^ 62 then .ok ([], rngD 0 j.toNat, e1) else .bad
  | [.sh (.int i), .sh (.int j)] => if -(2 ^ 62) ≤ i ∧ i < 2 ^ 62 ∧ -(2 ^ 62) ≤ j ∧ j < 2 ^ 62 then .ok ([], rngD i (j - i).toNat, e1) else .bad
  | _ => .bad
def rngC (p : List Sl × Lo) : Res (List Sl × List D × Lo) := rngV p.1 p.2
@[simp] theorem rngC_1 (j : Int) (e : Lo) : rngC ([.sh (.int j)], e) = if -(2 ^ 62) ≤ j ∧ j < 2 ^ 62 then .ok ([], rngD 0 j.toNat, e) else .bad := eqq rfl
@[simp] theorem rngC_2 (i j : Int) (e : Lo) : rngC ([.sh (.int i), .sh (.int j)], e) = if -(2 ^ 62) ≤ i ∧ i < 2 ^ 62 ∧ -(2 ^ 62) ≤ j ∧ j < 2 ^ 62 then .ok ([], rngD i (j - i).toNat, e) else .bad := eqq rfl
@[simp] theorem ev_rng (fs : EvA) (env : Lo) : fRng fs env = (fs env).bind rngC := eqq rfl
def zipV : Option (List D × Lo) → Res (List Sl × List D × Lo)
  | some ([a, b], e) => match seqOf a, seqOf b with
    | some xs, some ys => .ok ([.sh a, .sh b], zipD xs ys, e)
    | _, _ => .bad
  | _ => .bad
@[simp] theorem zipV_some (a b : D) (e : Lo) : zipV (some ([a, b], e)) = match seqOf a, seqOf b with
    | some xs, some ys => .ok ([.sh a, .sh b], zipD xs ys, e)
    | _, _ => .bad := eqq rfl
@[simp] theorem seqOf_list (ds : List D) : seqOf (.list ds) = some ds := eqq rfl
@[simp] theorem seqOf_tuple (ds : List D) : seqOf (.tuple ds) = some ds := eqq rfl
def zipC (p : List Sl × Lo) : Res (List Sl × List D × Lo) := zipV (freezeAll p.2 p.1)
@[simp] theorem zipC_ev (rs : List Sl) (e : Lo) : zipC (rs, e) = zipV (freezeAll e rs) := eqq rfl
@[simp] theorem ev_zip (fs : EvA) (env : Lo) : fZip fs env = (fs env).bind zipC := by
  show (fs env).bind _ = _
  congr 1
  funext ⟨rs, e1⟩
  show (Res.ofO (freezeAll e1 rs)).bind _ = zipV (freezeAll e1 rs)
  cases freezeAll e1 rs with
  | none => rfl
  | some p =>
    obtain ⟨ds, e2⟩ := p
    match ds with
    | [] => rfl
    | [_] => rfl
    | [a, b] =>
      show (Res.ofO (seqOf a)).bind _ = (match seqOf a, seqOf b with | some xs, some ys => _ | _, _ => Res.bad)
      cases seqOf a with
      | none => rfl
      | some xs =>
        show (Res.ofO (seqOf b)).bind _ = _
        cases seqOf b <;> rfl
    | _ :: _ :: _ :: _ => rfl
def forC (tg : Tgt) (b : EvS) (p : List Sl × List D × Lo) : Res Out := loopF tg b p.2.1 p.2.2
@[simp] theorem forC_ev (tg : Tgt) (b : EvS) (ks : List Sl) (ds : List D) (e : Lo) : forC tg b (ks, ds, e) = loopF tg b ds e := eqq rfl
@[simp] theorem ev_for (fi : EvI) (tg : Tgt) (b : EvS) (env : Lo) : fFor fi tg b env = (fi env).bind (forC tg b) := eqq rfl
def lcC2 (e1 : Lo) (own : List Nat) (p : List D × Lo) : Res (Sl × Lo) := .ok (.ol p.1, restoreE e1 own p.2)
@[simp] theorem lcC2_ev (e1 : Lo) (own : List Nat) (acc : List D) (e : Lo) : lcC2 e1 own (acc, e) = .ok (.ol acc, restoreE e1 own e) := eqq rfl
def lcC (tg : Tgt) (ft : EvT) (fe : EvF) (own : List Nat) (p : List Sl × List D × Lo) : Res (Sl × Lo) :=
  if ∀ j ∈ own, j < p.2.2.length then (compF tg ft fe own p.2.1 [] (wipeE p.2.2 own)).bind (lcC2 p.2.2 own) else .bad
@[simp] theorem lcC_ev (tg : Tgt) (ft : EvT) (fe : EvF) (own : List Nat) (ks : List Sl) (ds : List D) (e : Lo) : lcC tg ft fe own (ks, ds, e) = if ∀ j ∈ own, j < e.length then (compF tg ft fe own ds [] (wipeE e own)).bind (lcC2 e own) else .bad := eqq rfl
@[simp] theorem ev_lc (fi : EvI) (tg : Tgt) (ft : EvT) (fe : EvF) (own : List Nat) (env : Lo) : fLc fi tg ft fe own env = (fi env).bind (lcC tg ft fe own) := eqq rfl
@[simp] theorem wipeE_nil (e : Lo) : wipeE e [] = e := eqq rfl
@[simp] theorem wipeE_cons (e : Lo) (v : Nat) (vs : List Nat) : wipeE e (v :: vs) = (wipeE e vs).set v .no := eqq rfl
@[simp] theorem restoreE_nil (e e' : Lo) : restoreE e [] e' = e' := eqq rfl
@[simp] theorem restoreE_cons (e : Lo) (v : Nat) (vs : List Nat) (e' : Lo) : restoreE e (v :: vs) e' = restoreE e vs (e'.set v ((wipeE e vs)[v]?.getD .no)) := eqq rfl
-- unpacking
def unpV : Option Lo → Res Out
  | some e => .ok (.nx e)
  | none => .bad
@[simp] theorem unpV_some (e : Lo) : unpV (some e) = .ok (.nx e) := eqq rfl
def unpF (is : List Nat) : Option (D × Lo) → Res Out
  | some (d, e) => unpV (bindT (.tp is) d e)
  | none => .bad
@[simp] theorem unpF_some (is : List Nat) (d : D) (e : Lo) : unpF is (some (d, e)) = unpV (bindT (.tp is) d e) := eqq rfl
def unpC (is : List Nat) (p : Sl × Lo) : Res Out := unpF is (freezeR p.2 p.1)
@[simp] theorem unpC_ev (is : List Nat) (r : Sl) (e : Lo) : unpC is (r, e) = unpF is (freezeR e r) := eqq rfl
@[simp] theorem ev_unp (is : List Nat) (fa : EvF) (env : Lo) : fUnp is fa env = (fa env).bind (unpC is) := by
  show (fa env).bind _ = _
  congr 1
  funext ⟨r, e1⟩
  show (Res.ofO (freezeR e1 r)).bind _ = unpF is (freezeR e1 r)
  cases freezeR e1 r with
  | none => rfl
  | some p =>
    obtain ⟨d, e2⟩ := p
    show (Res.ofO (bindT (.tp is) d e2)).bind _ = unpV (bindT (.tp is) d e2)
    cases bindT (.tp is) d e2 <;> rfl
def unlF (is : List Nat) : Option (D × Lo) → Res Out
  | some (.list ds, e) => unpV (setAll e is ds)
  | _ => .bad
@[simp] theorem unlF_some (is : List Nat) (ds : List D) (e : Lo) : unlF is (some (.list ds, e)) = unpV (setAll e is ds) := eqq rfl
def unlC (is : List Nat) (p : Sl × Lo) : Res Out := unlF is (freezeR p.2 p.1)
@[simp] theorem unlC_ev (is : List Nat) (r : Sl) (e : Lo) : unlC is (r, e) = unlF is (freezeR e r) := eqq rfl
@[simp] theorem ev_unl (is : List Nat) (fa : EvF) (env : Lo) : fUnl is fa env = (fa env).bind (unlC is) := by
  show (fa env).bind _ = _
  congr 1
  funext ⟨r, e1⟩
  show (Res.ofO (freezeR e1 r)).bind _ = unlF is (freezeR e1 r)
  cases freezeR e1 r with
  | none => rfl
  | some p =>
    obtain ⟨d, e2⟩ := p
    cases d <;> first | rfl | skip
    rename_i ds
    show (Res.ofO (setAll e2 is ds)).bind _ = unpV (setAll e2 is ds)
    cases setAll e2 is ds <;> rfl
@[simp] theorem bindT_nm (i : Nat) (d : D) (e : Lo) : bindT (.nm i) d e = if i < e.length then some (e.set i (.sh d)) else none := eqq rfl
@[simp] theorem bindT_tp (is : List Nat) (ds : List D) (e : Lo) : bindT (.tp is) (.tuple ds) e = setAll e is ds := eqq rfl
@[simp] theorem setAll_nil (e : Lo) : setAll e [] [] = some e := eqq rfl
@[simp] theorem setAll_cons (e : Lo) (i : Nat) (is : List Nat) (d : D) (ds : List D) : setAll e (i :: is) (d :: ds) = if i < e.length then setAll (e.set i (.sh d)) is ds else none := eqq rfl
-- the script
def scL (env : Lo) : Option Sl → Res (Sl × Lo)
  | some (.sc ns) => .ok (.sh (.int ns.length), env)
  | _ => .bad
@[simp] theorem scL_sc (env : Lo) (ns : List Int) : scL env (some (.sc ns)) = .ok (.sh (.int ns.length), env) := eqq rfl
@[simp] theorem ev_scLen (i : Nat) (env : Lo) : fScLen i env = scL env env[i]? := by
  unfold fScLen scL
  split <;> simp_all
def scV (e : Lo) : Option Int → Res (Sl × Lo)
  | some n => .ok (.sh (.int n), e)
  | none => .bad
@[simp] theorem scV_some (e : Lo) (n : Int) : scV e (some n) = .ok (.sh (.int n), e) := eqq rfl
def scC (ns : List Int) : Sl × Lo → Res (Sl × Lo)
  | (.sh (.int k), e) => scV e (atI ns k)
  | _ => .bad
@[simp] theorem scC_ev (ns : List Int) (k : Int) (e : Lo) : scC ns (.sh (.int k), e) = scV e (atI ns k) := eqq rfl
def scS (fb : EvF) (env : Lo) : Option Sl → Res (Sl × Lo)
  | some (.sc ns) => (fb env).bind (scC ns)
  | _ => .bad
@[simp] theorem scS_sc (fb : EvF) (env : Lo) (ns : List Int) : scS fb env (some (.sc ns)) = (fb env).bind (scC ns) := eqq rfl
@[simp] theorem ev_scIx (i : Nat) (fb : EvF) (env : Lo) : fScIx i fb env = scS fb env env[i]? := by
  unfold fScIx scS
  split
  · rename_i ns h
    try rw [h]
    show (fb env).bind _ = (fb env).bind _
    congr 1
    funext ⟨r, e1⟩
    cases r <;> first | rfl | skip
    rename_i d
    cases d <;> first | rfl | skip
    rename_i k
    show (Res.ofO (atI ns k)).bind _ = scV e1 (atI ns k)
    cases atI ns k <;> rfl
  · rename_i h
    first
    | rfl
    | (split
       · rename_i ns h3; exact absurd h3 (h ns)
       · rfl)
-- defs
def runC (io : List Nat) (n : Nat) : Out → Res (Sl × List Sl)
  | .nx env => if n ≤ env.length then .ok (.sh .none, backArgs io n env) else .bad
  | .rt r env => if n ≤ env.length then .ok (r, backArgs io n env) else .bad
  | _ => .bad
@[simp] theorem runC_nx (io : List Nat) (n : Nat) (env : Lo) : runC io n (.nx env) = if n ≤ env.length then .ok (.sh .none, backArgs io n env) else .bad := eqq rfl
@[simp] theorem runC_rt (io : List Nat) (n : Nat) (r : Sl) (env : Lo) : runC io n (.rt r env) = if n ≤ env.length then .ok (r, backArgs io n env) else .bad := eqq rfl
theorem run_eq (m n : Nat) (io : List Nat) (b : EvS) (args : List Sl) : runFn m n io b args = (b (args ++ List.replicate (m - n) .no)).bind (runC io n) := by
  show (b (args ++ List.replicate (m - n) .no)).bind _ = _
  cases b (args ++ List.replicate (m - n) .no) with
  | ok o => cases o <;> rfl
  | bad => rfl
  | ex _ _ => rfl
theorem backArgs_eq (io : List Nat) (n : Nat) (env : Lo) : backArgs io n env = (List.range n).map fun k => if k ∈ io then env[k]?.getD .no else .no := rfl
-- turns that are written out
def loopC2 (tg : Tgt) (b : EvS) (ds : List D) : Out → Res Out
  | .nx e => loopF tg b ds e
  | .ct e => loopF tg b ds e
  | .bk e => .ok (.nx e)
  | .rt r e => .ok (.rt r e)
@[simp] theorem loopC2_nx (tg : Tgt) (b : EvS) (ds : List D) (e : Lo) : loopC2 tg b ds (.nx e) = loopF tg b ds e := eqq rfl
@[simp] theorem loopC2_ct (tg : Tgt) (b : EvS) (ds : List D) (e : Lo) : loopC2 tg b ds (.ct e) = loopF tg b ds e := eqq rfl
@[simp] theorem loopC2_bk (tg : Tgt) (b : EvS) (ds : List D) (e : Lo) : loopC2 tg b ds (.bk e) = .ok (.nx e) := eqq rfl
@[simp] theorem loopC2_rt (tg : Tgt) (b : EvS) (ds : List D) (r : Sl) (e : Lo) : loopC2 tg b ds (.rt r e) = .ok (.rt r e) := eqq rfl
def loopC1 (tg : Tgt) (b : EvS) (ds : List D) : Option Lo → Res Out
  | some e => (b e).bind (loopC2 tg b ds)
  | none => .bad
@[simp] theorem loopC1_some (tg : Tgt) (b : EvS) (ds : List D) (e : Lo) : loopC1 tg b ds (some e) = (b e).bind (loopC2 tg b ds) := eqq rfl
@[simp] theorem loop_nil (tg : Tgt) (b : EvS) (e : Lo) : loopF tg b [] e = .ok (.nx e) := eqq rfl
@[simp] theorem loop_cons (tg : Tgt) (b : EvS) (d : D) (ds : List D) (e : Lo) : loopF tg b (d :: ds) e = loopC1 tg b ds (bindT tg d e) := by
  show (Res.ofO (bindT tg d e)).bind _ = _
  cases bindT tg d e with
  | none => rfl
  | some e1 =>
    show (b e1).bind _ = (b e1).bind _
    cases b e1 with
    | ok o => cases o <;> rfl
    | bad => rfl
    | ex _ _ => rfl
/-! ### loops, by what holds before each turn -/
theorem loop_inv {tg : Tgt} {b : EvS} (Iv : Nat → Lo → Prop) (ds : List D) {env : Lo} (h0 : Iv 0 env) (hs : ∀ i d e, ds[i]? = some d → Iv i e → ∃ e1 e2, bindT tg d e = some e1 ∧ (b e1 = .ok (.nx e2) ∨ b e1 = .ok (.ct e2)) ∧ Iv (i + 1) e2) :
    ∃ e', loopF tg b ds env = .ok (.nx e') ∧ Iv ds.length e' := by
  have key : ∀ (ds : List D) (k : Nat) (env : Lo), Iv k env → (∀ i d e, ds[i]? = some d → Iv (k + i) e → ∃ e1 e2, bindT tg d e = some e1 ∧ (b e1 = .ok (.nx e2) ∨ b e1 = .ok (.ct e2)) ∧ Iv (k + i + 1) e2) → ∃ e', loopF tg b ds env = .ok (.nx e') ∧ Iv (k + ds.length) e' := by
    intro ds
    induction ds with
    | nil => intro k env h _; exact ⟨env, rfl, h⟩
    | cons d ds ih =>
      intro k env h hs
      obtain ⟨e1, e2, q1, q2, q3⟩ := hs 0 d env rfl h
      obtain ⟨e', r1, r2⟩ := ih (k + 1) e2 q3 fun i d e hd hi => by
        have := hs (i + 1) d e (by simpa using hd) (by rw [show k + (i + 1) = k + 1 + i by omega]; exact hi)
        rw [show k + (i + 1) + 1 = k + 1 + i + 1 by omega] at this
        exact this
      refine ⟨e', ?_, by rw [List.length_cons, show k + (ds.length + 1) = k + 1 + ds.length by omega]; exact r2⟩
      show (Res.ofO (bindT tg d env)).bind _ = _
      rw [q1]
      show (b e1).bind _ = _
      rcases q2 with q2 | q2 <;> rw [q2] <;> exact r1
  have := key ds 0 env h0 fun i d e hd hi => by simpa using hs i d e hd (by simpa using hi)
  simpa using this
theorem rng_len (i : Int) (n : Nat) : (rngD i n).length = n := by simp [rngD]
theorem rng_get {n i : Nat} {d : D} (h : (rngD 0 n)[i]? = some d) : i < n ∧ d = .int (i : Int) := by
  have hi : i < n := by
    have := (List.getElem?_eq_some_iff.mp h).1
    rwa [rng_len] at this
  have h2 : (rngD 0 n)[i]? = some (.int (0 + (i : Int))) := by simp [rngD, hi]
  rw [h2] at h
  injection h with h
  exact ⟨hi, by rw [← h, Int.zero_add]⟩
/-- a comprehension whose element changes nothing -/
theorem comp_map {tg : Tgt} {ft : EvT} {fe : EvF} {own : List Nat} {E : Lo} (g : D → D) : ∀ (ds acc : List D), ds.length + acc.length ≤ 16777216 →
    (∀ d ∈ ds, ∃ e1 r e3, bindT tg d E = some e1 ∧ ft e1 = .ok (true, e1) ∧ fe e1 = .ok (r, e3) ∧ (∃ e4, freezeR e3 r = some (g d, e4) ∧ wipeE e4 own = E)) → compF tg ft fe own ds acc E = .ok (acc ++ ds.map g, E)
  | [], acc, _, _ => by simp [compF]
  | d :: ds, acc, hl, h => by
    obtain ⟨e1, r, e3, q1, q2, q3, e4, q4, q5⟩ := h d List.mem_cons_self
    have hl' : ds.length + (acc ++ [g d]).length ≤ 16777216 := by simp at hl ⊢; omega
    have ih := comp_map g ds (acc ++ [g d]) hl' fun x hx => h x (List.mem_cons_of_mem _ hx)
    show (Res.ofO (bindT tg d E)).bind _ = _
    rw [q1]
    show (ft e1).bind _ = _
    rw [q2]
    show (fe e1).bind _ = _
    rw [q3]
    show (Res.ofO (freezeR e3 r)).bind _ = _
    rw [q4]
    show (if acc.length < 16777216 then compF tg ft fe own ds (acc ++ [g d]) (wipeE e4 own) else .bad) = _
    rw [if_pos (by simp at hl; omega), q5, ih]
    simp
end FL

/-! FB: sizes of numbers -/
namespace FL
open PySem PySem.Spec PyProof.Rows L2
/-- below 2 ^ k in size -/
def Bd (k : Nat) (x : Int) : Prop := x.natAbs < 2 ^ k
theorem Bd.mono {k m : Nat} {x : Int} (h : Bd k x) (hk : k ≤ m) : Bd m x := Nat.lt_of_lt_of_le h (Nat.pow_le_pow_right (by decide) hk)
theorem Bd.add {a b k : Nat} {x y : Int} (hx : Bd a x) (hy : Bd b y) (ha : a < k) (hb : b < k) : Bd k (x + y) := by
  unfold Bd at *
  obtain ⟨k, rfl⟩ : ∃ m, k = m + 1 := ⟨k - 1, by omega⟩
  have h1 : 2 ^ a ≤ 2 ^ k := Nat.pow_le_pow_right (by decide) (by omega)
  have h2 : 2 ^ b ≤ 2 ^ k := Nat.pow_le_pow_right (by decide) (by omega)
  have h3 : 2 ^ (k + 1) = 2 * 2 ^ k := by rw [Nat.pow_succ]; omega
  omega
theorem Bd.sub {a b k : Nat} {x y : Int} (hx : Bd a x) (hy : Bd b y) (ha : a < k) (hb : b < k) : Bd k (x - y) := by
  unfold Bd at *
  obtain ⟨k, rfl⟩ : ∃ m, k = m + 1 := ⟨k - 1, by omega⟩
  have h1 : 2 ^ a ≤ 2 ^ k := Nat.pow_le_pow_right (by decide) (by omega)
  have h2 : 2 ^ b ≤ 2 ^ k := Nat.pow_le_pow_right (by decide) (by omega)
  have h3 : 2 ^ (k + 1) = 2 * 2 ^ k := by rw [Nat.pow_succ]; omega
  omega
theorem Bd.neg {k : Nat} {x : Int} (hx : Bd k x) : Bd k (-x) := by unfold Bd at *; omega
theorem Bd.mul {a b : Nat} {x y : Int} (hx : Bd a x) (hy : Bd b y) : Bd (a + b) (x * y) := wide_lt hx hy
theorem Bd.pow {a : Nat} {x : Int} (hx : Bd a x) : ∀ n : Nat, 0 < n → Bd (a * n) (x ^ n)
  | 0, h => absurd h (by decide)
  | 1, _ => by rw [Int.pow_succ, Int.pow_zero, Int.one_mul, Nat.mul_one]; exact hx
  | n + 2, _ => by
    have ih := Bd.pow hx (n + 1) (by omega)
    rw [Int.pow_succ, show a * (n + 2) = a * (n + 1) + a by rw [Nat.mul_succ]]
    exact ih.mul hx
theorem Bd.lit {k : Nat} {x : Int} (h : x.natAbs < 2 ^ k := by decide) : Bd k x := h
theorem Bd.range {k : Nat} {x : Int} {m : Nat} (h1 : -(m : Int) ≤ x) (h2 : x ≤ (m : Int)) (hm : m < 2 ^ k := by decide) : Bd k x := by unfold Bd; omega
theorem Bd.mOk {a b : Nat} {x y : Int} (hx : Bd a x) (hy : Bd b y) (h : a + b ≤ 900000) : mulOk x y = true := by
  refine mulOk_log (show CMulW x y from wide_mul (a := a + 1) (b := b + 1) (hx.mono (by omega)) (hy.mono (by omega)) (by omega) (by omega) (by omega))
theorem Bd.dOk {b : Nat} {x y : Int} (h0 : y ≠ 0) (hy : Bd b y) (h : b ≤ 8999) : divOk x y = true := by
  unfold divOk
  rw [PyProof.noPylong_of_log2 (Nat.lt_of_lt_of_le (PySem.Flt.log2_lt_of (k := b + 1) (by omega) (hy.mono (by omega))) (by omega))]
  simpa using h0
theorem divOk_small {x y : Int} (h0 : y ≠ 0) (hy : y.natAbs < 1073741824) : divOk x y = true := by
  unfold divOk
  rw [PyProof.noPylong_small hy]
  simpa using h0
theorem Bd.mod {k : Nat} {x y : Int} (hy : Bd k y) (h0 : 0 < y) : Bd k (x % y) := by
  have h1 := Int.emod_nonneg x (show y ≠ 0 by omega)
  have h2 := Int.emod_lt_of_pos x h0
  unfold Bd at *; omega
theorem Bd.zero {k : Nat} : Bd k 0 := by
  unfold Bd
  exact Nat.two_pow_pos k
theorem Bd.sum {k : Nat} : ∀ (xs : List Int), (∀ x ∈ xs, Bd k x) → Bd (k + xs.length) xs.sum
  | [], _ => by
    show Bd _ 0
    exact .zero
  | x :: xs, h => by
    rw [List.sum_cons, List.length_cons]
    have h1 := h x List.mem_cons_self
    have h2 := Bd.sum xs fun y hy => h y (List.mem_cons_of_mem _ hy)
    exact (h1.add h2 (by omega) (by omega))
theorem fdiv_pos {x y : Int} (h : 0 < y) : x.fdiv y = x / y := Int.fdiv_eq_ediv_of_nonneg x (by omega)
end FL

/-! FM: list(reversed(x)), ranges that go down, xs[i] = v -/
namespace FL
open PySem PySem.Spec PyProof.Rows RT
section
variable {prog : Program} {w : World} {A : Around} {E : Value → Shared → Prop} {s : Shared}
theorem list_init_rev {R : Result → Shared → Prop} {it l : Addr} {items : Array Value} (hh : A.handled = none) (hit : s.heap.IsRevIter it l ((items.size : Int) - 1)) (hl : s.heap.IsList l items) (hne : l ≠ it) (hn : items.size ≤ sizeLine)
    (S : Addr) (hSi : S ≠ it) (hSl : S ≠ l) (hS : s.heap.get? S = some { cls := .type "list", data := .seq #[] })
    (hR : ∀ h' tk acc' c', (∀ b o, b ≠ S → b ≠ it → s.heap.get? b = some o → h'.get? b = some o) → h'.get? S = some { cls := .type "list", dict := none, data := .seq acc' c', slots := #[] } →
      ItemsOf (fun i v => items[items.size - 1 - i]? = some v) acc' items.size → R (.ok (.ret .none)) { s with heap := h', toks := tk }) :
    wpAny (model prog w) A.in1 (Builtin.«list.__init__» ⟨[.ref S, .ref it], []⟩)
      (fun fin s' => match fin with | .done f => R (.ok f) s' | .again c' => c'.quiet = true ∧ codeAny (model prog w) A c' R s') (fun e s' => R (.error e) s') s := by
  have W := (Walks.listRev (prog := prog) (w := w) (A := A.in1) hh it l hne items).toS
  have hSf : S ∉ [it, l] := by simp only [List.mem_cons, List.not_mem_nil, or_false, not_or]; exact ⟨hSi, hSl⟩
  show wpAny _ _ (do let old ← Builtin.List.listItems (.ref S); Builtin.List.listUpdate (.ref S) (fun _ => #[]); letGo old.toList.reverse; Builtin.List.listExtendWith (.ref S) (.ref it) .none) _ _ s
  refine wpAny_bind ?_
  unfold Builtin.List.listItems
  refine wpAny_bind (wpAny_seqItems hS rfl (wpAny_pure ?_))
  show wpAny _ _ (updateSeq S (fun _ => #[]) >>= fun _ => letGo (#[] : Array Value).toList.reverse >>= fun _ => Builtin.List.listExtendWith (.ref S) (.ref it) .none) _ _ s
  refine wpAny_bind (wpAny_updateSeq hS rfl ?_)
  have hS₂ := Heap.get?_update_self (Obj.mapSeq (fun _ => (#[] : Array Value))) hS rfl
  have oth : ∀ b o, b ≠ S → s.heap.get? b = some o → (s.heap.update S (Obj.mapSeq (fun _ => (#[] : Array Value)))).get? b = some o :=
    fun b o hb e => (Heap.get?_update_other _ _ (Ne.symm hb)).trans e
  refine wpAny_bind (wpAny_letGo ?_)
  generalize hh2 : s.heap.update S (Obj.mapSeq (fun _ => (#[] : Array Value))) = h2 at hS₂ oth ⊢
  have hit1 : h2.IsRevIter it l ((items.size : Int) - 1) := hit.at fun o e => oth it o (Ne.symm hSi) e
  have hl1 : h2.IsList l items := let ⟨o, e, r⟩ := hl; ⟨o, oth l o (Ne.symm hSl) e, r⟩
  have hT : ({ s with heap := h2 } : Shared).TypeIs (.ref it) "list_reverseiterator" := Heap.IsRevIter.typeIs (s := { s with heap := h2 }) hit1
  have h1 : Builtin.List.listSameRef (.ref S) (.ref it) = false := by simp [Builtin.List.listSameRef, hSi]
  unfold Builtin.List.listExtendWith
  refine wpAny_bind (wpAny_typeOf hT ?_)
  rw [if_neg (by rw [h1]; decide)]
  refine wpAny_bind (wpAny_pyIter_revIter (s := { s with heap := h2 }) hit1 ?_)
  refine wpAny_bind (wpAny_holding ?_)
  unfold Builtin.List.listLengthHint
  refine wpAny_bind (wpAny_specialOf hT nolen_lri ?_)
  show wpAny _ A.in1 (specialOf (Value.ref it) (Str.ofString "__length_hint__") >>= _) _ _ _
  refine wpAny_bind (wpAny_specialOf hT hint_lri ?_)
  generalize hid : ("list_reverseiterator.__length_hint__" : String) = id0
  wp_delta
  rw [show splitId id0 = some ("list_reverseiterator", "__length_hint__") from by subst hid; decide +kernel]
  subst hid
  refine wpAny_bind (wpAny_isInstance (b := true) hT (by rw [isSubtype_type]; kernel_rfl) ?_)
  refine wpAny_pure ?_
  rw [if_neg (by decide)]
  have e0 : ((items.size : Nat) : Int) - 1 - ((0 : Nat) : Int) = (items.size : Int) - 1 := by omega
  refine wpAny_pure ⟨plainId_quiet F.plain_extend_loop _, codeAny_extend_loopS W hn S hSf _ items.size 0 _ _ _ rfl (Nat.zero_le _) ⟨Nat.zero_le _, by rw [e0]; exact hit1, hl1⟩ hS₂ (ItemsOf.nil _) fun s' acc' c' hm hS' hacc => ?_⟩
  rw [Moved.eq_with hm]
  refine hR s'.heap s'.toks acc' c' (fun b o hb hb2 e => hm.heap b o (fun hmem => ?_) (oth b o hb e)) hS' hacc
  rcases List.mem_cons.mp hmem with e' | hmem
  · exact hb e'
  · exact hb2 (List.mem_singleton.mp hmem)
theorem call_list_rev {it l : Addr} {items : Array Value} {Q : Value → Shared → Prop} (hh : A.handled = none) (hit : s.heap.IsRevIter it l ((items.size : Int) - 1)) (hl : s.heap.IsList l items) (hne : l ≠ it) (hn : items.size ≤ sizeLine)
    (hQ : ∀ h' tk acc' c', (∀ b o, b ≠ it → s.heap.get? b = some o → h'.get? b = some o) → h'.get? s.heap.objs.size = some { cls := .type "list", dict := none, data := .seq acc' c', slots := #[] } →
      ItemsOf (fun i v => items[items.size - 1 - i]? = some v) acc' items.size → Q (.ref s.heap.objs.size) { s with heap := h', toks := tk }) :
    wpAny (model prog w) A (call (.type "list") [.ref it]) Q E s := by
  refine callType_codes (Q₁ := fun obj s₁ => obj = .ref s.heap.objs.size ∧ s₁ = { s with heap := s.heap.push { cls := .type "list", data := .seq #[] } }) F.called_list (F.typeCall_list_1 _) F.entry_list_init
    (code_list_new _ ⟨rfl, rfl⟩) fun obj s₁ h₁ => ?_
  obtain ⟨rfl, rfl⟩ := h₁
  obtain ⟨oi, hoi, _⟩ := id hit
  obtain ⟨ol, hol, _⟩ := id hl
  have hS : (s.heap.push { cls := .type "list", data := .seq #[] }).get? s.heap.objs.size = some { cls := .type "list", data := .seq #[] } := Heap.get?_push_size _ rfl
  refine ⟨⟨_, hS, rfl⟩, F.args_list_init_2 _ _, list_init_rev (A := A.in1) hh (hit.at fun o e => Heap.get?_push_of_some _ e) (hl.push _) hne hn _ (Nat.ne_of_gt (Heap.lt_size hoi)) (Nat.ne_of_gt (Heap.lt_size hol)) hS fun h' tk acc' c' hk hS' hacc => ?_⟩
  exact ⟨rfl, hQ h' tk acc' c' (fun b o hb e => hk b o (Nat.ne_of_lt (Heap.lt_size e)) hb (Heap.get?_push_of_some _ e)) hS' hacc⟩
end
end FL
namespace FL
open PySem PySem.Spec PyProof.Rows L2
open RT (vals_rev)
/-- list(reversed(x)), x a list: a new list -/
def rLR (K : PySem.W.Frag) (v : V) (H1 : Hp) (Q : VK) : Prop := ∃ (a : Addr) (xs : List V), v = .ref a ∧ SqL K H1 a xs ∧ ∀ q, H1 q = none → Q (.ref q) (upd H1 q (.lst xs.reverse))
section
variable {X : Cx}
theorem pe_lstRev {e : Expr} {te : TE} {p p2 pos pos2 : Pos} (hc : X.calm = true) (hg : Gl X "list") (hm : X.mg "list" = none) (hg2 : Gl X "reversed") (hm2 : X.mg "reversed" = none) (he : PE X e te)
    (hs : starEach [e] X.env = (false, eval e X.env) :: starEach [] X.env := by rfl)
    (hs2 : starEach [.Call (.Name "reversed" p2) [e] [] pos2] X.env = (false, eval (.Call (.Name "reversed" p2) [e] [] pos2) X.env) :: starEach [] X.env := by rfl) :
    PE X (.Call (.Name "list" p) [.Call (.Name "reversed" p2) [e] [] pos2] [] pos) (fun σ H Q => te σ H fun x H1 => rLR X.K x H1 Q) := by
  refine ⟨fun pins s σ H Q I h => ?_⟩
  refine Call_ (ld_blt I hg hm boot_list (PyProof.Rows.callWith_type1 (args_cons (Call_ (ld_blt I hg2 hm2 PyProof.Rows.boot_reversed (PyProof.Rows.callWith_type1 (args_cons (thn (he.run pins s σ H _ I h) fun u s1 ⟨v, H1, I1, r1, q1⟩ => args_nil ?_) hs) hs rfl))) hs2) hs2 rfl))
  obtain ⟨a, xs, ev, hq, q⟩ := q1
  subst ev
  obtain rfl : u = Value.ref a := r1
  obtain ⟨its, rv, p', hz⟩ := I1.list hq
  refine call_reversed_list p'.isList (args_nil ?_)
  have k0 : ∀ b o, s1.heap.get? b = some o → (s1.heap.push (revObj a ((its.toArray.size : Int) - 1))).get? b = some o := fun b o e => Heap.get?_push_of_some _ e
  have hl := p'.isList
  obtain ⟨ol, hol, _⟩ := id hl
  have hne : a ≠ s1.heap.objs.size := Nat.ne_of_lt (Heap.lt_size hol)
  have hn : its.toArray.size ≤ sizeLine := by rw [List.size_toArray, ← rv.length]; exact hz
  have hsz : (s1.heap.push (revObj a ((its.toArray.size : Int) - 1))).objs.size = s1.heap.objs.size + 1 := by simp [Heap.push]
  refine call_list_rev (s := { s1 with heap := s1.heap.push (revObj a ((its.toArray.size : Int) - 1)) }) (I1.ok.hd hc) ⟨_, Heap.get?_push_size _ rfl, rfl, rfl⟩ (hl.push _) hne hn fun h' tk acc c' hk e' hi => ?_
  refine ⟨.ref (s1.heap.push (revObj a ((its.toArray.size : Int) - 1))).objs.size, upd H1 (s1.heap.push (revObj a ((its.toArray.size : Int) - 1))).objs.size (.lst xs.reverse), I1.laid (t' := tk) (fun b o e => hk b o (Nat.ne_of_lt (Heap.lt_size e)) (k0 b o e)) (by rw [hsz]; omega) (show ObjOk X.prog X.w _ _ _ (.lst xs.reverse) from ⟨by rw [List.length_reverse]; exact hz, acc.toList, c', vals_rev rv hi, ?_⟩), rfl, q _ (I1.hok.fresh (by rw [hsz]; omega))⟩
  rw [Array.toArray_toList]; exact e'
end
def revD : D → Option Sl
  | .list ds => some (.ol ds.reverse)
  | _ => none
theorem su_rev {K : PySem.W.Frag} : SemU K (rLR K) revD := by
  intro G H x dx s Q sm h e q
  cases dx <;> first | (cases e; done) | skip
  cases e
  obtain ⟨p, vs, rfl, hp, hv⟩ := h.list sm
  exact ⟨p, vs, rfl, .of hp, fun l hl => q _ _ (.newL hl (DtAll.reverse hv))⟩
theorem se_lrev {X : Cx} {e : Expr} {fa : EvF} {p p2 pos pos2 : Pos} (hc : X.calm = true) (hg : Gl X "list") (hm : X.mg "list" = none) (hg2 : Gl X "reversed") (hm2 : X.mg "reversed" = none) (he : SE X e fa)
    (hs : starEach [e] X.env = (false, eval e X.env) :: starEach [] X.env := by rfl)
    (hs2 : starEach [.Call (.Name "reversed" p2) [e] [] pos2] X.env = (false, eval (.Call (.Name "reversed" p2) [e] [] pos2) X.env) :: starEach [] X.env := by rfl) :
    SE X (.Call (.Name "list" p) [.Call (.Name "reversed" p2) [e] [] pos2] [] pos) (fOp1 revD fa) := by
  obtain ⟨t, p', s⟩ := he.ex
  exact ⟨_, pe_lstRev hc hg hm hg2 hm2 p' hs hs2, sem_un su_rev s⟩
@[simp] theorem revD_list (ds : List D) : revD (.list ds) = some (.ol ds.reverse) := eqq rfl

/-! ### range(i, j, -1) -/
def dnD (lo : Int) (n : Nat) : List D := (List.range n).map fun (i : Nat) => PyData.int (lo - i)
theorem itok_dn {K : PySem.W.Frag} {mg : Str → Option Value} {lo : Int} {n : Nat} : ItOk K mg (Itc lo (-1) n) [] (dnD lo n) := by
  intro i G H os L rp _
  have hl : (dnD lo n).length = n := by simp [dnD]
  refine ⟨fun d hd => ?_, fun hi => by rw [hl] at hi; show n ≤ i; omega⟩
  have hi : i < n := by
    have := (List.getElem?_eq_some_iff.mp hd).1
    rw [hl] at this; exact this
  refine ⟨hi, fun y H' hy => ?_⟩
  obtain ⟨rfl, rfl⟩ := hy
  have : d = .int (lo + (i : Int) * (-1)) := by
    unfold dnD at hd
    rw [List.getElem?_map, List.getElem?_range hi] at hd
    cases hd
    show PyData.int (lo - (i : Int)) = _
    rw [Int.mul_neg, Int.mul_one, Int.sub_eq_add_neg]
  subst this
  exact ⟨G, .refl, .int _⟩
def fRng3 (fs : EvA) : EvI := fun env => do
  let (rs, e1) ← fs env
  match rs with
  | [.sh (.int i), .sh (.int j), .sh (.int c)] => if c = -1 ∧ -(2 ^ 62) ≤ i ∧ i < 2 ^ 62 ∧ -(2 ^ 62) ≤ j ∧ j < 2 ^ 62 then .ok ([], dnD i (i - j).toNat, e1) else .bad
  | _ => .bad
theorem si_rng3 {X : Cx} {tg a b c : Expr} {fs : EvA} {p pos : Pos} (hg : Gl X "range") (hm : X.mg "range" = none) (ha : SA X [a, b, c] fs) (hs : starEach [a, b, c] X.env = (false, eval a X.env) :: starEach [b, c] X.env := by rfl) (hpl : (backTo pos (starEach [b, c] X.env)).any (·.1) = false := by rfl) :
    SI X tg (.Call (.Name "range" p) [a, b, c] [] pos) (fRng3 fs) := by
  obtain ⟨t, p', s⟩ := ha.ex
  refine ⟨_, pi_range3 hg hm p' hs hpl, ?_⟩
  intro σ H env l ks ds env' h e R q
  unfold fRng3 at e
  obtain ⟨⟨rs, e1⟩, ea, e⟩ := Res.bind_ok e
  refine s σ H env l rs e1 h ea _ fun vs H1 h1 => ?_
  dsimp only at e
  split at e
  · rename_i i j c
    split at e
    · rename_i hj
      obtain ⟨rfl, hj1, hj2, hj3, hj4⟩ := hj
      cases e
      have : vs = [V.int i, V.int j, V.int (-1)] := HoldA.int1 (ns := [i, j, -1]) h1
      subst this
      exact ⟨i, j, -1, _, rfl, RgC.neg hj1 hj2 hj3 hj4, q _ [] H1 h1.none itok_dn⟩
    · cases e
  · cases e
def rng3C (p : List Sl × Lo) : Res (List Sl × List D × Lo) :=
  match p.1 with
  | [.sh (.int i), .sh (.int j), .sh (.int c)] => if c = -1 ∧ -(2 ^ 62) ≤ i ∧ i < 2 ^ 62 ∧ -(2 ^ 62) ≤ j ∧ j < 2 ^ 62 then .ok ([], dnD i (i - j).toNat, p.2) else .bad
  | _ => .bad
@[simp] theorem rng3C_ev (i j c : Int) (e : Lo) : rng3C ([.sh (.int i), .sh (.int j), .sh (.int c)], e) = if c = -1 ∧ -(2 ^ 62) ≤ i ∧ i < 2 ^ 62 ∧ -(2 ^ 62) ≤ j ∧ j < 2 ^ 62 then .ok ([], dnD i (i - j).toNat, e) else .bad := eqq rfl
@[simp] theorem ev_rng3 (fs : EvA) (env : Lo) : fRng3 fs env = (fs env).bind rng3C := eqq rfl
theorem dn_len (i : Int) (n : Nat) : (dnD i n).length = n := by simp [dnD]
theorem dn_get {lo : Int} {n i : Nat} {d : D} (h : (dnD lo n)[i]? = some d) : i < n ∧ d = .int (lo - (i : Int)) := by
  have hi : i < n := by
    have := (List.getElem?_eq_some_iff.mp h).1
    rwa [dn_len] at this
  have h2 : (dnD lo n)[i]? = some (.int (lo - (i : Int))) := by simp [dnD, hi]
  rw [h2] at h
  injection h with h
  exact ⟨hi, h.symm⟩

/-! ### xs[k] = v of a list of one's own -/
def fStore (i : Nat) (fa fk : EvF) : EvS := fun env => do
  let (r, e1) ← fa env
  let (d, e2) ← Res.ofO (freezeR e1 r)
  match e2[i]? with
  | some (.ol _) => do
    let (rk, e3) ← fk e2
    match rk, e3[i]? with
    | .sh (.int k), some (.ol ds) => do
      let j ← Res.ofO (ixN ds.length k)
      .ok (.nx (e3.set i (.ol (ds.set j d))))
    | _, _ => .bad
  | _ => .bad
theorem sem_store {K : PySem.W.Frag} {mg : Str → Option Value} {ks : List Nat} {i : Nat} {ta tk : TE} {fa fk : EvF} (ha : SemE K mg ta fa) (hk : SemE K mg tk fk) : SemS K mg ks (tAsg ta (gSub (tVar i) tk rSetL)) (fStore i fa fk) := by
  intro σ H env l o h e D post
  unfold fStore at e
  obtain ⟨⟨r, e1⟩, ea, e⟩ := Res.bind_ok e
  obtain ⟨⟨d, e2⟩, ef, e⟩ := Res.bind_ok e
  replace ef := Res.ofO_ok ef
  dsimp only at e
  split at e
  case h_2 => cases e
  rename_i ds0 e0
  obtain ⟨⟨rk, e3⟩, ek, e⟩ := Res.bind_ok e
  dsimp only at e
  split at e
  case h_2 => cases e
  rename_i k ds e4
  obtain ⟨j, ej, e⟩ := Res.bind_ok e
  replace ej := Res.ofO_ok ej
  cases e
  refine ha σ H env l r e1 h ea _ fun v H1 h1 => ?_
  have h2 := h1.freeze ef
  obtain ⟨ov, eσ, rp0⟩ := h2.hold.take e0
  obtain ⟨G0, os0, rp0⟩ := rp0
  obtain ⟨o0, ri0⟩ := rp0.rl.mem List.mem_cons_self
  obtain ⟨p, ws0, rfl, _, hp0, ha0⟩ := ri0.ol_inv
  refine ⟨.ref p, eσ, ?_⟩
  refine hk σ H1 e2 _ _ e3 h2.hold ek _ fun y H2 h3 => ?_
  obtain ⟨ov', eσ', rp⟩ := h3.hold.take e4
  rw [eσ] at eσ'; cases eσ'
  obtain ⟨G, os, rp⟩ := rp
  obtain ⟨o1, ri⟩ := rp.rl.mem List.mem_cons_self
  obtain ⟨p', ws, ep, _, hp, hw⟩ := ri.ol_inv
  cases ep
  obtain ⟨v2, q2, dv⟩ := rp.shOf (ov := some v) (d := d) (List.mem_cons_of_mem _ (List.mem_append_right _ (List.mem_cons_of_mem _ List.mem_cons_self)))
  cases q2
  obtain ⟨y2, q3, dy⟩ := rp.shOf (ov := some y) (d := .int k) (List.mem_cons_of_mem _ (List.mem_append_right _ List.mem_cons_self))
  cases q3
  cases dy
  refine ⟨p, ws, k, j, rfl, rfl, hp, by rw [DtAll.length hw]; exact ej, ?_⟩
  refine post σ _ ⟨by rw [List.length_set]; exact h3.len, ?_⟩ .refl
  have rp2 := rp.mut (s' := .ol (ds.set j d)) (o := .lst (ws.set j v)) ol_own fun H' e => .bx (.ol e (DtAll.set dv j hw))
  have rp4 := Rep.put ⟨_, _, rp2⟩ (by rw [List.length_set]; exact h3.len) eσ
  rw [List.set_set] at rp4
  exact Rep.dropM (M := [_, _]) rp4
theorem ss_store {X : Cx} {ks : List Nat} {i : Nat} {x : Str} {e k : Expr} {fa fk : EvF} {npos spos pos : Pos} (hN : X.N[i]? = some x) (hv : Vis X.env.scope x) (he : SE X e fa) (hk : SE X k fk)
    (hd : (x == ("__debug__" : Str)) = false := by decide) (hcd : (x == ("__classdict__" : Str)) = false := by decide)
    (hs : swapsWithSole [.Subscript (.Name x npos) k spos] e pos.line X.env = pure false := by rfl) (hw : swappedStores [.Subscript (.Name x npos) k spos] e X.env = pure none := by rfl)
    (h1 : (assignEach [.Subscript (.Name x npos) k spos] X.env).map (·.2) = [assign (.Subscript (.Name x npos) k spos) X.env] := by rfl)
    (hag : ∀ v, assign (.Subscript (.Name x npos) k spos) X.env v = (do
      let ov ← holding [v] (eval (.Name x npos) X.env)
      let iv ← holding [v, ov] (eval k X.env)
      standAt spos
      holding [v, ov, iv] (setItem ov iv v)
      release [v, ov, iv] []) := by intro _; rfl) :
    SS X ks (.Assign [.Subscript (.Name x npos) k spos] e pos) (fStore i fa fk) := by
  obtain ⟨t, p, s⟩ := he.ex
  obtain ⟨t2, p2, s2⟩ := hk.ex
  exact ⟨_, ps_asg p (pg_sub (pe_var hN hv hd hcd) p2 set_list hag) hs hw h1, sem_store s s2⟩
/-! ### how these are reckoned -/
def storV (i : Nat) (d : D) (e : Lo) : Sl → Option Sl → Res Out
  | .sh (.int k), some (.ol ds) => match ixN ds.length k with
    | some j => .ok (.nx (e.set i (.ol (ds.set j d))))
    | none => .bad
  | _, _ => .bad
theorem storV_at {i : Nat} {d : D} {e : Lo} {k : Int} {ds : List D} {j : Nat} (h : ixN ds.length k = some j) : storV i d e (.sh (.int k)) (some (.ol ds)) = .ok (.nx (e.set i (.ol (ds.set j d)))) := by
  show (match ixN ds.length k with | some j => Res.ok (Out.nx (e.set i (.ol (ds.set j d)))) | none => .bad) = _
  rw [h]
theorem ixN_nat {n k : Nat} (h : k < n) : ixN n (k : Int) = some k := by
  unfold ixN
  rw [if_pos (by omega), if_pos (by omega)]
  simp
def storC2 (i : Nat) (d : D) (p : Sl × Lo) : Res Out := storV i d p.2 p.1 p.2[i]?
@[simp] theorem storC2_ev (i : Nat) (d : D) (r : Sl) (e : Lo) : storC2 i d (r, e) = storV i d e r e[i]? := eqq rfl
def storS (i : Nat) (fk : EvF) (d : D) (e : Lo) : Option Sl → Res Out
  | some (.ol _) => (fk e).bind (storC2 i d)
  | _ => .bad
@[simp] theorem storS_ol (i : Nat) (fk : EvF) (d : D) (e : Lo) (ds : List D) : storS i fk d e (some (.ol ds)) = (fk e).bind (storC2 i d) := eqq rfl
def storF (i : Nat) (fk : EvF) : Option (D × Lo) → Res Out
  | some (d, e) => storS i fk d e e[i]?
  | none => .bad
@[simp] theorem storF_some (i : Nat) (fk : EvF) (d : D) (e : Lo) : storF i fk (some (d, e)) = storS i fk d e e[i]? := eqq rfl
def storC1 (i : Nat) (fk : EvF) (p : Sl × Lo) : Res Out := storF i fk (freezeR p.2 p.1)
@[simp] theorem storC1_ev (i : Nat) (fk : EvF) (r : Sl) (e : Lo) : storC1 i fk (r, e) = storF i fk (freezeR e r) := eqq rfl
@[simp] theorem ev_store (i : Nat) (fa fk : EvF) (env : Lo) : fStore i fa fk env = (fa env).bind (storC1 i fk) := by
  show (fa env).bind _ = (fa env).bind _
  congr 1
  funext ⟨r, e1⟩
  show (Res.ofO (freezeR e1 r)).bind _ = storF i fk (freezeR e1 r)
  cases freezeR e1 r with
  | none => rfl
  | some p =>
    obtain ⟨d, e2⟩ := p
    have key2 : ∀ (rk : Sl) (e3 : Lo) (o : Option Sl), (match rk, o with | .sh (.int k), some (.ol ds) => (do let j ← Res.ofO (ixN ds.length k); Res.ok (Out.nx (e3.set i (.ol (ds.set j d))))) | _, _ => Res.bad) = storV i d e3 rk o := by
      intro rk e3 o
      unfold storV
      split
      · rename_i k ds
        cases ixN ds.length k <;> rfl
      · first
        | rfl
        | (split
           · rename_i h _ _; exact absurd rfl (h _ _ rfl)
           · rfl)
    have key : ∀ o : Option Sl, o = e2[i]? → (match o with | some (.ol _) => (do let (rk, e3) ← fk e2; match rk, e3[i]? with | .sh (.int k), some (.ol ds) => (do let j ← Res.ofO (ixN ds.length k); Res.ok (Out.nx (e3.set i (.ol (ds.set j d))))) | _, _ => Res.bad) | _ => Res.bad) = storS i fk d e2 o := by
      intro o ho
      cases o with
      | none => rfl
      | some s =>
        cases s <;> first | rfl | skip
        show (fk e2).bind _ = (fk e2).bind _
        congr 1
        funext ⟨rk, e3⟩
        exact key2 rk e3 _
    exact key _ rfl
end FL

/-! FN: walks over a slot's own list that stays its own -/
namespace FL
open PySem PySem.Spec PyProof.Rows L2
def SemIP (K : PySem.W.Frag) (mg : Str → Option Value) (w : TI) (f : EvI) (P : L2.St → List V → Prop) : Prop :=
  ∀ (σ : L2.St) (H : Hp) (env : Lo) (l : List Item) (ks : List Sl) (ds : List D) (env' : Lo), Hold K mg H σ env l → f env = .ok (ks, ds, env') → ∀ R : It → Hp → Prop,
    (∀ J vs H', HoldA K mg H' σ env' l vs ks → ItOk K mg J ((vs.map some).zip ks) ds → P σ vs → R J H') → w σ H R
theorem sem_lcK {K : PySem.W.Frag} {P : L2.St → List V → Prop} {mg : Str → Option Value} {w : TI} {fi : EvI} {g : TG} {tg : Tgt} {tt : TT} {ft : EvT} {fe : EvF} {own : List Nat} (si : SemIP K mg w fi P) (sg : SemG K mg g tg) (st : SemT K mg tt ft) (ho : ∀ k ∈ tg.slots, k ∈ own) :
    ∀ (σ : L2.St) (H : Hp) (env : Lo) (l : List Item) (r : Sl) (env' : Lo), Hold K mg H σ env l → fLc fi tg ft fe own env = .ok (r, env') → ∀ Q : VK,
      (∀ v H' vs ks ds e1, fi env = .ok (ks, ds, e1) → P σ vs → HoldV K mg H' σ env' ((vs.map some).zip ks ++ l) v r → Q v H') → tLc w g tt (tCan K mg fe) own σ H Q := by
  intro σ H env l r env' h e Q q
  unfold fLc at e
  obtain ⟨⟨ks, ds, e1⟩, ea, e⟩ := Res.bind_ok e
  dsimp only at e
  split at e
  · rename_i hown
    obtain ⟨⟨accF, e2⟩, eb, e⟩ := Res.bind_ok e
    cases e
    refine si σ H env l ks ds e1 h ea _ fun J vs H1 h1 ok hP => fun Dd hD => ?_
    -- the new list
    obtain ⟨G1, os1, rp1⟩ := h1.rep
    have h2 : Hold K mg (upd H1 Dd (.lst [])) σ e1 ((some (.ref Dd), .ol []) :: ((vs.map some).zip ks ++ l)) := ⟨h1.len, by
      have := Rp.newOl (K := K) (mg := mg) rp1 hD (.nil)
      refine Rep.perm ⟨_, _, this⟩ ?_
      refine List.Perm.trans (List.Perm.cons _ ?_) perm_mid
      rw [← List.append_assoc, ← List.append_assoc]
      exact List.perm_append_comm.append_right l⟩
    obtain ⟨sv, h3, back⟩ := h2.aside own hown
    refine ⟨fun i m H' => m + i = ds.length ∧ ∃ env3 acc, Hold K mg H' (L2.wipe σ own) env3 (sv ++ ((some (.ref Dd), .ol acc) :: ((vs.map some).zip ks ++ l))) ∧ compF tg ft fe own (ds.drop i) acc env3 = .ok (accF, e2), ⟨ds.length, rfl, _, [], h3, eb⟩, ?_⟩
    rintro i m H4 ⟨hm, env4, acc, h4, e4⟩
    obtain ⟨G4, os4, rp4⟩ := h4.rep
    obtain ⟨okg, oks⟩ := ok i G4 H4 os4 _ rp4 fun it hi => List.mem_append_right _ (List.mem_append_right _ (List.mem_cons_of_mem _ (List.mem_append_left _ hi)))
    by_cases hi : i < ds.length
    · have hd : ds[i]? = some ds[i] := List.getElem?_eq_getElem hi
      obtain ⟨go, yl⟩ := okg _ hd
      rw [List.drop_eq_getElem_cons hi] at e4
      unfold compF at e4
      obtain ⟨e5, ec, e4⟩ := Res.bind_ok e4
      replace ec := Res.ofO_ok ec
      obtain ⟨⟨b, e6⟩, et, e4⟩ := Res.bind_ok e4
      refine .inr ⟨go, fun H' => ∃ env3 acc, Hold K mg H' (L2.wipe σ own) env3 (sv ++ ((some (.ref Dd), .ol acc) :: ((vs.map some).zip ks ++ l))) ∧ compF tg ft fe own (ds.drop (i + 1)) acc env3 = .ok (accF, e2), fun H' q => ⟨m - 1, by omega, by omega, q⟩, fun x H5 hy => ?_⟩
      obtain ⟨G', gr, dd⟩ := yl x H5 hy
      have h5 : Hold K mg H5 (L2.wipe σ own) env4 ((some x, .sh ds[i]) :: (sv ++ ((some (.ref Dd), .ol acc) :: ((vs.map some).zip ks ++ l)))) := ⟨h4.len, Rep.perm ⟨_, _, (rp4.grow gr).sh dd⟩ perm_mid⟩
      refine sg _ H5 env4 e5 _ x _ h5 ec _ fun σ2 h6 off => ?_
      have hw : L2.wipe σ2 own = L2.wipe σ own := wipe_off off ho
      refine ⟨hw, ?_⟩
      refine st σ2 H5 e5 _ b e6 h6 et _ fun H6 h7 => ?_
      dsimp only at e4
      cases b with
      | false =>
        rw [if_neg Bool.false_ne_true] at e4
        refine iteF ⟨_, acc, ?_, e4⟩
        have := h7.wipe own
        rw [hw] at this
        exact this
      | true =>
        rw [if_pos rfl] at e4
        obtain ⟨⟨r, e7⟩, ef, e4⟩ := Res.bind_ok e4
        obtain ⟨⟨d', e8⟩, eg, e4⟩ := Res.bind_ok e4
        replace eg := Res.ofO_ok eg
        dsimp only at e4
        split at e4
        · rename_i hz
          refine iteT ⟨e6, _, r, e7, h7, ef, fun y H7 h8 => ?_⟩
          have h9 := h8.freeze eg
          -- the list at Dd
          have p1 : ((some y, Sl.sh d') :: (σ2.zip e8 ++ (sv ++ ((some (V.ref Dd), Sl.ol acc) :: ((vs.map some).zip ks ++ l))))).Perm ((some (V.ref Dd), Sl.ol acc) :: ((some y, Sl.sh d') :: (σ2.zip e8 ++ (sv ++ ((vs.map some).zip ks ++ l))))) := by
            refine List.Perm.trans (List.Perm.cons _ ?_) (.swap _ _ _)
            rw [← List.append_assoc, ← List.append_assoc]
            exact perm_mid.symm
          obtain ⟨G8, os8, rp8⟩ := h9.rep
          obtain ⟨os9, rp9⟩ := rp8.perm p1
          obtain ⟨o, ri⟩ := rp9.rl.mem List.mem_cons_self
          obtain ⟨p, ws, ev, _, hp, ha⟩ := ri.ol_inv
          cases ev
          obtain ⟨v', ev, dy⟩ := rp9.shOf (List.mem_cons_of_mem _ List.mem_cons_self)
          cases ev
          refine ⟨ws, hp, sizeL' (by rw [ha.length]; exact hz), wipeE e8 own, acc ++ [d'], ?_, e4⟩
          have rp10 := rp9.mut (s' := .ol (acc ++ [d'])) (o := .lst (ws ++ [y])) ol_own fun H' e => .bx (.ol e (ha.append (.one dy)))
          have h10 : Hold K mg (upd H7 Dd (.lst (ws ++ [y]))) σ2 e8 (sv ++ ((some (V.ref Dd), Sl.ol (acc ++ [d'])) :: ((vs.map some).zip ks ++ l))) := ⟨h9.len, by
            refine (Rep.tail (Rep.perm ⟨_, _, rp10⟩ (.swap _ _ _))).perm ?_
            exact perm_mid.trans (List.Perm.append_left _ perm_mid)⟩
          have := h10.wipe own
          rw [hw] at this
          exact this
        · cases e4
    · rw [List.drop_eq_nil_of_le (by omega)] at e4
      cases e4
      refine .inl ⟨oks (by omega), q _ H4 vs ks ds e1 ea hP ?_⟩
      have hb := back H4 _ _ h4
      refine ⟨hb.len, ?_, fun _ z => by cases z⟩
      have : Rep K mg H4 ((some (V.ref Dd), Sl.ol accF) :: (σ.zip (restoreE e1 own e2) ++ ((vs.map some).zip ks ++ l))) := hb.rep.perm perm_mid.symm
      exact this
  · cases e

def fTakeI (i : Nat) : EvI := fun env => match env[i]? with
  | some (.ol ds) => .ok ([.ol ds], ds, env.set i .no)
  | _ => .bad
theorem semip_take {K : PySem.W.Frag} {mg : Str → Option Value} {i : Nat} : SemIP K mg (iSeq K (tVar i)) (fTakeI i) (fun σ vs => ∃ v, vs = [v] ∧ σ[i]? = some (some v)) := by
  intro σ H env l ks ds env' h e R q
  unfold fTakeI at e
  split at e
  case h_2 => cases e
  rename_i ds' e0
  cases e
  obtain ⟨ov, eσ, rp0⟩ := h.take e0
  obtain ⟨G0, os0, rp⟩ := id rp0
  obtain ⟨o0, ri0⟩ := rp.rl.mem List.mem_cons_self
  obtain ⟨p, ws, rfl, _, hp, ha⟩ := ri0.ol_inv
  refine ⟨.ref p, eσ, .inl ⟨p, rfl, ⟨ws, .of hp⟩, q _ [.ref p] H ⟨by rw [List.length_set]; exact h.len, rp0, rfl, fun k v r e1 e2 => ?_⟩ (itok_list rfl (.inr rfl)) ⟨_, rfl, eσ⟩⟩⟩
  cases k with
  | zero => simp at e1 e2; subst e2; exact fun _ z => by cases z
  | succ k => simp at e1
def fLcB (i : Nat) (tg : Tgt) (ft : EvT) (fe : EvF) (own : List Nat) : EvF := fun env => match env[i]? with
  | some (.ol ds) => do
    let (r, e) ← fLc (fTakeI i) tg ft fe own env
    .ok (r, e.set i (.ol ds))
  | _ => fLc (fIter (fVar i)) tg ft fe own env
theorem fLc_ol {fi : EvI} {tg : Tgt} {ft : EvT} {fe : EvF} {own : List Nat} {env env' : Lo} {r : Sl} (h : fLc fi tg ft fe own env = .ok (r, env')) : ∃ ds, r = .ol ds := by
  unfold fLc at h
  obtain ⟨⟨ks, ds, e1⟩, ea, h⟩ := Res.bind_ok h
  dsimp only at h
  split at h
  · obtain ⟨⟨acc, e2⟩, eb, h⟩ := Res.bind_ok h
    cases h
    exact ⟨_, rfl⟩
  · cases h
theorem sem_iseq {K : PySem.W.Frag} {mg : Str → Option Value} {te : TE} {fa : EvF} (s : SemE K mg te fa) : SemI K mg (iSeq K te) (fIter fa) := by
  intro σ H env l ks ds env' h e R q
  unfold fIter at e
  obtain ⟨⟨r, e1⟩, ea, e⟩ := Res.bind_ok e
  obtain ⟨⟨d, e2⟩, eb, e⟩ := Res.bind_ok e
  replace eb := Res.ofO_ok eb
  refine s σ H env l r e1 h ea _ fun v H1 h1 => ?_
  have h2 := h1.freeze eb
  obtain ⟨G, os, rp⟩ := h2.rep
  obtain ⟨v', ev, dd⟩ := rp.shOf List.mem_cons_self
  cases ev
  cases dd <;> first | (cases e; done) | skip
  case lst a xs ds' hs ha =>
    cases e
    exact .inl ⟨a, rfl, ⟨xs, .of (rp.same _ _ hs)⟩, q _ [_] H1 h2.toA (itok_list rfl (.inl rfl))⟩
  case tup a xs ds' hs ha =>
    cases e
    exact .inr ⟨a, rfl, ⟨xs, (hs.mono rp.same).sq⟩, q _ [_] H1 h2.toA (itok_tup rfl)⟩
theorem sem_lcB {K : PySem.W.Frag} {mg : Str → Option Value} {i : Nat} {g : TG} {tg : Tgt} {tt : TT} {ft : EvT} {fe : EvF} {own : List Nat} (sg : SemG K mg g tg) (st : SemT K mg tt ft) (ho : ∀ k ∈ tg.slots, k ∈ own) :
    SemE K mg (tLc (iSeq K (tVar i)) g tt (tCan K mg fe) own) (fLcB i tg ft fe own) := by
  intro σ H env l r env' h e Q q
  unfold fLcB at e
  split at e
  · rename_i ds e0
    obtain ⟨⟨r1, e1⟩, ea, e⟩ := Res.bind_ok e
    cases e
    refine sem_lcK semip_take sg st ho σ H env l r e1 h ea Q fun v H' vs ks ds' e2 et hP hv => ?_
    obtain ⟨v0, rfl, eσ⟩ := hP
    unfold fTakeI at et
    rw [e0] at et
    cases et
    obtain ⟨dd, rfl⟩ := fLc_ol ea
    refine q v H' ⟨by rw [List.length_set]; exact hv.len, ?_, fun _ z => by cases z⟩
    have h1 : Rep K mg H' ((some v0, Sl.ol ds) :: (σ.zip e1 ++ ((some v, Sl.ol dd) :: l))) := by
      refine hv.rep.perm ?_
      refine List.Perm.trans (List.Perm.cons _ (perm_mid (A := σ.zip e1) (a := (some v0, Sl.ol ds)) (B := l)).symm) ?_
      exact (List.Perm.swap _ _ _).trans (List.Perm.cons _ perm_mid)
    have h2 := Rep.put h1 hv.len eσ
    exact h2.perm perm_mid.symm
  · exact sem_lc (sem_iseq sem_var) sg st ho σ H env l r env' h e Q q
/-- a loop over a slot's own list -/
def putB (i : Nat) (ds : List D) : Out → Out
  | .nx e => .nx (e.set i (.ol ds))
  | .bk e => .bk (e.set i (.ol ds))
  | .ct e => .ct (e.set i (.ol ds))
  | .rt r e => .rt r (e.set i (.ol ds))
def fForB (i : Nat) (tg : Tgt) (b : EvS) : EvS := fun env => match env[i]? with
  | some (.ol ds) => do
    let o ← loopF tg b ds (env.set i .no)
    .ok (putB i ds o)
  | _ => fFor (fIter (fVar i)) tg b env
theorem PostS.weak {K : PySem.W.Frag} {mg : Str → Option Value} {D : Ends} {i : Nat} {ks : List Nat} {σ : L2.St} {l : List Item} {o : Out} (p : PostS K mg D ks σ l o) : PostS K mg D (i :: ks) σ l o := by
  have w : ∀ {σ' : L2.St}, KeepEq (i :: ks) σ σ' → KeepEq ks σ σ' := fun h k hk => h k (List.mem_cons_of_mem _ hk)
  cases o with
  | nx e => exact fun σ' H' h q => p σ' H' h (w q)
  | bk e => exact fun σ' H' h q => p σ' H' h (w q)
  | ct e => exact fun σ' H' h q => p σ' H' h (w q)
  | rt r e => exact fun v σ' H' h n q => p v σ' H' h n (w q)
section
variable {X : Cx} {ks : List Nat} {tg : Expr} {body : List Stmt} {b : EvS} {pos npos : Pos} {g : TG} {tt : Tgt} {i : Nat} {x : Str}
theorem ss_forB (hp : PassesOwn (model X.prog X.w) X.A X.env X.xe) (hc : X.calm = true) (hN : X.N[i]? = some x) (hv : Vis X.env.scope x) (hg : PG X tg g) (sg : SemG X.K X.mg g tt) (hb : SSs X (i :: ks) body b) (hk : ∀ k ∈ i :: ks, k ∉ tt.slots := by decide)
    (hd : (x == ("__debug__" : Str)) = false := by decide) (hcd : (x == ("__classdict__" : Str)) = false := by decide)
    (hs : ∀ y, foldedSetIterable (.Name x npos) X.env y = pure y := by intro _; rfl) : SS X ks (.For tg (.Name x npos) body [] pos) (fForB i tt b) := by
  obtain ⟨t, p, s⟩ := hb.ex
  refine ⟨_, ps_for hp hc (pi_seq (pe_var hN hv hd hcd)) hg p hs, ?_⟩
  intro σ H env l o h e D post
  unfold fForB at e
  split at e
  · rename_i ds e0
    obtain ⟨o1, ea, e⟩ := Res.bind_ok e
    cases e
    refine semip_take σ H env l [.ol ds] ds (env.set i .no) h (by unfold fTakeI; rw [e0]) _ fun J vs H1 h1 ok hP => ?_
    obtain ⟨v0, rfl, eσ⟩ := hP
    refine sem_loop (l := l) sg s hk ok ⟨h1.len, ?_⟩ ea ?_
    · refine h1.rep.perm ?_
      rw [← List.append_assoc, ← List.append_assoc]
      exact List.perm_append_comm.append_right l
    · have key : ∀ {σ' : L2.St} {H' : Hp} {e' : Lo} {l' : List Item}, Hold X.K X.mg H' σ' e' ((some v0, Sl.ol ds) :: l') → KeepEq (i :: ks) σ σ' → Hold X.K X.mg H' σ' (e'.set i (.ol ds)) l' := by
        intro σ' H' e' l' hh kk
        have eσ' : σ'[i]? = some (some v0) := by rw [kk i List.mem_cons_self]; exact eσ
        exact ⟨by rw [List.length_set]; exact hh.len, Rep.put (hh.rep.perm perm_mid.symm) hh.len eσ'⟩
      have w : ∀ {σ' : L2.St}, KeepEq (i :: ks) σ σ' → KeepEq ks σ σ' := fun h k hk => h k (List.mem_cons_of_mem _ hk)
      cases o1 with
      | nx e1 => exact fun σ' H' h q => post σ' H' (key h q) (w q)
      | bk e1 => exact fun σ' H' h q => post σ' H' (key h q) (w q)
      | ct e1 => exact fun σ' H' h q => post σ' H' (key h q) (w q)
      | rt r e1 =>
        intro v σ' H' hv n q
        have h1 : Hold X.K X.mg H' σ' e1 ((some v0, Sl.ol ds) :: ((some v, r) :: l)) := ⟨hv.len, by
          refine hv.rep.perm ?_
          refine perm_mid.trans (List.Perm.append_left _ ?_)
          exact .swap _ _ _⟩
        have h2 := key h1 q
        exact post v σ' H' ⟨h2.len, h2.rep.perm perm_mid.symm, fun j z => by subst z; cases n⟩ n (w q)
  · unfold fFor at e
    obtain ⟨⟨ksl, ds, e1⟩, ea, e⟩ := Res.bind_ok e
    refine sem_iseq sem_var σ H env l ksl ds e1 h ea _ fun J vs H1 h1 ok => ?_
    refine sem_loop sg s hk ok ⟨h1.len, ?_⟩ e post.weak.more
    refine h1.rep.perm ?_
    rw [← List.append_assoc, ← List.append_assoc]
    exact List.perm_append_comm.append_right l
end
section
variable {X : Cx} {elt tg : Expr} {ifs : List Expr} {scope : Scope} {own : List (Str × Nat)} {pos spos py npos : Pos} {g : TG} {tt : Tgt} {ft : EvT} {fe : EvF} {i j : Nat} {x y : Str} {ks : List Nat}
theorem se_lcB (hc : X.calm = true) (hN : X.N.Nodup) (hi : X.N[j]? = some x) (hv : Vis X.env.scope x) (ok : BlkOk X.N X.env.scope scope own) (sg : SemG X.K X.mg g tt) (ho : ∀ k ∈ tt.slots, k ∈ own.map (·.2))
    (hg : ∀ (s : Shared) (H : Hp) (C : Addr) (cl : List (Str × Addr)) (fp : List Addr), PG (X.blk s H scope (compEnvC scope cl C X.env) fp) tg g) (ht : ∀ (s : Shared) (H : Hp) (C : Addr) (cl : List (Str × Addr)) (fp : List Addr), STs (X.blk s H scope (compEnvC scope cl C X.env) fp) ifs ft)
    (he : ∀ (s : Shared) (H : Hp) (C : Addr) (cl : List (Str × Addr)) (fp : List Addr), SE (X.blk s H scope (compEnvC scope cl C X.env) fp) elt fe) (hd : (x == ("__debug__" : Str)) = false := by decide) (hcd : (x == ("__classdict__" : Str)) = false := by decide)
    (hs : ∀ z, foldedSetIterable (.Name x npos) X.env z = pure z := by intro _; rfl) :
    SE X (.ListComp elt [⟨tg, .Name x npos, ifs, 0⟩] scope pos) (fLcB j tt ft fe (own.map (·.2))) :=
  ⟨_, pe_lc hc hN (pi_seq (pe_var hi hv hd hcd)) ok hg (fun s H C cl fp => (ht s H C cl fp).pts) (fun s H C cl fp => (he s H C cl fp).canon) hs, sem_lcB sg semt_can ho⟩
theorem ss_setLcB (hc : X.calm = true) (hN : X.N.Nodup) (hy : X.N[i]? = some y) (hyl : X.env.scope.names.lookup y = some .local)
    (hsw : swapsWith (.ListComp elt [⟨tg, .Name x npos, ifs, 0⟩] scope pos) (some (.Name y py)) spos.line X.env = pure true) (hi : X.N[j]? = some x) (hv : Vis X.env.scope x) (ok : BlkOk X.N X.env.scope scope own) (sg : SemG X.K X.mg g tt) (ho : ∀ k ∈ tt.slots, k ∈ own.map (·.2))
    (hg : ∀ (s : Shared) (H : Hp) (C : Addr) (cl : List (Str × Addr)) (fp : List Addr), PG (X.blk s H scope (compEnvC scope cl C X.env) fp) tg g) (ht : ∀ (s : Shared) (H : Hp) (C : Addr) (cl : List (Str × Addr)) (fp : List Addr), STs (X.blk s H scope (compEnvC scope cl C X.env) fp) ifs ft)
    (he : ∀ (s : Shared) (H : Hp) (C : Addr) (cl : List (Str × Addr)) (fp : List Addr), SE (X.blk s H scope (compEnvC scope cl C X.env) fp) elt fe) (hk : i ∉ ks := by decide) (hd : (x == ("__debug__" : Str)) = false := by decide) (hcd : (x == ("__classdict__" : Str)) = false := by decide)
    (hs : ∀ z, foldedSetIterable (.Name x npos) X.env z = pure z := by intro _; rfl) :
    SS X ks (.Assign [.Name y py] (.ListComp elt [⟨tg, .Name x npos, ifs, 0⟩] scope pos) spos) (fAsg i (fLcB j tt ft fe (own.map (·.2)))) :=
  ⟨_, ps_setLc hc hN hy hyl hsw (pi_seq (pe_var hi hv hd hcd)) ok hg (fun s H C cl fp => (ht s H C cl fp).pts) (fun s H C cl fp => (he s H C cl fp).canon) hs, sem_asg (sem_lcB sg semt_can ho) hk⟩
end
/-! ### how these are reckoned -/
def putC (i : Nat) (ds : List D) (o : Out) : Res Out := .ok (putB i ds o)
@[simp] theorem putC_ev (i : Nat) (ds : List D) (o : Out) : putC i ds o = .ok (putB i ds o) := eqq rfl
@[simp] theorem putB_nx (i : Nat) (ds : List D) (e : Lo) : putB i ds (.nx e) = .nx (e.set i (.ol ds)) := eqq rfl
@[simp] theorem putB_rt (i : Nat) (ds : List D) (r : Sl) (e : Lo) : putB i ds (.rt r e) = .rt r (e.set i (.ol ds)) := eqq rfl
def forBC (i : Nat) (tg : Tgt) (b : EvS) (env : Lo) : Option Sl → Res Out
  | some (.ol ds) => (loopF tg b ds (env.set i .no)).bind (putC i ds)
  | _ => fFor (fIter (fVar i)) tg b env
@[simp] theorem forBC_ol (i : Nat) (tg : Tgt) (b : EvS) (env : Lo) (ds : List D) : forBC i tg b env (some (.ol ds)) = (loopF tg b ds (env.set i .no)).bind (putC i ds) := eqq rfl
@[simp] theorem forBC_sh (i : Nat) (tg : Tgt) (b : EvS) (env : Lo) (d : D) : forBC i tg b env (some (.sh d)) = fFor (fIter (fVar i)) tg b env := eqq rfl
@[simp] theorem ev_forB (i : Nat) (tg : Tgt) (b : EvS) (env : Lo) : fForB i tg b env = forBC i tg b env env[i]? := by
  have key : ∀ o : Option Sl, (match o with | some (.ol ds) => (do let o ← loopF tg b ds (env.set i .no); Res.ok (putB i ds o)) | _ => fFor (fIter (fVar i)) tg b env) = forBC i tg b env o := by
    intro o
    cases o with
    | none => rfl
    | some s => cases s <;> rfl
  exact key _
def putR (i : Nat) (ds : List D) (p : Sl × Lo) : Res (Sl × Lo) := .ok (p.1, p.2.set i (.ol ds))
@[simp] theorem putR_ev (i : Nat) (ds : List D) (r : Sl) (e : Lo) : putR i ds (r, e) = .ok (r, e.set i (.ol ds)) := eqq rfl
def lcBC (i : Nat) (tg : Tgt) (ft : EvT) (fe : EvF) (own : List Nat) (env : Lo) : Option Sl → Res (Sl × Lo)
  | some (.ol ds) => (lcC tg ft fe own ([.ol ds], ds, env.set i .no)).bind (putR i ds)
  | _ => fLc (fIter (fVar i)) tg ft fe own env
@[simp] theorem lcBC_ol (i : Nat) (tg : Tgt) (ft : EvT) (fe : EvF) (own : List Nat) (env : Lo) (ds : List D) : lcBC i tg ft fe own env (some (.ol ds)) = (lcC tg ft fe own ([.ol ds], ds, env.set i .no)).bind (putR i ds) := eqq rfl
@[simp] theorem lcBC_sh (i : Nat) (tg : Tgt) (ft : EvT) (fe : EvF) (own : List Nat) (env : Lo) (d : D) : lcBC i tg ft fe own env (some (.sh d)) = fLc (fIter (fVar i)) tg ft fe own env := eqq rfl
@[simp] theorem ev_lcB (i : Nat) (tg : Tgt) (ft : EvT) (fe : EvF) (own : List Nat) (env : Lo) : fLcB i tg ft fe own env = lcBC i tg ft fe own env env[i]? := by
  have key : ∀ o : Option Sl, o = env[i]? → (match o with | some (.ol ds) => (do let (r, e) ← fLc (fTakeI i) tg ft fe own env; Res.ok (r, e.set i (.ol ds))) | _ => fLc (fIter (fVar i)) tg ft fe own env) = lcBC i tg ft fe own env o := by
    intro o ho
    cases o with
    | none => rfl
    | some s =>
      cases s <;> first | rfl | skip
      rename_i ds
      show (fLc (fTakeI i) tg ft fe own env).bind _ = _
      have e1 : fTakeI i env = .ok ([.ol ds], ds, env.set i .no) := by unfold fTakeI; rw [← ho]
      rw [ev_lc, e1]
      rfl
  exact key _ rfl
/-! ### a comprehension within a comprehension -/
def relabS (scope sc : Scope) : Scope :=
  { scope with names := scope.names.map fun (n, k) => if (k == .free && sc.kind == .function && sc.names.lookup n == some .cell) then (n, .cell) else (n, k) }
theorem relab_eq (scope : Scope) (env : Env) : relabel scope env = relabS scope env.scope := rfl
theorem blkOk_in {N : List Str} {scope1 scope2 sc0 : Scope} {env : Env} {own : List (Str × Nat)} (he : env.scope = sc0) (h : blkC N (relabS scope1 sc0) scope2 own = true) : BlkOk N (relabel scope1 env) scope2 own := by
  rw [relab_eq, he]
  exact blkOk_by h
end FL

/-! FX: shapes and equality of data, comprehensions that pick -/
namespace FL
open PySem PySem.Spec PyProof.Rows L2
/-- data of at most k levels that may be compared -/
def Lay (k : Nat) (d : D) : Prop := d.canLay0 = true ∧ d.depth ≤ k
theorem Lay.shaped {k : Nat} {d : D} (h : Lay k d) (hk : k ≤ 64 := by decide) : shapedD d = true := by
  have h2 := h.2
  unfold shapedD SeqAt.shaped
  rw [h.1]
  simp
  omega
theorem Lay.int (i : Int) : Lay 0 (.int i) := ⟨rfl, Nat.le_refl _⟩
theorem Lay.mono {k m : Nat} {d : D} (h : Lay k d) (hk : k ≤ m) : Lay m d := ⟨h.1, Nat.le_trans h.2 hk⟩
theorem layAll {k : Nat} : ∀ {ds : List D}, (∀ d ∈ ds, Lay k d) → PyData.canLayAll0 ds = true ∧ PyData.depthAll ds ≤ k
  | [], _ => ⟨rfl, Nat.zero_le _⟩
  | d :: ds, h => by
    have h1 := h d List.mem_cons_self
    have h2 := layAll (k := k) (ds := ds) fun x hx => h x (List.mem_cons_of_mem _ hx)
    refine ⟨?_, ?_⟩
    · show (d.canLay0 && PyData.canLayAll0 ds) = true
      rw [h1.1, h2.1]; rfl
    · show max d.depth (PyData.depthAll ds) ≤ k
      exact Nat.max_le.mpr ⟨h1.2, h2.2⟩
theorem Lay.list {k : Nat} {ds : List D} (h : ∀ d ∈ ds, Lay k d) : Lay (k + 1) (.list ds) := ⟨(layAll h).1, Nat.succ_le_succ (layAll h).2⟩
theorem Lay.tuple {k : Nat} {ds : List D} (h : ∀ d ∈ ds, Lay k d) : Lay (k + 1) (.tuple ds) := ⟨(layAll h).1, Nat.succ_le_succ (layAll h).2⟩
theorem layInts (ns : List Int) : ∀ d ∈ ns.map PyData.int, Lay 0 d := by
  intro d h
  obtain ⟨i, _, rfl⟩ := List.mem_map.mp h
  exact .int i
theorem Lay.refl {k : Nat} {d : D} (h : Lay k d) : PyData.eqv d d = true := SeqAt.eqv_refl d h.1
@[simp] theorem isND_none : isND .none .none = some (.sh (.bool true)) := eqq rfl
@[simp] theorem isND_int (i : Int) : isND (.int i) .none = some (.sh (.bool false)) := eqq rfl
@[simp] theorem isND_list (ds : List D) : isND (.list ds) .none = some (.sh (.bool false)) := eqq rfl
@[simp] theorem isND_tuple (ds : List D) : isND (.tuple ds) .none = some (.sh (.bool false)) := eqq rfl
@[simp] theorem notND_none : notND .none .none = some (.sh (.bool false)) := eqq rfl
@[simp] theorem notND_int (i : Int) : notND (.int i) .none = some (.sh (.bool true)) := eqq rfl
@[simp] theorem notND_list (ds : List D) : notND (.list ds) .none = some (.sh (.bool true)) := eqq rfl
@[simp] theorem notND_tuple (ds : List D) : notND (.tuple ds) .none = some (.sh (.bool true)) := eqq rfl
@[simp] theorem isi_list (T : String) (ds : List D) : isiD T (.list ds) = ("list" == T || (T == "int" && "list" == "bool")) := eqq rfl
@[simp] theorem isi_tuple (T : String) (ds : List D) : isiD T (.tuple ds) = ("tuple" == T || (T == "int" && "tuple" == "bool")) := eqq rfl
@[simp] theorem isi_none (T : String) : isiD T .none = ("NoneType" == T || (T == "int" && "NoneType" == "bool")) := eqq rfl
/-- a comprehension that picks nothing -/
theorem comp_none {tg : Tgt} {ft : EvT} {fe : EvF} {own : List Nat} {E : Lo} : ∀ (ds acc : List D),
    (∀ d ∈ ds, ∃ e1 e2, bindT tg d E = some e1 ∧ ft e1 = .ok (false, e2) ∧ wipeE e2 own = E) → compF tg ft fe own ds acc E = .ok (acc, E)
  | [], acc, _ => rfl
  | d :: ds, acc, h => by
    obtain ⟨e1, e2, q1, q2, q3⟩ := h d List.mem_cons_self
    have ih := comp_none (fe := fe) ds acc fun x hx => h x (List.mem_cons_of_mem _ hx)
    show (Res.ofO (bindT tg d E)).bind _ = _
    rw [q1]
    show (ft e1).bind _ = _
    rw [q2]
    show compF tg ft fe own ds acc (wipeE e2 own) = _
    rw [q3, ih]
@[simp] theorem addD_list (a b : List D) : addD (.list a) (.list b) = if a.length + b.length ≤ 16777216 then some (.ol (a ++ b)) else none := eqq rfl
@[simp] theorem addD_tuple (a b : List D) : addD (.tuple a) (.tuple b) = if a.length + b.length ≤ 16777216 then some (.sh (.tuple (a ++ b))) else none := eqq rfl
theorem sum_ints (ns : List Int) : sumD [.list (ns.map PyData.int)] = some (.sh (.int ns.sum)) := sumD_ints ns
end FL

/-! FD: dicts of one's own, sorted -/
namespace FL
open PySem PySem.Spec PyProof.Rows L2
def keyOf : Sl → Option Key
  | .sh (.int i) => some (.inl i)
  | .sh (.str x) => some (.inr x)
  | _ => none
def datK : Key → D
  | .inl i => .int i
  | .inr x => .str x
def getK (es : List (Key × D)) (k : Key) : Option D := (es.find? fun kv => decide (kv.1 = k)).map (·.2)
def setK (es : List (Key × D)) (k : Key) (d : D) : List (Key × D) :=
  if (es.any fun kv => decide (kv.1 = k)) = true then es.map (fun kv => if kv.1 = k then (kv.1, d) else kv) else es ++ [(k, d)]
section
variable {K : PySem.W.Frag} {mg : Str → Option Value} {G H : Hp}
theorem keyOf_rel {r : Sl} {k : Key} {v : V} {os : List Addr} (e : keyOf r = some k) (h : RI K mg G H (some v) r os) : v = kV k := by
  unfold keyOf at e
  split at e <;> cases e
  · cases h with
    | bx b => cases b with
      | sh d => cases d; rfl
  · cases h with
    | bx b => cases b with
      | sh d => cases d; rfl
theorem dt_key (k : Key) : Dt K G (kV k) (datK k) := by
  cases k
  · exact .int _
  · exact .str _
theorem getK_rel {ks : List (Key × V)} {es : List (Key × D)} (h : DpKV K G ks es) (k : Key) : (∀ d, getK es k = some d → ∃ v, valV ks k = some v ∧ Dt K G v d) ∧ (valV ks k).isSome = (getK es k).isSome := by
  induction h with
  | nil => exact ⟨(fun d e => by simp [getK] at e), rfl⟩
  | @cons k' v' d' ks es hd t ih =>
    by_cases e : k' = k
    · have e1 : valV ((k', v') :: ks) k = some v' := valV_pos e
      have e2 : getK ((k', d') :: es) k = some d' := by simp [getK, List.find?_cons, e]
      rw [e1, e2]
      exact ⟨fun d q => by cases q; exact ⟨_, rfl, hd⟩, rfl⟩
    · have e1 : valV ((k', v') :: ks) k = valV ks k := valV_neg e
      have e2 : getK ((k', d') :: es) k = getK es k := by simp [getK, List.find?_cons, e]
      rw [e1, e2]
      exact ih
theorem any_rel {ks : List (Key × V)} {es : List (Key × D)} (h : DpKV K G ks es) (k : Key) : (ks.any fun kv => decide (kv.1 = k)) = (es.any fun kv => decide (kv.1 = k)) := by
  induction h with
  | nil => rfl
  | cons _ _ ih => rw [List.any_cons, List.any_cons, ih]
theorem DpKV.append {ks ks' : List (Key × V)} {es es' : List (Key × D)} (h : DpKV K G ks es) (h' : DpKV K G ks' es') : DpKV K G (ks ++ ks') (es ++ es') := by
  induction h with
  | nil => exact h'
  | cons a _ ih => exact .cons a ih
theorem DpKV.over {ks : List (Key × V)} {es : List (Key × D)} (h : DpKV K G ks es) (k : Key) {v : V} {d : D} (hv : Dt K G v d) : DpKV K G (ks.map fun kv => if kv.1 = k then (kv.1, v) else kv) (es.map fun kv => if kv.1 = k then (kv.1, d) else kv) := by
  induction h with
  | nil => exact .nil
  | @cons k' _ _ _ _ a _ ih =>
    rw [List.map_cons, List.map_cons]
    by_cases e : k' = k
    · simp only [e, if_true]
      exact .cons hv ih
    · simp only [e, if_false]
      exact .cons a ih
theorem setK_rel {ks : List (Key × V)} {es : List (Key × D)} (h : DpKV K G ks es) (k : Key) {v : V} {d : D} (hv : Dt K G v d) : DpKV K G (putK ks k v) (setK es k d) := by
  unfold putK setK
  rw [any_rel h k]
  split
  · exact h.over k hv
  · exact h.append (.cons hv .nil)
theorem RI.od_inv {es : List (Key × D)} {ov : Option V} {os : List Addr} (h : RI K mg G H ov (.od es) os) : ∃ p ks, ov = some (.ref p) ∧ os = [p] ∧ H p = some (.dK ks) ∧ DpKV K G ks es := by
  cases h with
  | bx b => cases b with
    | od hp ha => exact ⟨_, _, rfl, rfl, hp, ha⟩
end
/-! ### {} -/
def fD0 : EvF := fun env => .ok (.od [], env)
theorem sem_d0 {K : PySem.W.Frag} {mg : Str → Option Value} : SemE K mg tDNewK fD0 := by
  intro σ H env l r env' h e Q q
  cases e
  intro p hp
  obtain ⟨G, os, rp⟩ := h.rep
  exact q _ _ ⟨h.len, ⟨_, _, rp.new hp fun H' e => .bx (.od e .nil)⟩, fun _ z => by cases z⟩
theorem se_d0 {X : Cx} {pos : Pos} : SE X (.Dict [] [] pos) fD0 := ⟨_, pe_dnewK, sem_d0⟩
/-! ### d[k], of a slot's own dict -/
def fDGet (i : Nat) (fk : EvF) : EvF := fun env => match env[i]? with
  | some (.od _) => do
    let (rk, e1) ← fk env
    match keyOf rk, e1[i]? with
    | some k, some (.od es) => do
      let d ← Res.ofO (getK es k)
      .ok (.sh d, e1)
    | _, _ => .bad
  | _ => .bad
theorem od_there {K : PySem.W.Frag} {mg : Str → Option Value} {σ : L2.St} {H : Hp} {env : Lo} {l : List Item} {i : Nat} {es : List (Key × D)} (h : Hold K mg H σ env l) (e : env[i]? = some (.od es)) : ∃ p ks, σ[i]? = some (some (.ref p)) ∧ H p = some (.dK ks) := by
  obtain ⟨ov, eσ, rp⟩ := h.take e
  obtain ⟨G, os, rp⟩ := rp
  obtain ⟨o0, ri0⟩ := rp.rl.mem List.mem_cons_self
  obtain ⟨p, ks, rfl, _, hp, _⟩ := ri0.od_inv
  exact ⟨p, ks, eσ, hp⟩
theorem od_rel {K : PySem.W.Frag} {mg : Str → Option Value} {σ : L2.St} {G H : Hp} {env : Lo} {L : List Item} {os : List Addr} {i : Nat} {p : Addr} {es : List (Key × D)} (rp : Rp K mg G H L os) (hz : ∀ it ∈ σ.zip env, it ∈ L) (eσ : σ[i]? = some (some (.ref p))) (e : env[i]? = some (.od es)) :
    ∃ ks, H p = some (.dK ks) ∧ DpKV K G ks es := by
  obtain ⟨o1, ri⟩ := rp.rl.mem (hz _ (mem_zip eσ e))
  obtain ⟨p', ks, ep, _, hp, hw⟩ := ri.od_inv
  cases ep
  exact ⟨ks, hp, hw⟩
theorem sem_dget {K : PySem.W.Frag} {mg : Str → Option Value} {i : Nat} {tk : TE} {fk : EvF} (hk : SemE K mg tk fk) : SemE K mg (tDGet (tVar i) tk) (fDGet i fk) := by
  intro σ H env l r env' h e Q q
  unfold fDGet at e
  split at e
  case h_2 => cases e
  rename_i es0 e0
  obtain ⟨⟨rk, e1⟩, ek, e⟩ := Res.bind_ok e
  dsimp only at e
  split at e
  case h_2 => cases e
  rename_i k es hkk e4
  obtain ⟨d, ed, e⟩ := Res.bind_ok e
  replace ed := Res.ofO_ok ed
  cases e
  obtain ⟨p, _, eσ, _⟩ := od_there h e0
  refine ⟨.ref p, eσ, ?_⟩
  refine hk σ H env l rk _ h ek _ fun y H2 h3 => ?_
  obtain ⟨G, os, rp⟩ := h3.rep
  obtain ⟨ks, hp, hw⟩ := od_rel rp (fun it hi => List.mem_cons_of_mem _ (List.mem_append_left _ hi)) eσ e4
  obtain ⟨o2, ri2⟩ := rp.rl.mem (ov := some y) (s := rk) List.mem_cons_self
  have ey := keyOf_rel hkk ri2
  obtain ⟨v, ev, dv⟩ := (getK_rel hw k).1 d ed
  have g : DGet H2 p y (some v) := by rw [ey, ← ev]; exact DGet.k hp
  refine ⟨p, v, rfl, g, q v H2 ⟨h3.len, ?_, fun _ z => by cases z⟩⟩
  have rr : Rep K mg H2 ((some v, Sl.sh d) :: ((some y, rk) :: (σ.zip env' ++ l))) := ⟨_, _, rp.sh dv⟩
  exact (rr.perm (.swap _ _ _)).tail
theorem se_dget {X : Cx} {i : Nat} {x : Str} {k : Expr} {fk : EvF} {npos pos : Pos} (hu : X.A.units + 1 < cLine) (hN : X.N[i]? = some x) (hv : Vis X.env.scope x) (hk : SE X k fk) (hd : (x == ("__debug__" : Str)) = false := by decide) (hcd : (x == ("__classdict__" : Str)) = false := by decide) (hs : NoSl k := by intro _ _; rfl) :
    SE X (.Subscript (.Name x npos) k pos) (fDGet i fk) := by
  obtain ⟨t, p, s⟩ := hk.ex
  exact ⟨_, pe_dget hu (pe_var hN hv hd hcd) p hs, sem_dget s⟩
/-! ### k in d, k not in d -/
def fDIn (neg : Bool) (i : Nat) (fk : EvF) : EvF := fun env => do
  let (rk, e1) ← fk env
  match keyOf rk, e1[i]? with
  | some k, some (.od es) => .ok (.sh (.bool (xor neg (getK es k).isSome)), e1)
  | _, _ => .bad
theorem din_core {K : PySem.W.Frag} {mg : Str → Option Value} {neg : Bool} {i : Nat} {tk : TE} {fk : EvF} (hk : SemE K mg tk fk) {σ : L2.St} {H : Hp} {env : Lo} {l : List Item} {r : Sl} {env' : Lo} (h : Hold K mg H σ env l) (e : fDIn neg i fk env = .ok (r, env')) {Q : VK} (q : ∀ v H', HoldV K mg H' σ env' l v r → Q v H') :
    tk σ H fun y H1 => tVar i σ H1 fun x H2 => ∃ a o, x = .ref a ∧ DGet H2 a y o ∧ Q (.bl (xor neg o.isSome)) H2 := by
  unfold fDIn at e
  obtain ⟨⟨rk, e1⟩, ek, e⟩ := Res.bind_ok e
  dsimp only at e
  split at e
  case h_2 => cases e
  rename_i k es hkk e4
  cases e
  refine hk σ H env l rk _ h ek _ fun y H2 h3 => ?_
  obtain ⟨p, _, eσ, _⟩ := od_there h3.drop e4
  obtain ⟨G, os, rp⟩ := h3.rep
  obtain ⟨ks, hp, hw⟩ := od_rel rp (fun it hi => List.mem_cons_of_mem _ (List.mem_append_left _ hi)) eσ e4
  obtain ⟨o2, ri2⟩ := rp.rl.mem (ov := some y) (s := rk) List.mem_cons_self
  have ey := keyOf_rel hkk ri2
  have g : DGet H2 p y (valV ks k) := by rw [ey]; exact DGet.k hp
  refine ⟨.ref p, eσ, p, _, rfl, g, q _ H2 ⟨h3.len, ?_, fun _ z => by cases z⟩⟩
  rw [(getK_rel hw k).2]
  have rr : Rep K mg H2 ((some (.bl (xor neg (getK es k).isSome)), Sl.sh (.bool (xor neg (getK es k).isSome))) :: ((some y, rk) :: (σ.zip env' ++ l))) := ⟨_, _, rp.sh (.bl _)⟩
  exact (rr.perm (.swap _ _ _)).tail
theorem sem_din {K : PySem.W.Frag} {mg : Str → Option Value} {i : Nat} {tk : TE} {fk : EvF} (hk : SemE K mg tk fk) : SemE K mg (tDIn tk (tVar i)) (fDIn false i fk) := by
  intro σ H env l r env' h e Q q
  have := din_core hk h e q
  simp only [Bool.false_xor] at this
  exact this
theorem sem_dnotin {K : PySem.W.Frag} {mg : Str → Option Value} {i : Nat} {tk : TE} {fk : EvF} (hk : SemE K mg tk fk) : SemE K mg (tDNotIn tk (tVar i)) (fDIn true i fk) := by
  intro σ H env l r env' h e Q q
  have := din_core hk h e q
  simp only [Bool.true_xor] at this
  exact this
section
variable {X : Cx} {i : Nat} {x : Str} {k v : Expr} {fk fv : EvF} {npos pos spos : Pos} {ks : List Nat}
theorem se_din (hu : X.A.units + 1 < cLine) (hN : X.N[i]? = some x) (hv : Vis X.env.scope x) (hk : SE X k fk) (hm : behindInMarks .In (.Name x npos) = false := by rfl) (hd : (x == ("__debug__" : Str)) = false := by decide) (hcd : (x == ("__classdict__" : Str)) = false := by decide) :
    SE X (.Compare k [.In] [.Name x npos] pos) (fDIn false i fk) := by
  obtain ⟨t, p, s⟩ := hk.ex
  exact ⟨_, pe_cmp (pc_din hu p (pe_var hN hv hd hcd)) hm, sem_din s⟩
theorem se_dnotin (hu : X.A.units + 1 < cLine) (hN : X.N[i]? = some x) (hv : Vis X.env.scope x) (hk : SE X k fk) (hm : behindInMarks .NotIn (.Name x npos) = false := by rfl) (hd : (x == ("__debug__" : Str)) = false := by decide) (hcd : (x == ("__classdict__" : Str)) = false := by decide) :
    SE X (.Compare k [.NotIn] [.Name x npos] pos) (fDIn true i fk) := by
  obtain ⟨t, p, s⟩ := hk.ex
  exact ⟨_, pe_cmp (pc_dnotin hu p (pe_var hN hv hd hcd)) hm, sem_dnotin s⟩
theorem st_din (hu : X.A.units + 1 < cLine) (hN : X.N[i]? = some x) (hv : Vis X.env.scope x) (hk : SE X k fk) (hm : behindInMarks .In (.Name x npos) = false := by rfl) (hd : (x == ("__debug__" : Str)) = false := by decide) (hcd : (x == ("__classdict__" : Str)) = false := by decide) :
    ST X (.Compare k [.In] [.Name x npos] pos) (fTst (fDIn false i fk)) := by
  obtain ⟨t, p, s⟩ := hk.ex
  exact ⟨_, pt_cmp (pc_din hu p (pe_var hN hv hd hcd)) hm, sem_tst (sem_din s)⟩
theorem st_dnotin (hu : X.A.units + 1 < cLine) (hN : X.N[i]? = some x) (hv : Vis X.env.scope x) (hk : SE X k fk) (hm : behindInMarks .NotIn (.Name x npos) = false := by rfl) (hd : (x == ("__debug__" : Str)) = false := by decide) (hcd : (x == ("__classdict__" : Str)) = false := by decide) :
    ST X (.Compare k [.NotIn] [.Name x npos] pos) (fTst (fDIn true i fk)) := by
  obtain ⟨t, p, s⟩ := hk.ex
  exact ⟨_, pt_cmp (pc_dnotin hu p (pe_var hN hv hd hcd)) hm, sem_tst (sem_dnotin s)⟩
end
/-! ### d[k] = v -/
def fDPut (i : Nat) (fv fk : EvF) : EvS := fun env => do
  let (r, e1) ← fv env
  let (d, e2) ← Res.ofO (freezeR e1 r)
  match e2[i]? with
  | some (.od _) => do
    let (rk, e3) ← fk e2
    match keyOf rk, e3[i]? with
    | some k, some (.od es) => if es.length < 16777216 then .ok (.nx (e3.set i (.od (setK es k d)))) else .bad
    | _, _ => .bad
  | _ => .bad
theorem sem_dput {K : PySem.W.Frag} {mg : Str → Option Value} {ks : List Nat} {i : Nat} {tv tk : TE} {fv fk : EvF} (hv : SemE K mg tv fv) (hk : SemE K mg tk fk) : SemS K mg ks (sDPut (tVar i) tk tv) (fDPut i fv fk) := by
  intro σ H env l o h e D post
  unfold fDPut at e
  obtain ⟨⟨r, e1⟩, ea, e⟩ := Res.bind_ok e
  obtain ⟨⟨d, e2⟩, ef, e⟩ := Res.bind_ok e
  replace ef := Res.ofO_ok ef
  dsimp only at e
  split at e
  case h_2 => cases e
  rename_i es0 e0
  obtain ⟨⟨rk, e3⟩, ek, e⟩ := Res.bind_ok e
  dsimp only at e
  split at e
  case h_2 => cases e
  rename_i k es hkk e4
  split at e
  case isFalse => cases e
  rename_i hz
  cases e
  refine hv σ H env l r e1 h ea _ fun v H1 h1 => ?_
  have h2 := h1.freeze ef
  obtain ⟨p, _, eσ, _⟩ := od_there h2.hold e0
  refine ⟨.ref p, eσ, ?_⟩
  refine hk σ H1 e2 _ _ e3 h2.hold ek _ fun y H2 h3 => ?_
  obtain ⟨ov', eσ', rp⟩ := h3.hold.take e4
  rw [eσ] at eσ'; cases eσ'
  obtain ⟨G, os, rp⟩ := rp
  obtain ⟨o1, ri⟩ := rp.rl.mem List.mem_cons_self
  obtain ⟨p', ks', ep, _, hp, hw⟩ := ri.od_inv
  cases ep
  obtain ⟨v2, q2, dv⟩ := rp.shOf (ov := some v) (d := d) (List.mem_cons_of_mem _ (List.mem_append_right _ (List.mem_cons_of_mem _ List.mem_cons_self)))
  cases q2
  obtain ⟨o2, ri2⟩ := rp.rl.mem (ov := some y) (s := rk) (List.mem_cons_of_mem _ (List.mem_append_right _ List.mem_cons_self))
  have ey := keyOf_rel hkk ri2
  subst ey
  refine ⟨p, _, rfl, DPut.k hp (by rw [hw.length, sizeLine_eq]; omega), ?_⟩
  refine post σ _ ⟨by rw [List.length_set]; exact h3.len, ?_⟩ .refl
  have rp2 := rp.mut (s' := .od (setK es k d)) (o := .dK (putK ks' k v)) od_own fun H' e => .bx (.od e (setK_rel hw k dv))
  have rp4 := Rep.put ⟨_, _, rp2⟩ (by rw [List.length_set]; exact h3.len) eσ
  rw [List.set_set] at rp4
  exact Rep.dropM (M := [_, _]) rp4
theorem ss_dput {X : Cx} {i : Nat} {x : Str} {k v : Expr} {fk fv : EvF} {npos pos spos : Pos} {ks : List Nat} (hu : X.A.units + 1 < cLine) (hN : X.N[i]? = some x) (hv : Vis X.env.scope x) (he : SE X v fv) (hk : SE X k fk) (hd : (x == ("__debug__" : Str)) = false := by decide) (hcd : (x == ("__classdict__" : Str)) = false := by decide)
    (hs : swapsWith v (some (.Subscript (.Name x npos) k spos)) pos.line X.env = pure false := by rfl) : SS X ks (.Assign [.Subscript (.Name x npos) k spos] v pos) (fDPut i fv fk) := by
  obtain ⟨t, p, s⟩ := he.ex
  obtain ⟨t2, p2, s2⟩ := hk.ex
  exact ⟨_, ps_dput hu (pe_var hN hv hd hcd) p2 p hs, sem_dput s s2⟩
/-! ### list(d): its keys -/
def fDKeys (i : Nat) : EvF := fun env => match env[i]? with
  | some (.od es) => .ok (.ol (es.map fun kv => datK kv.1), env)
  | _ => .bad
theorem keys_rel {K : PySem.W.Frag} {G : Hp} {ks : List (Key × V)} {es : List (Key × D)} (h : DpKV K G ks es) : DtAll K G (ks.map fun kv => kV kv.1) (es.map fun kv => datK kv.1) := by
  induction h with
  | nil => exact .nil
  | cons _ _ ih => exact .cons (dt_key _) ih
theorem sem_dkeys {K : PySem.W.Frag} {mg : Str → Option Value} {i : Nat} : SemE K mg (tCB rListD (tCons (tVar i) tNil)) (fDKeys i) := by
  intro σ H env l r env' h e Q q
  unfold fDKeys at e
  split at e
  case h_2 => cases e
  rename_i es e0
  cases e
  obtain ⟨p, _, eσ, _⟩ := od_there h e0
  obtain ⟨G, os, rp⟩ := h.rep
  obtain ⟨ks, hp, hw⟩ := od_rel rp (fun it hi => List.mem_append_left _ hi) eσ e0
  refine ⟨.ref p, eσ, p, ks, rfl, hp, fun a ha => q _ _ ⟨h.len, ?_, fun _ z => by cases z⟩⟩
  exact ⟨_, _, rp.newOl ha (keys_rel hw)⟩
theorem se_dkeys {X : Cx} {i : Nat} {x : Str} {npos pos p : Pos} (hc : X.calm = true) (hm : X.mg "list" = none) (hN : X.N[i]? = some x) (hv : Vis X.env.scope x) (hg : Gl X "list" := by rfl) (hd : (x == ("__debug__" : Str)) = false := by decide) (hcd : (x == ("__classdict__" : Str)) = false := by decide)
    (he : starEach [.Name x npos] X.env = (false, eval (.Name x npos) X.env) :: starEach [] X.env := by rfl) (hpl : (backTo pos (starEach [] X.env)).any (·.1) = false := by rfl) : SE X (.Call (.Name "list" p) [.Name x npos] [] pos) (fDKeys i) :=
  ⟨_, pe_callTy (call_list_dK hc) hg hm bt_list (pa_cons (pe_var hN hv hd hcd) pa_nil) (by decide) (by decide) he hpl, sem_dkeys⟩
/-! ### sorted, of whole numbers -/
def insI (x : Int) : List Int → List Int
  | [] => [x]
  | y :: ys => if x ≤ y then x :: y :: ys else y :: insI x ys
def sortI : List Int → List Int
  | [] => []
  | x :: xs => insI x (sortI xs)
theorem insI_perm (x : Int) : ∀ ys, (insI x ys).Perm (x :: ys)
  | [] => .refl _
  | y :: ys => by
    unfold insI
    split
    · exact .refl _
    · exact ((insI_perm x ys).cons y).trans (.swap _ _ _)
theorem sortI_perm : ∀ xs, (sortI xs).Perm xs
  | [] => .refl _
  | x :: xs => (insI_perm x _).trans ((sortI_perm xs).cons x)
theorem insI_srt (x : Int) : ∀ ys, ys.Pairwise (· ≤ ·) → (insI x ys).Pairwise (· ≤ ·)
  | [], _ => by simp [insI]
  | y :: ys, h => by
    unfold insI
    have h1 := (List.pairwise_cons.mp h).1
    split
    · rename_i hxy
      refine List.Pairwise.cons (fun z hz => ?_) h
      rcases List.mem_cons.mp hz with rfl | hz
      · exact hxy
      · exact Int.le_trans hxy (h1 z hz)
    · refine List.Pairwise.cons (fun z hz => ?_) (insI_srt x ys h.of_cons)
      rcases List.mem_cons.mp ((insI_perm x ys).mem_iff.mp hz) with rfl | hz
      · omega
      · exact h1 z hz
theorem sortI_srt : ∀ xs, (sortI xs).Pairwise (· ≤ ·)
  | [] => .nil
  | x :: xs => insI_srt x _ (sortI_srt xs)
theorem srt_uniq : ∀ {xs ys : List Int}, xs.Pairwise (· ≤ ·) → ys.Pairwise (· ≤ ·) → xs.Perm ys → xs = ys
  | [], ys, _, _, p => (List.Perm.nil_eq p)
  | x :: xs, [], _, _, p => by have := p.length_eq; simp at this
  | x :: xs, y :: ys, h1, h2, p => by
    have a1 := (List.pairwise_cons.mp h1).1
    have a2 := (List.pairwise_cons.mp h2).1
    have e : x = y := by
      have m1 : x ∈ y :: ys := p.mem_iff.mp List.mem_cons_self
      have m2 : y ∈ x :: xs := p.mem_iff.mpr List.mem_cons_self
      rcases List.mem_cons.mp m1 with e | m1
      · exact e
      · rcases List.mem_cons.mp m2 with e | m2
        · exact e.symm
        · have := a1 y m2; have := a2 x m1; omega
    subst e
    rw [srt_uniq h1.of_cons h2.of_cons p.cons_inv]
def sortedD : List D → Option Sl
  | [.list ds] => (intsOf ds).map fun ns => .ol ((sortI ns).map PyData.int)
  | _ => none
theorem sc_sorted {K : PySem.W.Frag} : SemC K (rSortedI K) sortedD := by
  intro G H vs ds s Q sm h e q
  unfold sortedD at e
  split at e
  · rename_i ds'
    obtain ⟨ns, en, rfl⟩ := Option.map_eq_some_iff.mp e
    obtain ⟨v, rfl, d⟩ := h.one
    have ed := intsOf_eq en
    subst ed
    obtain ⟨p, ws, rfl, hp, hv⟩ := d.list sm
    rw [DtAll.of_ints hv] at hp
    refine ⟨p, ns, rfl, .of hp, fun ns' a hpm hs ha => ?_⟩
    have : ns' = sortI ns := srt_uniq hs (sortI_srt ns) (hpm.trans (sortI_perm ns).symm)
    subst this
    exact q _ _ (.newL ha (DtAll.ints _))
  · cases e
theorem bt_sorted : bootBuiltins "sorted" = some (.builtin "sorted") := by decide +kernel
theorem se_sorted {X : Cx} {a : Expr} {fs : EvA} {p pos : Pos} (hm : X.mg "sorted" = none) (ha : SA X [a] fs) (hg : Gl X "sorted" := by rfl) (he : starEach [a] X.env = (false, eval a X.env) :: starEach [] X.env := by rfl) (hpl : (backTo pos (starEach [] X.env)).any (·.1) = false := by rfl) : SE X (.Call (.Name "sorted" p) [a] [] pos) (fCB sortedD fs) :=
  se_cB cr_sortedI sc_sorted hg hm bt_sorted ha (by decide) (by decide) he hpl
/-! ### how these are reckoned -/
@[simp] theorem ev_d0 (env : Lo) : fD0 env = .ok (.od [], env) := eqq rfl
@[simp] theorem keyOf_int (i : Int) : keyOf (.sh (.int i)) = some (.inl i) := eqq rfl
@[simp] theorem keyOf_str (x : Str) : keyOf (.sh (.str x)) = some (.inr x) := eqq rfl
def dgV (e : Lo) : Option D → Res (Sl × Lo)
  | some d => .ok (.sh d, e)
  | none => .bad
@[simp] theorem dgV_some (e : Lo) (d : D) : dgV e (some d) = .ok (.sh d, e) := eqq rfl
def dgK (e : Lo) : Option Key → Option Sl → Res (Sl × Lo)
  | some k, some (.od es) => dgV e (getK es k)
  | _, _ => .bad
@[simp] theorem dgK_od (e : Lo) (k : Key) (es : List (Key × D)) : dgK e (some k) (some (.od es)) = dgV e (getK es k) := eqq rfl
def dgC (i : Nat) (p : Sl × Lo) : Res (Sl × Lo) := dgK p.2 (keyOf p.1) p.2[i]?
@[simp] theorem dgC_ev (i : Nat) (r : Sl) (e : Lo) : dgC i (r, e) = dgK e (keyOf r) e[i]? := eqq rfl
def dgS (i : Nat) (fk : EvF) (env : Lo) : Option Sl → Res (Sl × Lo)
  | some (.od _) => (fk env).bind (dgC i)
  | _ => .bad
@[simp] theorem dgS_od (i : Nat) (fk : EvF) (env : Lo) (es : List (Key × D)) : dgS i fk env (some (.od es)) = (fk env).bind (dgC i) := eqq rfl
@[simp] theorem ev_dget (i : Nat) (fk : EvF) (env : Lo) : fDGet i fk env = dgS i fk env env[i]? := by
  have k2 : ∀ (o : Option Key) (e1 : Lo) (s : Option Sl), (match o, s with | some k, some (.od es) => (do let d ← Res.ofO (getK es k); Res.ok (Sl.sh d, e1)) | _, _ => Res.bad) = dgK e1 o s := by
    intro o e1 s
    cases o with
    | none => rfl
    | some k =>
      cases s with
      | none => rfl
      | some s =>
        cases s <;> first | rfl | skip
        rename_i es
        show (Res.ofO (getK es k)).bind _ = dgV e1 (getK es k)
        cases getK es k <;> rfl
  have key : ∀ o : Option Sl, (match o with | some (.od _) => (do let (rk, e1) ← fk env; match keyOf rk, e1[i]? with | some k, some (.od es) => (do let d ← Res.ofO (getK es k); Res.ok (Sl.sh d, e1)) | _, _ => Res.bad) | _ => Res.bad) = dgS i fk env o := by
    intro o
    cases o with
    | none => rfl
    | some s =>
      cases s <;> first | rfl | skip
      show (fk env).bind _ = (fk env).bind _
      congr 1
      funext ⟨rk, e1⟩
      exact k2 _ _ _
  exact key _
def diK (neg : Bool) (e : Lo) : Option Key → Option Sl → Res (Sl × Lo)
  | some k, some (.od es) => .ok (.sh (.bool (xor neg (getK es k).isSome)), e)
  | _, _ => .bad
@[simp] theorem diK_od (neg : Bool) (e : Lo) (k : Key) (es : List (Key × D)) : diK neg e (some k) (some (.od es)) = .ok (.sh (.bool (xor neg (getK es k).isSome)), e) := eqq rfl
def diC (neg : Bool) (i : Nat) (p : Sl × Lo) : Res (Sl × Lo) := diK neg p.2 (keyOf p.1) p.2[i]?
@[simp] theorem diC_ev (neg : Bool) (i : Nat) (r : Sl) (e : Lo) : diC neg i (r, e) = diK neg e (keyOf r) e[i]? := eqq rfl
theorem diK_eq (neg : Bool) (e1 : Lo) (o : Option Key) (s : Option Sl) : (match o, s with | some k, some (.od es) => Res.ok (Sl.sh (.bool (xor neg (getK es k).isSome)), e1) | _, _ => Res.bad) = diK neg e1 o s := by
  cases o with
  | none => rfl
  | some k =>
    cases s with
    | none => rfl
    | some s => cases s <;> rfl
@[simp] theorem ev_din (neg : Bool) (i : Nat) (fk : EvF) (env : Lo) : fDIn neg i fk env = (fk env).bind (diC neg i) := by
  have e : (fun p : Sl × Lo => (match keyOf p.1, p.2[i]? with | some k, some (.od es) => Res.ok (Sl.sh (.bool (xor neg (getK es k).isSome)), p.2) | _, _ => Res.bad)) = diC neg i := by
    funext p
    exact diK_eq neg p.2 (keyOf p.1) p.2[i]?
  rw [← e]
  rfl
def dpK (i : Nat) (d : D) (e : Lo) : Option Key → Option Sl → Res Out
  | some k, some (.od es) => if es.length < 16777216 then .ok (.nx (e.set i (.od (setK es k d)))) else .bad
  | _, _ => .bad
@[simp] theorem dpK_od (i : Nat) (d : D) (e : Lo) (k : Key) (es : List (Key × D)) : dpK i d e (some k) (some (.od es)) = if es.length < 16777216 then .ok (.nx (e.set i (.od (setK es k d)))) else .bad := eqq rfl
def dpC (i : Nat) (d : D) (p : Sl × Lo) : Res Out := dpK i d p.2 (keyOf p.1) p.2[i]?
@[simp] theorem dpC_ev (i : Nat) (d : D) (r : Sl) (e : Lo) : dpC i d (r, e) = dpK i d e (keyOf r) e[i]? := eqq rfl
def dpS (i : Nat) (fk : EvF) (d : D) (e : Lo) : Option Sl → Res Out
  | some (.od _) => (fk e).bind (dpC i d)
  | _ => .bad
@[simp] theorem dpS_od (i : Nat) (fk : EvF) (d : D) (e : Lo) (es : List (Key × D)) : dpS i fk d e (some (.od es)) = (fk e).bind (dpC i d) := eqq rfl
def dpF (i : Nat) (fk : EvF) : Option (D × Lo) → Res Out
  | some (d, e) => dpS i fk d e e[i]?
  | none => .bad
@[simp] theorem dpF_some (i : Nat) (fk : EvF) (d : D) (e : Lo) : dpF i fk (some (d, e)) = dpS i fk d e e[i]? := eqq rfl
def dpC1 (i : Nat) (fk : EvF) (p : Sl × Lo) : Res Out := dpF i fk (freezeR p.2 p.1)
@[simp] theorem dpC1_ev (i : Nat) (fk : EvF) (r : Sl) (e : Lo) : dpC1 i fk (r, e) = dpF i fk (freezeR e r) := eqq rfl
theorem dpK_eq (i : Nat) (d : D) (o : Option Key) (e3 : Lo) (s : Option Sl) : (match o, s with | some k, some (.od es) => (if es.length < 16777216 then Res.ok (Out.nx (e3.set i (.od (setK es k d)))) else .bad) | _, _ => Res.bad) = dpK i d e3 o s := by
  cases o with
  | none => rfl
  | some k =>
    cases s with
    | none => rfl
    | some s => cases s <;> rfl
theorem dpC_eq (i : Nat) (d : D) : (fun p : Sl × Lo => (match keyOf p.1, p.2[i]? with | some k, some (.od es) => (if es.length < 16777216 then Res.ok (Out.nx (p.2.set i (.od (setK es k d)))) else .bad) | _, _ => Res.bad)) = dpC i d := by
  funext p
  exact dpK_eq i d (keyOf p.1) p.2 p.2[i]?
@[simp] theorem ev_dput (i : Nat) (fv fk : EvF) (env : Lo) : fDPut i fv fk env = (fv env).bind (dpC1 i fk) := by
  have key : ∀ (e2 : Lo) (d : D) (o : Option Sl), (match o with | some (.od _) => (fk e2).bind (fun p : Sl × Lo => (match keyOf p.1, p.2[i]? with | some k, some (.od es) => (if es.length < 16777216 then Res.ok (Out.nx (p.2.set i (.od (setK es k d)))) else .bad) | _, _ => Res.bad)) | _ => Res.bad) = dpS i fk d e2 o := by
    intro e2 d o
    rw [dpC_eq]
    cases o with
    | none => rfl
    | some s => cases s <;> rfl
  show (fv env).bind _ = (fv env).bind _
  refine congrArg _ ?_
  funext ⟨r, e1⟩
  show (Res.ofO (freezeR e1 r)).bind _ = dpF i fk (freezeR e1 r)
  cases freezeR e1 r with
  | none => rfl
  | some p =>
    obtain ⟨d, e2⟩ := p
    exact key e2 d _
def dkS (env : Lo) : Option Sl → Res (Sl × Lo)
  | some (.od es) => .ok (.ol (es.map fun kv => datK kv.1), env)
  | _ => .bad
@[simp] theorem dkS_od (env : Lo) (es : List (Key × D)) : dkS env (some (.od es)) = .ok (.ol (es.map fun kv => datK kv.1), env) := eqq rfl
@[simp] theorem ev_dkeys (i : Nat) (env : Lo) : fDKeys i env = dkS env env[i]? := by
  have key : ∀ o : Option Sl, (match o with | some (.od es) => Res.ok (Sl.ol (es.map fun kv => datK kv.1), env) | _ => Res.bad) = dkS env o := by
    intro o
    cases o with
    | none => rfl
    | some s => cases s <;> rfl
  exact key _
@[simp] theorem sortedD_ints (ns : List Int) : sortedD [.list (ns.map PyData.int)] = some (.ol ((sortI ns).map PyData.int)) := by
  show (intsOf _).map _ = _
  rw [intsOf_map]; rfl
/-! ### while -/
def whC2 (c : EvT) (b : EvS) (n : Nat) : Out → Res Out
  | .nx e => whileF c b n e
  | .ct e => whileF c b n e
  | .bk e => .ok (.nx e)
  | .rt r e => .ok (.rt r e)
@[simp] theorem whC2_nx (c : EvT) (b : EvS) (n : Nat) (e : Lo) : whC2 c b n (.nx e) = whileF c b n e := eqq rfl
@[simp] theorem whC2_ct (c : EvT) (b : EvS) (n : Nat) (e : Lo) : whC2 c b n (.ct e) = whileF c b n e := eqq rfl
@[simp] theorem whC2_bk (c : EvT) (b : EvS) (n : Nat) (e : Lo) : whC2 c b n (.bk e) = .ok (.nx e) := eqq rfl
@[simp] theorem whC2_rt (c : EvT) (b : EvS) (n : Nat) (r : Sl) (e : Lo) : whC2 c b n (.rt r e) = .ok (.rt r e) := eqq rfl
def whC1 (c : EvT) (b : EvS) (n : Nat) : Bool × Lo → Res Out
  | (true, e) => (b e).bind (whC2 c b n)
  | (false, e) => .ok (.nx e)
@[simp] theorem whC1_t (c : EvT) (b : EvS) (n : Nat) (e : Lo) : whC1 c b n (true, e) = (b e).bind (whC2 c b n) := eqq rfl
@[simp] theorem whC1_f (c : EvT) (b : EvS) (n : Nat) (e : Lo) : whC1 c b n (false, e) = .ok (.nx e) := eqq rfl
theorem while_succ (c : EvT) (b : EvS) (n : Nat) (e : Lo) : whileF c b (n + 1) e = (c e).bind (whC1 c b n) := by
  show (c e).bind _ = (c e).bind _
  refine congrArg _ ?_
  funext ⟨k, e1⟩
  cases k with
  | false => rfl
  | true =>
    show (b e1).bind _ = (b e1).bind _
    refine congrArg _ ?_
    funext o
    cases o <;> rfl
@[simp] theorem ev_while (fuel : Lo → Nat) (c : EvT) (b : EvS) (env : Lo) : fWhile fuel c b env = whileF c b (fuel env) env := eqq rfl
/-- a slot's number, as a loop's measure -/
def natS (i : Nat) (e : Lo) : Nat := match e[i]? with
  | some (.sh (.int j)) => j.toNat + 1
  | _ => 0
theorem natS_int {i : Nat} {e : Lo} {j : Int} (h : e[i]? = some (.sh (.int j))) : natS i e = j.toNat + 1 := by
  unfold natS
  rw [h]
end FL

/-! FP: xs.insert(i, y), xs.pop(i) -/
namespace FL
open PySem PySem.Spec PyProof.Rows L2
abbrev rInsert : V → List V → Hp → VK → Prop := fun x vs H Q => ∃ (l : Addr) (xs : List V) (i : Int) (y : V), x = .ref l ∧ vs = [.int i, y] ∧ H l = some (.lst xs) ∧ xs.length < sizeLine ∧ 0 ≤ i ∧ i < 2 ^ 63 ∧
    Q .non (upd H l (.lst (xs.take i.toNat ++ [y] ++ xs.drop i.toNat)))
def insertM (ds : List D) : List D → Option (List D × D)
  | [.int i, y] => if ds.length < 16777216 ∧ 0 ≤ i ∧ i < 2 ^ 63 then some (ds.take i.toNat ++ [y] ++ ds.drop i.toNat, .none) else none
  | _ => none
theorem sm_insert {K : PySem.W.Frag} : SemM rInsert K insertM := by
  intro G H p ws ds vs es ds' y Q sm gp hp ha hv e q
  unfold insertM at e
  split at e
  · split at e
    · rename_i i d hz
      cases e
      cases hv with
      | cons a b =>
        cases b with
        | cons c b =>
          cases b
          cases a
          exact ⟨p, ws, _, _, rfl, rfl, hp, sizeL' (by rw [ha.length]; exact hz.1), hz.2.1, hz.2.2, q _ _ (((ha.take _).append (.one c)).append (ha.drop _)) .non⟩
    · cases e
  · cases e
def popAtM (ds : List D) : List D → Option (List D × D)
  | [.int i] => if 0 ≤ i ∧ i < 2 ^ 63 then (ds[i.toNat]?).map fun d => (ds.eraseIdx i.toNat, d) else none
  | _ => none
theorem sm_popAt {K : PySem.W.Frag} : SemM rPopAt K popAtM := by
  intro G H p ws ds vs es ds' y Q sm gp hp ha hv e q
  unfold popAtM at e
  split at e
  · split at e
    · rename_i i hz
      simp only [Option.map_eq_some_iff] at e
      obtain ⟨d, e1, e2⟩ := e
      cases e2
      cases hv with
      | cons a b =>
        cases b
        cases a
        obtain ⟨v, f1, f2⟩ := ha.get e1
        have hlt : i.toNat < ws.length := by rw [ha.length]; exact (List.getElem?_eq_some_iff.mp e1).1
        refine ⟨p, ws, i, i.toNat, v, rfl, rfl, hp, by omega, hz.2, ?_, f1, q _ _ (ha.eraseIdx _) f2⟩
        have h3 : ¬ i < 0 := by omega
        have h4 : i < (ws.length : Int) := by omega
        simp [seqIndex?, h3, h4, hz.1]
    · cases e
  · cases e
@[simp] theorem mutV_insert (j : Nat) (i : Int) (d : D) (e : Lo) (ds : List D) : mutV j insertM [.int i, d] e (some (.ol ds)) = if ds.length < 16777216 ∧ 0 ≤ i ∧ i < 9223372036854775808 then .ok (.sh .none, e.set j (.ol (ds.take i.toNat ++ [d] ++ ds.drop i.toNat))) else .bad := by
  unfold mutV insertM
  show (match (if ds.length < 16777216 ∧ 0 ≤ i ∧ i < 9223372036854775808 then some (ds.take i.toNat ++ [d] ++ ds.drop i.toNat, PyData.none) else none) with | some (ds', y) => _ | none => _) = _
  split
  · rename_i h
    split at h
    · rename_i hz
      cases h
      rw [if_pos hz]
    · cases h
  · rename_i h
    split at h
    · cases h
    · rename_i hz
      rw [if_neg hz]
theorem mutV_popAt {j : Nat} {i : Int} {e : Lo} {ds : List D} {d : D} (h0 : 0 ≤ i) (h1 : i < 9223372036854775808) (h : ds[i.toNat]? = some d) : mutV j popAtM [.int i] e (some (.ol ds)) = .ok (.sh d, e.set j (.ol (ds.eraseIdx i.toNat))) := by
  refine mutV_ol ?_
  show (if 0 ≤ i ∧ i < 9223372036854775808 then (ds[i.toNat]?).map fun d => (ds.eraseIdx i.toNat, d) else none) = _
  rw [if_pos ⟨h0, h1⟩, h]
  rfl
end FL

/-! FQ: comprehensions over zip of two names, whose lists stay their own -/
namespace FL
open PySem PySem.Spec PyProof.Rows L2
def seqS : Sl → Option (List D)
  | .sh d => seqOf d
  | .ol ds => some ds
  | _ => none
def tpS : Sl → Bool
  | .sh d => isTup d
  | _ => false
theorem seqS_at {K : PySem.W.Frag} {mg : Str → Option Value} {G H : Hp} {L : List Item} {os : List Addr} {v : V} {s : Sl} {xs : List D} (rp : Rp K mg G H L os) (hm : (some v, s) ∈ L) (e : seqS s = some xs) : ∃ (a : Addr) (vs : List V), v = .ref a ∧ sqS K H (tpS s) a vs ∧ DtAll K G vs xs := by
  cases s with
  | sh d =>
    obtain ⟨v', ev, dd⟩ := rp.shOf hm
    cases ev
    cases dd with
    | lst hs ha => cases e; exact ⟨_, _, rfl, .of (rp.same _ _ hs), ha⟩
    | tup hs ha => cases e; exact ⟨_, _, rfl, (hs.mono rp.same).sq, ha⟩
    | non => cases e
    | bl _ => cases e
    | int _ => cases e
    | str _ => cases e
  | ol ds =>
    cases e
    obtain ⟨o, ri⟩ := rp.rl.mem hm
    obtain ⟨p, vs, ev, _, hp, ha⟩ := ri.ol_inv
    cases ev
    exact ⟨p, vs, rfl, .of hp, ha⟩
  | no => cases e
  | od _ => cases e
  | td _ => cases e
  | tt _ _ => cases e
  | ow _ => cases e
  | oi _ _ => cases e
  | vw _ => cases e
  | sc _ => cases e
theorem itok_zipS {K : PySem.W.Frag} {mg : Str → Option Value} {a b : Addr} {s t : Sl} {xs ys : List D} (ea : seqS s = some xs) (eb : seqS t = some ys) :
    ItOk K mg (ItzM K (tpS s) (tpS t) a b) [(some (.ref a), s), (some (.ref b), t)] (zipD xs ys) := by
  intro i G H os L rp hm
  obtain ⟨a', vs, e1, q1, h1⟩ := seqS_at rp (hm (some (.ref a), s) (by simp)) ea
  obtain ⟨b', ws, e2, q2, h2⟩ := seqS_at rp (hm (some (.ref b), t) (by simp)) eb
  cases e1
  cases e2
  have hlen : (zipD xs ys).length = min xs.length ys.length := by simp [zipD]
  constructor
  · intro d hd
    have hi := (List.getElem?_eq_some_iff.mp hd).1
    rw [hlen] at hi
    have ex : xs[i]? = some xs[i] := List.getElem?_eq_getElem (by omega)
    have ey : ys[i]? = some ys[i] := List.getElem?_eq_getElem (by omega)
    have ed : d = .tuple [xs[i], ys[i]] := by
      unfold zipD at hd
      rw [List.getElem?_zipWith, ex, ey] at hd
      cases hd; rfl
    obtain ⟨x, x1, x2⟩ := h1.get ex
    obtain ⟨y, y1, y2⟩ := h2.get ey
    refine ⟨⟨vs, ws, x, y, q1, q2, x1, y1⟩, fun v H' hy => ?_⟩
    obtain ⟨T, x', y', rfl, hT, rfl, f1, f2⟩ := hy
    have := f1 vs q1; rw [x1] at this; cases this
    have := f2 ws q2; rw [y1] at this; cases this
    refine ⟨_, .step .refl hT, ?_⟩
    rw [ed]
    have sG : Same G (upd G T (.tup [x, y])) := sameG (rp.same.free hT)
    exact .tup (.inl upd_same) (.cons (Dt.mono sG _ _ x2) (.cons (Dt.mono sG _ _ y2) .nil))
  · intro hi
    rw [hlen] at hi
    have l1 := h1.length
    have l2 := h2.length
    exact ⟨vs, ws, q1, q2, by omega, by omega, by omega⟩
def zipN (i j : Nat) (env : Lo) (s t : Sl) : Res (List Sl × List D × Lo) := match seqS s, seqS t with
  | some xs, some ys => .ok ([s, t], zipD xs ys, (env.set i .no).set j .no)
  | _, _ => .bad
def fZipN (i j : Nat) : EvI := fun env => match env[i]?, env[j]? with
  | some s, some t => if i = j then .bad else zipN i j env s t
  | _, _ => .bad
section
variable {X : Cx}
theorem semip_zipN {e e2 : Expr} {ti : TI} {elts : List Expr} {kk : Nat} {tpos p pos : Pos} {i j : Nat} {x y : Str} {n1 n2 : Pos} (hg : Gl X "zip") (hm : X.mg "zip" = none) (hx : X.N[i]? = some x) (hvx : Vis X.env.scope x) (hy : X.N[j]? = some y) (hvy : Vis X.env.scope y)
    (hd : (x == ("__debug__" : Str)) = false := by decide) (hcd : (x == ("__classdict__" : Str)) = false := by decide) (hd' : (y == ("__debug__" : Str)) = false := by decide) (hcd' : (y == ("__classdict__" : Str)) = false := by decide)
    (hs2 : starEach [.Name y n2] X.env = (false, eval (.Name y n2) X.env) :: starEach [] X.env := by rfl)
    (hs : starEach [.Name x n1, .Name y n2] X.env = (false, eval (.Name x n1) X.env) :: starEach [.Name y n2] X.env := by rfl) (hpl : (backTo pos (starEach [.Name y n2] X.env)).any (·.1) = false := by rfl) :
    ∃ w, PI X (.Tuple elts kk tpos) (.Call (.Name "zip" p) [.Name x n1, .Name y n2] [] pos) w ∧ SemIP X.K X.mg w (fZipN i j) (fun σ vs => ∃ va vb, vs = [va, vb] ∧ σ[i]? = some (some va) ∧ σ[j]? = some (some vb)) := by
  refine ⟨_, pi_zipM hg hm (pa_cons (pe_var hx hvx hd hcd) (pa_cons (pe_var hy hvy hd' hcd') pa_nil hs2) hs) hs hpl, ?_⟩
  intro σ H env l ks ds env' h e R q
  unfold fZipN at e
  split at e
  case h_2 => cases e
  rename_i s t e0 e1
  split at e
  · cases e
  rename_i hij
  unfold zipN at e
  split at e
  case h_2 => cases e
  rename_i xs ys ex ey
  cases e
  obtain ⟨ov, eσ, rp0⟩ := h.take e0
  have h1 : Hold X.K X.mg H σ (env.set i .no) ((ov, s) :: l) := ⟨by rw [List.length_set]; exact h.len, rp0.perm perm_mid⟩
  have e1' : (env.set i Sl.no)[j]? = some t := by rw [List.getElem?_set_ne hij]; exact e1
  obtain ⟨ow, eτ, rp1⟩ := h1.take e1'
  obtain ⟨G, os, rp⟩ := id rp1
  have m1 : (ov, s) ∈ ((ow, t) :: (σ.zip ((env.set i Sl.no).set j Sl.no) ++ (ov, s) :: l)) := List.mem_cons_of_mem _ (List.mem_append_right _ List.mem_cons_self)
  have sn : s ≠ .no := fun z => by rw [z] at ex; cases ex
  have tn : t ≠ .no := fun z => by rw [z] at ey; cases ey
  obtain ⟨v, rfl⟩ := rp.someOf m1 sn
  obtain ⟨w, rfl⟩ := rp.someOf (ov := ow) (s := t) List.mem_cons_self tn
  obtain ⟨a, vs, rfl, q1, _⟩ := seqS_at rp m1 ex
  obtain ⟨b, ws, rfl, q2, _⟩ := seqS_at rp (v := w) List.mem_cons_self ey
  refine ⟨.ref a, eσ, .ref b, eτ, ?_⟩
  refine ⟨_, _, a, b, vs, ws, rfl, q1, q2, q _ [.ref a, .ref b] H ⟨by rw [List.length_set, List.length_set]; exact h.len, ?_, rfl, fun k v' r' z1 z2 => ?_⟩ (itok_zipS ex ey) ⟨_, _, rfl, eσ, eτ⟩⟩
  · refine rp1.perm ?_
    refine List.Perm.trans (List.Perm.cons _ perm_mid.symm) ?_
    exact .swap _ _ _
  · have nv : ∀ r, (r = s ∨ r = t) → ∀ k, r ≠ .vw k := fun r hr k z => by
      rcases hr with rfl | rfl
      · rw [z] at ex; cases ex
      · rw [z] at ey; cases ey
    have : r' = s ∨ r' = t := by
      cases k with
      | zero => simp at z2; exact .inl z2.symm
      | succ k =>
        cases k with
        | zero => simp at z2; exact .inr z2.symm
        | succ k => simp at z2
    exact fun k z => absurd z (nv r' this k)
end
def fLcZ (i j : Nat) (tg : Tgt) (ft : EvT) (fe : EvF) (own : List Nat) : EvF := fun env => match env[i]?, env[j]? with
  | some s, some t => do
    let (r, e) ← fLc (fZipN i j) tg ft fe own env
    .ok (r, (e.set i s).set j t)
  | _, _ => .bad
theorem sem_lcZ {K : PySem.W.Frag} {mg : Str → Option Value} {w : TI} {i j : Nat} (si : SemIP K mg w (fZipN i j) (fun σ vs => ∃ va vb, vs = [va, vb] ∧ σ[i]? = some (some va) ∧ σ[j]? = some (some vb))) {g : TG} {tg : Tgt} {tt : TT} {ft : EvT} {fe : EvF} {own : List Nat} (sg : SemG K mg g tg) (st : SemT K mg tt ft) (ho : ∀ k ∈ tg.slots, k ∈ own) :
    SemE K mg (tLc w g tt (tCan K mg fe) own) (fLcZ i j tg ft fe own) := by
  intro σ H env l r env' h e Q q
  unfold fLcZ at e
  split at e
  case h_2 => cases e
  rename_i s t e0 e1
  obtain ⟨⟨r1, e3⟩, ea, e⟩ := Res.bind_ok e
  cases e
  refine sem_lcK si sg st ho σ H env l r e3 h ea Q fun v H' vs ks ds' e2 et hP hv => ?_
  obtain ⟨va, vb, rfl, eσ, eτ⟩ := hP
  unfold fZipN at et
  rw [e0, e1] at et
  dsimp only at et
  split at et
  · cases et
  rename_i hij
  unfold zipN at et
  split at et
  case h_2 => cases et
  cases et
  obtain ⟨dd, rfl⟩ := fLc_ol ea
  refine q v H' ⟨by rw [List.length_set, List.length_set]; exact hv.len, ?_, fun _ z => by cases z⟩
  have h0 : Rep K mg H' ((some v, Sl.ol dd) :: (σ.zip e3 ++ ((some va, s) :: ((some vb, t) :: l)))) := hv.rep
  have h1 : Rep K mg H' ((some va, s) :: (σ.zip e3 ++ ((some vb, t) :: ((some v, Sl.ol dd) :: l)))) := by
    refine h0.perm ?_
    refine List.Perm.trans (List.Perm.cons _ perm_mid.symm) ?_
    refine (List.Perm.swap _ _ _).trans (List.Perm.cons _ ?_)
    refine List.Perm.trans perm_mid (List.Perm.append_left _ (.swap _ _ _))
  have h2 := Rep.put h1 hv.len eσ
  have h3 : Rep K mg H' ((some vb, t) :: (σ.zip (e3.set i s) ++ ((some v, Sl.ol dd) :: l))) := h2.perm perm_mid.symm
  have h4 := Rep.put h3 (by rw [List.length_set]; exact hv.len) eτ
  exact h4.perm perm_mid.symm
section
variable {X : Cx} {elt : Expr} {ifs elts : List Expr} {scope : Scope} {own : List (Str × Nat)} {pos spos py npos tpos p n1 n2 : Pos} {g : TG} {tt : Tgt} {ft : EvT} {fe : EvF} {i j k kk : Nat} {x y z : Str} {ks : List Nat}
theorem se_lcZ (hc : X.calm = true) (hN : X.N.Nodup) (hgl : Gl X "zip") (hm : X.mg "zip" = none) (hx : X.N[i]? = some x) (hvx : Vis X.env.scope x) (hy : X.N[j]? = some y) (hvy : Vis X.env.scope y) (ok : BlkOk X.N X.env.scope scope own) (sg : SemG X.K X.mg g tt) (ho : ∀ k ∈ tt.slots, k ∈ own.map (·.2))
    (hg : ∀ (s : Shared) (H : Hp) (C : Addr) (cl : List (Str × Addr)) (fp : List Addr), PG (X.blk s H scope (compEnvC scope cl C X.env) fp) (.Tuple elts kk tpos) g) (ht : ∀ (s : Shared) (H : Hp) (C : Addr) (cl : List (Str × Addr)) (fp : List Addr), STs (X.blk s H scope (compEnvC scope cl C X.env) fp) ifs ft)
    (he : ∀ (s : Shared) (H : Hp) (C : Addr) (cl : List (Str × Addr)) (fp : List Addr), SE (X.blk s H scope (compEnvC scope cl C X.env) fp) elt fe)
    (hd : (x == ("__debug__" : Str)) = false := by decide) (hcd : (x == ("__classdict__" : Str)) = false := by decide) (hd' : (y == ("__debug__" : Str)) = false := by decide) (hcd' : (y == ("__classdict__" : Str)) = false := by decide)
    (hs2 : starEach [.Name y n2] X.env = (false, eval (.Name y n2) X.env) :: starEach [] X.env := by rfl)
    (hs : starEach [.Name x n1, .Name y n2] X.env = (false, eval (.Name x n1) X.env) :: starEach [.Name y n2] X.env := by rfl) (hpl : (backTo pos (starEach [.Name y n2] X.env)).any (·.1) = false := by rfl)
    (hfs : ∀ z, foldedSetIterable (.Call (.Name "zip" p) [.Name x n1, .Name y n2] [] pos) X.env z = pure z := by intro _; rfl) :
    SE X (.ListComp elt [⟨.Tuple elts kk tpos, .Call (.Name "zip" p) [.Name x n1, .Name y n2] [] pos, ifs, 0⟩] scope spos) (fLcZ i j tt ft fe (own.map (·.2))) := by
  obtain ⟨w, pi, si⟩ := semip_zipN (X := X) (e := .Name x n1) (e2 := .Name y n2) (ti := fun _ _ _ => True) (elts := elts) (kk := kk) (tpos := tpos) (p := p) (pos := pos) hgl hm hx hvx hy hvy hd hcd hd' hcd' hs2 hs hpl
  exact ⟨_, pe_lc hc hN pi ok hg (fun s H C cl fp => (ht s H C cl fp).pts) (fun s H C cl fp => (he s H C cl fp).canon) hfs, sem_lcZ si sg semt_can ho⟩
theorem ss_setLcZ (hc : X.calm = true) (hN : X.N.Nodup) (hz : X.N[k]? = some z) (hzl : X.env.scope.names.lookup z = some .local)
    (hsw : swapsWith (.ListComp elt [⟨.Tuple elts kk tpos, .Call (.Name "zip" p) [.Name x n1, .Name y n2] [] pos, ifs, 0⟩] scope spos) (some (.Name z py)) npos.line X.env = pure true) (hgl : Gl X "zip") (hm : X.mg "zip" = none) (hx : X.N[i]? = some x) (hvx : Vis X.env.scope x) (hy : X.N[j]? = some y) (hvy : Vis X.env.scope y) (ok : BlkOk X.N X.env.scope scope own) (sg : SemG X.K X.mg g tt) (ho : ∀ k ∈ tt.slots, k ∈ own.map (·.2))
    (hg : ∀ (s : Shared) (H : Hp) (C : Addr) (cl : List (Str × Addr)) (fp : List Addr), PG (X.blk s H scope (compEnvC scope cl C X.env) fp) (.Tuple elts kk tpos) g) (ht : ∀ (s : Shared) (H : Hp) (C : Addr) (cl : List (Str × Addr)) (fp : List Addr), STs (X.blk s H scope (compEnvC scope cl C X.env) fp) ifs ft)
    (he : ∀ (s : Shared) (H : Hp) (C : Addr) (cl : List (Str × Addr)) (fp : List Addr), SE (X.blk s H scope (compEnvC scope cl C X.env) fp) elt fe) (hk : k ∉ ks := by decide)
    (hd : (x == ("__debug__" : Str)) = false := by decide) (hcd : (x == ("__classdict__" : Str)) = false := by decide) (hd' : (y == ("__debug__" : Str)) = false := by decide) (hcd' : (y == ("__classdict__" : Str)) = false := by decide)
    (hs2 : starEach [.Name y n2] X.env = (false, eval (.Name y n2) X.env) :: starEach [] X.env := by rfl)
    (hs : starEach [.Name x n1, .Name y n2] X.env = (false, eval (.Name x n1) X.env) :: starEach [.Name y n2] X.env := by rfl) (hpl : (backTo pos (starEach [.Name y n2] X.env)).any (·.1) = false := by rfl)
    (hfs : ∀ z, foldedSetIterable (.Call (.Name "zip" p) [.Name x n1, .Name y n2] [] pos) X.env z = pure z := by intro _; rfl) :
    SS X ks (.Assign [.Name z py] (.ListComp elt [⟨.Tuple elts kk tpos, .Call (.Name "zip" p) [.Name x n1, .Name y n2] [] pos, ifs, 0⟩] scope spos) npos) (fAsg k (fLcZ i j tt ft fe (own.map (·.2)))) := by
  obtain ⟨w, pi, si⟩ := semip_zipN (X := X) (e := .Name x n1) (e2 := .Name y n2) (ti := fun _ _ _ => True) (elts := elts) (kk := kk) (tpos := tpos) (p := p) (pos := pos) hgl hm hx hvx hy hvy hd hcd hd' hcd' hs2 hs hpl
  exact ⟨_, ps_setLc hc hN hz hzl hsw pi ok hg (fun s H C cl fp => (ht s H C cl fp).pts) (fun s H C cl fp => (he s H C cl fp).canon) hfs, sem_asg (sem_lcZ si sg semt_can ho) hk⟩
end
/-! ### how these are reckoned -/
@[simp] theorem seqS_sh (d : D) : seqS (.sh d) = seqOf d := eqq rfl
@[simp] theorem seqS_ol (ds : List D) : seqS (.ol ds) = some ds := eqq rfl
def putR2 (i j : Nat) (s t : Sl) (p : Sl × Lo) : Res (Sl × Lo) := .ok (p.1, (p.2.set i s).set j t)
@[simp] theorem putR2_ev (i j : Nat) (s t : Sl) (r : Sl) (e : Lo) : putR2 i j s t (r, e) = .ok (r, (e.set i s).set j t) := eqq rfl
def lcZ2 (i j : Nat) (tg : Tgt) (ft : EvT) (fe : EvF) (own : List Nat) (env : Lo) (s t : Sl) : Option (List D) → Option (List D) → Res (Sl × Lo)
  | some xs, some ys => (lcC tg ft fe own ([s, t], zipD xs ys, (env.set i .no).set j .no)).bind (putR2 i j s t)
  | _, _ => .bad
@[simp] theorem lcZ2_some (i j : Nat) (tg : Tgt) (ft : EvT) (fe : EvF) (own : List Nat) (env : Lo) (s t : Sl) (xs ys : List D) : lcZ2 i j tg ft fe own env s t (some xs) (some ys) = (lcC tg ft fe own ([s, t], zipD xs ys, (env.set i .no).set j .no)).bind (putR2 i j s t) := eqq rfl
def lcZC (i j : Nat) (tg : Tgt) (ft : EvT) (fe : EvF) (own : List Nat) (env : Lo) : Option Sl → Option Sl → Res (Sl × Lo)
  | some s, some t => if i = j then .bad else lcZ2 i j tg ft fe own env s t (seqS s) (seqS t)
  | _, _ => .bad
@[simp] theorem lcZC_some (i j : Nat) (tg : Tgt) (ft : EvT) (fe : EvF) (own : List Nat) (env : Lo) (s t : Sl) : lcZC i j tg ft fe own env (some s) (some t) = if i = j then .bad else lcZ2 i j tg ft fe own env s t (seqS s) (seqS t) := eqq rfl
@[simp] theorem ev_lcZ (i j : Nat) (tg : Tgt) (ft : EvT) (fe : EvF) (own : List Nat) (env : Lo) : fLcZ i j tg ft fe own env = lcZC i j tg ft fe own env env[i]? env[j]? := by
  unfold fLcZ
  split
  · rename_i s t e0 e1
    rw [e0, e1]
    show (fLc (fZipN i j) tg ft fe own env).bind _ = _
    rw [ev_lc]
    unfold fZipN
    rw [e0, e1]
    simp only [lcZC_some]
    by_cases hij : i = j
    · simp [hij]
    · simp only [hij, if_false]
      unfold zipN
      cases seqS s with
      | none => rfl
      | some xs =>
        cases seqS t with
        | none => rfl
        | some ys => rfl
  · rename_i h
    cases e0 : env[i]? with
    | none => rfl
    | some s =>
      cases e1 : env[j]? with
      | none => rfl
      | some t => exact absurd e1 (h s t e0)
end FL

/-! FW: rows under making, by a stack of lists of lists: the heap's side -/
namespace FL
open PySem PySem.Spec PyProof.Rows L2
def loopD (ds : List D) : D := .tuple [.str sLoop, .list ds]
def eitherD (a b : List D) : D := .tuple [.str sEither, .list a, .list b]
abbrev BSt := List D × List Fr
/-- the rows, all closed -/
def closeAll : List D → List Fr → List D
  | cur, [] => cur
  | cur, .lp rows :: fs => closeAll (rows ++ [loopD cur]) fs
  | cur, .e1 rows :: fs => closeAll (rows ++ [eitherD cur []]) fs
  | cur, .e2 rows ones :: fs => closeAll (rows ++ [eitherD ones cur]) fs
section
variable {K : PySem.W.Frag} {mg : Str → Option Value} {G H H' : Hp} {L : List Item} {os : List Addr} {st root b : Addr} {qs : List Addr} {es : List (List Addr)} {cur : List D} {ctx fs : List Fr}
theorem CtxR.len : ∀ {root b : Addr} {fs : List Fr} {es : List (List Addr)} {os : List Addr}, CtxR K G H root b fs es os → es.length = fs.length + 1
  | _, _, _, _, _, .nil => rfl
  | _, _, _, _, _, .lp _ _ _ t => by simp [CtxR.len t]
  | _, _, _, _, _, .e1 _ _ _ _ t => by simp [CtxR.len t]
  | _, _, _, _, _, .e2 _ _ _ _ t => by simp [CtxR.len t]
theorem QsR.len : ∀ {qs : List Addr} {es : List (List Addr)}, QsR H qs es → qs.length = es.length
  | _, _, .nil => rfl
  | _, _, .cons _ t => by simp [QsR.len t]
/-- the stack's last part begins with the list that is open -/
theorem CtxR.first (h : CtxR K G H root b fs es os) : ∃ e es', es = (b :: e) :: es' := by
  cases h with
  | nil => exact ⟨[], [], rfl⟩
  | lp _ _ _ _ => exact ⟨[], _, rfl⟩
  | e1 _ _ _ _ _ => exact ⟨[_], _, rfl⟩
  | e2 _ _ _ _ _ => exact ⟨[], _, rfl⟩
/-- an item is made another one -/
theorem Rp.repl {ov : Option V} {s : Sl} (h : Rp K mg G H ((ov, s) :: L) os) : ∃ o os1, RI K mg G H ov s o ∧ Same G H ∧ (o ++ os1).Nodup ∧ (∀ a ∈ o ++ os1, G a = none) ∧ (∀ a ∈ os1, ∃ x, H a = some x) ∧
    ∀ (G' H' : Hp) (ov' : Option V) (s' : Sl) (o' : List Addr), Same G G' → Same G' H' → (∀ a ∈ os1, ∀ x, H a = some x → H' a = some x) → (∀ a ∈ os1, G' a = none) → RI K mg G' H' ov' s' o' → o'.Nodup → (∀ a ∈ o', a ∉ os1) → (∀ a ∈ o', G' a = none) → Rep K mg H' ((ov', s') :: L) := by
  obtain ⟨sm, rl, nd, off⟩ := h
  cases rl with
  | @cons _ _ o os1 _ ri t =>
    refine ⟨o, os1, ri, sm, nd, off, RL.there t, fun G' H' ov' s' o' g1 g2 h1 h2 ri' n' d' f' => ⟨G', o' ++ os1, g2, .cons ri' (t.mono g1 h1), ?_, fun a ha => ?_⟩⟩
    · exact List.nodup_append.mpr ⟨n', (List.nodup_append.mp nd).2.1, fun a ha b hb e => d' a ha (e ▸ hb)⟩
    · rcases List.mem_append.mp ha with ha | ha
      · exact f' a ha
      · exact h2 a ha
/-- two items are made one -/
theorem Rp.repl2 {ov ov2 : Option V} {s s2 : Sl} (h : Rp K mg G H ((ov, s) :: (ov2, s2) :: L) os) : ∃ o o2 os1, RI K mg G H ov s o ∧ RI K mg G H ov2 s2 o2 ∧ Same G H ∧ (o ++ (o2 ++ os1)).Nodup ∧ (∀ a ∈ o ++ (o2 ++ os1), G a = none) ∧ (∀ a ∈ os1, ∃ x, H a = some x) ∧
    ∀ (G' H' : Hp) (ov' : Option V) (s' : Sl) (o' : List Addr), Same G G' → Same G' H' → (∀ a ∈ os1, ∀ x, H a = some x → H' a = some x) → (∀ a ∈ os1, G' a = none) → RI K mg G' H' ov' s' o' → o'.Nodup → (∀ a ∈ o', a ∉ os1) → (∀ a ∈ o', G' a = none) → Rep K mg H' ((ov', s') :: L) := by
  obtain ⟨sm, rl, nd, off⟩ := h
  cases rl with
  | @cons _ _ o osx _ ri t =>
    cases t with
    | @cons _ _ o2 os1 _ ri2 t =>
      refine ⟨o, o2, os1, ri, ri2, sm, nd, off, RL.there t, fun G' H' ov' s' o' g1 g2 h1 h2 ri' n' d' f' => ⟨G', o' ++ os1, g2, .cons ri' (t.mono g1 h1), ?_, fun a ha => ?_⟩⟩
      · exact List.nodup_append.mpr ⟨n', (List.nodup_append.mp (List.nodup_append.mp nd).2.1).2.1, fun a ha b hb e => d' a ha (e ▸ hb)⟩
      · rcases List.mem_append.mp ha with ha | ha
        · exact f' a ha
        · exact h2 a ha
theorem RI.bs_inv {ov : Option V} (h : RI K mg G H ov (.ow (.bs root cur ctx)) os) : ∃ st b qs es vs os', ov = some (.ref st) ∧ os = st :: b :: (qs ++ os') ∧ H st = some (.lst (qs.reverse.map V.ref)) ∧ QsR H qs es ∧ H b = some (.lst vs) ∧ DtAll K G vs cur ∧ CtxR K G H root b ctx es os' := by
  cases h with
  | bx b => cases b
  | ow x => cases x with
    | bs h1 h2 h3 h4 h5 => exact ⟨_, _, _, _, _, _, rfl, rfl, h1, h2, h3, h4, h5⟩
/-- more stands still -/
theorem sameW {G H : Hp} {p : Addr} {o : HO} (s : Same G H) (hp : H p = some o) : Same (upd G p o) H := fun b x e => by
  by_cases hb : b = p
  · subst hb; rw [upd_same] at e; rw [hp]; exact e
  · rw [upd_ne hb] at e; exact s b x e
theorem sameU {G : Hp} {p : Addr} {o : HO} (gp : G p = none) : Same G (upd G p o) := sameG gp
/-- all of it stands still from now on -/
theorem ctx_freeze : ∀ {fs : List Fr} {root b : Addr} {es : List (List Addr)} {os : List Addr} {G : Hp} {vs : List V} {cur : List D}, CtxR K G H root b fs es os → Same G H → H b = some (.lst vs) → DtAll K G vs cur → (b :: os).Nodup → (∀ a ∈ b :: os, G a = none) →
    ∃ G', Same G G' ∧ Same G' H ∧ Dt K G' (.ref root) (.list (closeAll cur fs)) ∧ ∀ a, a ∉ b :: os → G' a = G a := by
  intro fs
  induction fs with
  | nil =>
    intro root b es os G vs cur c sm hb ha nd off
    cases c with
    | nil =>
      refine ⟨upd G root (.lst vs), sameU (off _ (by simp)), sameW sm hb, .lst upd_same (DtAll.mono (sameU (off _ (by simp))) _ _ ha), fun a ha => upd_ne (fun e => ha (by simp [e]))⟩
  | cons f fs ih =>
    intro root b es os G vs cur c sm hb ha nd off
    cases c with
    | @lp b a t vsa rows fs es os h1 h2 h3 c' =>
      have gb : G b = none := off _ (by simp)
      have gt : G t = none := off _ (by simp)
      have ga : G a = none := off _ (by simp)
      simp only [List.nodup_cons, List.mem_cons, not_or] at nd
      obtain ⟨⟨hba, hbt, hbo⟩, ⟨hat, hao⟩, hto, hn⟩ := nd
      have s1 : Same G (upd G b (.lst vs)) := sameU gb
      have g1t : upd G b (.lst vs) t = none := by rw [upd_ne (fun e => hbt e.symm)]; exact gt
      have s2 : Same (upd G b (.lst vs)) (upd (upd G b (.lst vs)) t (.tup [.str sLoop, .ref b])) := sameU g1t
      have s12 := s1.trans s2
      have dl : Dt K (upd (upd G b (.lst vs)) t (.tup [.str sLoop, .ref b])) (.ref t) (loopD cur) :=
        .tup (.inl upd_same) (.cons (.str _) (.cons (.lst (by rw [upd_ne hbt]; exact upd_same) (DtAll.mono s12 _ _ ha)) .nil))
      have cc := c'.mono (G' := upd (upd G b (.lst vs)) t (.tup [.str sLoop, .ref b])) (H' := H) s12 (fun _ _ _ e => e)
      obtain ⟨G', g1, g2, g3, g4⟩ := ih (cur := rows ++ [loopD cur]) cc (sameW (sameW sm hb) h1) h2 ((DtAll.mono s12 _ _ h3).append (.one dl)) (List.nodup_cons.mpr ⟨hao, hn⟩) (fun x hx => by
        have hx2 : x ≠ t := fun e => by
          subst e
          rcases List.mem_cons.mp hx with e | hx
          · exact hat e.symm
          · exact hto hx
        have hx3 : x ≠ b := fun e => by
          subst e
          rcases List.mem_cons.mp hx with e | hx
          · exact hba e
          · exact hbo hx
        rw [upd_ne hx2, upd_ne hx3]
        refine off x ?_
        rcases List.mem_cons.mp hx with e | hx
        · simp [e]
        · simp [hx])
      refine ⟨G', s12.trans g1, g2, g3, fun x hx => ?_⟩
      simp only [List.mem_cons, not_or] at hx
      rw [g4 x (by simp [hx.2.1, hx.2.2.2]), upd_ne hx.2.2.1, upd_ne hx.1]
    | @e1 b c a t vsa rows fs es os h1 hc h2 h3 c' =>
      have gb : G b = none := off _ (by simp)
      have gt : G t = none := off _ (by simp)
      have ga : G a = none := off _ (by simp)
      have gc : G c = none := off _ (by simp)
      simp only [List.nodup_cons, List.mem_cons, not_or] at nd
      obtain ⟨⟨hba, hbt, hbc, hbo⟩, ⟨hat, hac, hao⟩, ⟨htc, hto⟩, hco, hn⟩ := nd
      have s1 : Same G (upd G b (.lst vs)) := sameU gb
      have g1c : upd G b (.lst vs) c = none := by rw [upd_ne (fun e => hbc e.symm)]; exact gc
      have s1' : Same (upd G b (.lst vs)) (upd (upd G b (.lst vs)) c (.lst [])) := sameU g1c
      have g1t : upd (upd G b (.lst vs)) c (.lst []) t = none := by rw [upd_ne htc, upd_ne (fun e => hbt e.symm)]; exact gt
      have s2 : Same (upd (upd G b (.lst vs)) c (.lst [])) (upd (upd (upd G b (.lst vs)) c (.lst [])) t (.tup [.str sEither, .ref b, .ref c])) := sameU g1t
      have s12 := (s1.trans s1').trans s2
      have dl : Dt K (upd (upd (upd G b (.lst vs)) c (.lst [])) t (.tup [.str sEither, .ref b, .ref c])) (.ref t) (eitherD cur []) :=
        .tup (.inl upd_same) (.cons (.str _) (.cons (.lst (by rw [upd_ne hbt, upd_ne hbc]; exact upd_same) (DtAll.mono s12 _ _ ha)) (.cons (.lst (by rw [upd_ne (fun e => htc e.symm)]; exact upd_same) .nil) .nil)))
      have cc := c'.mono (G' := upd (upd (upd G b (.lst vs)) c (.lst [])) t (.tup [.str sEither, .ref b, .ref c])) (H' := H) s12 (fun _ _ _ e => e)
      obtain ⟨G', g1, g2, g3, g4⟩ := ih (cur := rows ++ [eitherD cur []]) cc (sameW (sameW (sameW sm hb) hc) h1) h2 ((DtAll.mono s12 _ _ h3).append (.one dl)) (List.nodup_cons.mpr ⟨hao, hn⟩) (fun x hx => by
        have hx1 : x ≠ c := fun e => by
          subst e
          rcases List.mem_cons.mp hx with e | hx
          · exact hac e.symm
          · exact hco hx
        have hx2 : x ≠ t := fun e => by
          subst e
          rcases List.mem_cons.mp hx with e | hx
          · exact hat e.symm
          · exact hto hx
        have hx3 : x ≠ b := fun e => by
          subst e
          rcases List.mem_cons.mp hx with e | hx
          · exact hba e
          · exact hbo hx
        rw [upd_ne hx2, upd_ne hx1, upd_ne hx3]
        refine off x ?_
        rcases List.mem_cons.mp hx with e | hx
        · simp [e]
        · simp [hx])
      refine ⟨G', s12.trans g1, g2, g3, fun x hx => ?_⟩
      simp only [List.mem_cons, not_or] at hx
      rw [g4 x (by simp [hx.2.1, hx.2.2.2.2]), upd_ne hx.2.2.1, upd_ne hx.2.2.2.1, upd_ne hx.1]
    | @e2 b b' a t vsa rows ones fs es os h1 hb' h2 h3 c' =>
      have gb : G b = none := off _ (by simp)
      have gt : G t = none := off _ (by simp)
      have ga : G a = none := off _ (by simp)
      simp only [List.nodup_cons, List.mem_cons, not_or] at nd
      obtain ⟨⟨hba, hbt, hbo⟩, ⟨hat, hao⟩, hto, hn⟩ := nd
      have s1 : Same G (upd G b (.lst vs)) := sameU gb
      have g1t : upd G b (.lst vs) t = none := by rw [upd_ne (fun e => hbt e.symm)]; exact gt
      have s2 : Same (upd G b (.lst vs)) (upd (upd G b (.lst vs)) t (.tup [.str sEither, .ref b', .ref b])) := sameU g1t
      have s12 := s1.trans s2
      have dl : Dt K (upd (upd G b (.lst vs)) t (.tup [.str sEither, .ref b', .ref b])) (.ref t) (eitherD ones cur) :=
        .tup (.inl upd_same) (.cons (.str _) (.cons (Dt.mono s12 _ _ hb') (.cons (.lst (by rw [upd_ne hbt]; exact upd_same) (DtAll.mono s12 _ _ ha)) .nil)))
      have cc := c'.mono (G' := upd (upd G b (.lst vs)) t (.tup [.str sEither, .ref b', .ref b])) (H' := H) s12 (fun _ _ _ e => e)
      obtain ⟨G', g1, g2, g3, g4⟩ := ih (cur := rows ++ [eitherD ones cur]) cc (sameW (sameW sm hb) h1) h2 ((DtAll.mono s12 _ _ h3).append (.one dl)) (List.nodup_cons.mpr ⟨hao, hn⟩) (fun x hx => by
        have hx2 : x ≠ t := fun e => by
          subst e
          rcases List.mem_cons.mp hx with e | hx
          · exact hat e.symm
          · exact hto hx
        have hx3 : x ≠ b := fun e => by
          subst e
          rcases List.mem_cons.mp hx with e | hx
          · exact hba e
          · exact hbo hx
        rw [upd_ne hx2, upd_ne hx3]
        refine off x ?_
        rcases List.mem_cons.mp hx with e | hx
        · simp [e]
        · simp [hx])
      refine ⟨G', s12.trans g1, g2, g3, fun x hx => ?_⟩
      simp only [List.mem_cons, not_or] at hx
      rw [g4 x (by simp [hx.2.1, hx.2.2.2]), upd_ne hx.2.2.1, upd_ne hx.1]
end
end FL

/-! FW2: rows under making: a row more, a list closed -/
namespace FL
open PySem PySem.Spec PyProof.Rows L2
section
variable {K : PySem.W.Frag} {mg : Str → Option Value} {G H H' : Hp} {L : List Item} {os : List Addr} {st root b t : Addr} {qs : List Addr} {es : List (List Addr)} {cur : List D} {ctx fs : List Fr}
def itB (st root : Addr) (b : BSt) : Item := (some (.ref st), .ow (.bs root b.1 b.2))
/-- what is to be seen of it -/
structure BsSee (H : Hp) (st : Addr) (b : BSt) (q p : Addr) (ws es vs : List V) : Prop where
  hst : H st = some (.lst (ws ++ [.ref q]))
  hws : ws.length = b.2.length
  hq : H q = some (.lst (.ref p :: es))
  hp : H p = some (.lst vs)
  hvs : vs.length = b.1.length
  nqs : q ≠ st
  nps : p ≠ st
  npq : p ≠ q
theorem bs_see {cur : List D} {ctx : List Fr} {vs : List V} {os' : List Addr} (h1 : H st = some (.lst (qs.reverse.map V.ref))) (h2 : QsR H qs es) (h3 : H b = some (.lst vs)) (h4 : DtAll K G vs cur) (h5 : CtxR K G H root b ctx es os') (nd : (st :: b :: (qs ++ os')).Nodup) :
    ∃ q qs' e es', qs = q :: qs' ∧ es = (b :: e) :: es' ∧ QsR H qs' es' ∧ BsSee H st (cur, ctx) q b (qs'.reverse.map V.ref) (e.map V.ref) vs := by
  obtain ⟨e, es', rfl⟩ := h5.first
  cases h2 with
  | @cons q _ qs' _ hq hqs =>
    simp only [List.cons_append, List.nodup_cons, List.mem_cons, List.mem_append, not_or] at nd
    refine ⟨q, qs', e, es', rfl, rfl, hqs, by rw [h1]; simp, ?_, hq, h3, h4.length, fun z => nd.1.2.1 z.symm, fun z => nd.1.1 z.symm, nd.2.1.1⟩
    have h6 := h5.len
    have h7 := hqs.len
    simp at h6 ⊢
    omega
structure BsAt (K : PySem.W.Frag) (mg : Str → Option Value) (H : Hp) (st root : Addr) (b : BSt) (L : List Item) (q p : Addr) (ws es vs : List V) : Prop where
  see : BsSee H st b q p ws es vs
  put : ∀ (v : V) (d : D) (H' : Hp), (some v, Sl.sh d) ∈ L → (∀ a o, H a = some o → a ≠ p → H' a = some o) → H' p = some (.lst (vs ++ [v])) → Rep K mg H' (itB st root (b.1 ++ [d], b.2) :: L)
  popL : ∀ rows fs, b.2 = .lp rows :: fs → es = [] ∧ ∀ H' : Hp, (∀ a o, H a = some o → a ≠ q → a ≠ st → H' a = some o) → H' st = some (.lst ws) → Rep K mg H' (itB st root (rows ++ [loopD b.1], fs) :: L)
  pop2 : ∀ rows ones fs, b.2 = .e2 rows ones :: fs → es = [] ∧ ∀ H' : Hp, (∀ a o, H a = some o → a ≠ q → a ≠ st → H' a = some o) → H' st = some (.lst ws) → Rep K mg H' (itB st root (rows ++ [eitherD ones b.1], fs) :: L)
  pop1 : ∀ rows fs, b.2 = .e1 rows :: fs → ∃ c, es = [.ref c] ∧ H c = some (.lst []) ∧ c ≠ q ∧ ∀ H' : Hp, (∀ a o, H a = some o → a ≠ q → H' a = some o) → H' q = some (.lst [.ref c]) → Rep K mg H' (itB st root ([], .e2 rows b.1 :: fs) :: L)
theorem Rep.bs_at {b : BSt} (h : Rep K mg H (itB st root b :: L)) : ∃ q p ws es vs, BsAt K mg H st root b L q p ws es vs := by
  obtain ⟨G, os, rp⟩ := h
  have mem : ∀ (v : V) (d : D), (some v, Sl.sh d) ∈ L → Dt K G v d := fun v d hm => by
    obtain ⟨v', e, dd⟩ := rp.shOf (List.mem_cons_of_mem _ hm)
    cases e
    exact dd
  obtain ⟨o, os1, ri, sm, nd, off, th, fin⟩ := rp.repl
  obtain ⟨st', p, qs, es, vs, os', e, rfl, h1, h2, h3, h4, h5⟩ := ri.bs_inv
  cases e
  obtain ⟨cur, ctx⟩ := b
  obtain ⟨q, qs', e, es', rfl, rfl, hqs, see⟩ := bs_see h1 h2 h3 h4 h5 (List.nodup_append.mp nd).1
  have nd1 := (List.nodup_append.mp nd).1
  have disj : ∀ a ∈ st :: p :: (q :: qs' ++ os'), a ∉ os1 := fun a ha hb => (List.nodup_append.mp nd).2.2 a ha a hb rfl
  have off1 : ∀ a ∈ os1, G a = none := fun a ha => off a (List.mem_append_right _ ha)
  have off0 : ∀ a ∈ st :: p :: (q :: qs' ++ os'), G a = none := fun a ha => off a (List.mem_append_left _ ha)
  have nd1' := nd1
  simp only [List.cons_append, List.nodup_cons, List.mem_cons, List.mem_append, not_or] at nd1
  obtain ⟨⟨hsp, hsq, hsqs, hso⟩, ⟨hpq, hpqs, hpo⟩, ⟨hqqs, hqo⟩, hn⟩ := nd1
  refine ⟨q, p, qs'.reverse.map V.ref, e.map V.ref, vs, see, ?_, ?_, ?_, ?_⟩
  · intro v d H' hm ag hp'
    have dv := mem v d hm
    refine fin G H' _ _ (st :: p :: (q :: qs' ++ os')) (.refl _) (fun a o ea => ag a o (sm _ _ ea) (fun z => by rw [z, off0 p (by simp)] at ea; cases ea)) (fun a ha x ea => ag a x ea (fun z => disj p (by simp) (z ▸ ha))) off1 (.ow (.bs (ag _ _ h1 (fun z => hsp z)) ?_ hp' (h4.append (.one dv)) (h5.mono (.refl _) fun a ha x ea => ag a x ea fun z => hpo (z ▸ ha)))) nd1' disj off0
    refine .cons (ag _ _ see.hq fun z => hpq z.symm) (hqs.mono fun a ha x ea => ag a x ea fun z => hpqs (z ▸ ha))
  · intro rows fs hc
    have hc : ctx = .lp rows :: fs := hc
    subst hc
    cases h5 with
    | @lp _ a t vsa _ _ _ os2 k1 k2 k3 c' =>
      refine ⟨rfl, fun H' ag hst' => ?_⟩
      simp only [List.mem_cons, not_or] at hso hpo hqo
      obtain ⟨hn1, hn2, hn3⟩ := List.nodup_append.mp hn
      simp only [List.nodup_cons, List.mem_cons, not_or] at hn2
      obtain ⟨⟨hat, hao⟩, hto, hno⟩ := hn2
      have gb : G p = none := off0 _ (by simp)
      have gt : G t = none := off0 _ (by simp)
      have s1 : Same G (upd G p (.lst vs)) := sameU gb
      have g1t : upd G p (.lst vs) t = none := by rw [upd_ne (fun e => hpo.2.1 e.symm)]; exact gt
      have s12 : Same G (upd (upd G p (.lst vs)) t (.tup [.str sLoop, .ref p])) := s1.trans (sameU g1t)
      have dl : Dt K (upd (upd G p (.lst vs)) t (.tup [.str sLoop, .ref p])) (.ref t) (loopD cur) :=
        .tup (.inl upd_same) (.cons (.str _) (.cons (.lst (by rw [upd_ne hpo.2.1]; exact upd_same) (DtAll.mono s12 _ _ h4)) .nil))
      have gg : ∀ x, x ≠ p → x ≠ t → upd (upd G p (.lst vs)) t (.tup [.str sLoop, .ref p]) x = G x := fun x hx hx2 => by rw [upd_ne hx2, upd_ne hx]
      have gq : G q = none := off0 _ (by simp)
      have gst : G st = none := off0 _ (by simp)
      refine fin _ H' _ _ (st :: a :: (qs' ++ os2)) s12 ?_ (fun x hx y ey => ag x y ey (fun z => disj q (by simp) (z ▸ hx)) (fun z => disj st (by simp) (z ▸ hx))) (fun x hx => by
        rw [gg x (fun z => disj p (by simp) (z ▸ hx)) (fun z => disj t (by simp) (z ▸ hx))]; exact off1 x hx) (.ow (.bs hst' ?_ (ag _ _ k2 (fun z => hqo.1 z.symm) (fun z => hso.1 z.symm)) ((DtAll.mono s12 _ _ k3).append (.one dl)) (c'.mono s12 fun x hx y ey => ag x y ey (fun z => hqo.2.2 (z ▸ hx)) (fun z => hso.2.2 (z ▸ hx))))) ?_ ?_ ?_
      · intro x o ex
        have key : Same (upd (upd G p (.lst vs)) t (.tup [.str sLoop, .ref p])) H := sameW (sameW sm h3) k1
        refine ag x o (key _ _ ex) (fun z => ?_) (fun z => ?_)
        · subst z
          rw [gg x (fun z => hpq z.symm) (fun z => hqo.2.1 z), gq] at ex; cases ex
        · subst z
          rw [gg x (fun z => hsp z) (fun z => hso.2.1 z), gst] at ex; cases ex
      · exact hqs.mono fun x hx y ey => ag x y ey (fun z => hqqs (z ▸ hx)) (fun z => hsqs (z ▸ hx))
      · simp only [List.nodup_cons, List.mem_cons, List.mem_append, not_or]
        refine ⟨⟨hso.1, hsqs, hso.2.2⟩, ⟨fun z => hn3 a z a (by simp) rfl, hao⟩, List.nodup_append.mpr ⟨hn1, hno, fun x hx y hy => hn3 x hx y (by simp [hy])⟩⟩
      · intro x hx
        refine disj x ?_
        simp only [List.mem_cons, List.mem_append] at hx ⊢
        rcases hx with e | e | e | e
        · simp [e]
        · simp [e]
        · simp [e]
        · simp [e]
      · intro x hx
        simp only [List.mem_cons, List.mem_append] at hx
        have hx1 : x ≠ p := fun z => by
          subst z
          rcases hx with e | e | e | e
          · exact hsp e.symm
          · exact hpo.1 e
          · exact hpqs e
          · exact hpo.2.2 e
        have hx2 : x ≠ t := fun z => by
          subst z
          rcases hx with e | e | e | e
          · exact hso.2.1 e.symm
          · exact hat e.symm
          · exact hn3 x e x (by simp) rfl
          · exact hto e
        rw [gg x hx1 hx2]
        refine off0 x ?_
        simp only [List.mem_cons, List.mem_append]
        rcases hx with e | e | e | e
        · simp [e]
        · simp [e]
        · simp [e]
        · simp [e]
  · intro rows ones fs hc
    have hc : ctx = .e2 rows ones :: fs := hc
    subst hc
    cases h5 with
    | @e2 _ b' a t vsa _ _ _ _ os2 k1 kb k2 k3 c' =>
      refine ⟨rfl, fun H' ag hst' => ?_⟩
      simp only [List.mem_cons, not_or] at hso hpo hqo
      obtain ⟨hn1, hn2, hn3⟩ := List.nodup_append.mp hn
      simp only [List.nodup_cons, List.mem_cons, not_or] at hn2
      obtain ⟨⟨hat, hao⟩, hto, hno⟩ := hn2
      have gb : G p = none := off0 _ (by simp)
      have gt : G t = none := off0 _ (by simp)
      have s1 : Same G (upd G p (.lst vs)) := sameU gb
      have g1t : upd G p (.lst vs) t = none := by rw [upd_ne (fun e => hpo.2.1 e.symm)]; exact gt
      have s12 : Same G (upd (upd G p (.lst vs)) t (.tup [.str sEither, .ref b', .ref p])) := s1.trans (sameU g1t)
      have dl : Dt K (upd (upd G p (.lst vs)) t (.tup [.str sEither, .ref b', .ref p])) (.ref t) (eitherD ones cur) :=
        .tup (.inl upd_same) (.cons (.str _) (.cons (Dt.mono s12 _ _ kb) (.cons (.lst (by rw [upd_ne hpo.2.1]; exact upd_same) (DtAll.mono s12 _ _ h4)) .nil)))
      have gg : ∀ x, x ≠ p → x ≠ t → upd (upd G p (.lst vs)) t (.tup [.str sEither, .ref b', .ref p]) x = G x := fun x hx hx2 => by rw [upd_ne hx2, upd_ne hx]
      have gq : G q = none := off0 _ (by simp)
      have gst : G st = none := off0 _ (by simp)
      refine fin _ H' _ _ (st :: a :: (qs' ++ os2)) s12 ?_ (fun x hx y ey => ag x y ey (fun z => disj q (by simp) (z ▸ hx)) (fun z => disj st (by simp) (z ▸ hx))) (fun x hx => by
        rw [gg x (fun z => disj p (by simp) (z ▸ hx)) (fun z => disj t (by simp) (z ▸ hx))]; exact off1 x hx) (.ow (.bs hst' ?_ (ag _ _ k2 (fun z => hqo.1 z.symm) (fun z => hso.1 z.symm)) ((DtAll.mono s12 _ _ k3).append (.one dl)) (c'.mono s12 fun x hx y ey => ag x y ey (fun z => hqo.2.2 (z ▸ hx)) (fun z => hso.2.2 (z ▸ hx))))) ?_ ?_ ?_
      · intro x o ex
        have key : Same (upd (upd G p (.lst vs)) t (.tup [.str sEither, .ref b', .ref p])) H := sameW (sameW sm h3) k1
        refine ag x o (key _ _ ex) (fun z => ?_) (fun z => ?_)
        · subst z
          rw [gg x (fun z => hpq z.symm) (fun z => hqo.2.1 z), gq] at ex; cases ex
        · subst z
          rw [gg x (fun z => hsp z) (fun z => hso.2.1 z), gst] at ex; cases ex
      · exact hqs.mono fun x hx y ey => ag x y ey (fun z => hqqs (z ▸ hx)) (fun z => hsqs (z ▸ hx))
      · simp only [List.nodup_cons, List.mem_cons, List.mem_append, not_or]
        refine ⟨⟨hso.1, hsqs, hso.2.2⟩, ⟨fun z => hn3 a z a (by simp) rfl, hao⟩, List.nodup_append.mpr ⟨hn1, hno, fun x hx y hy => hn3 x hx y (by simp [hy])⟩⟩
      · intro x hx
        refine disj x ?_
        simp only [List.mem_cons, List.mem_append] at hx ⊢
        rcases hx with e | e | e | e
        · simp [e]
        · simp [e]
        · simp [e]
        · simp [e]
      · intro x hx
        simp only [List.mem_cons, List.mem_append] at hx
        have hx1 : x ≠ p := fun z => by
          subst z
          rcases hx with e | e | e | e
          · exact hsp e.symm
          · exact hpo.1 e
          · exact hpqs e
          · exact hpo.2.2 e
        have hx2 : x ≠ t := fun z => by
          subst z
          rcases hx with e | e | e | e
          · exact hso.2.1 e.symm
          · exact hat e.symm
          · exact hn3 x e x (by simp) rfl
          · exact hto e
        rw [gg x hx1 hx2]
        refine off0 x ?_
        simp only [List.mem_cons, List.mem_append]
        rcases hx with e | e | e | e
        · simp [e]
        · simp [e]
        · simp [e]
        · simp [e]
  · intro rows fs hc
    have hc : ctx = .e1 rows :: fs := hc
    subst hc
    cases h5 with
    | @e1 _ c a t vsa _ _ _ os2 k1 kc k2 k3 c' =>
      simp only [List.mem_cons, not_or] at hso hpo hqo
      obtain ⟨hn1, hn2, hn3⟩ := List.nodup_append.mp hn
      simp only [List.nodup_cons, List.mem_cons, not_or] at hn2
      obtain ⟨⟨hat, hac, hao⟩, ⟨htc, hto⟩, hco, hno⟩ := hn2
      refine ⟨c, rfl, kc, fun z => hqo.2.2.1 z.symm, fun H' ag hq' => ?_⟩
      have gb : G p = none := off0 _ (by simp)
      have s1 : Same G (upd G p (.lst vs)) := sameU gb
      have gg : ∀ x, x ≠ p → upd G p (.lst vs) x = G x := fun x hx => upd_ne hx
      have gq : G q = none := off0 _ (by simp)
      refine fin _ H' _ _ (st :: c :: (q :: qs' ++ (a :: t :: os2))) s1 ?_ (fun x hx y ey => ag x y ey (fun z => disj q (by simp) (z ▸ hx))) (fun x hx => by
        rw [gg x (fun z => disj p (by simp) (z ▸ hx))]; exact off1 x hx) (.ow (.bs (ag _ _ h1 (fun z => hsq z)) ?_ (ag _ _ kc (fun z => hqo.2.2.1 z.symm)) .nil (.e2 (ag _ _ k1 fun z => hqo.2.1 z.symm) (.lst upd_same (DtAll.mono s1 _ _ h4)) (ag _ _ k2 (fun z => hqo.1 z.symm)) (DtAll.mono s1 _ _ k3) (c'.mono s1 fun x hx y ey => ag x y ey (fun z => hqo.2.2.2 (z ▸ hx)))))) ?_ ?_ ?_
      · intro x o ex
        refine ag x o ((sameW sm h3) _ _ ex) (fun z => ?_)
        subst z
        rw [gg x (fun z => hpq z.symm), gq] at ex; cases ex
      · exact .cons hq' (hqs.mono fun x hx y ey => ag x y ey (fun z => hqqs (z ▸ hx)))
      · simp only [List.cons_append, List.nodup_cons, List.mem_cons, List.mem_append, not_or]
        refine ⟨⟨hso.2.2.1, hsq, hsqs, hso.1, hso.2.1, hso.2.2.2⟩, ⟨fun z => hqo.2.2.1 z.symm, fun z => hn3 c z c (by simp) rfl, fun z => hac z.symm, fun z => htc z.symm, hco⟩, ⟨hqqs, hqo.1, hqo.2.1, hqo.2.2.2⟩, ?_⟩
        refine List.nodup_append.mpr ⟨hn1, ?_, fun x hx y hy => hn3 x hx y ?_⟩
        · simp only [List.nodup_cons, List.mem_cons, not_or]
          exact ⟨⟨hat, hao⟩, hto, hno⟩
        · simp only [List.mem_cons] at hy ⊢
          rcases hy with e | e | e
          · simp [e]
          · simp [e]
          · simp [e]
      · intro x hx
        refine disj x ?_
        simp only [List.cons_append, List.mem_cons, List.mem_append] at hx ⊢
        rcases hx with e | e | e | e | e | e | e <;> simp [e]
      · intro x hx
        simp only [List.cons_append, List.mem_cons, List.mem_append] at hx
        have hx1 : x ≠ p := fun z => by
          subst z
          rcases hx with e | e | e | e | e | e | e
          · exact hsp e.symm
          · exact hpo.2.2.1 e
          · exact hpq e
          · exact hpqs e
          · exact hpo.1 e
          · exact hpo.2.1 e
          · exact hpo.2.2.2 e
        rw [gg x hx1]
        refine off0 x ?_
        simp only [List.mem_cons, List.mem_append]
        rcases hx with e | e | e | e | e | e | e <;> simp [e]
end
end FL

/-! FW3: rows under making: a row with lists of its own is put to them -/
namespace FL
open PySem PySem.Spec PyProof.Rows L2
section
variable {K : PySem.W.Frag} {mg : Str → Option Value} {G H H' : Hp} {L : List Item} {os : List Addr} {st root b t : Addr} {qs : List Addr} {es : List (List Addr)} {cur : List D} {ctx fs : List Fr}
theorem RI.ei_inv {ov : Option V} (h : RI K mg G H ov (.ow .ei) os) : ∃ t b c, ov = some (.ref t) ∧ os = [t, b, c] ∧ H t = some (.tup [.str sEither, .ref b, .ref c]) ∧ H b = some (.lst []) ∧ H c = some (.lst []) := by
  cases h with
  | bx b => cases b
  | ow x => cases x with
    | ei h1 h2 h3 => exact ⟨_, _, _, rfl, rfl, h1, h2, h3⟩
theorem RI.lo_inv {ov : Option V} (h : RI K mg G H ov (.ow .lo) os) : ∃ t b, ov = some (.ref t) ∧ os = [t, b] ∧ H t = some (.tup [.str sLoop, .ref b]) ∧ H b = some (.lst []) := by
  cases h with
  | bx b => cases b
  | ow x => cases x with
    | lo h1 h2 => exact ⟨_, _, rfl, rfl, h1, h2⟩
structure BsEi (K : PySem.W.Frag) (mg : Str → Option Value) (H : Hp) (st root : Addr) (b : BSt) (L : List Item) (t q p : Addr) (ws es vs : List V) (b2 c2 : Addr) : Prop where
  see : BsSee H st b q p ws es vs
  ht : H t = some (.tup [.str sEither, .ref b2, .ref c2])
  stay : ∀ H' : Hp, (∀ a o, H a = some o → a ≠ p → H' a = some o) → H' p = some (.lst (vs ++ [.ref t])) → Rep K mg H' (itB st root (b.1 ++ [eitherD [] []], b.2) :: L)
  go : ∀ (H' : Hp) (Dd : Addr), H Dd = none → (∀ a o, H a = some o → a ≠ p → a ≠ st → H' a = some o) → H' p = some (.lst (vs ++ [.ref t])) → H' Dd = some (.lst [.ref b2, .ref c2]) → H' st = some (.lst (ws ++ [.ref q] ++ [.ref Dd])) → Rep K mg H' (itB st root ([], .e1 b.1 :: b.2) :: L)
theorem Rep.bs_ei {b : BSt} {ov : Option V} (h : Rep K mg H (itB st root b :: (ov, .ow .ei) :: L)) : ∃ t, ov = some (.ref t) ∧ ∃ q p ws es vs b2 c2, BsEi K mg H st root b L t q p ws es vs b2 c2 := by
  obtain ⟨G, os, rp⟩ := h
  obtain ⟨o, o2, os1, ri, ri2, sm, nd, off, th, fin⟩ := rp.repl2
  obtain ⟨st', p, qs, es, vs, os', e, rfl, h1, h2, h3, h4, h5⟩ := ri.bs_inv
  cases e
  obtain ⟨t, b2, c2, rfl, rfl, k1, k2, k3⟩ := ri2.ei_inv
  obtain ⟨cur, ctx⟩ := b
  obtain ⟨q, qs', e, es', rfl, rfl, hqs, see⟩ := bs_see h1 h2 h3 h4 h5 (List.nodup_append.mp nd).1
  obtain ⟨nd1, nd2, nd3⟩ := List.nodup_append.mp nd
  obtain ⟨nd4, nd5, nd6⟩ := List.nodup_append.mp nd2
  have off1 : ∀ a ∈ os1, G a = none := fun a ha => off a (List.mem_append_right _ (List.mem_append_right _ ha))
  have off0 : ∀ a ∈ st :: p :: (q :: qs' ++ os'), G a = none := fun a ha => off a (List.mem_append_left _ ha)
  have off2 : ∀ a ∈ [t, b2, c2], G a = none := fun a ha => off a (List.mem_append_right _ (List.mem_append_left _ ha))
  have dis0 : ∀ a ∈ st :: p :: (q :: qs' ++ os'), a ∉ os1 := fun a ha hb => nd3 a ha a (List.mem_append_right _ hb) rfl
  have dis2 : ∀ a ∈ [t, b2, c2], a ∉ os1 := fun a ha hb => nd6 a ha a hb rfl
  have dis : ∀ a ∈ st :: p :: (q :: qs' ++ os'), ∀ x ∈ [t, b2, c2], a ≠ x := fun a ha x hx => nd3 a ha x (List.mem_append_left _ hx)
  have nd1' := nd1
  simp only [List.cons_append, List.nodup_cons, List.mem_cons, List.mem_append, not_or] at nd1
  obtain ⟨⟨hsp, hsq, hsqs, hso⟩, ⟨hpq, hpqs, hpo⟩, ⟨hqqs, hqo⟩, hn⟩ := nd1
  simp only [List.nodup_cons, List.mem_cons, not_or, List.not_mem_nil, not_false_eq_true, and_true] at nd4
  obtain ⟨⟨htb, htc⟩, hbc, _⟩ := nd4
  have thO : ∀ a ∈ os', ∃ o, H a = some o := h5.there
  refine ⟨t, rfl, q, p, qs'.reverse.map V.ref, e.map V.ref, vs, b2, c2, see, k1, ?_, ?_⟩
  · intro H' ag hp'
    have gt : G t = none := off2 _ (by simp)
    have gb : G b2 = none := off2 _ (by simp)
    have gc : G c2 = none := off2 _ (by simp)
    have s1 : Same G (upd G b2 (.lst [])) := sameU gb
    have g1 : upd G b2 (.lst []) c2 = none := by rw [upd_ne (fun e => hbc e.symm)]; exact gc
    have s2 : Same (upd G b2 (.lst [])) (upd (upd G b2 (.lst [])) c2 (.lst [])) := sameU g1
    have g2 : upd (upd G b2 (.lst [])) c2 (.lst []) t = none := by rw [upd_ne htc, upd_ne htb]; exact gt
    have s12 : Same G (upd (upd (upd G b2 (.lst [])) c2 (.lst [])) t (.tup [.str sEither, .ref b2, .ref c2])) := (s1.trans s2).trans (sameU g2)
    have gg : ∀ x, x ≠ t → x ≠ b2 → x ≠ c2 → upd (upd (upd G b2 (.lst [])) c2 (.lst [])) t (.tup [.str sEither, .ref b2, .ref c2]) x = G x := fun x a b c => by rw [upd_ne a, upd_ne c, upd_ne b]
    have dl : Dt K (upd (upd (upd G b2 (.lst [])) c2 (.lst [])) t (.tup [.str sEither, .ref b2, .ref c2])) (.ref t) (eitherD [] []) :=
      .tup (.inl upd_same) (.cons (.str _) (.cons (.lst (by rw [upd_ne (fun e => htb e.symm), upd_ne hbc]; exact upd_same) .nil) (.cons (.lst (by rw [upd_ne (fun e => htc e.symm)]; exact upd_same) .nil) .nil)))
    have ggo : ∀ x, x ∈ st :: p :: (q :: qs' ++ os') → upd (upd (upd G b2 (.lst [])) c2 (.lst [])) t (.tup [.str sEither, .ref b2, .ref c2]) x = none := fun x hx => by
      rw [gg x (dis x hx t (by simp)) (dis x hx b2 (by simp)) (dis x hx c2 (by simp))]
      exact off0 x hx
    refine fin _ H' _ _ (st :: p :: (q :: qs' ++ os')) s12 (fun a o ea => ag a o ((sameW (sameW (sameW sm k2) k3) k1) _ _ ea) (fun z => by rw [z, ggo p (by simp)] at ea; cases ea)) (fun a ha x ea => ag a x ea (fun z => dis0 p (by simp) (z ▸ ha))) (fun x hx => by
      rw [gg x (fun z => dis2 t (by simp) (z ▸ hx)) (fun z => dis2 b2 (by simp) (z ▸ hx)) (fun z => dis2 c2 (by simp) (z ▸ hx))]; exact off1 x hx)
      (.ow (.bs (ag _ _ h1 (fun z => hsp z)) ?_ hp' ((DtAll.mono s12 _ _ h4).append (.one dl)) (h5.mono s12 fun a ha x ea => ag a x ea fun z => hpo (z ▸ ha)))) nd1' dis0 ggo
    exact .cons (ag _ _ see.hq fun z => hpq z.symm) (hqs.mono fun a ha x ea => ag a x ea fun z => hpqs (z ▸ ha))
  · intro H' Dd hD ag hp' hD' hst'
    have neD : ∀ a o, H a = some o → a ≠ Dd := fun a o e z => by rw [z, hD] at e; cases e
    have gD : G Dd = none := sm.free hD
    refine fin G H' _ _ (st :: b2 :: (Dd :: q :: qs' ++ (p :: t :: c2 :: os'))) (.refl _) (fun a o ea => ag a o (sm _ _ ea) (fun z => by rw [z, off0 p (by simp)] at ea; cases ea) (fun z => by rw [z, off0 st (by simp)] at ea; cases ea)) (fun a ha x ea => ag a x ea (fun z => dis0 p (by simp) (z ▸ ha)) (fun z => dis0 st (by simp) (z ▸ ha))) off1
      (.ow (.bs (by rw [hst']; simp) ?_ (ag _ _ k2 (fun z => dis p (by simp) b2 (by simp) z.symm) (fun z => dis st (by simp) b2 (by simp) z.symm)) .nil (.e1 (ag _ _ k1 (fun z => dis p (by simp) t (by simp) z.symm) (fun z => dis st (by simp) t (by simp) z.symm)) (ag _ _ k3 (fun z => dis p (by simp) c2 (by simp) z.symm) (fun z => dis st (by simp) c2 (by simp) z.symm)) hp' h4 (h5.mono (.refl _) fun a ha x ea => ag a x ea (fun z => hpo (z ▸ ha)) (fun z => hso (z ▸ ha)))))) ?_ ?_ ?_
    · exact .cons hD' (.cons (ag _ _ see.hq (fun z => hpq z.symm) (fun z => hsq z.symm)) (hqs.mono fun a ha x ea => ag a x ea (fun z => hpqs (z ▸ ha)) (fun z => hsqs (z ▸ ha))))
    · simp only [List.cons_append, List.nodup_cons, List.mem_cons, List.mem_append, not_or]
      obtain ⟨hn1, hn2, hn3⟩ := List.nodup_append.mp hn
      have i0 : ∀ a, a ∈ os' → a ∈ st :: p :: (q :: qs' ++ os') := fun a h => by simp [h]
      have iq : ∀ a, a ∈ qs' → a ∈ st :: p :: (q :: qs' ++ os') := fun a h => by simp [h]
      refine ⟨⟨dis st (by simp) b2 (by simp), fun z => neD st _ h1 z, hsq, hsqs, hsp, dis st (by simp) t (by simp), dis st (by simp) c2 (by simp), hso⟩,
        ⟨fun z => neD b2 _ k2 z, fun z => dis q (by simp) b2 (by simp) z.symm, fun z => dis b2 (iq _ z) b2 (by simp) rfl, fun z => dis p (by simp) b2 (by simp) z.symm, fun z => htb z.symm, hbc, fun z => dis b2 (i0 _ z) b2 (by simp) rfl⟩,
        ⟨fun z => neD q _ see.hq z.symm, fun z => ?_, fun z => neD p _ h3 z.symm, fun z => neD t _ k1 z.symm, fun z => neD c2 _ k3 z.symm, fun z => ?_⟩,
        ⟨hqqs, fun z => hpq z.symm, dis q (by simp) t (by simp), dis q (by simp) c2 (by simp), hqo⟩, ?_⟩
      · obtain ⟨o, eo⟩ := hqs.there _ z
        exact neD _ _ eo rfl
      · obtain ⟨o, eo⟩ := thO _ z
        exact neD _ _ eo rfl
      · refine List.nodup_append.mpr ⟨hn1, ?_, fun x hx y hy => ?_⟩
        · simp only [List.nodup_cons, List.mem_cons, not_or]
          exact ⟨⟨dis p (by simp) t (by simp), dis p (by simp) c2 (by simp), hpo⟩, ⟨htc, fun z => dis t (i0 _ z) t (by simp) rfl⟩, fun z => dis c2 (i0 _ z) c2 (by simp) rfl, hn2⟩
        · simp only [List.mem_cons] at hy
          rcases hy with rfl | rfl | rfl | hy
          · exact fun z => hpqs (z ▸ hx)
          · exact dis x (iq _ hx) y (by simp)
          · exact dis x (iq _ hx) y (by simp)
          · exact hn3 x hx y hy
    · intro x hx
      simp only [List.cons_append, List.mem_cons, List.mem_append] at hx
      rcases hx with rfl | rfl | rfl | rfl | hx | rfl | rfl | rfl | hx
      · exact dis0 x (by simp)
      · exact dis2 x (by simp)
      · intro hx
        obtain ⟨o, eo⟩ := th _ hx
        exact neD _ _ eo rfl
      · exact dis0 x (by simp)
      · exact dis0 x (by simp [hx])
      · exact dis0 x (by simp)
      · exact dis2 x (by simp)
      · exact dis2 x (by simp)
      · exact dis0 x (by simp [hx])
    · intro x hx
      simp only [List.cons_append, List.mem_cons, List.mem_append] at hx
      rcases hx with rfl | rfl | rfl | rfl | hx | rfl | rfl | rfl | hx
      · exact off0 x (by simp)
      · exact off2 x (by simp)
      · exact gD
      · exact off0 x (by simp)
      · exact off0 x (by simp [hx])
      · exact off0 x (by simp)
      · exact off2 x (by simp)
      · exact off2 x (by simp)
      · exact off0 x (by simp [hx])
structure BsLo (K : PySem.W.Frag) (mg : Str → Option Value) (H : Hp) (st root : Addr) (b : BSt) (L : List Item) (t q p : Addr) (ws es vs : List V) (b2 : Addr) : Prop where
  see : BsSee H st b q p ws es vs
  ht : H t = some (.tup [.str sLoop, .ref b2])
  stay : ∀ H' : Hp, (∀ a o, H a = some o → a ≠ p → H' a = some o) → H' p = some (.lst (vs ++ [.ref t])) → Rep K mg H' (itB st root (b.1 ++ [loopD []], b.2) :: L)
  go : ∀ (H' : Hp) (Dd : Addr), H Dd = none → (∀ a o, H a = some o → a ≠ p → a ≠ st → H' a = some o) → H' p = some (.lst (vs ++ [.ref t])) → H' Dd = some (.lst [.ref b2]) → H' st = some (.lst (ws ++ [.ref q] ++ [.ref Dd])) → Rep K mg H' (itB st root ([], .lp b.1 :: b.2) :: L)
theorem Rep.bs_lo {b : BSt} {ov : Option V} (h : Rep K mg H (itB st root b :: (ov, .ow .lo) :: L)) : ∃ t, ov = some (.ref t) ∧ ∃ q p ws es vs b2, BsLo K mg H st root b L t q p ws es vs b2 := by
  obtain ⟨G, os, rp⟩ := h
  obtain ⟨o, o2, os1, ri, ri2, sm, nd, off, th, fin⟩ := rp.repl2
  obtain ⟨st', p, qs, es, vs, os', e, rfl, h1, h2, h3, h4, h5⟩ := ri.bs_inv
  cases e
  obtain ⟨t, b2, rfl, rfl, k1, k2⟩ := ri2.lo_inv
  obtain ⟨cur, ctx⟩ := b
  obtain ⟨q, qs', e, es', rfl, rfl, hqs, see⟩ := bs_see h1 h2 h3 h4 h5 (List.nodup_append.mp nd).1
  obtain ⟨nd1, nd2, nd3⟩ := List.nodup_append.mp nd
  obtain ⟨nd4, nd5, nd6⟩ := List.nodup_append.mp nd2
  have off1 : ∀ a ∈ os1, G a = none := fun a ha => off a (List.mem_append_right _ (List.mem_append_right _ ha))
  have off0 : ∀ a ∈ st :: p :: (q :: qs' ++ os'), G a = none := fun a ha => off a (List.mem_append_left _ ha)
  have off2 : ∀ a ∈ [t, b2], G a = none := fun a ha => off a (List.mem_append_right _ (List.mem_append_left _ ha))
  have dis0 : ∀ a ∈ st :: p :: (q :: qs' ++ os'), a ∉ os1 := fun a ha hb => nd3 a ha a (List.mem_append_right _ hb) rfl
  have dis2 : ∀ a ∈ [t, b2], a ∉ os1 := fun a ha hb => nd6 a ha a hb rfl
  have dis : ∀ a ∈ st :: p :: (q :: qs' ++ os'), ∀ x ∈ [t, b2], a ≠ x := fun a ha x hx => nd3 a ha x (List.mem_append_left _ hx)
  have nd1' := nd1
  simp only [List.cons_append, List.nodup_cons, List.mem_cons, List.mem_append, not_or] at nd1
  obtain ⟨⟨hsp, hsq, hsqs, hso⟩, ⟨hpq, hpqs, hpo⟩, ⟨hqqs, hqo⟩, hn⟩ := nd1
  simp only [List.nodup_cons, List.mem_cons, not_or, List.not_mem_nil, not_false_eq_true, and_true] at nd4
  obtain ⟨htb, _⟩ := nd4
  have thO : ∀ a ∈ os', ∃ o, H a = some o := h5.there
  refine ⟨t, rfl, q, p, qs'.reverse.map V.ref, e.map V.ref, vs, b2, see, k1, ?_, ?_⟩
  · intro H' ag hp'
    have gt : G t = none := off2 _ (by simp)
    have gb : G b2 = none := off2 _ (by simp)
    have s1 : Same G (upd G b2 (.lst [])) := sameU gb
    have g2 : upd G b2 (.lst []) t = none := by rw [upd_ne htb]; exact gt
    have s12 : Same G (upd (upd G b2 (.lst [])) t (.tup [.str sLoop, .ref b2])) := s1.trans (sameU g2)
    have gg : ∀ x, x ≠ t → x ≠ b2 → upd (upd G b2 (.lst [])) t (.tup [.str sLoop, .ref b2]) x = G x := fun x a b => by rw [upd_ne a, upd_ne b]
    have dl : Dt K (upd (upd G b2 (.lst [])) t (.tup [.str sLoop, .ref b2])) (.ref t) (loopD []) :=
      .tup (.inl upd_same) (.cons (.str _) (.cons (.lst (by rw [upd_ne (fun e => htb e.symm)]; exact upd_same) .nil) .nil))
    have ggo : ∀ x, x ∈ st :: p :: (q :: qs' ++ os') → upd (upd G b2 (.lst [])) t (.tup [.str sLoop, .ref b2]) x = none := fun x hx => by
      rw [gg x (dis x hx t (by simp)) (dis x hx b2 (by simp))]
      exact off0 x hx
    refine fin _ H' _ _ (st :: p :: (q :: qs' ++ os')) s12 (fun a o ea => ag a o ((sameW (sameW sm k2) k1) _ _ ea) (fun z => by rw [z, ggo p (by simp)] at ea; cases ea)) (fun a ha x ea => ag a x ea (fun z => dis0 p (by simp) (z ▸ ha))) (fun x hx => by
      rw [gg x (fun z => dis2 t (by simp) (z ▸ hx)) (fun z => dis2 b2 (by simp) (z ▸ hx))]; exact off1 x hx)
      (.ow (.bs (ag _ _ h1 (fun z => hsp z)) ?_ hp' ((DtAll.mono s12 _ _ h4).append (.one dl)) (h5.mono s12 fun a ha x ea => ag a x ea fun z => hpo (z ▸ ha)))) nd1' dis0 ggo
    exact .cons (ag _ _ see.hq fun z => hpq z.symm) (hqs.mono fun a ha x ea => ag a x ea fun z => hpqs (z ▸ ha))
  · intro H' Dd hD ag hp' hD' hst'
    have neD : ∀ a o, H a = some o → a ≠ Dd := fun a o e z => by rw [z, hD] at e; cases e
    have gD : G Dd = none := sm.free hD
    refine fin G H' _ _ (st :: b2 :: (Dd :: q :: qs' ++ (p :: t :: os'))) (.refl _) (fun a o ea => ag a o (sm _ _ ea) (fun z => by rw [z, off0 p (by simp)] at ea; cases ea) (fun z => by rw [z, off0 st (by simp)] at ea; cases ea)) (fun a ha x ea => ag a x ea (fun z => dis0 p (by simp) (z ▸ ha)) (fun z => dis0 st (by simp) (z ▸ ha))) off1
      (.ow (.bs (by rw [hst']; simp) ?_ (ag _ _ k2 (fun z => dis p (by simp) b2 (by simp) z.symm) (fun z => dis st (by simp) b2 (by simp) z.symm)) .nil (.lp (ag _ _ k1 (fun z => dis p (by simp) t (by simp) z.symm) (fun z => dis st (by simp) t (by simp) z.symm)) hp' h4 (h5.mono (.refl _) fun a ha x ea => ag a x ea (fun z => hpo (z ▸ ha)) (fun z => hso (z ▸ ha)))))) ?_ ?_ ?_
    · exact .cons hD' (.cons (ag _ _ see.hq (fun z => hpq z.symm) (fun z => hsq z.symm)) (hqs.mono fun a ha x ea => ag a x ea (fun z => hpqs (z ▸ ha)) (fun z => hsqs (z ▸ ha))))
    · simp only [List.cons_append, List.nodup_cons, List.mem_cons, List.mem_append, not_or]
      obtain ⟨hn1, hn2, hn3⟩ := List.nodup_append.mp hn
      have i0 : ∀ a, a ∈ os' → a ∈ st :: p :: (q :: qs' ++ os') := fun a h => by simp [h]
      have iq : ∀ a, a ∈ qs' → a ∈ st :: p :: (q :: qs' ++ os') := fun a h => by simp [h]
      refine ⟨⟨dis st (by simp) b2 (by simp), fun z => neD st _ h1 z, hsq, hsqs, hsp, dis st (by simp) t (by simp), hso⟩,
        ⟨fun z => neD b2 _ k2 z, fun z => dis q (by simp) b2 (by simp) z.symm, fun z => dis b2 (iq _ z) b2 (by simp) rfl, fun z => dis p (by simp) b2 (by simp) z.symm, fun z => htb z.symm, fun z => dis b2 (i0 _ z) b2 (by simp) rfl⟩,
        ⟨fun z => neD q _ see.hq z.symm, fun z => ?_, fun z => neD p _ h3 z.symm, fun z => neD t _ k1 z.symm, fun z => ?_⟩,
        ⟨hqqs, fun z => hpq z.symm, dis q (by simp) t (by simp), hqo⟩, ?_⟩
      · obtain ⟨o, eo⟩ := hqs.there _ z
        exact neD _ _ eo rfl
      · obtain ⟨o, eo⟩ := thO _ z
        exact neD _ _ eo rfl
      · refine List.nodup_append.mpr ⟨hn1, ?_, fun x hx y hy => ?_⟩
        · simp only [List.nodup_cons, List.mem_cons, not_or]
          exact ⟨⟨dis p (by simp) t (by simp), hpo⟩, fun z => dis t (i0 _ z) t (by simp) rfl, hn2⟩
        · simp only [List.mem_cons] at hy
          rcases hy with rfl | rfl | hy
          · exact fun z => hpqs (z ▸ hx)
          · exact dis x (iq _ hx) y (by simp)
          · exact hn3 x hx y hy
    · intro x hx
      simp only [List.cons_append, List.mem_cons, List.mem_append] at hx
      rcases hx with rfl | rfl | rfl | rfl | hx | rfl | rfl | hx
      · exact dis0 x (by simp)
      · exact dis2 x (by simp)
      · intro hx
        obtain ⟨o, eo⟩ := th _ hx
        exact neD _ _ eo rfl
      · exact dis0 x (by simp)
      · exact dis0 x (by simp [hx])
      · exact dis0 x (by simp)
      · exact dis2 x (by simp)
      · exact dis0 x (by simp [hx])
    · intro x hx
      simp only [List.cons_append, List.mem_cons, List.mem_append] at hx
      rcases hx with rfl | rfl | rfl | rfl | hx | rfl | rfl | hx
      · exact off0 x (by simp)
      · exact off2 x (by simp)
      · exact gD
      · exact off0 x (by simp)
      · exact off0 x (by simp [hx])
      · exact off0 x (by simp)
      · exact off2 x (by simp)
      · exact off0 x (by simp [hx])
/-- the rows handed on as data -/
theorem Rep.bs_end {b : BSt} (h : Rep K mg H (itB st root b :: L)) : Rep K mg H ((some (.ref root), .sh (.list (closeAll b.1 b.2))) :: L) := by
  obtain ⟨G, os, rp⟩ := h
  obtain ⟨o, os1, ri, sm, nd, off, th, fin⟩ := rp.repl
  obtain ⟨st', p, qs, es, vs, os', e, rfl, h1, h2, h3, h4, h5⟩ := ri.bs_inv
  cases e
  obtain ⟨nd1, nd2, nd3⟩ := List.nodup_append.mp nd
  simp only [List.nodup_cons, List.mem_cons, List.mem_append, not_or] at nd1
  obtain ⟨⟨hsp, hsqs, hso⟩, ⟨hpqs, hpo⟩, hn⟩ := nd1
  obtain ⟨G', g1, g2, g3, g4⟩ := ctx_freeze h5 sm h3 h4 (List.nodup_cons.mpr ⟨hpo, (List.nodup_append.mp hn).2.1⟩) (fun a ha => off a (List.mem_append_left _ (by
    simp only [List.mem_cons, List.mem_append] at ha ⊢
    rcases ha with e | e <;> simp [e])))
  refine fin G' H _ _ [] g1 g2 (fun a _ x e => e) (fun a ha => ?_) (.bx (.sh g3)) List.nodup_nil (fun a ha => nomatch ha) (fun a ha => nomatch ha)
  rw [g4 a (fun hb => nd3 a (by
    simp only [List.mem_cons, List.mem_append] at hb ⊢
    rcases hb with e | e <;> simp [e]) a ha rfl)]
  exact off a (List.mem_append_right _ ha)
end
end FL

/-! FW4: rows under making: the statements -/
namespace FL
open PySem PySem.Spec PyProof.Rows L2
abbrev EvB := BSt → Lo → Res (Out × BSt)
def SemB (K : PySem.W.Frag) (mg : Str → Option Value) (ks : List Nat) (i : Nat) (st root : Addr) (t : TS) (f : EvB) : Prop :=
  ∀ (σ : L2.St) (H : Hp) (env : Lo) (l : List Item) (b : BSt) (o : Out) (b' : BSt), Hold K mg H σ env (itB st root b :: l) → σ[i]? = some (some (.ref st)) → f b env = .ok (o, b') → ∀ D : Ends, PostS K mg D ks σ (itB st root b' :: l) o → t D σ H
def fbLift (f : EvS) : EvB := fun b env => (f env).bind fun o => .ok (o, b)
def fbSeqC (g : EvB) : Out × BSt → Res (Out × BSt)
  | (.nx e, b) => g b e
  | (o, b) => .ok (o, b)
def fbSeq (f g : EvB) : EvB := fun b env => (f b env).bind (fbSeqC g)
def fbIfC (f g : EvB) (b : BSt) : Bool × Lo → Res (Out × BSt)
  | (true, e) => f b e
  | (false, e) => g b e
def fbIf (ft : EvT) (f g : EvB) : EvB := fun b env => (ft env).bind (fbIfC f g b)
def fbDeepC (f g : EvB) (b : BSt) : Bool × Lo → Res (Out × BSt)
  | (true, e) => if b.2.length < 16777215 then (if b.2.isEmpty then g b e else f b e) else .bad
  | (false, e) => g b e
/-- if test and len(stack) > 1 -/
def fbDeep (ft : EvT) (f g : EvB) : EvB := fun b env => (ft env).bind (fbDeepC f g b)
def fbPop : EvB := fun b env => match b.2 with
  | .lp rows :: fs => .ok (.nx env, (rows ++ [loopD b.1], fs))
  | .e1 rows :: fs => .ok (.nx env, ([], .e2 rows b.1 :: fs))
  | .e2 rows ones :: fs => .ok (.nx env, (rows ++ [eitherD ones b.1], fs))
  | [] => .bad
def fbPutC (r u : Nat) (n : Int) (b : BSt) (env : Lo) : Option Sl → Res (Out × BSt)
  | some (.sh (.tuple (.str x :: ds))) => if x ≠ sEither ∧ x ≠ sLoop ∧ b.1.length < 16777215 ∧ u < env.length then .ok (.nx env, (b.1 ++ [.tuple (.str x :: ds)], b.2)) else .bad
  | some (.ow .ei) => if b.1.length < 16777215 ∧ b.2.length < 16777214 ∧ u < env.length then (if (b.2.length : Int) + 1 < n then .ok (.nx (env.set r .no), ([], .e1 b.1 :: b.2)) else .ok (.nx (env.set r .no), (b.1 ++ [eitherD [] []], b.2))) else .bad
  | some (.ow .lo) => if b.1.length < 16777215 ∧ b.2.length < 16777214 ∧ u < env.length then (if (b.2.length : Int) + 1 < n then .ok (.nx (env.set r .no), ([], .lp b.1 :: b.2)) else .ok (.nx (env.set r .no), (b.1 ++ [loopD []], b.2))) else .bad
  | _ => .bad
def fbPutD (r u : Nat) (b : BSt) (env : Lo) : Option Sl → Res (Out × BSt)
  | some (.sh (.int n)) => fbPutC r u n b env env[r]?
  | _ => .bad
/-- stack[-1][0].append(row); if row[0] in ("either", "loop") and len(stack) < deep: stack.append([x for x in row[1:]]) -/
def fbPut (r d u : Nat) : EvB := fun b env => fbPutD r u b env env[d]?
section
variable {K : PySem.W.Frag} {mg : Str → Option Value} {ks : List Nat} {i : Nat} {st root : Addr} {t u : TS} {f g : EvB} {t0 : TT} {ft : EvT}
theorem semb_lift {f : EvS} (s : SemS K mg ks t f) : SemB K mg ks i st root t (fbLift f) := by
  intro σ H env l b o b' h hi e D post
  obtain ⟨o1, e1, e⟩ := Res.bind_ok e
  cases e
  exact s σ H env (itB st root b :: l) _ h e1 D post
theorem semb_seq (hk : i ∈ ks) (s : SemB K mg ks i st root t f) (s2 : SemB K mg ks i st root u g) : SemB K mg ks i st root (tSeq t u) (fbSeq f g) := by
  intro σ H env l b o b' h hi e D post
  obtain ⟨⟨o1, b1⟩, e1, e⟩ := Res.bind_ok e
  refine s σ H env l b o1 b1 h hi e1 _ ?_
  cases o1 with
  | nx e2 => exact fun σ' H' h' k => s2 σ' H' e2 l b1 o b' h' ((k i hk).trans hi) e D (post.keep k)
  | bk e2 => cases e; exact post
  | ct e2 => cases e; exact post
  | rt r e2 => cases e; exact post
theorem semb_if (s0 : SemT K mg t0 ft) (s : SemB K mg ks i st root t f) (s2 : SemB K mg ks i st root u g) : SemB K mg ks i st root (tIfS t0 t u) (fbIf ft f g) := by
  intro σ H env l b o b' h hi e D post
  obtain ⟨⟨k, e1⟩, ea, e⟩ := Res.bind_ok e
  refine s0 σ H env _ k e1 h ea _ fun H1 h1 => ?_
  cases k with
  | true => exact iteT (s σ H1 e1 l b o b' h1 hi e D post)
  | false => exact iteF (s2 σ H1 e1 l b o b' h1 hi e D post)
theorem Hold.itm {it : Item} {σ : L2.St} {H : Hp} {env : Lo} {l : List Item} (h : Hold K mg H σ env (it :: l)) : Rep K mg H (it :: (σ.zip env ++ l)) := h.rep.perm perm_mid.symm
theorem hold_itm {it : Item} {σ : L2.St} {H : Hp} {env : Lo} {l : List Item} (hl : σ.length = env.length) (h : Rep K mg H (it :: (σ.zip env ++ l))) : Hold K mg H σ env (it :: l) := ⟨hl, h.perm perm_mid⟩
theorem semb_deep (s0 : SemT K mg t0 ft) (s : SemB K mg ks i st root t f) (s2 : SemB K mg ks i st root u g) : SemB K mg ks i st root (tIfS (tAnd t0 (tTest (tOp (rI0 fun i j => .bl (decide (j < i))) (tCB (rLenAll K) (tCons (tVar i) tNil)) (tC (.int 1))))) t u) (fbDeep ft f g) := by
  intro σ H env l b o b' h hi e D post
  obtain ⟨⟨k, e1⟩, ea, e⟩ := Res.bind_ok e
  refine s0 σ H env _ k e1 h ea _ fun H1 h1 => ?_
  cases k with
  | false => exact iteF (iteF (s2 σ H1 e1 l b o b' h1 hi e D post))
  | true =>
    refine iteT ?_
    have e : (if b.2.length < 16777215 then (if b.2.isEmpty then g b e1 else f b e1) else .bad) = Res.ok (o, b') := e
    split at e
    case isFalse => cases e
    rename_i hz
    obtain ⟨q, p, ws, es, vs, B⟩ := h1.itm.bs_at
    refine ⟨.ref st, hi, .inl ⟨st, _, rfl, .inl (.of B.see.hst), ?_⟩⟩
    refine ⟨_, _, rfl, rfl, _, rfl, ?_⟩
    have hws := B.see.hws
    have el : (ws ++ [V.ref q]).length = b.2.length + 1 := by rw [List.length_append, hws]; rfl
    show (if decide ((1 : Int) < ((ws ++ [V.ref q]).length : Int)) = true then t D σ H1 else u D σ H1)
    rw [el]
    cases hb : b.2 with
    | nil =>
      rw [hb] at e
      exact iteF (s2 σ H1 e1 l b o b' h1 hi e D post)
    | cons x xs =>
      rw [hb] at e
      have : decide ((1 : Int) < (((x :: xs).length + 1 : Nat) : Int)) = true := by
        rw [List.length_cons]
        exact decide_eq_true (by omega)
      rw [this]
      exact iteT (s σ H1 e1 l b o b' h1 hi e D post)
/-- stack[-1] -/
def tLast (K : PySem.W.Frag) (i : Nat) : TE := tOp (rIx K) (tVar i) (tUn (rU fun i => .int (-i)) (tC (.int 1)))
theorem atI_last (ws : List V) (x : V) : atI (ws ++ [x]) (-1) = some x := by
  unfold atI ixN
  rw [if_neg (by decide), if_pos (by rw [List.length_append]; simp; omega)]
  show (ws ++ [x])[((-1 : Int) + ((ws ++ [x]).length : Nat)).toNat]? = some x
  have : ((-1 : Int) + ((ws ++ [x]).length : Nat)).toNat = ws.length := by rw [List.length_append]; simp; omega
  rw [this]
  simp
theorem last_ok {σ : L2.St} {H : Hp} {ws : List V} {q : V} {Q : VK} (hi : σ[i]? = some (some (.ref st))) (hst : H st = some (.lst (ws ++ [q]))) (h : Q q H) : tLast K i σ H Q :=
  ⟨.ref st, hi, 1, rfl, .inl ⟨st, _, _, _, rfl, rfl, .of hst, atI_last _ _, h⟩⟩
theorem popL_ok {σ : L2.St} {H : Hp} {q : Addr} {es : List V} {d : List D} {Q : VK} (hi : σ[i]? = some (some (.ref st))) {ws : List V} (hst : H st = some (.lst (ws ++ [.ref q]))) (hq : H q = some (.lst es)) (hd : DtAll K H es d) (hs : SeqAt.shaped (.list d) = true)
    (h : ∀ p0, H p0 = none → Q (.bl (PyData.eqv (.list d) (.list []))) (upd H p0 (.lst []))) : tOp (rEqD K) (tLast K i) (tLst tNil) σ H Q := by
  refine last_ok hi hst ⟨Nat.zero_le _, fun p0 hp0 => ?_⟩
  have nq0 : q ≠ p0 := fun z => by rw [z, hp0] at hq; cases hq
  exact ⟨.list d, .list [], .lst (.of (by rw [upd_ne nq0]; exact hq)) (DtAll.deep _ _ (DtAll.mono (H' := upd H p0 (.lst [])) (fun a o e => by rw [upd_ne (ne_of_none e hp0)]; exact e) _ _ hd)), .lst (.of upd_same) .nil, hs, rfl, h p0 hp0⟩
theorem semb_pop : SemB K mg ks i st root (tSeq (tDrop (tBM K "list" rPopAt (tLast K i) (tCons (tC (.int 0)) tNil))) (tIfS (tTest (tOp (rEqD K) (tLast K i) (tLst tNil))) (tDrop (tBM0 K "list" rPop (tVar i))) tNext)) fbPop := by
  intro σ H env l b o b' h hi e D post
  obtain ⟨q, p, ws, es, vs, B⟩ := h.itm.bs_at
  have hS := B.see
  refine last_ok hi hS.hst ⟨.inl ⟨rfl, _, .of hS.hq⟩, q, _, 0, 0, _, rfl, rfl, hS.hq, by decide, by decide, by simp [seqIndex?], rfl, ?_⟩
  show tIfS (tTest (tOp (rEqD K) (tLast K i) (tLst tNil))) (tDrop (tBM0 K "list" rPop (tVar i))) tNext D σ (upd H q (.lst es))
  have hst1 : upd H q (.lst es) st = some (.lst (ws ++ [.ref q])) := by rw [upd_ne (fun z => hS.nqs z.symm)]; exact hS.hst
  have pop : es = [] → ∀ b2 : BSt, (∀ H' : Hp, (∀ a o, H a = some o → a ≠ q → a ≠ st → H' a = some o) → H' st = some (.lst ws) → Rep K mg H' (itB st root b2 :: (σ.zip env ++ l))) → o = .nx env → b' = b2 →
      tIfS (tTest (tOp (rEqD K) (tLast K i) (tLst tNil))) (tDrop (tBM0 K "list" rPop (tVar i))) tNext D σ (upd H q (.lst es)) := by
    intro he b2 hr eo eb
    subst he eo eb
    refine popL_ok hi hst1 upd_same .nil rfl fun p0 hp0 => ⟨true, rfl, iteT ?_⟩
    have n0 : st ≠ p0 := fun z => by rw [z, hp0] at hst1; cases hst1
    have h00 : H p0 = none := by
      by_cases z : p0 = q
      · rw [z, upd_same] at hp0; cases hp0
      · rw [upd_ne z] at hp0; exact hp0
    have hst2 : upd (upd H q (.lst [])) p0 (.lst []) st = some (.lst (ws ++ [.ref q])) := by rw [upd_ne n0]; exact hst1
    refine ⟨.ref st, hi, .inl ⟨rfl, _, .of hst2⟩, st, _, .ref q, rfl, rfl, hst2, by simp, ?_⟩
    refine post σ _ (hold_itm h.len (hr _ (fun a o ea ha hb => ?_) ?_)) .refl
    · rw [upd_ne hb, upd_ne (ne_of_none ea h00), upd_ne ha]; exact ea
    · rw [upd_same, List.dropLast_concat]
  unfold fbPop at e
  split at e
  · rename_i rows fs hc
    obtain ⟨he, hr⟩ := B.popL rows fs hc
    cases e
    exact pop he _ hr rfl rfl
  · rename_i rows fs hc
    obtain ⟨c, he, kc, ncq, hr⟩ := B.pop1 rows fs hc
    cases e
    subst he
    refine popL_ok (d := [.list []]) hi hst1 upd_same (.cons (.lst (by rw [upd_ne ncq]; exact kc) .nil) .nil) rfl fun p0 hp0 => ⟨false, rfl, iteF ?_⟩
    have h00 : H p0 = none := by
      by_cases z : p0 = q
      · rw [z, upd_same] at hp0; cases hp0
      · rw [upd_ne z] at hp0; exact hp0
    refine post σ _ (hold_itm h.len (hr _ (fun a o ea ha => ?_) ?_)) .refl
    · rw [upd_ne (ne_of_none ea h00), upd_ne ha]; exact ea
    · rw [upd_ne (ne_of_none hS.hq h00), upd_same]
  · rename_i rows ones fs hc
    obtain ⟨he, hr⟩ := B.pop2 rows ones fs hc
    cases e
    exact pop he _ hr rfl rfl
  · cases e
end
end FL

/-! FW5: rows under making: a row is put to them -/
namespace FL
open PySem PySem.Spec PyProof.Rows L2
section
variable {K : PySem.W.Frag} {mg : Str → Option Value} {ks : List Nat} {i : Nat} {st root : Addr}
def tPutTest (K : PySem.W.Frag) (i r d : Nat) : TT := tAnd (tTest (tOp (rIn K false) (tOp (rIx K) (tVar r) (tC (.int 0))) (tTup (tCons (tC (.str sEither)) (tCons (tC (.str sLoop)) tNil))))) (tTest (tOp (rI0 fun i j => .bl (decide (i < j))) (tCB (rLenAll K) (tCons (tVar i) tNil)) (tVar d)))
def tPutApp (K : PySem.W.Frag) (i r : Nat) : TS := tDrop (tBM K "list" rAppend (tOp (rIx K) (tLast K i) (tC (.int 0))) (tCons (tVar r) tNil))
def tPutDown (K : PySem.W.Frag) (i r u : Nat) : TS := tDrop (tBM K "list" rAppend (tVar i) (tCons (tLc (iSeq K (tSl (rSlAll K) (tVar r) (tPart (tC (.int 1))) tNoPart)) (gName u) tYes (tVar u) [u]) tNil))
theorem inV_two (x : Str) (h1 : x ≠ sEither) (h2 : x ≠ sLoop) : inV (.str x) [.str sEither, .str sLoop] = false := by
  unfold inV
  simp [eqV, Ne.symm h1, Ne.symm h2]
theorem inV_e : inV (.str sEither) [.str sEither, .str sLoop] = true := by
  unfold inV
  simp [eqV]
theorem inV_l : inV (.str sLoop) [.str sEither, .str sLoop] = true := by
  unfold inV
  simp [eqV]
/-- the test, read where a tuple that begins with a text stands -/
theorem atI_zero {α : Type} (x : α) (xs : List α) : atI (x :: xs) 0 = some x := by
  unfold atI ixN
  rw [if_pos (by decide), if_pos (by rw [List.length_cons]; omega)]
  rfl
theorem put_test {σ : L2.St} {H : Hp} {r d : Nat} {t : Addr} {x : Str} {xs : List V} {ws : List V} {n : Int} {Q : Bool → Hp → Prop} (hi : σ[i]? = some (some (.ref st))) (hst : H st = some (.lst ws)) (hr : σ[r]? = some (some (.ref t))) (ht : SqT K H t (.str x :: xs)) (hd : σ[d]? = some (some (.int n)))
    (h : ∀ p0, H p0 = none → Q (inV (.str x) [.str sEither, .str sLoop] && decide ((ws.length : Int) < n)) (upd H p0 (.tup [.str sEither, .str sLoop]))) : tPutTest K i r d σ H Q := by
  refine ⟨.ref t, hr, .inr (.inl ⟨t, _, 0, .str x, rfl, rfl, ht, atI_zero _ _, ?_⟩)⟩
  refine ⟨by rw [sizeLine_eq]; show 2 ≤ _; omega, fun p0 hp0 => ?_⟩
  refine ⟨p0, _, rfl, .inr (.of upd_same), rfl, rfl, _, rfl, ?_⟩
  have h0 := h p0 hp0
  show (if (if false = true then !inV (.str x) [.str sEither, .str sLoop] else inV (.str x) [.str sEither, .str sLoop]) = true then _ else _)
  rw [if_neg Bool.false_ne_true]
  cases hb : inV (.str x) [.str sEither, .str sLoop] with
  | false =>
    rw [if_neg Bool.false_ne_true]
    rw [hb] at h0
    exact h0
  | true =>
    rw [if_pos rfl]
    rw [hb, Bool.true_and] at h0
    exact ⟨.ref st, hi, .inl ⟨st, ws, rfl, .inl (.of (by rw [upd_ne (ne_of_none hst hp0)]; exact hst)), .int n, hd, _, _, rfl, rfl, _, rfl, h0⟩⟩
theorem app_ok {σ : L2.St} {H : Hp} {r : Nat} {v : V} {q p : Addr} {ws es vs : List V} {D : Ends} (hi : σ[i]? = some (some (.ref st))) (hst : H st = some (.lst (ws ++ [.ref q]))) (hq : H q = some (.lst (.ref p :: es))) (hp : H p = some (.lst vs)) (hl : vs.length < 16777216) (hr : σ[r]? = some (some v))
    (h : D.nx σ (upd H p (.lst (vs ++ [v])))) : tPutApp K i r D σ H :=
  last_ok hi hst (.inl ⟨q, _, 0, .ref p, rfl, rfl, .of hq, atI_zero _ _, .inl ⟨rfl, vs, .of hp⟩, v, hr, p, vs, v, rfl, rfl, hp, sizeL' hl, h⟩)
/-- the rest of a tuple, as a new list, put to the stack -/
theorem down_ok {σ : L2.St} {H : Hp} {r u : Nat} {t : Addr} {x : V} {xs ws : List V} {D : Ends} (hi : σ[i]? = some (some (.ref st))) (hst : H st = some (.lst ws)) (hr : σ[r]? = some (some (.ref t))) (ht : SqT K H t (x :: xs)) (hx : xs.length ≤ 16) (hw : ws.length < 16777216) (hu : u < σ.length)
    (h : ∀ (H' : Hp) (Dd : Addr), H Dd = none → (∀ a o, H a = some o → a ≠ st → H' a = some o) → H' Dd = some (.lst xs) → H' st = some (.lst (ws ++ [.ref Dd])) → D.nx σ H') : tPutDown K i r u D σ H := by
  refine ⟨.ref st, hi, .inl ⟨rfl, ws, .of hst⟩, ?_⟩
  refine ⟨.ref t, hr, 1, rfl, .inr (.inl ⟨t, x :: xs, rfl, ht, fun z => absurd z.1 ?_, fun _ a0 ha0 => ?_⟩)⟩
  · rw [show (1 : Int) = ((1 : Nat) : Int) from rfl, HT.sIx_nat]
    rw [List.length_cons, Nat.min_eq_left (by omega)]
    decide
  have ecut : cutV (x :: xs) (some 1) none = xs := by
    unfold cutV
    rw [show (1 : Int) = ((1 : Nat) : Int) from rfl, HT.sIx_nat, HT.sIx_none, List.length_cons, Nat.min_eq_left (by omega)]
    simp
  refine .inr ⟨a0, rfl, ⟨_, .of upd_same⟩, fun Dd hDd => ?_⟩
  rw [ecut] at hDd ⊢
  have nDa : Dd ≠ a0 := fun z => by rw [z, upd_same] at hDd; cases hDd
  have hDH : H Dd = none := by rw [upd_ne nDa] at hDd; exact hDd
  refine lc_tup (K := K) (xs := xs) (Qd := fun H6 => rAppend (.ref st) [.ref Dd] H6 fun _ H7 => D.nx σ H7) (fun k H5 => H5 Dd = some (.lst (xs.take k)) ∧ (∀ a o, H a = some o → H5 a = some o) ∧ H5 a0 = some (.tup xs)) ⟨by rw [List.take_zero, upd_same], fun a o e => ?_, ?_⟩ (fun k H5 _ hk => .of hk.2.2) ?_ ?_
  · rw [upd_ne (ne_of_none e hDH), upd_ne (ne_of_none e ha0)]; exact e
  · rw [upd_ne (fun z => nDa z.symm), upd_same]
  · intro k y H5 hy ⟨k1, k2, k3⟩
    have hk : k < xs.length := (List.getElem?_eq_some_iff.mp hy).1
    refine ⟨?_, ?_⟩
    · show (((wipe σ [u]).set u (some y)).set u none : L2.St) = wipe σ [u]
      rw [List.set_set]
      show ((σ.set u none).set u none : L2.St) = σ.set u none
      rw [List.set_set]
    · unfold tYes
      refine iteT ?_
      refine ⟨y, ?_, _, k1, ?_, ?_, fun a o e => ?_, ?_⟩
      · rw [List.getElem?_set_self (by rw [wipe_length]; exact hu)]
      · rw [List.length_take, sizeLine_eq]; omega
      · rw [upd_same, List.take_add_one, hy]; rfl
      · rw [upd_ne (ne_of_none e hDH)]; exact k2 a o e
      · rw [upd_ne (fun z => nDa z.symm)]; exact k3
  · rintro H6 ⟨k1, k2, k3⟩
    rw [List.take_length] at k1
    refine ⟨st, ws, _, rfl, rfl, k2 _ _ hst, sizeL' hw, h _ Dd hDH (fun a o e ha => ?_) ?_ ?_⟩
    · rw [upd_ne ha]; exact k2 a o e
    · rw [upd_ne (fun z => ne_of_none hst hDH z.symm)]; exact k1
    · rw [upd_same]
theorem semb_put {r d u : Nat} (hri : r ≠ i) (hrd : r ≠ d) : SemB K mg ks i st root (tSeq (tPutApp K i r) (tIfS (tPutTest K i r d) (tPutDown K i r u) tNext)) (fbPut r d u) := by
  intro σ H env l b o b' h hi e D post
  unfold fbPut fbPutD at e
  split at e
  case h_2 => cases e
  rename_i n ed
  -- what stands in the slot d
  have hd : σ[d]? = some (some (.int n)) := by
    obtain ⟨ov, e1⟩ := slot_at h.len ed
    obtain ⟨G, os, rp⟩ := h.rep
    obtain ⟨v, ev, dv⟩ := rp.shOf (List.mem_append_left _ (mem_zip e1 ed))
    subst ev
    cases dv
    exact e1
  unfold fbPutC at e
  split at e
  · -- a datum
    rename_i x ds er
    split at e
    case isFalse => cases e
    rename_i hz
    cases e
    obtain ⟨ov, e1⟩ := slot_at h.len er
    have hm : (ov, Sl.sh (.tuple (.str x :: ds))) ∈ σ.zip env ++ l := List.mem_append_left _ (mem_zip e1 er)
    obtain ⟨q, p, ws, es, vs, B⟩ := h.itm.bs_at
    obtain ⟨G, os, rp⟩ := h.itm
    obtain ⟨v, ev, dv⟩ := rp.shOf (List.mem_cons_of_mem _ hm)
    subst ev
    have sm := rp.same
    cases dv with
    | @tup a xs _ ha hxs =>
      cases hxs with
      | cons hx hxs =>
        cases hx
        have hS := B.see
        have hta := ha.mono sm
        rename_i xs1
        have hta2 : SqT K (upd H p (.lst (vs ++ [.ref a]))) a (.str x :: xs1) := by
          rcases hta with hta | hta
          · have nap : a ≠ p := ne_of hta hS.hp (by intro z; cases z)
            exact .of (by rw [upd_ne nap]; exact hta)
          · exact .inr hta
        refine app_ok hi hS.hst hS.hq hS.hp (by rw [hS.hvs]; omega) e1 ?_
        refine put_test hi (by rw [upd_ne (fun z => hS.nps z.symm)]; exact hS.hst) e1 hta2 hd fun p0 hp0 => ?_
        rw [inV_two x hz.1 hz.2.1]
        refine iteF ?_
        have np0 : p0 ≠ p := fun z => by rw [z, upd_same] at hp0; cases hp0
        have h00 : H p0 = none := by rw [upd_ne np0] at hp0; exact hp0
        refine post σ _ (hold_itm h.len (B.put (.ref a) _ _ hm (fun c o ec hc => ?_) ?_)) .refl
        · rw [upd_ne (ne_of_none ec h00), upd_ne hc]; exact ec
        · rw [upd_ne (fun z => np0 z.symm), upd_same]
  · -- an either
    rename_i er
    split at e
    case isFalse => cases e
    rename_i hz
    obtain ⟨ov, e1, rr⟩ := h.take er
    have r2 : Rep K mg H (itB st root b :: (ov, Sl.ow .ei) :: (σ.zip (env.set r .no) ++ l)) := rr.perm ((perm_mid.symm.cons _).trans (.swap _ _ _))
    obtain ⟨t, et, q, p, ws, es, vs, b2, c2, B⟩ := r2.bs_ei
    subst et
    have hS := B.see
    have ntp : t ≠ p := ne_of B.ht hS.hp (by intro z; cases z)
    refine app_ok hi hS.hst hS.hq hS.hp (by rw [hS.hvs]; omega) e1 ?_
    have hst1 : upd H p (.lst (vs ++ [.ref t])) st = some (.lst (ws ++ [.ref q])) := by rw [upd_ne (fun z => hS.nps z.symm)]; exact hS.hst
    have ht1 : upd H p (.lst (vs ++ [.ref t])) t = some (.tup [.str sEither, .ref b2, .ref c2]) := by rw [upd_ne ntp]; exact B.ht
    have hl : σ.length = (env.set r Sl.no).length := by rw [List.length_set]; exact h.len
    refine put_test hi hst1 e1 (.of ht1) hd fun p0 hp0 => ?_
    have np0 : p0 ≠ p := fun z => by rw [z, upd_same] at hp0; cases hp0
    have h00 : H p0 = none := by rw [upd_ne np0] at hp0; exact hp0
    have el : ((ws ++ [V.ref q]).length : Int) = (b.2.length : Int) + 1 := by rw [List.length_append, hS.hws]; simp
    rw [inV_e, Bool.true_and, el]
    split at e
    · rename_i hn
      rw [decide_eq_true hn]
      cases e
      refine iteT (down_ok (t := t) (x := .str sEither) (xs := [.ref b2, .ref c2]) hi (ws := ws ++ [.ref q]) (by rw [upd_ne (ne_of_none hst1 hp0)]; exact hst1) e1 (.of (by rw [upd_ne (ne_of_none ht1 hp0)]; exact ht1)) (by simp) (by rw [List.length_append, hS.hws]; simp; omega) (by rw [h.len]; exact hz.2.2) fun H' Dd hD ag hD' hst' => ?_)
      have nD0 : Dd ≠ p0 := fun z => by rw [z, upd_same] at hD; cases hD
      have hDp : upd H p (.lst (vs ++ [.ref t])) Dd = none := by rw [upd_ne nD0] at hD; exact hD
      have nDp : Dd ≠ p := fun z => by rw [z, upd_same] at hDp; cases hDp
      have hDH : H Dd = none := by rw [upd_ne nDp] at hDp; exact hDp
      refine post σ _ (hold_itm hl (B.go H' Dd hDH (fun a o ea h1 h2 => ag a o (by rw [upd_ne (ne_of_none ea h00), upd_ne h1]; exact ea) h2) (ag p _ (by rw [upd_ne (fun z => np0 z.symm), upd_same]) hS.nps) hD' hst')) .refl
    · rename_i hn
      rw [decide_eq_false hn]
      cases e
      refine iteF ?_
      refine post σ _ (hold_itm hl (B.stay _ (fun a o ea ha => ?_) ?_)) .refl
      · rw [upd_ne (ne_of_none ea h00), upd_ne ha]; exact ea
      · rw [upd_ne (fun z => np0 z.symm), upd_same]
  · -- a loop
    rename_i er
    split at e
    case isFalse => cases e
    rename_i hz
    obtain ⟨ov, e1, rr⟩ := h.take er
    have r2 : Rep K mg H (itB st root b :: (ov, Sl.ow .lo) :: (σ.zip (env.set r .no) ++ l)) := rr.perm ((perm_mid.symm.cons _).trans (.swap _ _ _))
    obtain ⟨t, et, q, p, ws, es, vs, b2, B⟩ := r2.bs_lo
    subst et
    have hS := B.see
    have ntp : t ≠ p := ne_of B.ht hS.hp (by intro z; cases z)
    refine app_ok hi hS.hst hS.hq hS.hp (by rw [hS.hvs]; omega) e1 ?_
    have hst1 : upd H p (.lst (vs ++ [.ref t])) st = some (.lst (ws ++ [.ref q])) := by rw [upd_ne (fun z => hS.nps z.symm)]; exact hS.hst
    have ht1 : upd H p (.lst (vs ++ [.ref t])) t = some (.tup [.str sLoop, .ref b2]) := by rw [upd_ne ntp]; exact B.ht
    have hl : σ.length = (env.set r Sl.no).length := by rw [List.length_set]; exact h.len
    refine put_test hi hst1 e1 (.of ht1) hd fun p0 hp0 => ?_
    have np0 : p0 ≠ p := fun z => by rw [z, upd_same] at hp0; cases hp0
    have h00 : H p0 = none := by rw [upd_ne np0] at hp0; exact hp0
    have el : ((ws ++ [V.ref q]).length : Int) = (b.2.length : Int) + 1 := by rw [List.length_append, hS.hws]; simp
    rw [inV_l, Bool.true_and, el]
    split at e
    · rename_i hn
      rw [decide_eq_true hn]
      cases e
      refine iteT (down_ok (t := t) (x := .str sLoop) (xs := [.ref b2]) hi (ws := ws ++ [.ref q]) (by rw [upd_ne (ne_of_none hst1 hp0)]; exact hst1) e1 (.of (by rw [upd_ne (ne_of_none ht1 hp0)]; exact ht1)) (by simp) (by rw [List.length_append, hS.hws]; simp; omega) (by rw [h.len]; exact hz.2.2) fun H' Dd hD ag hD' hst' => ?_)
      have nD0 : Dd ≠ p0 := fun z => by rw [z, upd_same] at hD; cases hD
      have hDp : upd H p (.lst (vs ++ [.ref t])) Dd = none := by rw [upd_ne nD0] at hD; exact hD
      have nDp : Dd ≠ p := fun z => by rw [z, upd_same] at hDp; cases hDp
      have hDH : H Dd = none := by rw [upd_ne nDp] at hDp; exact hDp
      refine post σ _ (hold_itm hl (B.go H' Dd hDH (fun a o ea h1 h2 => ag a o (by rw [upd_ne (ne_of_none ea h00), upd_ne h1]; exact ea) h2) (ag p _ (by rw [upd_ne (fun z => np0 z.symm), upd_same]) hS.nps) hD' hst')) .refl
    · rename_i hn
      rw [decide_eq_false hn]
      cases e
      refine iteF ?_
      refine post σ _ (hold_itm hl (B.stay _ (fun a o ea ha => ?_) ?_)) .refl
      · rw [upd_ne (ne_of_none ea h00), upd_ne ha]; exact ea
      · rw [upd_ne (fun z => np0 z.symm), upd_same]
  · cases e
end
end FL

/-! FW6: rows under making: the loop, the beginning, the end -/
namespace FL
open PySem PySem.Spec PyProof.Rows L2
structure SB (X : Cx) (ks : List Nat) (i : Nat) (stm : Stmt) (f : EvB) : Prop where
  ex : ∃ t, PS X stm t ∧ ∀ st root, SemB X.K X.mg ks i st root t f
structure SBs (X : Cx) (ks : List Nat) (i : Nat) (stms : List Stmt) (f : EvB) : Prop where
  ex : ∃ t, PSs X stms t ∧ ∀ st root, SemB X.K X.mg ks i st root t f
def loopB (tg : Tgt) (f : EvB) : List D → EvB
  | [], b, env => .ok (.nx env, b)
  | d :: ds, b, env => do
    let e1 ← Res.ofO (bindT tg d env)
    match ← f b e1 with
    | (.nx e2, b2) => loopB tg f ds b2 e2
    | (.ct e2, b2) => loopB tg f ds b2 e2
    | (.bk e2, b2) => .ok (.nx e2, b2)
    | (.rt r e2, b2) => .ok (.rt r e2, b2)
def fbFor (fi : EvI) (tg : Tgt) (f : EvB) : EvB := fun b env => do
  let (_, ds, e1) ← fi env
  loopB tg f ds b e1
def SemZ (K : PySem.W.Frag) (mg : Str → Option Value) (ks : List Nat) (i j : Nat) (st root : Addr) (t : TS) (f : BSt → EvS) : Prop :=
  ∀ (σ : L2.St) (H : Hp) (env : Lo) (l : List Item) (b : BSt) (o : Out), Hold K mg H σ env (itB st root b :: l) → σ[i]? = some (some (.ref st)) → σ[j]? = some (some (.ref root)) → f b env = .ok o → ∀ D : Ends, PostS K mg D ks σ l o → t D σ H
structure SZs (X : Cx) (ks : List Nat) (i j : Nat) (stms : List Stmt) (f : BSt → EvS) : Prop where
  ex : ∃ t, PSs X stms t ∧ ∀ st root, SemZ X.K X.mg ks i j st root t f
def fzSeqC (g : BSt → EvS) : Out × BSt → Res Out
  | (.nx e, b) => g b e
  | _ => .bad
def fzSeq (f : EvB) (g : BSt → EvS) : BSt → EvS := fun b env => (f b env).bind (fzSeqC g)
def fzRetC (b : BSt) (env : Lo) : Option Sl → Res Out
  | some (.sh d) => .ok (.rt (.sh (.tuple [.list (closeAll b.1 b.2), d])) env)
  | _ => .bad
def fzRet (w : Nat) : BSt → EvS := fun b env => fzRetC b env env[w]?
def fzNew (i j : Nat) (g : BSt → EvS) : EvS := fun env => if i < env.length ∧ j < env.length then g ([], []) ((env.set j .no).set i .no) else .bad
section
variable {K : PySem.W.Frag} {mg : Str → Option Value} {ks : List Nat} {i j : Nat} {st root : Addr} {t u : TS} {f : EvB} {g : BSt → EvS}
theorem sem_loopB {gt : TG} {tg : Tgt} (sg : SemG K mg gt tg) (sb : SemB K mg ks i st root t f) (hik : i ∈ ks) (hk : ∀ k ∈ ks, k ∉ tg.slots) {J : It} {its : List Item} {ds : List D} (ok : ItOk K mg J its ds)
    {σ : L2.St} {H : Hp} {env : Lo} {l : List Item} {b : BSt} {o : Out} {b' : BSt} (hi : σ[i]? = some (some (.ref st))) (h : Hold K mg H σ env (itB st root b :: (its ++ l))) (e : loopB tg f ds b env = .ok (o, b')) {D : Ends} (post : PostS K mg D ks σ (itB st root b' :: (its ++ l)) o) :
    ∃ W : Nat → Nat → L2.St → Hp → Prop, (∃ m, W 0 m σ H) ∧ ∀ i m σ H, W i m σ H →
      (J.stop i H ∧ D.nx σ H) ∨ (J.go i H ∧ ∃ N : L2.St → Hp → Prop, (∀ σ' H', N σ' H' → ∃ m', m' < m ∧ W (i + 1) m' σ' H') ∧ ∀ x H', J.yld i H x H' → gt x σ H' fun σ2 H2 => t { D with nx := N, ct := N, bk := D.nx } σ2 H2) := by
  refine ⟨fun n m σ' H' => m + n = ds.length ∧ KeepEq ks σ σ' ∧ ∃ env' b1, Hold K mg H' σ' env' (itB st root b1 :: (its ++ l)) ∧ loopB tg f (ds.drop n) b1 env' = .ok (o, b'), ⟨ds.length, rfl, .refl, env, b, h, e⟩, ?_⟩
  rintro n m σ1 H1 ⟨hm, k1, env1, b1, h1, e1⟩
  obtain ⟨G, os, rp⟩ := h1.rep
  obtain ⟨okg, oks⟩ := ok n G H1 os _ rp fun it hi => List.mem_append_right _ (List.mem_cons_of_mem _ (List.mem_append_left _ hi))
  by_cases hn : n < ds.length
  · have hd : ds[n]? = some ds[n] := List.getElem?_eq_getElem hn
    obtain ⟨go, yl⟩ := okg _ hd
    rw [List.drop_eq_getElem_cons hn] at e1
    unfold loopB at e1
    obtain ⟨e2, eb, e1⟩ := Res.bind_ok e1
    replace eb := Res.ofO_ok eb
    obtain ⟨⟨ob, b2⟩, ec, e1⟩ := Res.bind_ok e1
    refine .inr ⟨go, fun σ' H' => KeepEq ks σ σ' ∧ ∃ env' b1, Hold K mg H' σ' env' (itB st root b1 :: (its ++ l)) ∧ loopB tg f (ds.drop (n + 1)) b1 env' = .ok (o, b'), fun σ' H' q => ⟨m - 1, by omega, by omega, q⟩, fun x H2 hy => ?_⟩
    obtain ⟨G', gr, dd⟩ := yl x H2 hy
    have h2 : Hold K mg H2 σ1 env1 ((some x, .sh ds[n]) :: (itB st root b1 :: (its ++ l))) := ⟨h1.len, Rep.perm ⟨_, _, (rp.grow gr).sh dd⟩ perm_mid⟩
    refine sg σ1 H2 env1 e2 _ x _ h2 eb _ fun σ2 h3 off => ?_
    have k2 : KeepEq ks σ σ2 := k1.trans (keep_off hk off)
    refine sb σ2 H2 e2 _ b1 ob b2 h3 ((k2 i hik).trans hi) ec _ ?_
    cases ob with
    | nx e3 => exact fun σ' H' h' k' => ⟨k2.trans k', e3, b2, h', e1⟩
    | ct e3 => exact fun σ' H' h' k' => ⟨k2.trans k', e3, b2, h', e1⟩
    | bk e3 => cases e1; exact fun σ' H' h' k' => post σ' H' h' (k2.trans k')
    | rt r e3 => cases e1; exact fun v σ' H' h' n k' => post v σ' H' h' n (k2.trans k')
  · rw [List.drop_eq_nil_of_le (by omega)] at e1
    cases e1
    exact .inl ⟨oks (by omega), post σ1 H1 h1 k1⟩
theorem PostS.dropI {D : Ends} {σ : L2.St} {it : Item} {l : List Item} {o : Out} (p : PostS K mg D ks σ l o) : PostS K mg D ks σ (it :: l) o := p.more (M := [it])
theorem PostS.dropM {D : Ends} {σ : L2.St} {it : Item} {M l : List Item} {o : Out} (p : PostS K mg D ks σ (it :: l) o) : PostS K mg D ks σ (it :: (M ++ l)) o := by
  have q : PostS K mg D ks σ (M ++ (it :: l)) o := p.more
  have hp : (it :: (M ++ l)).Perm (M ++ (it :: l)) := perm_mid
  have hh : ∀ {H' : Hp} {σ' : L2.St} {e : Lo}, Hold K mg H' σ' e (it :: (M ++ l)) → Hold K mg H' σ' e (M ++ (it :: l)) := fun h => ⟨h.len, h.rep.perm (List.Perm.append_left _ hp)⟩
  cases o with
  | nx e => exact fun σ' H' h k => q σ' H' (hh h) k
  | bk e => exact fun σ' H' h k => q σ' H' (hh h) k
  | ct e => exact fun σ' H' h k => q σ' H' (hh h) k
  | rt r e => exact fun v σ' H' h n k => q v σ' H' ⟨h.len, h.rep.perm (List.Perm.cons _ (List.Perm.append_left _ hp)), h.vw⟩ n k
theorem semz_seq (hi : i ∈ ks) (hj : j ∈ ks) (s : SemB K mg ks i st root t f) (s2 : SemZ K mg ks i j st root u g) : SemZ K mg ks i j st root (tSeq t u) (fzSeq f g) := by
  intro σ H env l b o h e1 e2 e D post
  obtain ⟨⟨o1, b1⟩, e3, e⟩ := Res.bind_ok e
  refine s σ H env l b o1 b1 h e1 e3 _ ?_
  cases o1 with
  | nx e4 => exact fun σ' H' h' k => s2 σ' H' e4 l b1 o h' ((k i hi).trans e1) ((k j hj).trans e2) e D (post.keep k)
  | bk e4 => cases e
  | ct e4 => cases e
  | rt r e4 => cases e
theorem semz_ret {w : Nat} : SemZ K mg ks i j st root (tRet (tTup (tCons (tVar j) (tCons (tVar w) tNil)))) (fzRet w) := by
  intro σ H env l b o h e1 e2 e D post
  unfold fzRet fzRetC at e
  split at e
  case h_2 => cases e
  rename_i d ew
  cases e
  obtain ⟨ov, e3⟩ := slot_at h.len ew
  have r1 := h.itm.bs_end
  have hm : (ov, Sl.sh d) ∈ σ.zip env ++ l := List.mem_append_left _ (mem_zip e3 ew)
  obtain ⟨G, os, rp⟩ := r1
  obtain ⟨v, ev, dv⟩ := rp.shOf (List.mem_cons_of_mem _ hm)
  subst ev
  obtain ⟨v2, ev2, dr⟩ := rp.shOf List.mem_cons_self
  cases ev2
  refine ⟨.ref root, e2, v, e3, by rw [sizeLine_eq]; show 2 ≤ _; omega, fun p0 hp0 => ?_⟩
  refine post _ σ _ ⟨h.len, ?_, fun _ z => by cases z⟩ rfl .refl
  have := rp.got (Got.newT rp.same hp0 (.cons dr (.cons dv .nil)))
  exact (this.perm (.swap _ _ _)).tail
theorem sem_new (hij : i ≠ j) (hi : i ∉ ks) (hj : j ∉ ks) (s : ∀ st root, SemZ K mg (i :: j :: ks) i j st root u g) :
    SemS K mg ks (tSeq (tAsg (tLst tNil) (gName j)) (tSeq (tAsg (tLst (tCons (tLst (tCons (tVar j) tNil)) tNil)) (gName i)) u)) (fzNew i j g) := by
  intro σ H env l o h e D post
  unfold fzNew at e
  split at e
  case isFalse => cases e
  rename_i hz
  refine ⟨Nat.zero_le _, fun p1 hp1 => ?_⟩
  have hj1 : (σ.set j (some (V.ref p1)))[j]? = some (some (.ref p1)) := List.getElem?_set_self (by rw [h.len]; exact hz.2)
  refine ⟨.ref p1, hj1, by rw [sizeLine_eq]; show 1 ≤ _; omega, fun q hq => ⟨by rw [sizeLine_eq]; show 1 ≤ _; omega, fun st hst => ?_⟩⟩
  have n1 : q ≠ p1 := fun z => by rw [z, upd_same] at hq; cases hq
  have hq0 : H q = none := by rw [upd_ne n1] at hq; exact hq
  have n2 : st ≠ q := fun z => by rw [z, upd_same] at hst; cases hst
  have hst1 : upd H p1 (.lst []) st = none := by rw [upd_ne n2] at hst; exact hst
  have n3 : st ≠ p1 := fun z => by rw [z, upd_same] at hst1; cases hst1
  have hst0 : H st = none := by rw [upd_ne n3] at hst1; exact hst1
  have es : (some (V.ref st)) = (some (V.ref st)) := rfl
  let H3 : Hp := upd (upd (upd H p1 (.lst [])) q (.lst [.ref p1])) st (.lst [.ref q])
  have ag : ∀ a o, H a = some o → H3 a = some o := fun a o ea => by
    show upd (upd (upd H p1 (.lst [])) q (.lst [.ref p1])) st (.lst [.ref q]) a = some o
    rw [upd_ne (ne_of_none ea hst0), upd_ne (ne_of_none ea hq0), upd_ne (ne_of_none ea hp1)]; exact ea
  have rep : Rep K mg H3 (itB st p1 ([], []) :: (σ.zip env ++ l)) := by
    obtain ⟨G, os, rp⟩ := h.rep
    have th := RL.there rp.rl
    have ne : ∀ a ∈ os, ∀ x, H x = none → a ≠ x := fun a ha x hx z => by
      obtain ⟨o, eo⟩ := th a ha
      rw [z, hx] at eo; cases eo
    refine ⟨G, (st :: p1 :: ([q] ++ [])) ++ os, fun a o ea => ag a o (rp.same _ _ ea), .cons (.ow (.bs (qs := [q]) (es := [[p1]]) (vs := []) ?_ (.cons ?_ .nil) ?_ .nil .nil)) (rp.rl.mono (.refl _) fun a _ x ea => ag a x ea), ?_, fun a ha => ?_⟩
    · exact upd_same
    · show upd (upd (upd H p1 (.lst [])) q (.lst [.ref p1])) st (.lst [.ref q]) q = _
      rw [upd_ne (fun z => n2 z.symm), upd_same]; rfl
    · show upd (upd (upd H p1 (.lst [])) q (.lst [.ref p1])) st (.lst [.ref q]) p1 = _
      rw [upd_ne (fun z => n3 z.symm), upd_ne (fun z => n1 z.symm), upd_same]
    · have n4 : p1 ≠ q := fun z => n1 z.symm
      refine List.nodup_append.mpr ⟨?_, rp.nd, fun a ha b hb => ?_⟩
      · simp [n2, n3, n4]
      · intro z
        simp only [List.append_nil, List.mem_cons, List.not_mem_nil, or_false] at ha
        rcases ha with ha | ha | ha
        · exact ne b hb st hst0 (by rw [← z, ha])
        · exact ne b hb p1 hp1 (by rw [← z, ha])
        · exact ne b hb q hq0 (by rw [← z, ha])
    · simp only [List.append_nil, List.mem_append, List.mem_cons, List.not_mem_nil, or_false] at ha
      rcases ha with (rfl | rfl | rfl) | ha
      · exact rp.same.free hst0
      · exact rp.same.free hp1
      · exact rp.same.free hq0
      · exact rp.off a ha
  have r1 : Rep K mg H3 ((some (V.ref p1), .no) :: (σ.zip env ++ (itB st p1 ([], []) :: l))) := (rep.perm perm_mid).no _
  have r2 := Rep.asg r1 h.len hz.2
  have hl2 : (σ.set j (some (V.ref p1))).length = (env.set j Sl.no).length := by rw [List.length_set, List.length_set]; exact h.len
  have r3 := Rep.asg (r2.no (some (V.ref st))) hl2 (by rw [List.length_set]; exact hz.1)
  refine s st p1 ((σ.set j (some (.ref p1))).set i (some (.ref st))) H3 _ l ([], []) o ⟨by simp only [List.length_set]; exact h.len, r3⟩ (List.getElem?_set_self (by rw [List.length_set, h.len]; exact hz.1)) (by rw [List.getElem?_set_ne hij]; exact hj1) e D ?_
  have kk : ∀ {σ' : L2.St}, KeepEq (i :: j :: ks) ((σ.set j (some (.ref p1))).set i (some (.ref st))) σ' → KeepEq ks σ σ' := fun k x hx => by
    have h1 : i ≠ x := fun z => hi (by rw [z]; exact hx)
    have h2 : j ≠ x := fun z => hj (by rw [z]; exact hx)
    rw [k x (by simp [hx]), List.getElem?_set_ne h1, List.getElem?_set_ne h2]
  cases o with
  | nx e => exact fun σ' H' h' k => post σ' H' h' (kk k)
  | bk e => exact fun σ' H' h' k => post σ' H' h' (kk k)
  | ct e => exact fun σ' H' h' k => post σ' H' h' (kk k)
  | rt r e => exact fun v σ' H' h' n k => post v σ' H' h' n (kk k)
end
section
variable {X : Cx} {ks : List Nat} {i j : Nat} {stm : Stmt} {stms rest : List Stmt} {f f2 : EvB} {g : BSt → EvS} {pos : Pos}
theorem sb_lift {f : EvS} (h : SS X ks stm f) : SB X ks i stm (fbLift f) := by
  obtain ⟨t, p, s⟩ := h.ex
  exact ⟨t, p, fun st root => semb_lift s⟩
theorem sbs_lift {f : EvS} (h : SSs X ks stms f) : SBs X ks i stms (fbLift f) := by
  obtain ⟨t, p, s⟩ := h.ex
  exact ⟨t, p, fun st root => semb_lift s⟩
theorem sbs_one (h : SB X ks i stm f) : SBs X ks i [stm] f := by
  obtain ⟨t, p, s⟩ := h.ex
  exact ⟨t, pss_one p, s⟩
theorem sbs_cons (h : SB X ks i stm f) (h2 : SBs X ks i rest f2) (hk : i ∈ ks := by decide) : SBs X ks i (stm :: rest) (fbSeq f f2) := by
  obtain ⟨t, p, s⟩ := h.ex
  obtain ⟨t2, p2, s2⟩ := h2.ex
  exact ⟨_, pss_cons p p2, fun st root => semb_seq hk (s st root) (s2 st root)⟩
theorem sb_if {c : Expr} {a b : List Stmt} {fc : EvT} (hc : ST X c fc) (h : SBs X ks i a f) (h2 : SBs X ks i b f2) : SB X ks i (.If c a b pos) (fbIf fc f f2) := by
  obtain ⟨t0, p0, s0⟩ := hc.ex
  obtain ⟨t, p, s⟩ := h.ex
  obtain ⟨t2, p2, s2⟩ := h2.ex
  exact ⟨_, ps_if p0 p p2, fun st root => semb_if s0 (s st root) (s2 st root)⟩
theorem sb_deep {c c1 : Expr} {a b : List Stmt} {fc : EvT} {p1 : Pos} (hc : ST X c fc) (hd : PT X c1 (tTest (tOp (rI0 fun i j => .bl (decide (j < i))) (tCB (rLenAll X.K) (tCons (tVar i) tNil)) (tC (.int 1))))) (h : SBs X ks i a f) (h2 : SBs X ks i b f2) : SB X ks i (.If (.BoolOp .And [c, c1] p1) a b pos) (fbDeep fc f f2) := by
  obtain ⟨t0, p0, s0⟩ := hc.ex
  obtain ⟨t, p, s⟩ := h.ex
  obtain ⟨t2, p2, s2⟩ := h2.ex
  exact ⟨_, ps_if (pw_and p0 (pw_and1 hd)).pt p p2, fun st root => semb_deep s0 (s st root) (s2 st root)⟩
theorem sb_for {tg iter : Expr} {body : List Stmt} {fi : EvI} {gt : TG} {tt : Tgt} (hp : PassesOwn (model X.prog X.w) X.A X.env X.xe) (hc : X.calm = true) (hi : SI X tg iter fi) (hg : PG X tg gt) (sg : SemG X.K X.mg gt tt) (hb : SBs X ks i body f) (hk : ∀ k ∈ ks, k ∉ tt.slots := by decide) (hik : i ∈ ks := by decide)
    (hs : ∀ x, foldedSetIterable iter X.env x = pure x := by intro _; rfl) : SB X ks i (.For tg iter body [] pos) (fbFor fi tt f) := by
  obtain ⟨w, pi, si⟩ := hi.ex
  obtain ⟨t, p, s⟩ := hb.ex
  refine ⟨_, ps_for hp hc pi hg p hs, fun st root => ?_⟩
  intro σ H env l b o b' h hst e D post
  unfold fbFor at e
  obtain ⟨⟨ksl, ds, e1⟩, ea, e⟩ := Res.bind_ok e
  refine si σ H env _ ksl ds e1 h ea _ fun J vs H1 h1 ok => ?_
  refine sem_loopB sg (s st root) hik hk ok hst ⟨h1.len, ?_⟩ e post.dropM
  refine h1.rep.perm ?_
  have p1 : ((vs.map some).zip ksl ++ (σ.zip e1 ++ (itB st root b :: l))).Perm (σ.zip e1 ++ ((vs.map some).zip ksl ++ (itB st root b :: l))) := by
    rw [← List.append_assoc, ← List.append_assoc]
    exact List.perm_append_comm.append_right _
  exact p1.trans (List.Perm.append_left _ perm_mid.symm)
theorem szs_cons (h : SB X ks i stm f) (h2 : SZs X ks i j rest g) (hi : i ∈ ks := by decide) (hj : j ∈ ks := by decide) : SZs X ks i j (stm :: rest) (fzSeq f g) := by
  obtain ⟨t, p, s⟩ := h.ex
  obtain ⟨t2, p2, s2⟩ := h2.ex
  exact ⟨_, pss_cons p p2, fun st root => semz_seq hi hj (s st root) (s2 st root)⟩
theorem szs_ret {w : Nat} {e : Expr} (h : PE X e (tTup (tCons (tVar j) (tCons (tVar w) tNil)))) : SZs X ks i j [.Return (some e) pos] (fzRet w) := ⟨_, pss_one (ps_ret h), fun st root => semz_ret⟩
theorem sss_new {s1 s2 : Stmt} (h1 : PS X s1 (tAsg (tLst tNil) (gName j))) (h2 : PS X s2 (tAsg (tLst (tCons (tLst (tCons (tVar j) tNil)) tNil)) (gName i))) (h : SZs X (i :: j :: ks) i j rest g) (hij : i ≠ j := by decide) (hi : i ∉ ks := by decide) (hj : j ∉ ks := by decide) : SSs X ks (s1 :: s2 :: rest) (fzNew i j g) := by
  obtain ⟨t, p, s⟩ := h.ex
  exact ⟨_, pss_cons h1 (pss_cons h2 p), sem_new hij hi hj s⟩
/-- row[0], of a datum or of a row with lists of its own -/
def row0C (env : Lo) : Option Sl → Res (Sl × Lo)
  | some (.sh (.tuple (.str x :: _))) => .ok (.sh (.str x), env)
  | some (.ow .ei) => .ok (.sh (.str sEither), env)
  | some (.ow .lo) => .ok (.sh (.str sLoop), env)
  | _ => .bad
def fRow0 (r : Nat) : EvF := fun env => row0C env env[r]?
theorem se_row0 {r : Nat} {x : Str} {np zp sp : Pos} {z : Nat} (hN : X.N[r]? = some x) (hv : Vis X.env.scope x) (hs : PlainIx (.Constant (.int 0) z zp) := by exact fun _ _ => rfl) (hd : (x == ("__debug__" : Str)) = false := by decide) (hcd : (x == ("__classdict__" : Str)) = false := by decide) :
    SE X (.Subscript (.Name x np) (.Constant (.int 0) z zp) sp) (fRow0 r) := by
  refine ⟨_, pe_ix ix_seq (pe_var hN hv hd hcd) pe_int hs, ?_⟩
  intro σ H env l s env' h e Q q
  unfold fRow0 row0C at e
  split at e
  · rename_i y ds er
    cases e
    obtain ⟨ov, e1⟩ := slot_at h.len er
    obtain ⟨G, os, rp⟩ := h.rep
    obtain ⟨v, ev, dv⟩ := rp.shOf (List.mem_append_left _ (mem_zip e1 er))
    subst ev
    cases dv with
    | @tup a xs _ ha hxs =>
      cases hxs with
      | cons hx hxs =>
        cases hx
        exact ⟨.ref a, e1, .inr (.inl ⟨a, _, 0, .str y, rfl, rfl, (ha.mono rp.same).sq, atI_zero _ _, q _ _ (h.shV fun _ => .str _)⟩)⟩
  · rename_i er
    cases e
    obtain ⟨ov, e1, G, os, rp⟩ := h.take er
    obtain ⟨o, ri⟩ := rp.rl.mem List.mem_cons_self
    obtain ⟨t, b, c, rfl, _, ht, _, _⟩ := ri.ei_inv
    exact ⟨.ref t, e1, .inr (.inl ⟨t, _, 0, .str sEither, rfl, rfl, .of ht, atI_zero _ _, q _ _ (h.shV fun _ => .str _)⟩)⟩
  · rename_i er
    cases e
    obtain ⟨ov, e1, G, os, rp⟩ := h.take er
    obtain ⟨o, ri⟩ := rp.rl.mem List.mem_cons_self
    obtain ⟨t, b, rfl, _, ht, _⟩ := ri.lo_inv
    exact ⟨.ref t, e1, .inr (.inl ⟨t, _, 0, .str sLoop, rfl, rfl, .of ht, atI_zero _ _, q _ _ (h.shV fun _ => .str _)⟩)⟩
  · cases e
end
end FL

/-! FW7: an either, a loop with empty lists of its own; a def that calls itself; what is raised; a module's number; chains -/
namespace FL
open PySem PySem.Spec PyProof.Rows L2
def fEi : EvF := fun env => .ok (.ow .ei, env)
def fLo : EvF := fun env => .ok (.ow .lo, env)
section
variable {X : Cx} {ks : List Nat} {pos : Pos}
theorem se_ei {z : Nat} {p1 p2 p3 : Pos} {x1} (he : starEach [.Constant (.str sEither) z p1, .List [] p2, .List [] p3] X.env = (false, eval (.Constant (.str sEither) z p1) X.env) :: starEach [.List [] p2, .List [] p3] X.env := by rfl)
    (he2 : starEach [.List [] p2, .List [] p3] X.env = (false, eval (.List [] p2) X.env) :: starEach [.List [] p3] X.env := by rfl) (he3 : starEach [.List [] p3] X.env = (false, eval (.List [] p3) X.env) :: starEach [] X.env := by rfl) :
    SE X (.Tuple [.Constant (.str sEither) z p1, .List [] p2, .List [] p3] x1 pos) fEi := by
  refine ⟨_, pe_tup (pa_cons pe_str (pa_cons (pe_lst pa_nil) (pa_cons (pe_lst pa_nil) pa_nil he3) he2) he), ?_⟩
  intro σ H env l r env' h e Q q
  cases e
  refine ⟨Nat.zero_le _, fun b hb => ⟨Nat.zero_le _, fun c hc => ⟨by rw [sizeLine_eq]; show 3 ≤ _; omega, fun t ht => ?_⟩⟩⟩
  have n1 : c ≠ b := fun z => by rw [z, upd_same] at hc; cases hc
  have hc0 : H c = none := by rw [upd_ne n1] at hc; exact hc
  have n2 : t ≠ c := fun z => by rw [z, upd_same] at ht; cases ht
  have ht1 : upd H b (.lst []) t = none := by rw [upd_ne n2] at ht; exact ht
  have n3 : t ≠ b := fun z => by rw [z, upd_same] at ht1; cases ht1
  have ht0 : H t = none := by rw [upd_ne n3] at ht1; exact ht1
  refine q _ _ ⟨h.len, ?_, fun _ z => by cases z⟩
  obtain ⟨G, os, rp⟩ := h.rep
  have ag : ∀ a o, H a = some o → upd (upd (upd H b (.lst [])) c (.lst [])) t (.tup [.str sEither, .ref b, .ref c]) a = some o := fun a o ea => by
    rw [upd_ne (ne_of_none ea ht0), upd_ne (ne_of_none ea hc0), upd_ne (ne_of_none ea hb)]; exact ea
  have th := RL.there rp.rl
  have ne : ∀ a ∈ os, ∀ x, H x = none → a ≠ x := fun a ha x hx z => by
    obtain ⟨o, eo⟩ := th a ha
    rw [z, hx] at eo; cases eo
  refine ⟨G, [t, b, c] ++ os, fun a o ea => ag a o (rp.same _ _ ea), .cons (.ow (.ei upd_same ?_ ?_)) (rp.rl.mono (.refl _) fun a _ x ea => ag a x ea), ?_, fun a ha => ?_⟩
  · rw [upd_ne (fun z => n3 z.symm), upd_ne (fun z => n1 z.symm), upd_same]
  · rw [upd_ne (fun z => n2 z.symm), upd_same]
  · refine List.nodup_append.mpr ⟨?_, rp.nd, fun a ha b' hb' z => ?_⟩
    · have n4 : b ≠ c := fun z => n1 z.symm
      simp [n2, n3, n4]
    · simp only [List.mem_cons, List.not_mem_nil, or_false] at ha
      rcases ha with ha | ha | ha
      · exact ne b' hb' t ht0 (by rw [← z, ha])
      · exact ne b' hb' b hb (by rw [← z, ha])
      · exact ne b' hb' c hc0 (by rw [← z, ha])
  · simp only [List.mem_append, List.mem_cons, List.not_mem_nil, or_false] at ha
    rcases ha with (rfl | rfl | rfl) | ha
    · exact rp.same.free ht0
    · exact rp.same.free hb
    · exact rp.same.free hc0
    · exact rp.off a ha
theorem se_lo {z : Nat} {p1 p2 : Pos} {x1} (he : starEach [.Constant (.str sLoop) z p1, .List [] p2] X.env = (false, eval (.Constant (.str sLoop) z p1) X.env) :: starEach [.List [] p2] X.env := by rfl)
    (he2 : starEach [.List [] p2] X.env = (false, eval (.List [] p2) X.env) :: starEach [] X.env := by rfl) :
    SE X (.Tuple [.Constant (.str sLoop) z p1, .List [] p2] x1 pos) fLo := by
  refine ⟨_, pe_tup (pa_cons pe_str (pa_cons (pe_lst pa_nil) pa_nil he2) he), ?_⟩
  intro σ H env l r env' h e Q q
  cases e
  refine ⟨Nat.zero_le _, fun b hb => ⟨by rw [sizeLine_eq]; show 2 ≤ _; omega, fun t ht => ?_⟩⟩
  have n3 : t ≠ b := fun z => by rw [z, upd_same] at ht; cases ht
  have ht0 : H t = none := by rw [upd_ne n3] at ht; exact ht
  refine q _ _ ⟨h.len, ?_, fun _ z => by cases z⟩
  obtain ⟨G, os, rp⟩ := h.rep
  have ag : ∀ a o, H a = some o → upd (upd H b (.lst [])) t (.tup [.str sLoop, .ref b]) a = some o := fun a o ea => by
    rw [upd_ne (ne_of_none ea ht0), upd_ne (ne_of_none ea hb)]; exact ea
  have th := RL.there rp.rl
  have ne : ∀ a ∈ os, ∀ x, H x = none → a ≠ x := fun a ha x hx z => by
    obtain ⟨o, eo⟩ := th a ha
    rw [z, hx] at eo; cases eo
  refine ⟨G, [t, b] ++ os, fun a o ea => ag a o (rp.same _ _ ea), .cons (.ow (.lo upd_same ?_)) (rp.rl.mono (.refl _) fun a _ x ea => ag a x ea), ?_, fun a ha => ?_⟩
  · rw [upd_ne (fun z => n3 z.symm), upd_same]
  · refine List.nodup_append.mpr ⟨?_, rp.nd, fun a ha b' hb' z => ?_⟩
    · simp [n3]
    · simp only [List.mem_cons, List.not_mem_nil, or_false] at ha
      rcases ha with ha | ha
      · exact ne b' hb' t ht0 (by rw [← z, ha])
      · exact ne b' hb' b hb (by rw [← z, ha])
  · simp only [List.mem_append, List.mem_cons, List.not_mem_nil, or_false] at ha
    rcases ha with (rfl | rfl) | ha
    · exact rp.same.free ht0
    · exact rp.same.free hb
    · exact rp.off a ha
/-- a statement that the reading never lets happen -/
def fBad : EvS := fun _ => .bad
theorem ss_bad {st : Stmt} : SS X ks st fBad := ⟨⟨fun _ _ _ => False, ⟨fun _ _ _ _ _ _ h => h.elim⟩, fun σ H env l o h e D p => by cases e⟩⟩
/-- a module's number -/
theorem se_glob {x : Str} {n : Int} {tk : Tok} (hm : X.mg x = some (.int n tk)) (hg : Gl X x := by rfl) (hd : (x == ("__debug__" : Str)) = false := by decide) : SE X (.Name x pos) (fC (.int n)) :=
  ⟨_, pe_glob (v := .int n) hg hm ⟨_, rfl⟩ hd, sem_c fun _ => .int n⟩
end
/-- a def that may not be called -/
theorem fn_bad {P : Program} {w : World} {K : PySem.W.Frag} {mg : Str → Option Value} {base : Heap} {k : Nat} {f : Addr} {fd : FuncData} {ps : List Str} {F : Fn} (hF : ∀ args, F args = .bad) : FnOk P w K mg base CX0 k f fd ps (spF K mg ps.length F) :=
  ⟨fun vs H Q E h => h.1, fun A outer s H args us vs Q E _ _ _ _ h => by
    obtain ⟨_, a, l, r, a', _, _, e, _⟩ := h
    rw [hF] at e
    cases e⟩
theorem FnF.up {P : Program} {w : World} {K : PySem.W.Frag} {mg : Str → Option Value} {base : Heap} {x : Str} {n k j : Nat} {F : Fn} (h : FnF P w K mg base x n k F) (hk : k ≤ j) : FnF P w K mg base x n j F := by
  obtain ⟨f, fd, ps, a, b, c, d⟩ := h.ex
  exact ⟨⟨f, fd, ps, a, b, c, d.mono hk⟩⟩
/-! ### how they are reckoned -/
@[simp] theorem ev_ei (env : Lo) : fEi env = .ok (.ow .ei, env) := eqq rfl
@[simp] theorem ev_lo (env : Lo) : fLo env = .ok (.ow .lo, env) := eqq rfl
@[simp] theorem ev_row0 (r : Nat) (env : Lo) : fRow0 r env = row0C env env[r]? := eqq rfl
@[simp] theorem row0C_sh (env : Lo) (x : Str) (ds : List D) : row0C env (some (.sh (.tuple (.str x :: ds)))) = .ok (.sh (.str x), env) := eqq rfl
@[simp] theorem row0C_ei (env : Lo) : row0C env (some (.ow .ei)) = .ok (.sh (.str sEither), env) := eqq rfl
@[simp] theorem row0C_lo (env : Lo) : row0C env (some (.ow .lo)) = .ok (.sh (.str sLoop), env) := eqq rfl
end FL

/-! FY: programs as data, and how they are laid out -/
namespace FL
open PySem PySem.Spec PyProof.Rows L2
theorem if_true_of {c : Bool} {A B : Prop} (hc : c = true) (h : A) : if c = true then A else B := by
  rw [if_pos hc]
  exact h
theorem if_false_of {c : Bool} {A B : Prop} (hc : c = false) (h : B) : if c = true then A else B := by
  rw [hc, if_neg Bool.false_ne_true]
  exact h
inductive Pl where
  | set (b : Int) (l : List Int)
  | take (b : Int)
  | skip
  | halt
inductive Rows where
  | nil
  | pl (r : Pl) (t : Rows)
  | ei (a b t : Rows)
  | lo (a t : Rows)
  | ca (k : Nat) (t : Rows)
def sSet : Str := Str.ofString "set"
def sTake : Str := Str.ofString "take"
def sSkip : Str := Str.ofString "skip"
def sHalt : Str := Str.ofString "halt"
def sCall : Str := Str.ofString "call"
def lineD (l : List Int) : D := .tuple (l.map PyData.int)
def Pl.d : Pl → D
  | .set b l => .tuple [.str sSet, .int b, lineD l]
  | .take b => .tuple [.str sTake, .int b]
  | .skip => .tuple [.str sSkip]
  | .halt => .tuple [.str sHalt]
def rowsD : Rows → List D
  | .nil => []
  | .pl r t => r.d :: rowsD t
  | .ei a b t => eitherD (rowsD a) (rowsD b) :: rowsD t
  | .lo a t => loopD (rowsD a) :: rowsD t
  | .ca k t => .tuple [.str sCall, .int k] :: rowsD t
/-- the first row -/
def rowD : Rows → D
  | .nil => .none
  | .pl r _ => r.d
  | .ei a b _ => eitherD (rowsD a) (rowsD b)
  | .lo a _ => loopD (rowsD a)
  | .ca k _ => .tuple [.str sCall, .int k]
def Rows.tl : Rows → Rows
  | .nil => .nil
  | .pl _ t => t
  | .ei _ _ t => t
  | .lo _ t => t
  | .ca _ t => t
structure LS where
  count : Int
  steps : List D
def skipD : D := .tuple [.str sSkip]
def stepD (a b : Int) (d : D) : D := .tuple [.int a, .int b, d]
def goes (s : LS) (a b : Int) (d : D) : Option LS := if s.steps.length < 16777216 then some ⟨s.count, s.steps ++ [stepD a b d]⟩ else none
def layPl (r : Pl) (p : Int) (s : LS) : Option (Int × LS) := match r with
  | .halt => some (s.count, ⟨s.count + 1, s.steps⟩)
  | r => (goes ⟨s.count + 1, s.steps⟩ p s.count r.d).map fun s2 => (s.count, s2)
abbrev LayF := Rows → Int → LS → Option (Int × LS)
def layEi (rec : LayF) (a b : Rows) (p : Int) (s : LS) : Option (Int × LS) := do
  let q1 ← rec a p s
  let q2 ← rec b p q1.2
  let s3 ← goes ⟨q2.2.count + 1, q2.2.steps⟩ q1.1 q2.2.count skipD
  let s4 ← goes s3 q2.1 q2.2.count skipD
  some (q2.2.count, s4)
def layLo (rec : LayF) (a : Rows) (p : Int) (s : LS) : Option (Int × LS) := do
  let s1 ← goes ⟨s.count + 1, s.steps⟩ p s.count skipD
  let q ← rec a s.count s1
  let s3 ← goes q.2 q.1 s.count skipD
  some (s.count, s3)
def layOne (rec : LayF) (bs : List Rows) : LayF
  | .nil, _, _ => none
  | .pl r _, p, s => layPl r p s
  | .ei a b _, p, s => layEi rec a b p s
  | .lo a _, p, s => layLo rec a p s
  | .ca k _, p, s => (bs[k]?).bind fun R => rec R p s
def layRows (rec : LayF) (bs : List Rows) : LayF
  | .nil, p, s => some (p, s)
  | .pl r t, p, s => (layOne rec bs (.pl r t) p s).bind fun q => layRows rec bs t q.1 q.2
  | .ei a b t, p, s => (layOne rec bs (.ei a b t) p s).bind fun q => layRows rec bs t q.1 q.2
  | .lo a t, p, s => (layOne rec bs (.lo a t) p s).bind fun q => layRows rec bs t q.1 q.2
  | .ca k t, p, s => (layOne rec bs (.ca k t) p s).bind fun q => layRows rec bs t q.1 q.2
def layN (bs : List Rows) : Nat → LayF
  | 0 => fun _ _ _ => none
  | n + 1 => layRows (layN bs n) bs
theorem layRows_cons (rec : LayF) (bs : List Rows) (R : Rows) (p : Int) (s : LS) (h : rowsD R ≠ []) : layRows rec bs R p s = (layOne rec bs R p s).bind fun q => layRows rec bs R.tl q.1 q.2 := by
  cases R with
  | nil => exact absurd rfl h
  | _ => rfl
theorem rowsD_cons (R : Rows) (h : rowsD R ≠ []) : rowsD R = rowD R :: rowsD R.tl := by
  cases R with
  | nil => exact absurd rfl h
  | _ => rfl
def bodiesD (bs : List Rows) : D := .list (bs.map fun R => .list (rowsD R))
def progD (many : Int) (bs : List Rows) : D := .tuple [.int many, bodiesD bs]
/-! ### a Layout -/
theorem ne_cb : ¬ (("count" : Str) = "bodies") := by decide +kernel
theorem ne_sb : ¬ (("steps" : Str) = "bodies") := by decide +kernel
theorem ne_sc : ¬ (("steps" : Str) = "count") := by decide +kernel
def lfs (bv : V) (c : Int) (l : Addr) : List (Str × V) := [("bodies", bv), ("count", .int c), ("steps", .ref l)]
theorem lfs_bodies (bv : V) (c : Int) (l : Addr) : (lfs bv c l).lookup ("bodies" : Str) = some bv := by
  unfold lfs; simp [List.lookup]
theorem lfs_count (bv : V) (c : Int) (l : Addr) : (lfs bv c l).lookup ("count" : Str) = some (.int c) := by
  have h : (("count" : Str) == ("bodies" : Str)) = false := by simpa using ne_cb
  unfold lfs; simp [List.lookup, h]
theorem lfs_steps (bv : V) (c : Int) (l : Addr) : (lfs bv c l).lookup ("steps" : Str) = some (.ref l) := by
  have h : (("steps" : Str) == ("bodies" : Str)) = false := by simpa using ne_sb
  have h2 : (("steps" : Str) == ("count" : Str)) = false := by simpa using ne_sc
  unfold lfs; simp [List.lookup, h, h2]
theorem lfs_put (bv : V) (c c' : Int) (l : Addr) : putF "count" (.int c') (lfs bv c l) = lfs bv c' l := by
  show (if ("bodies" : Str) = "count" then _ else (("bodies" : Str), bv) :: (if ("count" : Str) = "count" then [(("count" : Str), V.int c'), (("steps" : Str), V.ref l)] else _)) = lfs bv c' l
  rw [if_neg (fun z => ne_cb z.symm), if_pos rfl]
  rfl
theorem lfs_make (bv : V) (l : Addr) : putF "steps" (.ref l) (putF "count" (.int 1) (putF "bodies" bv [])) = lfs bv 1 l := by
  have h1 : putF "bodies" bv [] = [(("bodies" : Str), bv)] := rfl
  have h2 : putF "count" (.int 1) [(("bodies" : Str), bv)] = [(("bodies" : Str), bv), (("count" : Str), .int 1)] := by
    show (if ("bodies" : Str) = "count" then _ else (("bodies" : Str), bv) :: [(("count" : Str), V.int 1)]) = _
    rw [if_neg (fun z => ne_cb z.symm)]
  have h3 : putF "steps" (.ref l) [(("bodies" : Str), bv), (("count" : Str), .int 1)] = lfs bv 1 l := by
    show (if ("bodies" : Str) = "steps" then _ else (("bodies" : Str), bv) :: (if ("count" : Str) = "steps" then _ else (("count" : Str), V.int 1) :: [(("steps" : Str), V.ref l)])) = _
    rw [if_neg (fun z => ne_sb z.symm), if_neg (fun z => ne_sc z.symm)]
    rfl
  rw [h1, h2, h3]
structure LayAt (K : PySem.W.Frag) (C : Addr) (G H : Hp) (x dx l : Addr) (bv : V) (bs : List Rows) (s : LS) : Prop where
  same : Same G H
  gx : G x = none
  gl : G l = none
  ob : H x = some (.ins C dx (lfs bv s.count l))
  st : ∃ vs, H l = some (.lst vs) ∧ DtAll K G vs s.steps
  bo : Dt K G bv (bodiesD bs)
abbrev Kept (H H' : Hp) (x l : Addr) : Prop := ∀ a o, H a = some o → a ≠ x → a ≠ l → H' a = some o
/-- only what is new stands still from now on -/
abbrev NewG (G G' H : Hp) (x l : Addr) : Prop := ∀ a o, H a = some o → a ≠ x → a ≠ l → G a = none → G' a = none
theorem NewG.trans {G G1 G2 H H1 : Hp} {x l : Addr} (h : NewG G G1 H x l) (k : Kept H H1 x l) (h2 : NewG G1 G2 H1 x l) : NewG G G2 H x l := fun a o e h1 h3 h4 => h2 a o (k a o e h1 h3) h1 h3 (h a o e h1 h3 h4)
/-- of lay, lay_row, lay_either, lay_loop -/
def spL (K : PySem.W.Frag) (C : Addr) (dOf : Rows → D) (fn : List Rows → LayF) : Sp := fun vs H Q _ => ∃ (G : Hp) (x dx l : Addr) (bv : V) (bs : List Rows) (s : LS) (rv : V) (R : Rows) (p p' : Int) (s' : LS), vs = [.ref x, rv, .int p] ∧ LayAt K C G H x dx l bv bs s ∧ Dt K G rv (dOf R) ∧ fn bs R p s = some (p', s') ∧
  ∀ G' H', Same G G' → LayAt K C G' H' x dx l bv bs s' → Kept H H' x l → NewG G G' H x l → Q (.int p') H'
def spNew (K : PySem.W.Frag) (C : Addr) : Sp := fun vs H Q _ => ∃ (G : Hp) (x dx l : Addr) (bv : V) (bs : List Rows) (s : LS), vs = [.ref x] ∧ LayAt K C G H x dx l bv bs s ∧ ∀ H', LayAt K C G H' x dx l bv bs ⟨s.count + 1, s.steps⟩ → Kept H H' x l → Q (.int s.count) H'
def spGoes (K : PySem.W.Frag) (C : Addr) : Sp := fun vs H Q _ => ∃ (G : Hp) (x dx l : Addr) (bv : V) (bs : List Rows) (s s' : LS) (a b : Int) (dv : V) (d : D), vs = [.ref x, .int a, .int b, dv] ∧ LayAt K C G H x dx l bv bs s ∧ Dt K G dv d ∧ goes s a b d = some s' ∧ ∀ G' H', Same G G' → LayAt K C G' H' x dx l bv bs s' → Kept H H' x l → NewG G G' H x l → Q .non H'
def spMk (K : PySem.W.Frag) (C : Addr) : Sp := fun vs H Q _ => ∃ (G : Hp) (x dx : Addr) (bv : V) (bs : List Rows), vs = [.ref x, bv] ∧ Same G H ∧ G x = none ∧ H x = some (.ins C dx []) ∧ Dt K G bv (bodiesD bs) ∧ ∀ l H', LayAt K C G H' x dx l bv bs ⟨1, []⟩ → (∀ a o, H a = some o → a ≠ x → H' a = some o) → H l = none → Q .non H'
structure LTxt (K : PySem.W.Frag) (mg : Str → Option Value) (C aP aN : Addr) : Prop where
  cl : Cls K C
  nB : NoAttr K C "bodies"
  nC : NoAttr K C "count"
  nS : NoAttr K C "steps"
  mgC : mg "Layout" = some (.ref C)
  gP : mg "PLAIN" = some (.ref aP)
  gN : mg "NOTHING" = some (.ref aN)
  kP : KTup K aP [.str sSet, .str sTake, .str sSkip]
  kN : KTup K aN [.str sSkip]
  lst : mg "list" = none
section
variable {K : PySem.W.Frag} {C x dx l : Addr} {G H : Hp} {bv : V} {bs : List Rows} {s : LS}
theorem LayAt.ne (h : LayAt K C G H x dx l bv bs s) : x ≠ l := by
  obtain ⟨vs, h1, _⟩ := h.st
  exact ne_of h.ob h1 (by intro z; cases z)
theorem LayAt.keep (h : LayAt K C G H x dx l bv bs s) : ∀ {a : Addr} {o : HO}, G a = some o → a ≠ x ∧ a ≠ l := by
  intro a o e
  refine ⟨fun z => ?_, fun z => ?_⟩
  · rw [z, h.gx] at e; cases e
  · rw [z, h.gl] at e; cases e
/-- other objects come -/
theorem LayAt.more {H' : Hp} (h : LayAt K C G H x dx l bv bs s) (k : Same H H') : LayAt K C G H' x dx l bv bs s :=
  ⟨h.same.trans k, h.gx, h.gl, k _ _ h.ob, by obtain ⟨vs, a, b⟩ := h.st; exact ⟨vs, k _ _ a, b⟩, h.bo⟩
theorem LayAt.grow {G' : Hp} (h : LayAt K C G H x dx l bv bs s) (g : Same G G') (g2 : Same G' H) (hx : G' x = none) (hl : G' l = none) : LayAt K C G' H x dx l bv bs s :=
  ⟨g2, hx, hl, h.ob, by obtain ⟨vs, a, b⟩ := h.st; exact ⟨vs, a, DtAll.mono g _ _ b⟩, Dt.mono g _ _ h.bo⟩
end

theorem lineD_inj {l m : List Int} (h : lineD l = lineD m) : l = m := by
  unfold lineD at h
  injection h with h
  induction l generalizing m with
  | nil => cases m with
    | nil => rfl
    | cons y m => cases h
  | cons x l ih =>
    cases m with
    | nil => cases h
    | cons y m =>
      rw [List.map_cons, List.map_cons] at h
      have h1 := (List.cons.inj h).1
      have h2 := (List.cons.inj h).2
      cases h1
      rw [ih h2]
/-- the word that a row begins with -/
def D.word : D → Str
  | .tuple (.str z :: _) => z
  | _ => sSkip
theorem Pl.word (r : Pl) : r.d.word = sSet ∨ r.d.word = sTake ∨ r.d.word = sSkip ∨ r.d.word = sHalt := by
  cases r with
  | set b l => exact .inl rfl
  | take b => exact .inr (.inl rfl)
  | skip => exact .inr (.inr (.inl rfl))
  | halt => exact .inr (.inr (.inr rfl))
theorem Pl.ne (r : Pl) : r.d.word ≠ sEither ∧ r.d.word ≠ sLoop ∧ r.d.word ≠ sCall := by
  rcases r.word with h | h | h | h <;> rw [h] <;> exact ⟨by decide +kernel, by decide +kernel, by decide +kernel⟩
theorem Pl.inj {r s : Pl} (h : r.d = s.d) : r = s := by
  have hw := congrArg D.word h
  cases r <;> cases s <;> first | rfl | exact absurd (show sSet = sTake from hw) (by decide +kernel) | exact absurd (show sSet = sSkip from hw) (by decide +kernel) | exact absurd (show sSet = sHalt from hw) (by decide +kernel) | exact absurd (show sTake = sSet from hw) (by decide +kernel) | exact absurd (show sTake = sSkip from hw) (by decide +kernel) | exact absurd (show sTake = sHalt from hw) (by decide +kernel) | exact absurd (show sSkip = sSet from hw) (by decide +kernel) | exact absurd (show sSkip = sTake from hw) (by decide +kernel) | exact absurd (show sSkip = sHalt from hw) (by decide +kernel) | exact absurd (show sHalt = sSet from hw) (by decide +kernel) | exact absurd (show sHalt = sTake from hw) (by decide +kernel) | exact absurd (show sHalt = sSkip from hw) (by decide +kernel) | skip
  case set.set b l c m =>
    unfold Pl.d at h
    have h : (PyData.tuple [.str sSet, .int b, lineD l]) = .tuple [.str sSet, .int c, lineD m] := h
    injection h with h
    injection h with _ h
    injection h with h1 h
    injection h with h2 _
    cases h1
    rw [lineD_inj h2]
  case take.take b c =>
    have h : (PyData.tuple [.str sTake, .int b]) = .tuple [.str sTake, .int c] := h
    injection h with h
    injection h with _ h
    injection h with h1 h
    cases h1
    rfl
theorem rowsD_inj : ∀ {R S : Rows}, rowsD R = rowsD S → R = S := by
  intro R
  induction R with
  | nil => intro S h; cases S <;> first | rfl | (cases h)
  | pl r t ih =>
    intro S h
    cases S with
    | nil => cases h
    | pl r2 t2 => rw [Pl.inj (List.cons.inj h).1, ih (List.cons.inj h).2]
    | ei a b t2 => exact absurd (congrArg D.word (List.cons.inj h).1) r.ne.1
    | lo a t2 => exact absurd (congrArg D.word (List.cons.inj h).1) r.ne.2.1
    | ca k t2 => exact absurd (congrArg D.word (List.cons.inj h).1) r.ne.2.2
  | ei a b t iha ihb ih =>
    intro S h
    cases S with
    | nil => cases h
    | pl r2 t2 => exact absurd (congrArg D.word (List.cons.inj h).1).symm r2.ne.1
    | ei a2 b2 t2 =>
      have h1 : (PyData.tuple [.str sEither, .list (rowsD a), .list (rowsD b)]) = .tuple [.str sEither, .list (rowsD a2), .list (rowsD b2)] := (List.cons.inj h).1
      injection h1 with h1
      injection h1 with _ h1
      injection h1 with h2 h1
      injection h1 with h3 _
      injection h2 with h2
      injection h3 with h3
      rw [iha h2, ihb h3, ih (List.cons.inj h).2]
    | lo a2 t2 => exact absurd (congrArg D.word (List.cons.inj h).1) (by show sEither ≠ sLoop; decide +kernel)
    | ca k t2 => exact absurd (congrArg D.word (List.cons.inj h).1) (by show sEither ≠ sCall; decide +kernel)
  | lo a t iha ih =>
    intro S h
    cases S with
    | nil => cases h
    | pl r2 t2 => exact absurd (congrArg D.word (List.cons.inj h).1).symm r2.ne.2.1
    | ei a2 b2 t2 => exact absurd (congrArg D.word (List.cons.inj h).1) (by show sLoop ≠ sEither; decide +kernel)
    | lo a2 t2 =>
      have h1 : (PyData.tuple [.str sLoop, .list (rowsD a)]) = .tuple [.str sLoop, .list (rowsD a2)] := (List.cons.inj h).1
      injection h1 with h1
      injection h1 with _ h1
      injection h1 with h2 h1
      injection h2 with h2
      rw [iha h2, ih (List.cons.inj h).2]
    | ca k t2 => exact absurd (congrArg D.word (List.cons.inj h).1) (by show sLoop ≠ sCall; decide +kernel)
  | ca k t ih =>
    intro S h
    cases S with
    | nil => cases h
    | pl r2 t2 => exact absurd (congrArg D.word (List.cons.inj h).1).symm r2.ne.2.2
    | ei a2 b2 t2 => exact absurd (congrArg D.word (List.cons.inj h).1) (by show sCall ≠ sEither; decide +kernel)
    | lo a2 t2 => exact absurd (congrArg D.word (List.cons.inj h).1) (by show sCall ≠ sLoop; decide +kernel)
    | ca k2 t2 =>
      have h1 : (PyData.tuple [.str sCall, .int (k : Int)]) = .tuple [.str sCall, .int (k2 : Int)] := (List.cons.inj h).1
      injection h1 with h1
      injection h1 with _ h1
      injection h1 with h2 _
      injection h2 with h2
      have h2 : k = k2 := by omega
      rw [h2, ih (List.cons.inj h).2]
theorem bodiesD_inj {bs cs : List Rows} (h : bodiesD bs = bodiesD cs) : bs = cs := by
  unfold bodiesD at h
  injection h with h
  induction bs generalizing cs with
  | nil => cases cs with
    | nil => rfl
    | cons c cs => cases h
  | cons b bs ih =>
    cases cs with
    | nil => cases h
    | cons c cs =>
      rw [List.map_cons, List.map_cons] at h
      have h1 := (List.cons.inj h).1
      injection h1 with h1
      rw [rowsD_inj h1, ih (List.cons.inj h).2]
theorem progD_inj {m n : Int} {bs cs : List Rows} (h : progD m bs = progD n cs) : m = n ∧ bs = cs := by
  unfold progD at h
  injection h with h
  injection h with h1 h
  injection h with h2 _
  cases h1
  exact ⟨rfl, bodiesD_inj h2⟩
/-- what is laid out of a program -/
def LaysTo (d : D) (r : Int × List D × Int) : Prop := ∃ many b bs, d = progD many (b :: bs) ∧ layN (b :: bs) 24 b 0 ⟨1, []⟩ = some (r.2.2, ⟨r.1, r.2.1⟩)
theorem LaysTo.one {d : D} {r r' : Int × List D × Int} (h : LaysTo d r) (h' : LaysTo d r') : r = r' := by
  obtain ⟨m, b, bs, rfl, e⟩ := h
  obtain ⟨m', b', bs', e2, e'⟩ := h'
  obtain ⟨_, e3⟩ := progD_inj e2
  cases e3
  rw [e] at e'
  obtain ⟨c, s, z⟩ := r
  obtain ⟨c', s', z'⟩ := r'
  cases e'
  rfl
open Classical in
noncomputable def laidC (d : D) : Res (Sl × List Sl) := if h : ∃ r, LaysTo d r then .ok (.ow (.tri (.int h.choose.1) h.choose.2.1 (.int h.choose.2.2)), [.no]) else .bad
noncomputable def f_laid : Fn
  | [.sh d] => laidC d
  | _ => .bad
theorem f_laid_eq {d : D} {r : Int × List D × Int} (h : LaysTo d r) : f_laid [.sh d] = .ok (.ow (.tri (.int r.1) r.2.1 (.int r.2.2)), [.no]) := by
  have hx : ∃ r, LaysTo d r := ⟨r, h⟩
  have e : hx.choose = r := hx.choose_spec.one h
  show laidC d = _
  unfold laidC
  rw [dif_pos hx, e]
theorem f_laid_ok {args : List Sl} {x : Sl × List Sl} (h : f_laid args = .ok x) : ∃ d r, args = [.sh d] ∧ LaysTo d r ∧ x = (.ow (.tri (.int r.1) r.2.1 (.int r.2.2)), [.no]) := by
  unfold f_laid at h
  split at h
  · rename_i d
    unfold laidC at h
    split at h
    · rename_i hx
      cases h
      exact ⟨d, _, rfl, hx.choose_spec, rfl⟩
    · cases h
  · cases h
end FL

/-! FZ: a try whose body raises nothing; a datum, a list of one's own and a datum handed on as data -/
namespace FL
open PySem PySem.Spec PyProof.Rows L2
theorem ss_try {X : Cx} {ks : List Nat} {body : List Stmt} {h0 : ExceptHandler} {hs : List ExceptHandler} {f : EvS} {pos : Pos} (hb : SSs X.nox ks body f) : SS X ks (.Try body (h0 :: hs) [] [] pos) f := by
  obtain ⟨t, p, s⟩ := hb.ex
  exact ⟨t, ps_try_thru0 p, s⟩
section
variable {K : PySem.W.Frag} {mg : Str → Option Value} {G H H' : Hp} {L : List Item} {os : List Addr}
theorem RI.tri_inv {a c : D} {ds : List D} {ov : Option V} (h : RI K mg G H ov (.ow (.tri a ds c)) os) : ∃ t l x y vs, ov = some (.ref t) ∧ os = [t, l] ∧ H t = some (.tup [x, .ref l, y]) ∧ Dt K G x a ∧ H l = some (.lst vs) ∧ DtAll K G vs ds ∧ Dt K G y c := by
  cases h with
  | bx b => cases b
  | ow x => cases x with
    | tri h1 h2 h3 h4 h5 => exact ⟨_, _, _, _, _, rfl, rfl, h1, h2, h3, h4, h5⟩
theorem Rep.tri_freeze {a c : D} {ds : List D} {ov : Option V} (h : Rep K mg H ((ov, .ow (.tri a ds c)) :: L)) : Rep K mg H ((ov, .sh (.tuple [a, .list ds, c])) :: L) := by
  obtain ⟨G, os, rp⟩ := h
  obtain ⟨o, os1, ri, sm, nd, off, th, fin⟩ := rp.repl
  obtain ⟨t, l, x, y, vs, rfl, rfl, h1, h2, h3, h4, h5⟩ := ri.tri_inv
  have htl : t ≠ l := ne_of h1 h3 (by intro z; cases z)
  have gt : G t = none := off t (by simp)
  have gl : G l = none := off l (by simp)
  have s1 : Same G (upd G l (.lst vs)) := sameU gl
  have g1 : upd G l (.lst vs) t = none := by rw [upd_ne htl]; exact gt
  have s2 : Same G (upd (upd G l (.lst vs)) t (.tup [x, .ref l, y])) := s1.trans (sameU g1)
  have dd : Dt K (upd (upd G l (.lst vs)) t (.tup [x, .ref l, y])) (.ref t) (.tuple [a, .list ds, c]) :=
    .tup (.inl upd_same) (.cons (Dt.mono s2 _ _ h2) (.cons (.lst (by rw [upd_ne (fun z => htl z.symm)]; exact upd_same) (DtAll.mono s2 _ _ h4)) (.cons (Dt.mono s2 _ _ h5) .nil)))
  refine fin _ H _ _ [] s2 (sameW (sameW sm h3) h1) (fun a _ x e => e) (fun a ha => ?_) (.bx (.sh dd)) List.nodup_nil (fun a ha => nomatch ha) (fun a ha => nomatch ha)
  have disj := (List.nodup_append.mp nd).2.2
  rw [upd_ne (fun z => disj t (by simp) a ha z.symm), upd_ne (fun z => disj l (by simp) a ha z.symm)]
  exact off a (List.mem_append_right _ ha)
end
def frzOC : Sl × Lo → Res (Sl × Lo)
  | (.ow (.tri a ds c), e) => .ok (.sh (.tuple [a, .list ds, c]), e)
  | (.sh d, e) => .ok (.sh d, e)
  | _ => .bad
def fFrzO (fa : EvF) : EvF := fun env => (fa env).bind frzOC
theorem se_frzO {X : Cx} {a : Expr} {fa : EvF} (ha : SE X a fa) : SE X a (fFrzO fa) := by
  obtain ⟨t, p, s⟩ := ha.ex
  refine ⟨t, p, ?_⟩
  intro σ H env l r env' h e Q q
  unfold fFrzO at e
  obtain ⟨⟨ra, e1⟩, ea, e⟩ := Res.bind_ok e
  refine s σ H env l ra e1 h ea _ fun v H1 h1 => ?_
  unfold frzOC at e
  split at e
  · rename_i heq
    cases heq
    cases e
    exact q v H1 ⟨h1.len, h1.rep.tri_freeze, fun _ z => by cases z⟩
  · rename_i heq
    cases heq
    cases e
    exact q v H1 h1
  · cases e
@[simp] theorem ev_frzO (fa : EvF) (env : Lo) : fFrzO fa env = (fa env).bind frzOC := eqq rfl
@[simp] theorem frzOC_tri (a : D) (ds : List D) (c : D) (e : Lo) : frzOC (.ow (.tri a ds c), e) = .ok (.sh (.tuple [a, .list ds, c]), e) := eqq rfl
@[simp] theorem frzOC_sh (d : D) (e : Lo) : frzOC (.sh d, e) = .ok (.sh d, e) := eqq rfl
/-! ### how the rows under making are reckoned -/
def liftC (b : BSt) (o : Out) : Res (Out × BSt) := .ok (o, b)
@[simp] theorem liftC_ev (b : BSt) (o : Out) : liftC b o = .ok (o, b) := eqq rfl
@[simp] theorem ev_blift (f : EvS) (b : BSt) (env : Lo) : fbLift f b env = (f env).bind (liftC b) := eqq rfl
@[simp] theorem ev_bseq (f g : EvB) (b : BSt) (env : Lo) : fbSeq f g b env = (f b env).bind (fbSeqC g) := eqq rfl
@[simp] theorem bseqC_nx (g : EvB) (e : Lo) (b : BSt) : fbSeqC g (.nx e, b) = g b e := eqq rfl
@[simp] theorem ev_bif (ft : EvT) (f g : EvB) (b : BSt) (env : Lo) : fbIf ft f g b env = (ft env).bind (fbIfC f g b) := eqq rfl
@[simp] theorem bifC_t (f g : EvB) (b : BSt) (e : Lo) : fbIfC f g b (true, e) = f b e := eqq rfl
@[simp] theorem bifC_f (f g : EvB) (b : BSt) (e : Lo) : fbIfC f g b (false, e) = g b e := eqq rfl
@[simp] theorem ev_bdeep (ft : EvT) (f g : EvB) (b : BSt) (env : Lo) : fbDeep ft f g b env = (ft env).bind (fbDeepC f g b) := eqq rfl
@[simp] theorem bdeepC_t (f g : EvB) (b : BSt) (e : Lo) : fbDeepC f g b (true, e) = if b.2.length < 16777215 then (if b.2.isEmpty then g b e else f b e) else .bad := eqq rfl
@[simp] theorem bdeepC_f (f g : EvB) (b : BSt) (e : Lo) : fbDeepC f g b (false, e) = g b e := eqq rfl
@[simp] theorem ev_bput (r d u : Nat) (b : BSt) (env : Lo) : fbPut r d u b env = fbPutD r u b env env[d]? := eqq rfl
@[simp] theorem bputD_ev (r u : Nat) (b : BSt) (env : Lo) (n : Int) : fbPutD r u b env (some (.sh (.int n))) = fbPutC r u n b env env[r]? := eqq rfl
theorem bputC_sh (r u : Nat) (n : Int) (b : BSt) (env : Lo) (x : Str) (ds : List D) : fbPutC r u n b env (some (.sh (.tuple (.str x :: ds)))) = if x ≠ sEither ∧ x ≠ sLoop ∧ b.1.length < 16777215 ∧ u < env.length then .ok (.nx env, (b.1 ++ [.tuple (.str x :: ds)], b.2)) else .bad := eqq rfl
theorem bputC_ei (r u : Nat) (n : Int) (b : BSt) (env : Lo) : fbPutC r u n b env (some (.ow .ei)) = if b.1.length < 16777215 ∧ b.2.length < 16777214 ∧ u < env.length then (if (b.2.length : Int) + 1 < n then .ok (.nx (env.set r .no), ([], .e1 b.1 :: b.2)) else .ok (.nx (env.set r .no), (b.1 ++ [eitherD [] []], b.2))) else .bad := eqq rfl
theorem bputC_lo (r u : Nat) (n : Int) (b : BSt) (env : Lo) : fbPutC r u n b env (some (.ow .lo)) = if b.1.length < 16777215 ∧ b.2.length < 16777214 ∧ u < env.length then (if (b.2.length : Int) + 1 < n then .ok (.nx (env.set r .no), ([], .lp b.1 :: b.2)) else .ok (.nx (env.set r .no), (b.1 ++ [loopD []], b.2))) else .bad := eqq rfl
@[simp] theorem ev_zseq (f : EvB) (g : BSt → EvS) (b : BSt) (env : Lo) : fzSeq f g b env = (f b env).bind (fzSeqC g) := eqq rfl
@[simp] theorem zseqC_nx (g : BSt → EvS) (e : Lo) (b : BSt) : fzSeqC g (.nx e, b) = g b e := eqq rfl
@[simp] theorem ev_zret (w : Nat) (b : BSt) (env : Lo) : fzRet w b env = fzRetC b env env[w]? := eqq rfl
@[simp] theorem zretC_ev (b : BSt) (env : Lo) (d : D) : fzRetC b env (some (.sh d)) = .ok (.rt (.sh (.tuple [.list (closeAll b.1 b.2), d])) env) := eqq rfl
@[simp] theorem ev_znew (i j : Nat) (g : BSt → EvS) (env : Lo) : fzNew i j g env = if i < env.length ∧ j < env.length then g ([], []) ((env.set j .no).set i .no) else .bad := eqq rfl
/-! ### is True, is not True -/
def isBD (neg : Bool) : D → D → Option Sl
  | .bool a, .bool b => some (.sh (.bool (if neg then !(a == b) else a == b)))
  | _, _ => none
def rIsB (neg : Bool) : R2 := fun x y H Q => ∃ a b, x = .bl a ∧ y = .bl b ∧ Q (.bl (if neg then !(a == b) else a == b)) H
theorem val_beq (a b : Bool) : (Value.bool a == Value.bool b) = (a == b) := by cases a <;> cases b <;> rfl
theorem op_isB {X : Cx} : OpR X (compareOp .Is) (rIsB false) := by
  intro pins s σ H x y v u Q I rx ry h
  obtain ⟨a, b, rfl, rfl, q⟩ := h
  cases rx
  cases ry
  exact wpAny_is_plain rfl (fin_bl I q (by rw [val_beq]; rfl))
theorem op_notB {X : Cx} : OpR X (compareOp .IsNot) (rIsB true) := by
  intro pins s σ H x y v u Q I rx ry h
  obtain ⟨a, b, rfl, rfl, q⟩ := h
  cases rx
  cases ry
  exact wpAny_isNot_plain rfl (fin_bl I q (by rw [val_beq]; rfl))
theorem so_isB {K : PySem.W.Frag} {neg : Bool} : SemOp K (rIsB neg) (isBD neg) := by
  intro G H x y dx dy s Q sm a b e q
  cases dx <;> cases dy <;> first | (cases e; done) | skip
  cases e
  exact ⟨_, _, a.bool, b.bool, q _ _ .bl⟩
@[simp] theorem isBD_f (a b : Bool) : isBD false (.bool a) (.bool b) = some (.sh (.bool (a == b))) := eqq rfl
@[simp] theorem isBD_t (a b : Bool) : isBD true (.bool a) (.bool b) = some (.sh (.bool (!(a == b)))) := eqq rfl
theorem se_globE {X : Cx} {pos : Pos} {x : Str} {n : Int} (hm : ∃ tk, X.mg x = some (.int n tk)) (hg : Gl X x := by rfl) (hd : (x == ("__debug__" : Str)) = false := by decide) : SE X (.Name x pos) (fC (.int n)) := by
  obtain ⟨tk, hm⟩ := hm
  exact se_glob hm hg hd
end FL

/-! PG: rows that are well formed; rows under making -/
namespace FL
open PySem PySem.Spec PyProof.Rows L2
/-- a set's line -/
def LineOk (many : Nat) (l : List Int) : Prop := l.length = many + 1 ∧ (∀ x ∈ l, -1000000 < x ∧ x < 1000000) ∧ ∀ x ∈ l.tail, -10 < x ∧ x < 10
def PlOk (many : Nat) : Pl → Prop
  | .set b l => 0 ≤ b ∧ b < many ∧ LineOk many l
  | .take b => 0 ≤ b ∧ b < many
  | _ => True
def Rows.app : Rows → Rows → Rows
  | .nil, S => S
  | .pl r t, S => .pl r (t.app S)
  | .ei a b t, S => .ei a b (t.app S)
  | .lo a t, S => .lo a (t.app S)
  | .ca k t, S => .ca k (t.app S)
theorem rowsD_app : ∀ (R S : Rows), rowsD (R.app S) = rowsD R ++ rowsD S
  | .nil, S => rfl
  | .pl r t, S => by show _ :: _ = _; rw [rowsD_app t S]; rfl
  | .ei a b t, S => by show _ :: _ = _; rw [rowsD_app t S]; rfl
  | .lo a t, S => by show _ :: _ = _; rw [rowsD_app t S]; rfl
  | .ca k t, S => by show _ :: _ = _; rw [rowsD_app t S]; rfl
abbrev Look := Nat → Option Rows
/-- d: how deep a walk through them goes, calls counted; v: how deep the rows stand; m: how many places they make -/
inductive ROk (many : Nat) (lk : Look) : Nat → Nat → Nat → Rows → Prop
  | nil {d v : Nat} : ROk many lk d v 0 .nil
  | pl {d v m : Nat} {r : Pl} {t : Rows} : PlOk many r → ROk many lk d (v + 1) m t → (h : (rowsD t).length < 100 := by decide) → ROk many lk d (v + 1) (m + 1) (.pl r t)
  | ei {d v ma mb m : Nat} {a b t : Rows} : ROk many lk d v ma a → ROk many lk d v mb b → ROk many lk (d + 1) (v + 1) m t → (h : (rowsD t).length < 100 := by decide) → ROk many lk (d + 1) (v + 1) (ma + mb + 1 + m) (.ei a b t)
  | lo {d v ma m : Nat} {a t : Rows} : ROk many lk d v ma a → ROk many lk (d + 1) (v + 1) m t → (h : (rowsD t).length < 100 := by decide) → ROk many lk (d + 1) (v + 1) (ma + 1 + m) (.lo a t)
  | ca {d v mr m k : Nat} {R t : Rows} : lk k = some R → ROk many lk d (v + 1) mr R → ROk many lk (d + 1) (v + 1) m t → (h : (rowsD t).length < 100 := by decide) → ROk many lk (d + 1) (v + 1) (mr + m) (.ca k t)
theorem ROk.mono {many : Nat} {lk lk' : Look} (hlk : ∀ k R, lk k = some R → lk' k = some R) {d v m : Nat} {R : Rows} (h : ROk many lk d v m R) : ∀ {d' v' : Nat}, d ≤ d' → v ≤ v' → ROk many lk' d' v' m R := by
  induction h with
  | nil => intro d' v' _ _; exact .nil
  | @pl d v m r t hr _ hl ih =>
    intro d' v' hd hv
    obtain ⟨v1, rfl⟩ : ∃ v1, v' = v1 + 1 := ⟨v' - 1, by omega⟩
    exact .pl hr (ih hd hv) hl
  | @ei d v ma mb m a b t _ _ _ hl iha ihb iht =>
    intro d' v' hd hv
    obtain ⟨v1, rfl⟩ : ∃ v1, v' = v1 + 1 := ⟨v' - 1, by omega⟩
    obtain ⟨d1, rfl⟩ : ∃ d1, d' = d1 + 1 := ⟨d' - 1, by omega⟩
    exact .ei (iha (by omega) (by omega)) (ihb (by omega) (by omega)) (iht hd hv) hl
  | @lo d v ma m a t _ _ hl iha iht =>
    intro d' v' hd hv
    obtain ⟨v1, rfl⟩ : ∃ v1, v' = v1 + 1 := ⟨v' - 1, by omega⟩
    obtain ⟨d1, rfl⟩ : ∃ d1, d' = d1 + 1 := ⟨d' - 1, by omega⟩
    exact .lo (iha (by omega) (by omega)) (iht hd hv) hl
  | @ca d v mr m k R t hk _ _ hl ihr iht =>
    intro d' v' hd hv
    obtain ⟨v1, rfl⟩ : ∃ v1, v' = v1 + 1 := ⟨v' - 1, by omega⟩
    obtain ⟨d1, rfl⟩ : ∃ d1, d' = d1 + 1 := ⟨d' - 1, by omega⟩
    exact .ca (hlk _ _ hk) (ihr (by omega) hv) (iht hd hv) hl
theorem ROk.up {many : Nat} {lk : Look} {d v m d' v' : Nat} {R : Rows} (h : ROk many lk d v m R) (hd : d ≤ d') (hv : v ≤ v') : ROk many lk d' v' m R := h.mono (fun _ _ h => h) hd hv
theorem ROk.app {many : Nat} {lk : Look} {d v m : Nat} {R : Rows} (h : ROk many lk d v m R) : ∀ {m' : Nat} {S : Rows}, ROk many lk d v m' S → (rowsD R).length + (rowsD S).length < 100 → ROk many lk d v (m + m') (R.app S) := by
  have ln : ∀ (t S : Rows) (x : D), (x :: rowsD t).length + (rowsD S).length < 100 → (rowsD (t.app S)).length < 100 := fun t S x h => by
    rw [rowsD_app, List.length_append]
    rw [List.length_cons] at h
    omega
  have lt : ∀ (t S : Rows) (x : D), (x :: rowsD t).length + (rowsD S).length < 100 → (rowsD t).length + (rowsD S).length < 100 := fun t S x h => by
    rw [List.length_cons] at h
    omega
  induction h with
  | nil => intro m' S hs _; rw [Nat.zero_add]; exact hs
  | pl hr _ _ ih => intro m' S hs hn; have := ROk.pl hr (ih hs (lt _ _ _ hn)) (ln _ _ _ hn); rw [show ∀ a b : Nat, a + 1 + b = a + b + 1 by omega]; exact this
  | ei ha hb _ _ _ _ ih => intro m' S hs hn; have := ROk.ei ha hb (ih hs (lt _ _ _ hn)) (ln _ _ _ hn); rw [show ∀ a b c d : Nat, a + b + 1 + c + d = a + b + 1 + (c + d) by omega]; exact this
  | lo ha _ _ _ ih => intro m' S hs hn; have := ROk.lo ha (ih hs (lt _ _ _ hn)) (ln _ _ _ hn); rw [show ∀ a c d : Nat, a + 1 + c + d = a + 1 + (c + d) by omega]; exact this
  | ca hk hr _ _ _ ih => intro m' S hs hn; have := ROk.ca hk hr (ih hs (lt _ _ _ hn)) (ln _ _ _ hn); rw [show ∀ a c d : Nat, a + c + d = a + (c + d) by omega]; exact this
/-- a list of rows, its length bounded -/
def Is (many : Nat) (lk : Look) (n d v m : Nat) (ds : List D) : Prop := ds.length ≤ n ∧ ∃ R, ds = rowsD R ∧ ROk many lk d v m R
section
variable {many : Nat} {lk : Look} {n d v m : Nat} {ds : List D}
theorem Is.nil : Is many lk n d v 0 [] := ⟨Nat.zero_le _, .nil, rfl, .nil⟩
theorem Is.up {n' d' v' : Nat} (h : Is many lk n d v m ds) (hn : n ≤ n') (hd : d ≤ d') (hv : v ≤ v') : Is many lk n' d' v' m ds := by
  obtain ⟨h1, R, h2, h3⟩ := h
  exact ⟨by omega, R, h2, h3.up hd hv⟩
theorem Is.snoc {S : Rows} {m' : Nat} {x : D} (h : Is many lk n d v m ds) (hs : ROk many lk d v m' S) (hx : rowsD S = [x]) (hn : n < 90) : Is many lk (n + 1) d v (m + m') (ds ++ [x]) := by
  obtain ⟨h1, R, h2, h3⟩ := h
  exact ⟨by rw [List.length_append]; show _ + 1 ≤ _; omega, R.app S, by rw [rowsD_app, h2, hx], h3.app hs (by rw [← h2, hx]; show _ + 1 < 100; omega)⟩
theorem Is.plain {r : Pl} (h : Is many lk n d (v + 1) m ds) (hr : PlOk many r) (hn : n < 90) : Is many lk (n + 1) d (v + 1) (m + 1) (ds ++ [r.d]) := h.snoc (S := .pl r .nil) (.pl hr .nil) rfl hn
theorem Is.call {k mr : Nat} {R : Rows} (h : Is many lk n (d + 1) (v + 1) m ds) (hk : lk k = some R) (hr : ROk many lk d (v + 1) mr R) (hn : n < 90) : Is many lk (n + 1) (d + 1) (v + 1) (m + mr) (ds ++ [.tuple [.str sCall, .int k]]) :=
  h.snoc (S := .ca k .nil) (.ca hk hr .nil) rfl hn
theorem Is.either {na nb ma mb : Nat} {as bs : List D} (h : Is many lk n (d + 1) (v + 1) m ds) (ha : Is many lk na d v ma as) (hb : Is many lk nb d v mb bs) (hn : n < 90) : Is many lk (n + 1) (d + 1) (v + 1) (m + (ma + mb + 1)) (ds ++ [eitherD as bs]) := by
  obtain ⟨_, A, rfl, ha⟩ := ha
  obtain ⟨_, B, rfl, hb⟩ := hb
  exact h.snoc (S := .ei A B .nil) (.ei ha hb .nil) rfl hn
theorem Is.loop {na ma : Nat} {as : List D} (h : Is many lk n (d + 1) (v + 1) m ds) (ha : Is many lk na d v ma as) (hn : n < 90) : Is many lk (n + 1) (d + 1) (v + 1) (m + (ma + 1)) (ds ++ [loopD as]) := by
  obtain ⟨_, A, rfl, ha⟩ := ha
  exact h.snoc (S := .lo A .nil) (.lo ha .nil) rfl hn
end
/-- the rows above, N - 1 of them at most; dB, vB: how deep calls go -/
inductive CtxOk (many : Nat) (lk : Look) (N dB vB n : Nat) : List Fr → Nat → Prop
  | nil : CtxOk many lk N dB vB n [] 0
  | lp {rows : List D} {fs : List Fr} {m m2 : Nat} : Is many lk n (N - fs.length + dB) (N - fs.length + vB) m rows → CtxOk many lk N dB vB n fs m2 → CtxOk many lk N dB vB n (.lp rows :: fs) (m + 1 + m2)
  | e1 {rows : List D} {fs : List Fr} {m m2 : Nat} : Is many lk n (N - fs.length + dB) (N - fs.length + vB) m rows → CtxOk many lk N dB vB n fs m2 → CtxOk many lk N dB vB n (.e1 rows :: fs) (m + 1 + m2)
  | e2 {rows ones : List D} {fs : List Fr} {m m1 m2 : Nat} : Is many lk n (N - fs.length + dB) (N - fs.length + vB) m rows → Is many lk n (N - (fs.length + 1) + dB) (N - (fs.length + 1) + vB) m1 ones → CtxOk many lk N dB vB n fs m2 → CtxOk many lk N dB vB n (.e2 rows ones :: fs) (m + m1 + 1 + m2)
theorem CtxOk.up {many : Nat} {lk : Look} {N dB vB n n' : Nat} (hn : n ≤ n') : ∀ {fs : List Fr} {m : Nat}, CtxOk many lk N dB vB n fs m → CtxOk many lk N dB vB n' fs m
  | _, _, .nil => .nil
  | _, _, .lp h t => .lp (h.up hn (Nat.le_refl _) (Nat.le_refl _)) (t.up hn)
  | _, _, .e1 h t => .e1 (h.up hn (Nat.le_refl _) (Nat.le_refl _)) (t.up hn)
  | _, _, .e2 h h1 t => .e2 (h.up hn (Nat.le_refl _) (Nat.le_refl _)) (h1.up hn (Nat.le_refl _) (Nat.le_refl _)) (t.up hn)
/-- rows under making; N = the deepest less one; vB = at least 1 less one -/
structure StOk (many : Nat) (lk : Look) (N dB vB n : Nat) (b : BSt) (used : Nat) : Prop where
  deep : b.2.length ≤ N
  ex : ∃ m m2, Is many lk n (N - b.2.length + 1 + dB) (N - b.2.length + 1 + vB) m b.1 ∧ CtxOk many lk (N + 1) (dB) (vB) n b.2 m2 ∧ used = m + m2
section
variable {many : Nat} {lk : Look} {N dB vB n used : Nat} {b : BSt}
theorem StOk.start : StOk many lk N dB vB 0 ([], []) 0 := ⟨Nat.zero_le _, 0, 0, .nil, .nil, rfl⟩
theorem StOk.up {n' : Nat} (h : StOk many lk N dB vB n b used) (hn : n ≤ n') : StOk many lk N dB vB n' b used := by
  obtain ⟨h1, m, m2, h2, h3, h4⟩ := h
  exact ⟨h1, m, m2, h2.up hn (Nat.le_refl _) (Nat.le_refl _), h3.up hn, h4⟩
theorem ar1 {a b : Nat} (h : b ≤ a) : a + 1 - b = a - b + 1 := by omega
theorem StOk.plain {r : Pl} (h : StOk many lk N dB vB n b used) (hr : PlOk many r) (hn : n < 90 := by omega) : StOk many lk N dB vB (n + 1) (b.1 ++ [r.d], b.2) (used + 1) := by
  obtain ⟨h1, m, m2, h2, h3, h4⟩ := h
  rw [show N - b.2.length + 1 + vB = (N - b.2.length + vB) + 1 by omega] at h2
  refine ⟨h1, m + 1, m2, ?_, h3.up (by omega), by omega⟩
  show Is _ _ _ _ (N - b.2.length + 1 + vB) _ _
  rw [show N - b.2.length + 1 + vB = (N - b.2.length + vB) + 1 by omega]
  exact h2.plain hr hn
theorem StOk.call {k mr : Nat} {R : Rows} (h : StOk many lk N dB vB n b used) (hk : lk k = some R) (hr : ROk many lk dB (vB + 1) mr R) (hn : n < 90 := by omega) : StOk many lk N dB vB (n + 1) (b.1 ++ [.tuple [.str sCall, .int k]], b.2) (used + mr) := by
  obtain ⟨h1, m, m2, h2, h3, h4⟩ := h
  rw [show N - b.2.length + 1 + vB = (N - b.2.length + vB) + 1 by omega, show N - b.2.length + 1 + dB = (N - b.2.length + dB) + 1 by omega] at h2
  refine ⟨h1, m + mr, m2, ?_, h3.up (by omega), by omega⟩
  show Is _ _ _ (N - b.2.length + 1 + dB) (N - b.2.length + 1 + vB) _ _
  rw [show N - b.2.length + 1 + vB = (N - b.2.length + vB) + 1 by omega, show N - b.2.length + 1 + dB = (N - b.2.length + dB) + 1 by omega]
  exact h2.call hk (hr.up (by omega) (by omega)) hn
theorem StOk.eiStay (h : StOk many lk N dB vB n b used) (hn : n < 90 := by omega) : StOk many lk N dB vB (n + 1) (b.1 ++ [eitherD [] []], b.2) (used + 1) := by
  obtain ⟨h1, m, m2, h2, h3, h4⟩ := h
  rw [show N - b.2.length + 1 + vB = (N - b.2.length + vB) + 1 by omega, show N - b.2.length + 1 + dB = (N - b.2.length + dB) + 1 by omega] at h2
  refine ⟨h1, m + (0 + 0 + 1), m2, ?_, h3.up (by omega), by omega⟩
  show Is _ _ _ (N - b.2.length + 1 + dB) (N - b.2.length + 1 + vB) _ _
  rw [show N - b.2.length + 1 + vB = (N - b.2.length + vB) + 1 by omega, show N - b.2.length + 1 + dB = (N - b.2.length + dB) + 1 by omega]
  exact h2.either (na := 0) (nb := 0) .nil .nil hn
theorem StOk.loStay (h : StOk many lk N dB vB n b used) (hn : n < 90 := by omega) : StOk many lk N dB vB (n + 1) (b.1 ++ [loopD []], b.2) (used + 1) := by
  obtain ⟨h1, m, m2, h2, h3, h4⟩ := h
  rw [show N - b.2.length + 1 + vB = (N - b.2.length + vB) + 1 by omega, show N - b.2.length + 1 + dB = (N - b.2.length + dB) + 1 by omega] at h2
  refine ⟨h1, m + (0 + 1), m2, ?_, h3.up (by omega), by omega⟩
  show Is _ _ _ (N - b.2.length + 1 + dB) (N - b.2.length + 1 + vB) _ _
  rw [show N - b.2.length + 1 + vB = (N - b.2.length + vB) + 1 by omega, show N - b.2.length + 1 + dB = (N - b.2.length + dB) + 1 by omega]
  exact h2.loop (na := 0) .nil hn
theorem StOk.eiGo (h : StOk many lk N dB vB n b used) (hd : b.2.length < N) : StOk many lk N dB vB (n + 1) ([], .e1 b.1 :: b.2) (used + 1) := by
  obtain ⟨h1, m, m2, h2, h3, h4⟩ := h
  refine ⟨by show _ + 1 ≤ _; omega, 0, m + 1 + m2, .nil, .e1 ?_ (h3.up (by omega)), by omega⟩
  rw [ar1 h1]
  exact h2.up (by omega) (Nat.le_refl _) (Nat.le_refl _)
theorem StOk.loGo (h : StOk many lk N dB vB n b used) (hd : b.2.length < N) : StOk many lk N dB vB (n + 1) ([], .lp b.1 :: b.2) (used + 1) := by
  obtain ⟨h1, m, m2, h2, h3, h4⟩ := h
  refine ⟨by show _ + 1 ≤ _; omega, 0, m + 1 + m2, .nil, .lp ?_ (h3.up (by omega)), by omega⟩
  rw [ar1 h1]
  exact h2.up (by omega) (Nat.le_refl _) (Nat.le_refl _)
/-- a list is closed -/
def popB : BSt → BSt
  | (cur, .lp rows :: fs) => (rows ++ [loopD cur], fs)
  | (cur, .e1 rows :: fs) => ([], .e2 rows cur :: fs)
  | (cur, .e2 rows ones :: fs) => (rows ++ [eitherD ones cur], fs)
  | b => b
theorem StOk.pop (h : StOk many lk N dB vB n b used) (hn : n < 90 := by omega) : StOk many lk N dB vB (n + 1) (popB b) used := by
  obtain ⟨cur, ctx⟩ := b
  obtain ⟨h1, m, m2, h2, h3, h4⟩ := h
  cases h3 with
  | nil => exact StOk.up ⟨h1, m, 0, h2, .nil, h4⟩ (by omega)
  | @lp rows fs ma mb k1 k2 =>
    have h1 : fs.length + 1 ≤ N := h1
    have h2 : Is many lk n (N - (fs.length + 1) + 1 + dB) (N - (fs.length + 1) + 1 + vB) m cur := h2
    rw [show N - (fs.length + 1) + 1 = N - fs.length by omega] at h2
    rw [show N + 1 - fs.length + dB = (N - fs.length + dB) + 1 by omega, show N + 1 - fs.length + vB = (N - fs.length + vB) + 1 by omega] at k1
    refine ⟨by show fs.length ≤ N; omega, ma + (m + 1), mb, ?_, k2.up (by omega), by omega⟩
    show Is _ _ _ (N - fs.length + 1 + dB) (N - fs.length + 1 + vB) _ _
    rw [show N - fs.length + 1 + dB = (N - fs.length + dB) + 1 by omega, show N - fs.length + 1 + vB = (N - fs.length + vB) + 1 by omega]
    exact k1.loop h2 hn
  | @e1 rows fs ma mb k1 k2 =>
    have h1 : fs.length + 1 ≤ N := h1
    have h2 : Is many lk n (N - (fs.length + 1) + 1 + dB) (N - (fs.length + 1) + 1 + vB) m cur := h2
    refine ⟨by show fs.length + 1 ≤ N; omega, 0, ma + m + 1 + mb, .nil, .e2 (k1.up (by omega) (Nat.le_refl _) (Nat.le_refl _)) ?_ (k2.up (by omega)), by omega⟩
    exact h2.up (by omega) (by omega) (by omega)
  | @e2 rows ones fs ma mo mb k1 k3 k2 =>
    have h1 : fs.length + 1 ≤ N := h1
    have h2 : Is many lk n (N - (fs.length + 1) + 1 + dB) (N - (fs.length + 1) + 1 + vB) m cur := h2
    rw [show N - (fs.length + 1) + 1 = N - fs.length by omega] at h2
    rw [show N + 1 - fs.length + dB = (N - fs.length + dB) + 1 by omega, show N + 1 - fs.length + vB = (N - fs.length + vB) + 1 by omega] at k1
    refine ⟨by show fs.length ≤ N; omega, ma + (mo + m + 1), mb, ?_, k2.up (by omega), by omega⟩
    show Is _ _ _ (N - fs.length + 1 + dB) (N - fs.length + 1 + vB) _ _
    rw [show N - fs.length + 1 + dB = (N - fs.length + dB) + 1 by omega, show N - fs.length + 1 + vB = (N - fs.length + vB) + 1 by omega]
    exact k1.either (k3.up (Nat.le_refl _) (by omega) (by omega)) h2 hn
theorem closeC : ∀ (fs : List Fr) {n used : Nat} {cur : List D}, StOk many lk N dB vB n (cur, fs) used → n + 2 * fs.length < 90 → ∃ n', Is many lk n' (N + 1 + dB) (N + 1 + vB) used (closeAll cur fs)
  | [], n, used, cur, h, _ => by
    obtain ⟨h1, m, m2, h2, h3, h4⟩ := h
    cases h3
    exact ⟨n, by rw [h4]; exact h2⟩
  | .lp rows :: fs, n, used, cur, h, hn => by
    rw [List.length_cons] at hn
    exact closeC fs h.pop (by omega)
  | .e1 rows :: fs, n, used, cur, h, hn => by
    rw [List.length_cons] at hn
    have h1 := h.pop
    have h2 := h1.pop (by omega)
    exact closeC fs h2 (by omega)
  | .e2 rows ones :: fs, n, used, cur, h, hn => by
    rw [List.length_cons] at hn
    exact closeC fs h.pop (by omega)
theorem StOk.close (h : StOk many lk N dB vB n b used) (hn : n + 2 * N < 90 := by omega) : ∃ R, closeAll b.1 b.2 = rowsD R ∧ ROk many lk (N + 1 + dB) (N + 1 + vB) used R := by
  have hd := h.deep
  obtain ⟨n', _, R, h1, h2⟩ := closeC b.2 h (by omega)
  exact ⟨R, h1, h2⟩
end
def lsOf : Nat → List Nat → List (Nat × Nat)
  | _, [] => []
  | s, m :: ms => (s, m) :: lsOf (s + 1) ms
theorem lsOf_ge : ∀ (ms : List Nat) (s : Nat), ∀ p ∈ lsOf s ms, s ≤ p.1
  | [], s, p, h => by cases h
  | m :: ms, s, p, h => by
    rcases List.mem_cons.mp h with rfl | h
    · exact Nat.le_refl _
    · have := lsOf_ge ms (s + 1) p h; omega
theorem lsOf_nd : ∀ (ms : List Nat) (s : Nat), ((lsOf s ms).map (·.1)).Nodup
  | [], s => List.nodup_nil
  | m :: ms, s => by
    refine List.nodup_cons.mpr ⟨fun h => ?_, lsOf_nd ms (s + 1)⟩
    obtain ⟨p, hp, e⟩ := List.mem_map.mp h
    have := lsOf_ge ms (s + 1) p hp
    have e : p.1 = s := e
    omega
theorem lsOf_len : ∀ (ms : List Nat) (s : Nat), (lsOf s ms).length = ms.length
  | [], s => rfl
  | m :: ms, s => by show _ + 1 = _ + 1; rw [lsOf_len ms]
def lkOf (s : Nat) (Bs : List Rows) : Look := fun j => if s ≤ j then Bs[j - s]? else none
theorem lkOf_ext (s : Nat) (R : Rows) (Bs : List Rows) : ∀ k S, lkOf (s + 1) Bs k = some S → lkOf s (R :: Bs) k = some S := by
  intro k S h
  unfold lkOf at h ⊢
  split at h
  · rename_i hk
    rw [if_pos (by omega), show k - s = (k - (s + 1)) + 1 by omega]
    exact h
  · cases h
inductive BsOk (many : Nat) : Nat → Nat → Nat → List Rows → List Nat → Prop
  | nil {s : Nat} : BsOk many s 0 0 [] []
  | cons {s dB vB N m : Nat} {R : Rows} {Bs : List Rows} {ms : List Nat} : BsOk many (s + 1) dB vB Bs ms → ROk many (lkOf (s + 1) Bs) (N + 1 + dB) (N + 1 + vB) m R → BsOk many s (N + 1 + dB) (N + vB) (R :: Bs) (m :: ms)
theorem BsOk.look {many s dB vB : Nat} {Bs : List Rows} {ms : List Nat} (h : BsOk many s dB vB Bs ms) : ∀ p ∈ lsOf s ms, ∃ R, lkOf s Bs p.1 = some R ∧ ROk many (lkOf s Bs) dB (vB + 1) p.2 R := by
  induction h with
  | nil => intro p hp; cases hp
  | @cons s dB vB N m R Bs ms _ hr ih =>
    intro p hp
    rcases List.mem_cons.mp hp with rfl | hp
    · refine ⟨R, ?_, hr.mono (lkOf_ext s R Bs) (Nat.le_refl _) (by omega)⟩
      show (if s ≤ s then (R :: Bs)[s - s]? else none) = some R
      rw [if_pos (Nat.le_refl _), Nat.sub_self]
      rfl
    · obtain ⟨S, h1, h2⟩ := ih p hp
      exact ⟨S, lkOf_ext s R Bs _ _ h1, h2.mono (lkOf_ext s R Bs) (by omega) (by omega)⟩
theorem BsOk.len {many s dB vB : Nat} {Bs : List Rows} {ms : List Nat} (h : BsOk many s dB vB Bs ms) : Bs.length = ms.length := by
  induction h with
  | nil => rfl
  | cons _ _ ih => simp [ih]
theorem BsOk.all {many s dB vB : Nat} {Bs : List Rows} {ms : List Nat} (h : BsOk many s dB vB Bs ms) : ∀ i R, Bs[i]? = some R → ∃ m ∈ ms, ROk many (lkOf (s + i + 1) (Bs.drop (i + 1))) dB (vB + 1) m R := by
  induction h with
  | nil => intro i R hi; simp at hi
  | @cons s dB vB N m R Bs ms _ hr ih =>
    intro i S hi
    cases i with
    | zero =>
      simp at hi
      subst hi
      exact ⟨m, by simp, hr.up (Nat.le_refl _) (by omega)⟩
    | succ i =>
      obtain ⟨m', h1, h2⟩ := ih i S (by simpa using hi)
      refine ⟨m', by simp [h1], ?_⟩
      rw [show s + (i + 1) + 1 = s + 1 + i + 1 by omega]
      exact h2.up (by omega) (by omega)
/-- a program that is well formed: M the most places of a body -/
structure POk (many M : Nat) (bs : List Rows) : Prop where
  ne : bs ≠ []
  le : bs.length ≤ 4
  all : ∀ i R, bs[i]? = some R → ∃ m, m ≤ M ∧ ROk many (lkOf (i + 1) (bs.drop (i + 1))) 9 6 m R
end FL

/-! PH: steps, runs -/
namespace FL
open PySem PySem.Spec PyProof.Rows L2
/-- from, to, deed -/
abbrev Stp := Int × Int × Pl
def stD (x : Stp) : D := stepD x.1 x.2.1 x.2.2.d
def StsOk (many : Nat) (c : Int) (sts : List Stp) : Prop := ∀ x ∈ sts, PlOk many x.2.2 ∧ x.2.2 ≠ .halt ∧ 0 ≤ x.1 ∧ x.1 < c ∧ 0 ≤ x.2.1 ∧ x.2.1 < c
theorem StsOk.up {many : Nat} {c c' : Int} {sts : List Stp} (h : StsOk many c sts) (hc : c ≤ c') : StsOk many c' sts := fun x hx => by
  obtain ⟨a, b, d, e, f, g⟩ := h x hx
  exact ⟨a, b, d, by omega, f, by omega⟩
theorem StsOk.app {many : Nat} {c : Int} {s t : List Stp} (h : StsOk many c s) (h2 : StsOk many c t) : StsOk many c (s ++ t) := fun x hx => by
  rcases List.mem_append.mp hx with hx | hx
  · exact h x hx
  · exact h2 x hx
theorem StsOk.one {many : Nat} {c : Int} {x : Stp} (h : PlOk many x.2.2 ∧ x.2.2 ≠ .halt ∧ 0 ≤ x.1 ∧ x.1 < c ∧ 0 ≤ x.2.1 ∧ x.2.1 < c) : StsOk many c [x] := fun y hy => by
  rw [List.mem_singleton] at hy
  subst hy
  exact h
theorem goes_ok {s : LS} {a b : Int} {p : Pl} (h : s.steps.length < 16777216) : goes s a b p.d = some ⟨s.count, s.steps ++ [stD (a, b, p)]⟩ := if_pos h
theorem skipD_eq : skipD = Pl.skip.d := rfl
/-- what is laid out of rows that are well formed -/
structure LayR (many m : Nat) (p : Int) (s : LS) (r : Option (Int × LS)) : Prop where
  ex : ∃ p' sts, r = some (p', ⟨s.count + m, s.steps ++ sts.map stD⟩) ∧ sts.length ≤ 2 * m ∧ StsOk many (s.count + m) sts ∧ 0 ≤ p' ∧ p' < s.count + m
theorem lay_ok {many : Nat} {lk : Look} {bs : List Rows} (hlk : ∀ k R, lk k = some R → bs[k]? = some R) {d v m : Nat} {R : Rows} (h : ROk many lk d v m R) : ∀ (n : Nat), d < n → ∀ (p : Int) (s : LS), 0 ≤ p → p < s.count → s.steps.length + 2 * m < 16777216 → LayR many m p s (layN bs n R p s) := by
  induction h with
  | @nil d v =>
    intro n hn p s h1 h2 h3
    obtain ⟨n, rfl⟩ : ∃ k, n = k + 1 := ⟨n - 1, by omega⟩
    exact ⟨p, [], by show some (p, s) = _; simp, by simp, fun x hx => (nomatch hx), h1, by omega⟩
  | @pl d v m r t hr _ _ ih =>
    intro n hn p s h1 h2 h3
    obtain ⟨n, rfl⟩ : ∃ k, n = k + 1 := ⟨n - 1, by omega⟩
    show LayR many (m + 1) p s ((layPl r p s).bind fun q => layRows (layN bs n) bs t q.1 q.2)
    have go : ∀ s1 : LS, s1.count = s.count + 1 → s1.steps.length ≤ s.steps.length + 1 → LayR many m s.count s1 (layRows (layN bs n) bs t s.count s1) := fun s1 e1 e2 => ih (n + 1) hn s.count s1 (by omega) (by omega) (by omega)
    by_cases hh : r = .halt
    · subst hh
      obtain ⟨p', sts, q1, q2, q3, q4, q5⟩ := go ⟨s.count + 1, s.steps⟩ rfl (by show s.steps.length ≤ _; omega)
      refine ⟨p', sts, ?_, by omega, q3.up (by show s.count + 1 + (m : Int) ≤ _; omega), q4, by have : p' < s.count + 1 + m := q5; omega⟩
      show layRows (layN bs n) bs t s.count ⟨s.count + 1, s.steps⟩ = _
      rw [q1]
      show some (p', (⟨s.count + 1 + (m : Int), _⟩ : LS)) = _
      rw [show s.count + 1 + (m : Int) = s.count + ((m + 1 : Nat) : Int) by omega]
    · obtain ⟨p', sts, q1, q2, q3, q4, q5⟩ := go ⟨s.count + 1, s.steps ++ [stD (p, s.count, r)]⟩ rfl (by show (s.steps ++ [_]).length ≤ _; simp)
      have e : layPl r p s = some (s.count, ⟨s.count + 1, s.steps ++ [stD (p, s.count, r)]⟩) := by
        have e2 : layPl r p s = (goes ⟨s.count + 1, s.steps⟩ p s.count r.d).map fun s2 => (s.count, s2) := by
          cases r <;> first | rfl | exact absurd rfl hh
        rw [e2, goes_ok (by show s.steps.length < _; omega)]
        rfl
      refine ⟨p', (p, s.count, r) :: sts, ?_, by simp; omega, ?_, q4, by have : p' < s.count + 1 + m := q5; omega⟩
      · rw [e]
        show layRows (layN bs n) bs t s.count _ = _
        rw [q1]
        show some (p', (⟨s.count + 1 + (m : Int), _⟩ : LS)) = _
        rw [show s.count + 1 + (m : Int) = s.count + ((m + 1 : Nat) : Int) by omega]
        simp
      · exact StsOk.app (s := [_]) (.one ⟨hr, hh, h1, by show p < _; omega, by show 0 ≤ s.count; omega, by show s.count < _; omega⟩) (q3.up (by show s.count + 1 + (m : Int) ≤ _; omega))
  | @ei d v ma mb m a b t _ _ _ _ iha ihb iht =>
    intro n hn p s h1 h2 h3
    obtain ⟨n, rfl⟩ : ∃ k, n = k + 1 := ⟨n - 1, by omega⟩
    show LayR many (ma + mb + 1 + m) p s ((layEi (layN bs n) a b p s).bind fun q => layRows (layN bs n) bs t q.1 q.2)
    obtain ⟨p1, s1, a1, a2, a3, a4, a5⟩ := iha n (by omega) p s h1 h2 (by omega)
    obtain ⟨p2, s2, b1, b2, b3, b4, b5⟩ := ihb n (by omega) p ⟨s.count + ma, s.steps ++ s1.map stD⟩ h1 (by show p < s.count + (ma : Int); omega) (by show (s.steps ++ s1.map stD).length + _ < _; simp; omega)
    have b5 : p2 < s.count + ma + mb := b5
    have e : layEi (layN bs n) a b p s = some (s.count + ma + mb, ⟨s.count + ma + mb + 1, s.steps ++ s1.map stD ++ s2.map stD ++ [stD (p1, s.count + ma + mb, .skip)] ++ [stD (p2, s.count + ma + mb, .skip)]⟩) := by
      unfold layEi
      rw [a1]
      show (do let q2 ← layN bs n b p ⟨s.count + ma, s.steps ++ s1.map stD⟩; _) = _
      rw [b1]
      show (do let s3 ← goes ⟨s.count + ma + mb + 1, s.steps ++ s1.map stD ++ s2.map stD⟩ p1 (s.count + ma + mb) skipD; _) = _
      rw [skipD_eq, goes_ok (by show (s.steps ++ s1.map stD ++ s2.map stD).length < _; simp; omega)]
      show (do let s4 ← goes ⟨s.count + ma + mb + 1, s.steps ++ s1.map stD ++ s2.map stD ++ [stD (p1, s.count + ma + mb, .skip)]⟩ p2 (s.count + ma + mb) Pl.skip.d; _) = _
      rw [goes_ok (by show (s.steps ++ s1.map stD ++ s2.map stD ++ [_]).length < _; simp; omega)]
      rfl
    obtain ⟨p', sts, q1, q2, q3, q4, q5⟩ := iht (n + 1) hn (s.count + ma + mb) ⟨s.count + ma + mb + 1, s.steps ++ s1.map stD ++ s2.map stD ++ [stD (p1, s.count + ma + mb, .skip)] ++ [stD (p2, s.count + ma + mb, .skip)]⟩ (by omega) (by show _ < s.count + (ma : Int) + mb + 1; omega) (by show (s.steps ++ s1.map stD ++ s2.map stD ++ [_] ++ [_]).length + _ < _; simp; omega)
    have q5 : p' < s.count + ma + mb + 1 + m := q5
    refine ⟨p', s1 ++ s2 ++ [(p1, s.count + ma + mb, .skip), (p2, s.count + ma + mb, .skip)] ++ sts, ?_, by simp; omega, ?_, q4, by omega⟩
    · rw [e]
      show layRows (layN bs n) bs t _ _ = _
      have q1 : layRows (layN bs n) bs t (s.count + ma + mb) _ = _ := q1
      rw [q1]
      show some (p', (⟨s.count + ma + mb + 1 + (m : Int), _⟩ : LS)) = _
      rw [show s.count + (ma : Int) + mb + 1 + (m : Int) = s.count + ((ma + mb + 1 + m : Nat) : Int) by omega]
      simp
    · refine StsOk.app (StsOk.app (StsOk.app (a3.up (by omega)) (b3.up (by show s.count + (ma : Int) + mb ≤ _; omega))) ?_) (q3.up (by show s.count + (ma : Int) + mb + 1 + m ≤ _; omega))
      intro x hx
      simp only [List.mem_cons, List.not_mem_nil, or_false] at hx
      rcases hx with rfl | rfl
      · exact ⟨trivial, by simp, a4, by show p1 < _; omega, by show 0 ≤ s.count + (ma : Int) + mb; omega, by show s.count + (ma : Int) + mb < _; omega⟩
      · exact ⟨trivial, by simp, b4, by show p2 < _; omega, by show 0 ≤ s.count + (ma : Int) + mb; omega, by show s.count + (ma : Int) + mb < _; omega⟩
  | @lo d v ma m a t _ _ _ iha iht =>
    intro n hn p s h1 h2 h3
    obtain ⟨n, rfl⟩ : ∃ k, n = k + 1 := ⟨n - 1, by omega⟩
    show LayR many (ma + 1 + m) p s ((layLo (layN bs n) a p s).bind fun q => layRows (layN bs n) bs t q.1 q.2)
    obtain ⟨p1, s1, a1, a2, a3, a4, a5⟩ := iha n (by omega) s.count ⟨s.count + 1, s.steps ++ [stD (p, s.count, .skip)]⟩ (by omega) (by show _ < s.count + 1; omega) (by show (s.steps ++ [_]).length + _ < _; simp; omega)
    have a5 : p1 < s.count + 1 + ma := a5
    have e : layLo (layN bs n) a p s = some (s.count, ⟨s.count + 1 + ma, s.steps ++ [stD (p, s.count, .skip)] ++ s1.map stD ++ [stD (p1, s.count, .skip)]⟩) := by
      unfold layLo
      rw [skipD_eq, goes_ok (by show s.steps.length < _; omega)]
      show (do let q ← layN bs n a s.count ⟨s.count + 1, s.steps ++ [stD (p, s.count, .skip)]⟩; _) = _
      rw [a1]
      show (do let s3 ← goes ⟨s.count + 1 + ma, s.steps ++ [stD (p, s.count, .skip)] ++ s1.map stD⟩ p1 s.count Pl.skip.d; _) = _
      rw [goes_ok (by show (s.steps ++ [_] ++ s1.map stD).length < _; simp; omega)]
      rfl
    obtain ⟨p', sts, q1, q2, q3, q4, q5⟩ := iht (n + 1) hn s.count ⟨s.count + 1 + ma, s.steps ++ [stD (p, s.count, .skip)] ++ s1.map stD ++ [stD (p1, s.count, .skip)]⟩ (by omega) (by show _ < s.count + 1 + (ma : Int); omega) (by show (s.steps ++ [_] ++ s1.map stD ++ [_]).length + _ < _; simp; omega)
    have q5 : p' < s.count + 1 + ma + m := q5
    refine ⟨p', (p, s.count, .skip) :: s1 ++ [(p1, s.count, .skip)] ++ sts, ?_, by simp; omega, ?_, q4, by omega⟩
    · rw [e]
      show layRows (layN bs n) bs t _ _ = _
      have q1 : layRows (layN bs n) bs t s.count _ = _ := q1
      rw [q1]
      show some (p', (⟨s.count + 1 + ma + (m : Int), _⟩ : LS)) = _
      rw [show s.count + 1 + (ma : Int) + (m : Int) = s.count + ((ma + 1 + m : Nat) : Int) by omega]
      simp
    · refine StsOk.app (StsOk.app (StsOk.app (s := [_]) (.one ⟨trivial, by simp, h1, by show p < _; omega, by show 0 ≤ s.count; omega, by show s.count < _; omega⟩) (a3.up (by show s.count + 1 + (ma : Int) ≤ _; omega))) (.one ⟨trivial, by simp, a4, by show p1 < _; omega, by show 0 ≤ s.count; omega, by show s.count < _; omega⟩)) (q3.up (by show s.count + 1 + (ma : Int) + m ≤ _; omega))
  | @ca d v mr m k R t hk _ _ _ ihr iht =>
    intro n hn p s h1 h2 h3
    obtain ⟨n, rfl⟩ : ∃ k, n = k + 1 := ⟨n - 1, by omega⟩
    show LayR many (mr + m) p s (((bs[k]?).bind fun R => layN bs n R p s).bind fun q => layRows (layN bs n) bs t q.1 q.2)
    rw [hlk k R hk]
    obtain ⟨p1, s1, a1, a2, a3, a4, a5⟩ := ihr n (by omega) p s h1 h2 (by omega)
    obtain ⟨p', sts, q1, q2, q3, q4, q5⟩ := iht (n + 1) hn p1 ⟨s.count + mr, s.steps ++ s1.map stD⟩ a4 a5 (by show (s.steps ++ s1.map stD).length + _ < _; simp; omega)
    have q5 : p' < s.count + mr + m := q5
    refine ⟨p', s1 ++ sts, ?_, by simp; omega, StsOk.app (a3.up (by omega)) (q3.up (by show s.count + (mr : Int) + m ≤ _; omega)), q4, by omega⟩
    show (layN bs n R p s).bind _ = _
    rw [a1]
    show layRows (layN bs n) bs t p1 _ = _
    have q1 : layRows (layN bs n) bs t p1 ⟨s.count + mr, s.steps ++ s1.map stD⟩ = _ := q1
    rw [q1]
    show some (p', (⟨s.count + mr + (m : Int), _⟩ : LS)) = _
    rw [show s.count + (mr : Int) + (m : Int) = s.count + ((mr + m : Nat) : Int) by omega]
    simp
/-- what is laid out of a program that is well formed -/
structure Laid (many M : Nat) (bs : List Rows) (c : Int) (sts : List Stp) (e : Int) : Prop where
  to : LaysTo (progD many bs) (c, sts.map stD, e)
  fst : ∀ b bs', bs = b :: bs' → layN bs 24 b 0 ⟨1, []⟩ = some (e, ⟨c, sts.map stD⟩)
  ok : StsOk many c sts
  len : sts.length ≤ 2 * M
  e0 : 0 ≤ e
  e1 : e < c
  c0 : 1 ≤ c
  c1 : c ≤ M + 1
theorem POk.laid {many M : Nat} {bs : List Rows} (h : POk many M bs) (hM : M ≤ 1000) : ∃ c sts e, Laid many M bs c sts e := by
  cases bs with
  | nil => exact absurd rfl h.ne
  | cons b bs =>
    obtain ⟨m, hm, hr⟩ := h.all 0 b rfl
    have hlk : ∀ k R, lkOf (0 + 1) ((b :: bs).drop (0 + 1)) k = some R → (b :: bs)[k]? = some R := by
      intro k R hk
      unfold lkOf at hk
      split at hk
      · rename_i h1
        obtain ⟨k, rfl⟩ : ∃ j, k = j + 1 := ⟨k - 1, by omega⟩
        simpa using hk
      · cases hk
    obtain ⟨p', sts, q1, q2, q3, q4, q5⟩ := lay_ok hlk hr 24 (by omega) 0 ⟨1, []⟩ (by omega) (by show (0 : Int) < 1; omega) (by show 0 + 2 * m < _; omega)
    have q1 : layN (b :: bs) 24 b 0 ⟨1, []⟩ = some (p', ⟨1 + (m : Int), sts.map stD⟩) := by rw [q1]; simp
    have q5 : p' < 1 + m := q5
    refine ⟨1 + m, sts, p', ⟨many, b, bs, rfl, q1⟩, fun b2 bs2 e => ?_, q3, by omega, q4, q5, by omega, by omega⟩
    cases e
    exact q1
/-! ### runs -/
def isTake : Pl → Bool
  | .take _ => true
  | _ => false
def dot (l st : List Int) : Int := (List.zipWith (fun a b => a * b) l st).sum
def behindL (st : List Int) (p : Pl) (num : Option Int) : List Int := match p with
  | .set b l => st.set (b.toNat + 1) (dot l st)
  | .take b => st.set (b.toNat + 1) (num.getD 0)
  | _ => st
theorem behindL_len (st : List Int) (p : Pl) (num : Option Int) : (behindL st p num).length = st.length := by
  cases p <;> simp [behindL]
abbrev Mv := Nat × Option Int
inductive Path (sts : List Stp) : Int → List Mv → Prop
  | nil {p : Int} : Path sts p []
  | cons {p : Int} {j : Nat} {num : Option Int} {x : Stp} {ms : List Mv} : sts[j]? = some x → x.1 = p → num.isSome = isTake x.2.2 → Path sts x.2.1 ms → Path sts p ((j, num) :: ms)
def walkL (sts : List Stp) : Int → List Int → List Mv → List (Int × List Int)
  | p, st, [] => [(p, st)]
  | p, st, (j, num) :: ms => (p, st) :: (match sts[j]? with
    | some x => walkL sts x.2.1 (behindL st x.2.2 num) ms
    | none => [])
def optD : Option Int → D
  | some n => .int n
  | none => .none
def mvD (m : Mv) : D := .tuple [.int m.1, optD m.2]
def stateD (s : Int × List Int) : D := .tuple [.int s.1, lineD s.2]
theorem walkL_len (sts : List Stp) : ∀ (ms : List Mv) (p : Int) (st : List Int), Path sts p ms → (walkL sts p st ms).length = ms.length + 1 := by
  intro ms
  induction ms with
  | nil => intro p st _; rfl
  | cons m ms ih =>
    intro p st h
    cases h with
    | cons h1 h2 h3 h4 =>
      show (_ :: _).length = _
      simp only [h1]
      simp [ih _ _ h4]
theorem walkL_all (sts : List Stp) (n : Nat) : ∀ (ms : List Mv) (p : Int) (st : List Int), st.length = n → ∀ s ∈ walkL sts p st ms, s.2.length = n := by
  intro ms
  induction ms with
  | nil =>
    intro p st h s hs
    rw [List.mem_singleton.mp hs]
    exact h
  | cons m ms ih =>
    intro p st h s hs
    rcases List.mem_cons.mp hs with rfl | hs
    · exact h
    · cases he : sts[m.1]? with
      | none => simp only [he] at hs; cases hs
      | some x =>
        simp only [he] at hs
        exact ih _ _ (by rw [behindL_len]; exact h) s hs
def endAt (sts : List Stp) : Int → List Mv → Int
  | p, [] => p
  | p, (j, _) :: ms => match sts[j]? with
    | some x => endAt sts x.2.1 ms
    | none => p
/-- a run that goes on -/
theorem Path.snoc {sts : List Stp} {j : Nat} {num : Option Int} {x : Stp} (hx : sts[j]? = some x) (hn : num.isSome = isTake x.2.2) : ∀ {ms : List Mv} {p : Int}, Path sts p ms → endAt sts p ms = x.1 → Path sts p (ms ++ [(j, num)]) := by
  intro ms
  induction ms with
  | nil => intro p _ he; exact .cons hx he.symm hn .nil
  | cons m ms ih =>
    intro p h he
    cases h with
    | cons h1 h2 h3 h4 =>
      refine .cons h1 h2 h3 (ih h4 ?_)
      simpa [endAt, h1] using he
end FL

/-! FJ: a tuple taken so many times, where that is once or not at all -/
namespace FL
open PySem PySem.Spec PyProof.Rows L2
theorem tuple_mul1W (l : Addr) (items : Array Value) (n : Nat) (dd : Option Addr) (sl : Array (Option Value)) (x : Int) (u : Tok) (c0 : (decide (x < -(2 ^ 63)) || decide (x ≥ 2 ^ 63)) = false) (c1 : (items.isEmpty || x == 1) = true) :
    Meets (Builtin.«tuple.__mul__» ⟨[.ref l, .int x u], []⟩) (fun _ R s => s.heap.get? l = some { cls := .type "tuple", dict := dd, data := .seq items n, slots := sl } ∧
      R (.ok (.ret (Value.ref l))) s) :=
  .of_wp fun prog w A R s h => by
    obtain ⟨hp, g, d, tk, os⟩ := s
    obtain ⟨hl, h⟩ := h
    have f1 := AutoSeq1.idx_int
    wp_walk using wpAny_loadPart' hl
    repeat (first
      | (refine wpAny_ite_false (decide_eq_false (by rw [c0]; exact Bool.false_ne_true)) ?_; wp_walk using wpAny_loadPart' hl)
      | (refine wpAny_ite_true (decide_eq_true c1) ?_; wp_walk using wpAny_loadPart' hl)
      )
    exact ⟨_, rfl, h⟩
theorem tuple_mul0W (l : Addr) (items : Array Value) (n : Nat) (dd : Option Addr) (sl : Array (Option Value)) (x : Int) (u : Tok) (c0 : (decide (x < -(2 ^ 63)) || decide (x ≥ 2 ^ 63)) = false) (c1 : (items.isEmpty || x == 1) = false) (c2 : (decide (x ≤ 0) || items.isEmpty) = true) :
    Meets (Builtin.«tuple.__mul__» ⟨[.ref l, .int x u], []⟩) (fun _ R s => s.heap.get? l = some { cls := .type "tuple", dict := dd, data := .seq items n, slots := sl } ∧
      R (.ok (.ret (Value.ref s.heap.objs.size))) { s with heap := s.heap.push { cls := Value.type "tuple", data := Data.seq #[] }, toks := s.toks }) :=
  .of_wp fun prog w A R s h => by
    obtain ⟨hp, g, d, tk, os⟩ := s
    obtain ⟨hl, h⟩ := h
    have f1 := AutoSeq1.idx_int
    wp_walk using wpAny_loadPart' hl
    repeat (first
      | (refine wpAny_ite_false (decide_eq_false (by rw [c0]; exact Bool.false_ne_true)) ?_; wp_walk using wpAny_loadPart' hl)
      | (refine wpAny_ite_false (decide_eq_false (by rw [c1]; exact Bool.false_ne_true)) ?_; wp_walk using wpAny_loadPart' hl)
      | (refine wpAny_ite_true (decide_eq_true c2) ?_; wp_walk using wpAny_loadPart' hl)
      )
    exact ⟨_, rfl, h⟩
def rMulT1 (K : PySem.W.Frag) : R2 := fun x y H Q => ∃ l xs, x = .ref l ∧ y = .int 1 ∧ SqT K H l xs ∧ Q (.ref l) H
def rMulT0 (K : PySem.W.Frag) : R2 := fun x y H Q => ∃ l xs, x = .ref l ∧ y = .int 0 ∧ SqT K H l xs ∧ xs ≠ [] ∧ ∀ p, H p = none → Q (.ref p) (upd H p (.tup []))
section
variable {X : Cx}
theorem op_mulT1 : OpR X (binaryOp .Mult) (rMulT1 X.K) := by
  intro pins s σ H x y v u Q I rx ry h
  obtain ⟨l, xs, rfl, rfl, hT, q⟩ := h
  cases rx
  obtain ⟨t, rfl⟩ := ry
  obtain ⟨its, r, ⟨⟨cls, dd, data, sl⟩, ho, hc, n, hd⟩, hs⟩ := I.tuple hT
  simp only at hc hd
  subst hc hd
  refine wpAny_binaryOp_repeat_ref (T := "tuple") (U := "int") (by decide) ⟨_, ho, rfl⟩ (fun s' => typeIs_int s' 1 t) noFill_tuple_mul F.fills_int_mul F.slot_int_rmul repeat_tuple F.slot_int_index.lookup
    (call_meets F.slot_int_rmul (typeIs_int s 1 t) F.entry_int_rmul (F.args_int_rmul_2 _ _) (int_rmul_tuple 1 t l its.toArray n dd sl)
      ⟨ho, rfl, ⟨_, ho, rfl⟩, call_meets F.slot_tuple_mul ⟨_, ho, rfl⟩ F.entry_tuple_mul (F.args_tuple_mul_2 _ _) (tuple_mul1W l its.toArray n dd sl 1 t (by decide) (by rw [Bool.or_eq_true]; exact .inr rfl)) ⟨ho, ?_⟩⟩)
  exact ⟨.ref l, H, I, rfl, q⟩
theorem op_mulT0 : OpR X (binaryOp .Mult) (rMulT0 X.K) := by
  intro pins s σ H x y v u Q I rx ry h
  obtain ⟨l, xs, rfl, rfl, hT, hne, q⟩ := h
  cases rx
  obtain ⟨t, rfl⟩ := ry
  obtain ⟨its, r, ⟨⟨cls, dd, data, sl⟩, ho, hc, n, hd⟩, hs⟩ := I.tuple hT
  simp only at hc hd
  subst hc hd
  have hle : its.length = xs.length := r.length.symm
  have hn : its ≠ [] := fun e => hne (by
    rw [e] at hle
    exact List.eq_nil_of_length_eq_zero hle.symm)
  have hi : its.toArray.isEmpty = false := by
    cases its with
    | nil => exact absurd rfl hn
    | cons a b => rfl
  refine wpAny_binaryOp_repeat_ref (T := "tuple") (U := "int") (by decide) ⟨_, ho, rfl⟩ (fun s' => typeIs_int s' 0 t) noFill_tuple_mul F.fills_int_mul F.slot_int_rmul repeat_tuple F.slot_int_index.lookup
    (call_meets F.slot_int_rmul (typeIs_int s 0 t) F.entry_int_rmul (F.args_int_rmul_2 _ _) (int_rmul_tuple 0 t l its.toArray n dd sl)
      ⟨ho, rfl, ⟨_, ho, rfl⟩, call_meets F.slot_tuple_mul ⟨_, ho, rfl⟩ F.entry_tuple_mul (F.args_tuple_mul_2 _ _) (tuple_mul0W l its.toArray n dd sl 0 t (by decide) (by rw [hi]; rfl) (by simp)) ⟨ho, ?_⟩⟩)
  refine ⟨.ref s.heap.objs.size, _, I.laid (t' := s.toks) (o := .tup []) (fun b ob q => Heap.get?_push_of_some _ q) (Nat.le_refl _) ?_, rfl, q _ (I.hok.fresh (Nat.le_refl _))⟩
  exact ⟨by simp [sizeLine_eq], _, .nil, IsTup.new _ _⟩
end
/-- a tuple taken k times -/
def mulTD : D → D → Option Sl
  | .tuple a, .int k => if a ≠ [] ∧ 0 ≤ k ∧ k ≤ 1000 ∧ a.length ≤ 1000 then some (.sh (.tuple (List.replicate k.toNat a).flatten)) else none
  | _, _ => none
def rMulTAll (K : PySem.W.Frag) : R2 := fun x y H Q => rMulT1 K x y H Q ∨ rMulT0 K x y H Q ∨ rRepT K x y H Q
theorem or_mulT {X : Cx} : OpR X (binaryOp .Mult) (rMulTAll X.K) := op_mulT1.or (op_mulT0.or op_repT)
theorem so_mulT {K : PySem.W.Frag} : SemOp K (rMulTAll K) mulTD := by
  intro G H x y dx dy s Q sm a b e q
  cases dx <;> cases dy <;> first | (cases e; done) | skip
  case tuple.int i k =>
    by_cases h : i ≠ [] ∧ 0 ≤ k ∧ k ≤ 1000 ∧ i.length ≤ 1000
    · rw [show mulTD (.tuple i) (.int k) = if i ≠ [] ∧ 0 ≤ k ∧ k ≤ 1000 ∧ i.length ≤ 1000 then some (.sh (.tuple (List.replicate k.toNat i).flatten)) else none from rfl, if_pos h] at e
      cases e
      have a0 := a
      obtain ⟨p, vs, rfl, hp, hv⟩ := a.tuple sm
      have hne : vs ≠ [] := fun z => by subst z; cases hv; exact h.1 rfl
      by_cases h0 : k = 0
      · subst h0
        exact .inr (.inl ⟨p, vs, rfl, b.int, hp, hne, fun l hl => q _ _ (.newT sm hl .nil)⟩)
      · by_cases h1 : k = 1
        · subst h1
          refine .inl ⟨p, vs, rfl, b.int, hp, ?_⟩
          rcases a0 with a0 | ⟨_, _, _, _, z, _⟩
          · exact q _ _ (.now (by simpa using a0))
          · cases z
        · exact .inr (.inr ⟨p, k, vs, rfl, b.int, hp, hne, by omega, h.2.2.1, by rw [hv.length]; exact h.2.2.2, fun l hl => q _ _ (.newT sm hl (hv.rep _))⟩)
    · rw [show mulTD (.tuple i) (.int k) = if i ≠ [] ∧ 0 ≤ k ∧ k ≤ 1000 ∧ i.length ≤ 1000 then some (.sh (.tuple (List.replicate k.toNat i).flatten)) else none from rfl, if_neg h] at e
      cases e
theorem se_mulT {X : Cx} {a b : Expr} {pos} {fa fb : EvF} (ha : SE X a fa) (hb : SE X b fb) : SE X (.BinOp a .Mult b pos) (fOp mulTD fa fb) := se_bin or_mulT so_mulT ha hb
theorem mulTD_one (d : D) (k : Nat) (hk : k ≤ 1000) : mulTD (.tuple [d]) (.int k) = some (.sh (.tuple (List.replicate k d))) := by
  have h : [d] ≠ [] ∧ 0 ≤ (k : Int) ∧ (k : Int) ≤ 1000 ∧ [d].length ≤ 1000 := ⟨by simp, by omega, by omega, by simp⟩
  rw [show mulTD (.tuple [d]) (.int k) = if [d] ≠ [] ∧ 0 ≤ (k : Int) ∧ (k : Int) ≤ 1000 ∧ [d].length ≤ 1000 then some (.sh (.tuple (List.replicate (k : Int).toNat [d]).flatten)) else none from rfl, if_pos h]
  simp
end FL

/-! FK: chained comparisons of whole numbers -/
namespace FL
open PySem PySem.Spec PyProof.Rows L2
section
variable {K : PySem.W.Frag} {mg : Str → Option Value} {H : Hp} {σ : L2.St} {env : Lo} {l : List Item} {v : V} {r : R2}
theorem HoldV.int {i : Int} (h : HoldV K mg H σ env l v (.sh (.int i))) : v = .int i := by
  obtain ⟨G, os, rp⟩ := h.rep
  obtain ⟨v', e', d⟩ := rp.shOf List.mem_cons_self
  cases e'
  cases d
  rfl
theorem HoldV.bl {b : Bool} (h : HoldV K mg H σ env l v (.sh (.bool b))) : v = .bl b := by
  obtain ⟨G, os, rp⟩ := h.rep
  obtain ⟨v', e', d⟩ := rp.shOf List.mem_cons_self
  cases e'
  cases d
  rfl
theorem op_ints {o : D → D → Option Sl} {i j : Int} {s : Sl} {Q : VK} (ho : SemOp K r o) (h : Hold K mg H σ env l) (e : o (.int i) (.int j) = some s) (q : ∀ v H', HoldV K mg H' σ env l v s → Q v H') : r (.int i) (.int j) H Q := by
  obtain ⟨G, os, rp⟩ := h.rep
  exact ho G H _ _ _ _ s Q rp.same (.inl (.int _)) (.inl (.int _)) e fun v H3 g => q v H3 ⟨h.len, rp.got g, g.novw⟩
end
def chC3 (o' : D → D → Option Sl) (j : Int) : Sl × Lo → Res (Sl × Lo)
  | (.sh (.int k), e) => match o' (.int j) (.int k) with
    | some (.sh (.bool b)) => .ok (.sh (.bool b), e)
    | _ => .bad
  | _ => .bad
def chC2 (o o' : D → D → Option Sl) (fc : EvF) (i : Int) : Sl × Lo → Res (Sl × Lo)
  | (.sh (.int j), e) => match o (.int i) (.int j) with
    | some (.sh (.bool true)) => (fc e).bind (chC3 o' j)
    | some (.sh (.bool false)) => .ok (.sh (.bool false), e)
    | _ => .bad
  | _ => .bad
def chC1 (o o' : D → D → Option Sl) (fb fc : EvF) : Sl × Lo → Res (Sl × Lo)
  | (.sh (.int i), e) => (fb e).bind (chC2 o o' fc i)
  | _ => .bad
/-- a o b o' c -/
def fChain (o o' : D → D → Option Sl) (fa fb fc : EvF) : EvF := fun env => (fa env).bind (chC1 o o' fb fc)
theorem sem_chain {K : PySem.W.Frag} {mg : Str → Option Value} {r r' : R2} {o o' : D → D → Option Sl} {ta tb tc : TE} {fa fb fc : EvF} (ho : SemOp K r o) (ho' : SemOp K r' o') (ha : SemE K mg ta fa) (hb : SemE K mg tb fb) (hc : SemE K mg tc fc) :
    SemE K mg (tChain r r' ta tb tc) (fChain o o' fa fb fc) := by
  intro σ H env l s env' h e Q q
  unfold fChain at e
  obtain ⟨⟨ra, e1⟩, ea, e⟩ := Res.bind_ok e
  refine ha σ H env l ra e1 h ea _ fun x H1 h1 => ?_
  unfold chC1 at e
  split at e
  · rename_i i e0 heq
    cases heq
    have hx := h1.int
    subst hx
    obtain ⟨⟨rb, e2⟩, eb, e⟩ := Res.bind_ok e
    refine hb σ H1 _ l rb e2 h1.drop eb _ fun y H2 h2 => ?_
    unfold chC2 at e
    split at e
    · rename_i j e0 heq
      cases heq
      have hy := h2.int
      subst hy
      split at e
      · rename_i eo
        refine op_ints ho h2.drop eo fun z H3 h3 => ⟨true, h3.bl, ?_⟩
        rw [if_pos rfl]
        obtain ⟨⟨rc, e3⟩, ec, e⟩ := Res.bind_ok e
        refine hc σ H3 _ l rc e3 h3.drop ec _ fun w H4 h4 => ?_
        unfold chC3 at e
        split at e
        · rename_i k e0 heq
          cases heq
          have hw := h4.int
          subst hw
          split at e
          · rename_i b eo'
            cases e
            exact op_ints ho' h4.drop eo' q
          · cases e
        · cases e
      · rename_i eo
        cases e
        refine op_ints ho h2.drop eo fun z H3 h3 => ⟨false, h3.bl, ?_⟩
        rw [if_neg Bool.false_ne_true]
        have hz := h3.bl
        subst hz
        exact q _ _ h3
      · cases e
    · cases e
  · cases e
section
variable {X : Cx} {a b c : Expr} {fa fb fc : EvF} {pos}
theorem se_chain {op op' : CmpOp} {r r' : R2} {o o' : D → D → Option Sl} (ho : OpR X (compareOp op) r) (so : SemOp X.K r o) (ho' : OpR X (compareOp op') r') (so' : SemOp X.K r' o') (ha : SE X a fa) (hb : SE X b fb) (hc : SE X c fc)
    (hm : lastMarks [op, op'] [b, c] = false := by with_unfolding_all rfl) : SE X (.Compare a [op, op'] [b, c] pos) (fChain o o' fa fb fc) := by
  obtain ⟨t, p, s⟩ := ha.ex
  obtain ⟨t', p', s'⟩ := hb.ex
  obtain ⟨t2, p2, s2⟩ := hc.ex
  exact ⟨_, pe_chain ho ho' p p' p2 hm, sem_chain so so' s s' s2⟩
theorem st_chain {op op' : CmpOp} {r r' : R2} {o o' : D → D → Option Sl} (ho : OpR X (compareOp op) r) (so : SemOp X.K r o) (ho' : OpR X (compareOp op') r') (so' : SemOp X.K r' o') (ha : SE X a fa) (hb : SE X b fb) (hc : SE X c fc)
    (hm : lastMarks [op, op'] [b, c] = false := by with_unfolding_all rfl) : ST X (.Compare a [op, op'] [b, c] pos) (fTst (fChain o o' fa fb fc)) := by
  obtain ⟨t, p, s⟩ := ha.ex
  obtain ⟨t', p', s'⟩ := hb.ex
  obtain ⟨t2, p2, s2⟩ := hc.ex
  exact ⟨_, pt_chain ho ho' p p' p2 hm, sem_tst (sem_chain so so' s s' s2)⟩
end
@[simp] theorem ev_chain (o o' : D → D → Option Sl) (fa fb fc : EvF) (env : Lo) : fChain o o' fa fb fc env = (fa env).bind (chC1 o o' fb fc) := eqq rfl
@[simp] theorem chC1_int (o o' : D → D → Option Sl) (fb fc : EvF) (i : Int) (e : Lo) : chC1 o o' fb fc (.sh (.int i), e) = (fb e).bind (chC2 o o' fc i) := eqq rfl
@[simp] theorem chC2_int (o o' : D → D → Option Sl) (fc : EvF) (i j : Int) (e : Lo) : chC2 o o' fc i (.sh (.int j), e) = match o (.int i) (.int j) with
    | some (.sh (.bool true)) => (fc e).bind (chC3 o' j)
    | some (.sh (.bool false)) => .ok (.sh (.bool false), e)
    | _ => .bad := eqq rfl
@[simp] theorem chC3_int (o' : D → D → Option Sl) (j k : Int) (e : Lo) : chC3 o' j (.sh (.int k), e) = match o' (.int j) (.int k) with
    | some (.sh (.bool b)) => .ok (.sh (.bool b), e)
    | _ => .bad := eqq rfl
end FL

/-! PS: sizes of rows, rows alike, shapes -/
namespace FL
open PySem PySem.Spec PyProof.Rows L2
/-- rows: at most v deep, no list longer than L -/
inductive Sz (L : Nat) : Nat → Rows → Prop
  | nil {v : Nat} : Sz L v .nil
  | pl {v : Nat} {r : Pl} {t : Rows} : Sz L (v + 1) t → (rowsD t).length < L → Sz L (v + 1) (.pl r t)
  | ei {v : Nat} {a b t : Rows} : Sz L v a → Sz L v b → Sz L (v + 1) t → (rowsD t).length < L → Sz L (v + 1) (.ei a b t)
  | lo {v : Nat} {a t : Rows} : Sz L v a → Sz L (v + 1) t → (rowsD t).length < L → Sz L (v + 1) (.lo a t)
  | ca {v k : Nat} {t : Rows} : Sz L (v + 1) t → (rowsD t).length < L → Sz L (v + 1) (.ca k t)
theorem Sz.up {L L' v v' : Nat} {R : Rows} (h : Sz L v R) (hL : L ≤ L') : v ≤ v' → Sz L' v' R := by
  induction h generalizing v' with
  | nil => intro _; exact .nil
  | pl _ hl ih =>
    intro hv
    obtain ⟨v1, rfl⟩ : ∃ v1, v' = v1 + 1 := ⟨v' - 1, by omega⟩
    exact .pl (ih hv) (by omega)
  | ei _ _ _ hl iha ihb iht =>
    intro hv
    obtain ⟨v1, rfl⟩ : ∃ v1, v' = v1 + 1 := ⟨v' - 1, by omega⟩
    exact .ei (iha (by omega)) (ihb (by omega)) (iht hv) (by omega)
  | lo _ _ hl iha iht =>
    intro hv
    obtain ⟨v1, rfl⟩ : ∃ v1, v' = v1 + 1 := ⟨v' - 1, by omega⟩
    exact .lo (iha (by omega)) (iht hv) (by omega)
  | ca _ hl ih =>
    intro hv
    obtain ⟨v1, rfl⟩ : ∃ v1, v' = v1 + 1 := ⟨v' - 1, by omega⟩
    exact .ca (ih hv) (by omega)
theorem Sz.len {L v : Nat} {R : Rows} (h : Sz L v R) : (rowsD R).length ≤ L := by
  cases h with
  | nil => exact Nat.zero_le _
  | pl _ hl => exact hl
  | ei _ _ _ hl => exact hl
  | lo _ _ hl => exact hl
  | ca _ hl => exact hl
theorem ROk.sz1 {many : Nat} {lk : Look} {d v m : Nat} {R : Rows} (h : ROk many lk d v m R) : Sz 100 v R := by
  induction h with
  | nil => exact .nil
  | pl _ _ hl ih => exact .pl ih hl
  | ei _ _ _ hl iha ihb iht => exact .ei iha ihb iht hl
  | lo _ _ hl iha iht => exact .lo iha iht hl
  | ca _ _ _ hl _ ih => exact .ca ih hl
theorem ROk.sz {many : Nat} {lk : Look} {d v m : Nat} {R : Rows} (h : ROk many lk d v m R) : Sz 2000 v R := h.sz1.up (by omega) (Nat.le_refl _)
def alike : Rows → Rows → Bool
  | .nil, .nil => true
  | .pl r t, .pl r' t' => r.d.word == r'.d.word && alike t t'
  | .ei a b t, .ei a' b' t' => (alike a a' && alike b b') && alike t t'
  | .lo a t, .lo a' t' => alike a a' && alike t t'
  | .ca k t, .ca k' t' => k == k' && alike t t'
  | _, _ => false
def shD : Rows → List D
  | .nil => []
  | .pl r t => .str r.d.word :: shD t
  | .ei a b t => .tuple [.str sEither, .list [.list (shD a), .list (shD b)]] :: shD t
  | .lo a t => .tuple [.str sLoop, .list [.list (shD a)]] :: shD t
  | .ca k t => .tuple [.str sCall, .int k] :: shD t
theorem nEL : (sEither == sLoop) = false := by decide +kernel
theorem nLE : (sLoop == sEither) = false := by decide +kernel
theorem nEC : (sEither == sCall) = false := by decide +kernel
theorem nCE : (sCall == sEither) = false := by decide +kernel
theorem nLC : (sLoop == sCall) = false := by decide +kernel
theorem nCL : (sCall == sLoop) = false := by decide +kernel
theorem eqv_sh : ∀ R S : Rows, PyData.eqvAll (shD R) (shD S) = alike R S := by
  intro R
  induction R with
  | nil => intro S; cases S <;> simp [shD, alike, PyData.eqvAll]
  | pl r t ih => intro S; cases S <;> simp [shD, alike, PyData.eqvAll, PyData.eqv, ih]
  | ei a b t iha ihb iht => intro S; cases S <;> simp [shD, alike, PyData.eqvAll, PyData.eqv, iha, ihb, iht, nEL, nEC]
  | lo a t iha iht => intro S; cases S <;> simp [shD, alike, PyData.eqvAll, PyData.eqv, iha, iht, nLE, nLC]
  | ca k t ih =>
    intro S
    cases S <;> simp [shD, alike, PyData.eqvAll, PyData.eqv, ih, nCE, nCL]
    rename_i k' t'
    by_cases h : k = k'
    · subst h; simp
    · have : ¬ (k : Int) = k' := by omega
      rw [show ((k : Int) == (k' : Int)) = false by simpa using this, show (k == k') = false by simpa using h]
theorem alike_symm : ∀ R S : Rows, alike R S = alike S R := by
  intro R
  induction R with
  | nil => intro S; cases S <;> rfl
  | pl r t ih => intro S; cases S <;> simp [alike, ih, Bool.beq_comm]
  | ei a b t iha ihb iht => intro S; cases S <;> simp [alike, iha, ihb, iht]
  | lo a t iha iht => intro S; cases S <;> simp [alike, iha, iht]
  | ca k t ih => intro S; cases S <;> simp [alike, ih, Bool.beq_comm]
theorem alike_refl (R : Rows) : alike R R = true := by
  induction R <;> simp_all [alike]
theorem alike_len : ∀ R S : Rows, alike R S = true → (rowsD R).length = (rowsD S).length := by
  intro R
  induction R with
  | nil => intro S h; cases S <;> first | rfl | (simp [alike] at h)
  | pl r t ih =>
    intro S h
    cases S with
    | pl r' t' => simp only [alike, Bool.and_eq_true] at h; simp [rowsD, ih _ h.2]
    | _ => simp [alike] at h
  | ei a b t iha ihb iht =>
    intro S h
    cases S with
    | ei a' b' t' => simp only [alike, Bool.and_eq_true] at h; simp [rowsD, iht _ h.2]
    | _ => simp [alike] at h
  | lo a t iha iht =>
    intro S h
    cases S with
    | lo a' t' => simp only [alike, Bool.and_eq_true] at h; simp [rowsD, iht _ h.2]
    | _ => simp [alike] at h
  | ca k t ih =>
    intro S h
    cases S with
    | ca k' t' => simp only [alike, Bool.and_eq_true] at h; simp [rowsD, ih _ h.2]
    | _ => simp [alike] at h
theorem Lay.str1 {z : Str} (h : (PyData.str z).canLay0 = true) : Lay 0 (.str z) := ⟨h, Nat.le_refl _⟩
theorem lw1 : Lay 0 (.str sSet) := .str1 (by decide +kernel)
theorem lw2 : Lay 0 (.str sTake) := .str1 (by decide +kernel)
theorem lw3 : Lay 0 (.str sSkip) := .str1 (by decide +kernel)
theorem lw4 : Lay 0 (.str sHalt) := .str1 (by decide +kernel)
theorem lw5 : Lay 0 (.str sCall) := .str1 (by decide +kernel)
theorem lw6 : Lay 0 (.str sEither) := .str1 (by decide +kernel)
theorem lw7 : Lay 0 (.str sLoop) := .str1 (by decide +kernel)
theorem Pl.lay (r : Pl) : Lay 2 r.d := by
  cases r with
  | set b l => exact .tuple (fun d hd => by
      simp only [List.mem_cons, List.not_mem_nil, or_false] at hd
      rcases hd with rfl | rfl | rfl
      · exact lw1.mono (by omega)
      · exact (Lay.int _).mono (by omega)
      · exact .tuple (layInts l))
  | take b => exact .tuple (fun d hd => by
      simp only [List.mem_cons, List.not_mem_nil, or_false] at hd
      rcases hd with rfl | rfl
      · exact lw2.mono (by omega)
      · exact (Lay.int _).mono (by omega))
  | skip => exact .tuple (fun d hd => by
      simp only [List.mem_cons, List.not_mem_nil, or_false] at hd
      rcases hd with rfl
      exact lw3.mono (by omega))
  | halt => exact .tuple (fun d hd => by
      simp only [List.mem_cons, List.not_mem_nil, or_false] at hd
      rcases hd with rfl
      exact lw4.mono (by omega))
theorem Pl.layW (r : Pl) : Lay 0 (.str r.d.word) := by
  rcases r.word with h | h | h | h <;> rw [h]
  · exact lw1
  · exact lw2
  · exact lw3
  · exact lw4
theorem Sz.lay {L v : Nat} {R : Rows} (h : Sz L v R) : ∀ d ∈ rowsD R, Lay (2 * v + 1) d := by
  induction h with
  | nil => intro d hd; cases hd
  | @pl v r t _ _ ih =>
    intro d hd
    rcases List.mem_cons.mp hd with rfl | hd
    · exact r.lay.mono (by omega)
    · exact ih d hd
  | @ei v a b t _ _ _ _ iha ihb iht =>
    intro d hd
    rcases List.mem_cons.mp hd with rfl | hd
    · refine Lay.mono (Lay.tuple (k := 2 * v + 2) fun e he => ?_) (by omega)
      simp only [List.mem_cons, List.not_mem_nil, or_false] at he
      rcases he with rfl | rfl | rfl
      · exact lw6.mono (by omega)
      · exact .list iha
      · exact .list ihb
    · exact iht d hd
  | @lo v a t _ _ _ iha iht =>
    intro d hd
    rcases List.mem_cons.mp hd with rfl | hd
    · refine Lay.mono (Lay.tuple (k := 2 * v + 2) fun e he => ?_) (by omega)
      simp only [List.mem_cons, List.not_mem_nil, or_false] at he
      rcases he with rfl | rfl
      · exact lw7.mono (by omega)
      · exact .list iha
    · exact iht d hd
  | @ca v k t _ _ ih =>
    intro d hd
    rcases List.mem_cons.mp hd with rfl | hd
    · refine Lay.mono (Lay.tuple (k := 0) fun e he => ?_) (by omega)
      simp only [List.mem_cons, List.not_mem_nil, or_false] at he
      rcases he with rfl | rfl
      · exact lw5
      · exact .int _
    · exact ih d hd
theorem Sz.layS {L v : Nat} {R : Rows} (h : Sz L v R) : ∀ d ∈ shD R, Lay (3 * v + 1) d := by
  induction h with
  | nil => intro d hd; cases hd
  | @pl v r t _ _ ih =>
    intro d hd
    rcases List.mem_cons.mp hd with rfl | hd
    · exact r.layW.mono (by omega)
    · exact ih d hd
  | @ei v a b t _ _ _ _ iha ihb iht =>
    intro d hd
    rcases List.mem_cons.mp hd with rfl | hd
    · refine Lay.mono (Lay.tuple (k := 3 * v + 3) fun e he => ?_) (by omega)
      simp only [List.mem_cons, List.not_mem_nil, or_false] at he
      rcases he with rfl | rfl
      · exact lw6.mono (by omega)
      · refine .list fun e he => ?_
        simp only [List.mem_cons, List.not_mem_nil, or_false] at he
        rcases he with rfl | rfl
        · exact .list iha
        · exact .list ihb
    · exact iht d hd
  | @lo v a t _ _ _ iha iht =>
    intro d hd
    rcases List.mem_cons.mp hd with rfl | hd
    · refine Lay.mono (Lay.tuple (k := 3 * v + 3) fun e he => ?_) (by omega)
      simp only [List.mem_cons, List.not_mem_nil, or_false] at he
      rcases he with rfl | rfl
      · exact lw7.mono (by omega)
      · refine .list fun e he => ?_
        simp only [List.mem_cons, List.not_mem_nil, or_false] at he
        rcases he with rfl
        exact .list iha
    · exact iht d hd
  | @ca v k t _ _ ih =>
    intro d hd
    rcases List.mem_cons.mp hd with rfl | hd
    · refine Lay.mono (Lay.tuple (k := 0) fun e he => ?_) (by omega)
      simp only [List.mem_cons, List.not_mem_nil, or_false] at he
      rcases he with rfl | rfl
      · exact lw5
      · exact .int _
    · exact ih d hd
theorem shD_len : ∀ R : Rows, (shD R).length = (rowsD R).length := by
  intro R
  induction R <;> simp_all [shD, rowsD]
end FL

/-! FZ3: zip of three lists or tuples; xs.index(x) of a list of one's own -/
namespace FL
open PySem PySem.Spec PyProof.Rows L2
def Itz3 (K : PySem.W.Frag) (ta tb tc : Bool) (a b c : Addr) : It :=
  ⟨fun i H => ∃ (xs ys zs : List V) (x y z : V), sqS K H ta a xs ∧ sqS K H tb b ys ∧ sqS K H tc c zs ∧ xs[i]? = some x ∧ ys[i]? = some y ∧ zs[i]? = some z,
   fun i H v H' => ∃ T x y z, v = .ref T ∧ H T = none ∧ H' = upd H T (.tup [x, y, z]) ∧ (∀ xs, sqS K H ta a xs → xs[i]? = some x) ∧ (∀ ys, sqS K H tb b ys → ys[i]? = some y) ∧ ∀ zs, sqS K H tc c zs → zs[i]? = some z,
   fun i H => ∃ xs ys zs : List V, sqS K H ta a xs ∧ sqS K H tb b ys ∧ sqS K H tc c zs ∧ (xs.length = i ∨ ys.length = i ∨ zs.length = i) ∧ i ≤ xs.length ∧ i ≤ ys.length ∧ i ≤ zs.length⟩
theorem apartS {h : Heap} {a it : Addr} {i : Nat} {tp : Bool} {its : Array Value} (p : seS h a its tp) (q : itS h it a i tp) : a ≠ it := fun e => by
  subst e
  cases tp with
  | true => obtain ⟨o1, e1, c1, _⟩ := p; obtain ⟨o2, e2, c2, _⟩ := q; rw [e1] at e2; cases e2; rw [c1] at c2; simp at c2
  | false => obtain ⟨o1, e1, c1, _⟩ := p; obtain ⟨o2, e2, c2, _⟩ := q; rw [e1] at e2; cases e2; rw [c1] at c2; simp at c2
theorem turn_zip3 {P : Program} {w : World} {K : PySem.W.Frag} {elts : List Expr} {kk : Nat} {tpos : Pos} {ta tb tc : Bool} {a b c z TI TO i1 i2 i3 : Addr} (S : ZipSep3 z TI TO i1 i2 i3 [i1, a] [i2, b] [i3, c]) :
    Turn P w K (.Tuple elts kk tpos) (Itz3 K ta tb tc a b c) [z, TI, TO, i1, i2, i3] z (fun i h => IsZip h z TI TO .none ∧ IsTupOf3 h TI (.ref i1) (.ref i2) (.ref i3) ∧ (∃ x y u, IsTupOf3 h TO x y u) ∧ itS h i1 a i ta ∧ itS h i2 b i tb ∧ itS h i3 c i tc) where
  mem := by simp
  obj := fun i h ⟨hz, hTI, ⟨x, y, u, hTO⟩, h1, h2, h3⟩ c' hc => by
    have e' : c' = z ∨ c' = TI ∨ c' = TO ∨ c' = i1 ∨ c' = i2 ∨ c' = i3 := by simpa using hc
    rcases e' with rfl | rfl | rfl | rfl | rfl | rfl
    · exact ⟨_, hz, fun v q => nomatch q⟩
    · exact ⟨_, hTI, fun v q => nomatch q⟩
    · exact ⟨_, hTO, fun v q => nomatch q⟩
    · exact h1.obj
    · exact h2.obj
    · exact h3.obj
  keep := fun i h h' ⟨hz, hTI, ⟨x, y, u, hTO⟩, h1, h2, h3⟩ k =>
    ⟨k z (by simp) _ hz, k TI (by simp) _ hTI, ⟨x, y, u, k TO (by simp) _ hTO⟩, h1.at' fun o q => k i1 (by simp) o q, h2.at' fun o q => k i2 (by simp) o q, h3.at' fun o q => k i3 (by simp) o q⟩
  item := by
    intro X hP hw hK hc i pins s σ H E I hf ⟨hz, hTI, ⟨x0, y0, u0, hTO⟩, h1, h2, h3⟩ ⟨xs, ys, zs, x, y, zz, hqx, hqy, hqz, hx, hy, hzz⟩
    subst hP hw hK
    obtain ⟨its, rv, p, la⟩ := seS_of I hqx
    obtain ⟨its2, rv2, p2, lb⟩ := seS_of I hqy
    obtain ⟨its3, rv3, p3, lc⟩ := seS_of I hqz
    obtain ⟨u, hu, ru⟩ := rv.get hx
    obtain ⟨u2, hu2, ru2⟩ := rv2.get hy
    obtain ⟨u3, hu3, ru3⟩ := rv3.get hzz
    have D1 := drS (prog := X.prog) (w := X.w) (A := X.A.in1) (I.ok.hd hc) i1 a (apartS p h1) its.toArray ta
    have D2 := drS (prog := X.prog) (w := X.w) (A := X.A.in1) (I.ok.hd hc) i2 b (apartS p2 h2) its2.toArray tb
    have D3 := drS (prog := X.prog) (w := X.w) (A := X.A.in1) (I.ok.hd hc) i3 c (apartS p3 h3) its3.toArray tc
    have hzl : z < s.heap.objs.size := Heap.lt_size hz
    have hi1 : i < its.toArray.size := by have := (List.getElem?_eq_some_iff.mp hu).1; simpa using this
    have hi2 : i < its2.toArray.size := by have := (List.getElem?_eq_some_iff.mp hu2).1; simpa using this
    have hi3 : i < its3.toArray.size := by have := (List.getElem?_eq_some_iff.mp hu3).1; simpa using this
    refine wpAny_pyNext_zipD3_item S D1 D2 D3 hz hTI hTO ⟨h1, p⟩ ⟨h2, p2⟩ ⟨h3, p3⟩ hi1 hi2 hi3 fun x1 x2 x3 h' tk q1 q2 q3 z' TO' st1 st2 st3 hT hsz hk => ?_
    have e1 : x1 = u := by
      have : its.toArray[i]? = some u := by simpa using hu
      rw [this] at q1; cases q1; rfl
    have e2 : x2 = u2 := by
      have : its2.toArray[i]? = some u2 := by simpa using hu2
      rw [this] at q2; cases q2; rfl
    have e3 : x3 = u3 := by
      have : its3.toArray[i]? = some u3 := by simpa using hu3
      rw [this] at q3; cases q3; rfl
    subst e1 e2 e3
    refine ⟨_, rfl, wpAny_letOwnedTupleGo_zip (s := { s with heap := h', toks := tk }) z' fun h'' z'' sb => ?_⟩
    have hT2 : h''.get? s.heap.objs.size = some { cls := .type "tuple", data := .seq #[x1, x2, x3] } := (sb.2 _ (Nat.ne_of_gt hzl)).trans hT
    have new : ObjOk X.prog X.w (upd H s.heap.objs.size (.tup [x, y, zz])) h'' s.heap.objs.size (.tup [x, y, zz]) :=
      ⟨by show 3 ≤ sizeLine; decide, [x1, x2, x3], .cons ru (.cons ru2 (.cons ru3 .nil)), ⟨_, hT2, rfl, _, rfl⟩⟩
    have I1 : Inv X pins σ (upd H s.heap.objs.size (.tup [x, y, zz])) { s with heap := h'', toks := tk } :=
      I.turnedNew (t' := tk) (ch := [z, TI, TO, i1, i2, i3]) (fun c' o hb q => (sb.2 c' (fun q' => hb (by simp [q']))).trans (hk c' o (fun q' => hb (by simp [q'])) (fun q' => hb (by simp [q'])) (fun q' => hb (by simp [q'])) (fun q' => hb (by simp [q'])) (fun q' => hb (by simp [q'])) q)) hf (Nat.le_refl _) new
    refine ⟨.ref s.heap.objs.size, _, I1, rfl, ⟨_, x, y, zz, rfl, I.hok.fresh (Nat.le_refl _), rfl, fun l hl => by rw [sqS_inj I hl hqx]; exact hx, fun l hl => by rw [sqS_inj I hl hqy]; exact hy, fun l hl => by rw [sqS_inj I hl hqz]; exact hzz⟩, ⟨z'', ?_, ⟨x1, x2, x3, ?_⟩, ?_, ?_, ?_⟩, fun c' hcm => ?_⟩
    · exact (sb.2 _ S.TIz).trans (hk _ _ S.TIz S.TITO S.TIi1 S.TIi2 S.TIi3 hTI)
    · exact (sb.2 _ S.TOz).trans TO'
    · exact st1.1.at' fun o q => (sb.2 _ S.zi1.symm).trans q
    · exact st2.1.at' fun o q => (sb.2 _ S.zi2.symm).trans q
    · exact st3.1.at' fun o q => (sb.2 _ S.zi3.symm).trans q
    · have hlt : c' < s.heap.objs.size := by
        have e' : c' = z ∨ c' = TI ∨ c' = TO ∨ c' = i1 ∨ c' = i2 ∨ c' = i3 := by simpa using hcm
        rcases e' with rfl | rfl | rfl | rfl | rfl | rfl
        · exact hzl
        · exact Heap.lt_size hTI
        · exact Heap.lt_size hTO
        · obtain ⟨_, q, _⟩ := h1.obj; exact Heap.lt_size q
        · obtain ⟨_, q, _⟩ := h2.obj; exact Heap.lt_size q
        · obtain ⟨_, q, _⟩ := h3.obj; exact Heap.lt_size q
      rw [upd_ne (Nat.ne_of_lt hlt)]
      exact (hf c' hcm).1
  done := by
    intro X hP hw hK hc i pins s σ H E I hf ⟨hz, hTI, ⟨x0, y0, u0, hTO⟩, h1, h2, h3⟩ ⟨xs, ys, zs, hqx, hqy, hqz, hend, l1, l2, l3⟩
    subst hP hw hK
    obtain ⟨its, rv, p, la⟩ := seS_of I hqx
    obtain ⟨its2, rv2, p2, lb⟩ := seS_of I hqy
    obtain ⟨its3, rv3, p3, lc⟩ := seS_of I hqz
    have D1 := drS (prog := X.prog) (w := X.w) (A := X.A.in1) (I.ok.hd hc) i1 a (apartS p h1) its.toArray ta
    have D2 := drS (prog := X.prog) (w := X.w) (A := X.A.in1) (I.ok.hd hc) i2 b (apartS p2 h2) its2.toArray tb
    have D3 := drS (prog := X.prog) (w := X.w) (A := X.A.in1) (I.ok.hd hc) i3 c (apartS p3 h3) its3.toArray tc
    have e1 : its.toArray.size = xs.length := by rw [List.size_toArray]; exact rv.length.symm
    have e2 : its2.toArray.size = ys.length := by rw [List.size_toArray]; exact rv2.length.symm
    have e3 : its3.toArray.size = zs.length := by rw [List.size_toArray]; exact rv3.length.symm
    refine wpAny_pyNext_zipD3_end S D1 D2 D3 hz hTI hTO ⟨h1, p⟩ ⟨h2, p2⟩ ⟨h3, p3⟩ (by omega) (by omega) (by omega) (by omega) fun h' tk hk => ⟨rfl, I.turnedL (t' := tk) (ch := [z, TI, TO, i1, i2, i3]) (fun c' o hb q =>
      hk c' o (fun q' => hb (by simp [q'])) (fun q' => hb (by simp [q'])) (fun q' => hb (by simp [q'])) (fun q' => hb (by simp [q'])) (fun q' => hb (by simp [q'])) q) hf⟩
  self := fun A i s Q E st h => wpAny_pyIter_zip st.1 h
def iZip3 (K : PySem.W.Frag) (t : TA) : TI := fun σ H R => t σ H fun vs H1 => ∃ ta tb tc a b c xs ys zs, vs = [.ref a, .ref b, .ref c] ∧ sqS K H1 ta a xs ∧ sqS K H1 tb b ys ∧ sqS K H1 tc c zs ∧ R (Itz3 K ta tb tc a b c) H1
theorem vals3 : ∀ {x y z : V} {us : List Value}, Vals [x, y, z] us → ∃ u v w, us = [u, v, w] ∧ RelV x u ∧ RelV y v ∧ RelV z w
  | _, _, _, _, .cons r (.cons q (.cons p .nil)) => ⟨_, _, _, rfl, r, q, p⟩
theorem pi_zip3 {X : Cx} {e e2 e3 : Expr} {t : TA} {p pos tpos : Pos} {elts : List Expr} {kk : Nat} (hg : Gl X "zip") (hm : X.mg "zip" = none) (ha : PA X [e, e2, e3] t)
    (hs : starEach [e, e2, e3] X.env = (false, eval e X.env) :: starEach [e2, e3] X.env := by rfl) (hpl : (backTo pos (starEach [e2, e3] X.env)).any (·.1) = false := by rfl) :
    PI X (.Tuple elts kk tpos) (.Call (.Name "zip" p) [e, e2, e3] [] pos) (iZip3 X.K t) := by
  refine ⟨fun pins s σ H R I h => Call_ (ld_blt I hg hm PyProof.Rows.boot_zip (PyProof.Rows.callWith_type1 (thn (ha.run pos pins s σ H _ I h) fun us s1 ⟨vs, H1, I1, r1, q1⟩ => ?_) hs hpl))⟩
  obtain ⟨ta, tb, tc, a, b, c, xs, ys, zs, ex, hqx, hqy, hqz, q⟩ := q1
  subst ex
  obtain ⟨u1, u2, u3, rfl, ra, rb, rc⟩ := vals3 r1
  cases ra
  cases rb
  cases rc
  obtain ⟨its, rv, p1, la⟩ := seS_of I1 hqx
  obtain ⟨its2, rv2, p2, lb⟩ := seS_of I1 hqy
  obtain ⟨its3, rv3, p3, lc⟩ := seS_of I1 hqz
  refine zip_begins3 (begS a its.toArray ta) (begS b its2.toArray tb) (begS c its3.toArray tc) p1 p2 p3 fun h' hz hTI hTO h1 h2 h3 hsz hk => wpAny_pyIter_zip hz ?_
  have I2 : Inv X pins σ H1 { s1 with heap := h' } := I1.kept (t' := s1.toks) hk
  refine ⟨s1.heap.objs.size + 5, [s1.heap.objs.size + 5, s1.heap.objs.size + 3, s1.heap.objs.size + 4, s1.heap.objs.size, s1.heap.objs.size + 1, s1.heap.objs.size + 2], _, _, H1, rfl, I2,
    turn_zip3 (zip_sep3 (N := s1.heap.objs.size) (fp1 := [a]) (fp2 := [b]) (fp3 := [c]) (fun c' hc => by rw [List.mem_singleton.mp hc]; exact la) (fun c' hc => by rw [List.mem_singleton.mp hc]; exact lb) fun c' hc => by rw [List.mem_singleton.mp hc]; exact lc), ⟨hz, hTI, ⟨_, _, _, hTO⟩, begO_it h1, begO_it h2, begO_it h3⟩, fun c' hcm => ?_, q⟩
  have e' : c' = s1.heap.objs.size + 5 ∨ c' = s1.heap.objs.size + 3 ∨ c' = s1.heap.objs.size + 4 ∨ c' = s1.heap.objs.size ∨ c' = s1.heap.objs.size + 1 ∨ c' = s1.heap.objs.size + 2 := by simpa using hcm
  have hle : s1.heap.objs.size ≤ c' := by
    rcases e' with z | z | z | z | z | z <;> rw [z] <;> first | exact Nat.le_add_right _ _ | exact Nat.le_refl _
  exact I1.fpOk hle (I1.hok.fresh hle)
def zip3D : List D → List D → List D → List D
  | x :: xs, y :: ys, z :: zs => .tuple [x, y, z] :: zip3D xs ys zs
  | _, _, _ => []
theorem zip3_len : ∀ xs ys zs : List D, (zip3D xs ys zs).length = min xs.length (min ys.length zs.length)
  | [], _, _ => by simp [zip3D]
  | _ :: _, [], _ => by simp [zip3D]
  | _ :: _, _ :: _, [] => by simp [zip3D]
  | x :: xs, y :: ys, z :: zs => by
    show (zip3D xs ys zs).length + 1 = _
    rw [zip3_len xs ys zs]
    simp only [List.length_cons]
    omega
theorem zip3_get : ∀ (xs ys zs : List D) (i : Nat) (x y z : D), xs[i]? = some x → ys[i]? = some y → zs[i]? = some z → (zip3D xs ys zs)[i]? = some (.tuple [x, y, z])
  | [], _, _, i, x, y, z, h, _, _ => by simp at h
  | _ :: _, [], _, i, x, y, z, _, h, _ => by simp at h
  | _ :: _, _ :: _, [], i, x, y, z, _, _, h => by simp at h
  | a :: xs, b :: ys, c :: zs, 0, x, y, z, h1, h2, h3 => by
    simp at h1 h2 h3
    subst h1; subst h2; subst h3
    rfl
  | a :: xs, b :: ys, c :: zs, i + 1, x, y, z, h1, h2, h3 => by
    show (zip3D xs ys zs)[i]? = _
    exact zip3_get xs ys zs i x y z (by simpa using h1) (by simpa using h2) (by simpa using h3)
def zip3C (e2 : Lo) : List D → Res (List Sl × List D × Lo)
  | [a, b, c] => match seqOf a, seqOf b, seqOf c with
    | some xs, some ys, some zs => .ok ([.sh a, .sh b, .sh c], zip3D xs ys zs, e2)
    | _, _, _ => .bad
  | _ => .bad
def fZip3 (fs : EvA) : EvI := fun env => (fs env).bind fun p => (Res.ofO (freezeAll p.2 p.1)).bind fun q => zip3C q.2 q.1
theorem itok_zip3 {K : PySem.W.Frag} {mg : Str → Option Value} {a b c : Addr} {da db dc : D} {xs ys zs : List D} (ea : seqOf da = some xs) (eb : seqOf db = some ys) (ec : seqOf dc = some zs) :
    ItOk K mg (Itz3 K (isTup da) (isTup db) (isTup dc) a b c) [(some (.ref a), .sh da), (some (.ref b), .sh db), (some (.ref c), .sh dc)] (zip3D xs ys zs) := by
  intro i G H os L rp hm
  obtain ⟨va, e1, d1⟩ := rp.shOf (hm (some (.ref a), .sh da) (by simp))
  obtain ⟨vb, e2, d2⟩ := rp.shOf (hm (some (.ref b), .sh db) (by simp))
  obtain ⟨vc, e3, d3⟩ := rp.shOf (hm (some (.ref c), .sh dc) (by simp))
  cases e1
  cases e2
  cases e3
  obtain ⟨vs, q1, h1⟩ := seq_again rp.same d1 ea rfl
  obtain ⟨ws, q2, h2⟩ := seq_again rp.same d2 eb rfl
  obtain ⟨us, q3, h3⟩ := seq_again rp.same d3 ec rfl
  have hlen := zip3_len xs ys zs
  constructor
  · intro d hd
    have hi := (List.getElem?_eq_some_iff.mp hd).1
    rw [hlen] at hi
    have ex : xs[i]? = some xs[i] := List.getElem?_eq_getElem (by omega)
    have ey : ys[i]? = some ys[i] := List.getElem?_eq_getElem (by omega)
    have ez : zs[i]? = some zs[i] := List.getElem?_eq_getElem (by omega)
    have ed : d = .tuple [xs[i], ys[i], zs[i]] := by
      rw [zip3_get xs ys zs i _ _ _ ex ey ez] at hd
      cases hd; rfl
    obtain ⟨x, x1, x2⟩ := h1.get ex
    obtain ⟨y, y1, y2⟩ := h2.get ey
    obtain ⟨z, z1, z2⟩ := h3.get ez
    refine ⟨⟨vs, ws, us, x, y, z, q1, q2, q3, x1, y1, z1⟩, fun v H' hy => ?_⟩
    obtain ⟨T, x', y', z', rfl, hT, rfl, f1, f2, f3⟩ := hy
    have := f1 vs q1; rw [x1] at this; cases this
    have := f2 ws q2; rw [y1] at this; cases this
    have := f3 us q3; rw [z1] at this; cases this
    refine ⟨_, .step .refl hT, ?_⟩
    rw [ed]
    have sG : Same G (upd G T (.tup [x, y, z])) := sameG (rp.same.free hT)
    exact .tup (.inl upd_same) (.cons (Dt.mono sG _ _ x2) (.cons (Dt.mono sG _ _ y2) (.cons (Dt.mono sG _ _ z2) .nil)))
  · intro hi
    rw [hlen] at hi
    have l1 := h1.length
    have l2 := h2.length
    have l3 := h3.length
    exact ⟨vs, ws, us, q1, q2, q3, by omega, by omega, by omega, by omega⟩
section
variable {X : Cx}
theorem si_zip3 {e e2 e3 : Expr} {fs : EvA} {p pos tpos : Pos} {elts : List Expr} {kk : Nat} (hg : Gl X "zip") (hm : X.mg "zip" = none) (ha : SA X [e, e2, e3] fs)
    (hs : starEach [e, e2, e3] X.env = (false, eval e X.env) :: starEach [e2, e3] X.env := by rfl) (hpl : (backTo pos (starEach [e2, e3] X.env)).any (·.1) = false := by rfl) :
    SI X (.Tuple elts kk tpos) (.Call (.Name "zip" p) [e, e2, e3] [] pos) (fZip3 fs) := by
  obtain ⟨t, p', s⟩ := ha.ex
  refine ⟨_, pi_zip3 hg hm p' hs hpl, ?_⟩
  intro σ H env l ks ds env' h e R q
  unfold fZip3 at e
  obtain ⟨⟨rs, e1⟩, ea, e⟩ := Res.bind_ok e
  obtain ⟨⟨es, e2⟩, eb, e⟩ := Res.bind_ok e
  replace eb := Res.ofO_ok eb
  refine s σ H env l rs e1 h ea _ fun vs H1 h1 => ?_
  have h2 := h1.freeze eb
  unfold zip3C at e
  split at e
  · rename_i da db dc heq
    dsimp only at heq
    subst heq
    split at e
    · rename_i xs ys zs ex ey ez
      cases e
      obtain ⟨G, os, rp⟩ := h2.rep
      have hl := h2.alen
      match vs, hl with
      | [va, vb, vc], _ =>
        obtain ⟨v1, q1, d1⟩ := rp.shOf (ov := some va) (d := da) (List.mem_append_left _ (by simp))
        cases q1
        obtain ⟨v2, q2, d2⟩ := rp.shOf (ov := some vb) (d := db) (List.mem_append_left _ (by simp))
        cases q2
        obtain ⟨v3, q3, d3⟩ := rp.shOf (ov := some vc) (d := dc) (List.mem_append_left _ (by simp))
        cases q3
        have a1 : ∃ a, va = .ref a := by cases d1 <;> first | exact ⟨_, rfl⟩ | cases ex
        have a2 : ∃ a, vb = .ref a := by cases d2 <;> first | exact ⟨_, rfl⟩ | cases ey
        have a3 : ∃ a, vc = .ref a := by cases d3 <;> first | exact ⟨_, rfl⟩ | cases ez
        obtain ⟨a, rfl⟩ := a1
        obtain ⟨b, rfl⟩ := a2
        obtain ⟨c, rfl⟩ := a3
        obtain ⟨vs, q1, _⟩ := seq_again rp.same d1 ex rfl
        obtain ⟨ws, q2, _⟩ := seq_again rp.same d2 ey rfl
        obtain ⟨us, q3, _⟩ := seq_again rp.same d3 ez rfl
        exact ⟨_, _, _, a, b, c, vs, ws, us, rfl, q1, q2, q3, q _ [.ref a, .ref b, .ref c] H1 h2 (itok_zip3 ex ey ez)⟩
    · cases e
  · cases e
end
/-! ### where a thing stands first -/
def indexM (ds : List D) : List D → Option (List D × D)
  | [d] => if flatD d = true ∧ ds.all flatD = true then (ds.findIdx? fun z => PyData.eqv z d).map fun (j : Nat) => (ds, PyData.int (j : Int)) else none
  | _ => none
theorem upd_self {H : Hp} {p : Addr} {o : HO} (h : H p = some o) : upd H p o = H := by
  funext a
  by_cases e : a = p
  · subst e; rw [upd_same, h]
  · rw [upd_ne e]
theorem sm_index {K : PySem.W.Frag} : SemM (rIndex K) K indexM := by
  intro G H p ws ds vs es ds' y Q sm gp hp ha hv e q
  unfold indexM at e
  split at e
  · rename_i d
    split at e
    · rename_i hf
      simp only [Option.map_eq_some_iff] at e
      obtain ⟨j, hj, e2⟩ := e
      cases e2
      cases hv with
      | cons a b =>
        cases b
        rename_i v
        obtain ⟨hjl, h1, h2⟩ := List.findIdx?_eq_some_iff_getElem.mp hj
        have ej : ds[j]? = some ds[j] := List.getElem?_eq_getElem hjl
        obtain ⟨z, z1, z2⟩ := ha.get ej
        have fl : ∀ (m : Nat) (hm : m < ds.length), flatD ds[m] = true := fun m hm => List.all_eq_true.mp hf.2 _ (List.getElem_mem hm)
        refine ⟨p, ws, v, j, z, rfl, rfl, .of hp, flat_V a hf.1, all_flat ha hf.2, z1, ?_, ?_, ?_⟩
        · rw [eq_V a z2 hf.1 (fl j hjl)]
          exact h1
        · intro m z' hm hz'
          have hml : m < ds.length := by omega
          obtain ⟨z'', w1, w2⟩ := ha.get (List.getElem?_eq_getElem hml)
          rw [hz'] at w1
          cases w1
          rw [eq_V a w2 hf.1 (fl m hml)]
          have := h2 m hm
          simpa using this
        · have := q ws (.int (j : Nat)) ha (.int _)
          rw [upd_self hp] at this
          exact this
    · cases e
  · cases e
@[simp] theorem ev_zip3 (fs : EvA) (env : Lo) : fZip3 fs env = (fs env).bind fun p => (Res.ofO (freezeAll p.2 p.1)).bind fun q => zip3C q.2 q.1 := eqq rfl
theorem zip3C_tup (e : Lo) (a b c : List D) : zip3C e [.tuple a, .tuple b, .tuple c] = .ok ([.sh (.tuple a), .sh (.tuple b), .sh (.tuple c)], zip3D a b c, e) := rfl
end FL

/-! PT: runs: parts of them, straight lines between them -/
namespace FL
open PySem PySem.Spec PyProof.Rows L2
/-- the places of a run -/
def plsL (sts : List Stp) : Int → List Mv → List Int
  | p, [] => [p]
  | p, m :: ms => p :: (match sts[m.1]? with
    | some x => plsL sts x.2.1 ms
    | none => [])
theorem plsL_eq (sts : List Stp) : ∀ (ms : List Mv) (p : Int) (st : List Int), (walkL sts p st ms).map (·.1) = plsL sts p ms
  | [], p, st => rfl
  | (j, num) :: ms, p, st => by
    show p :: _ = p :: _
    congr 1
    cases h : sts[j]? with
    | none => simp only [h]; rfl
    | some x => simp only [h]; exact plsL_eq sts ms _ _
theorem plsL_len (sts : List Stp) : ∀ (ms : List Mv) (p : Int), Path sts p ms → (plsL sts p ms).length = ms.length + 1
  | [], p, _ => rfl
  | (j, num) :: ms, p, h => by
    cases h with
    | @cons _ _ _ x _ h1 h2 h3 h4 =>
      show (p :: _).length = _
      simp only [h1]
      simp [plsL_len sts ms _ h4]
theorem Path.take {sts : List Stp} : ∀ {ms : List Mv} {p : Int} (k : Nat), Path sts p ms → Path sts p (ms.take k)
  | [], p, k, _ => by rw [List.take_nil]; exact .nil
  | m :: ms, p, 0, _ => .nil
  | m :: ms, p, k + 1, h => by
    cases h with
    | cons h1 h2 h3 h4 => exact .cons h1 h2 h3 (Path.take k h4)
theorem Path.drop {sts : List Stp} : ∀ {ms : List Mv} {p q : Int} (k : Nat), Path sts p ms → (plsL sts p ms)[k]? = some q → Path sts q (ms.drop k)
  | [], p, q, k, _, _ => by rw [List.drop_nil]; exact .nil
  | m :: ms, p, q, 0, h, e => by
    have : p = q := by simpa [plsL] using e
    subst this
    exact h
  | m :: ms, p, q, k + 1, h, e => by
    cases h with
    | cons h1 h2 h3 h4 =>
      refine Path.drop (ms := ms) k h4 ?_
      simpa [plsL, h1] using e
theorem endAt_pls {sts : List Stp} : ∀ {ms : List Mv} {p : Int} (k : Nat), Path sts p ms → k ≤ ms.length → (plsL sts p ms)[k]? = some (endAt sts p (ms.take k))
  | [], p, k, _, h => by
    obtain rfl : k = 0 := by simpa using h
    rfl
  | m :: ms, p, 0, _, _ => by simp [plsL, endAt]
  | (j, num) :: ms, p, k + 1, h, hk => by
    cases h with
    | @cons _ _ _ x _ h1 h2 h3 h4 =>
      have := endAt_pls k h4 (by simpa using hk)
      simpa [plsL, endAt, h1] using this
theorem Path.app {sts : List Stp} : ∀ {a b : List Mv} {p : Int}, Path sts p a → Path sts (endAt sts p a) b → Path sts p (a ++ b)
  | [], b, p, _, h => h
  | (j, num) :: a, b, p, h, hb => by
    cases h with
    | @cons _ _ _ x _ h1 h2 h3 h4 =>
      refine .cons h1 h2 h3 (Path.app h4 ?_)
      simpa [endAt, h1] using hb
theorem endAt_app {sts : List Stp} : ∀ {a : List Mv} (b : List Mv) {p : Int}, Path sts p a → endAt sts p (a ++ b) = endAt sts (endAt sts p a) b
  | [], b, p, _ => rfl
  | (j, num) :: a, b, p, h => by
    cases h with
    | @cons _ _ _ x _ h1 h2 h3 h4 =>
      have := endAt_app b h4
      simpa [endAt, h1] using this
theorem plsL_app {sts : List Stp} : ∀ {a : List Mv} (b : List Mv) {p : Int}, Path sts p a → plsL sts p (a ++ b) = (plsL sts p a).dropLast ++ plsL sts (endAt sts p a) b
  | [], b, p, _ => rfl
  | (j, num) :: a, b, p, h => by
    cases h with
    | @cons _ _ _ x _ h1 h2 h3 h4 =>
      have ih := plsL_app b h4
      have hne : plsL sts x.2.1 a ≠ [] := by cases a <;> simp [plsL]
      simp only [List.cons_append, plsL, h1, endAt, ih]
      rw [List.dropLast_cons_of_ne_nil hne]
      rfl
/-- a part of a run -/
theorem plsL_part {sts : List Stp} {ms : List Mv} {p : Int} (k : Nat) (h : Path sts p ms) : plsL sts p (ms.take k) = (plsL sts p ms).take (k + 1) := by
  induction ms generalizing p k with
  | nil => simp [plsL]
  | cons m ms ih =>
    cases k with
    | zero => simp [plsL]
    | succ k =>
      cases h with
      | @cons _ _ _ x _ h1 h2 h3 h4 =>
        simp [plsL, h1, ih k h4]
theorem plsL_rest {sts : List Stp} {ms : List Mv} {p q : Int} (k : Nat) (h : Path sts p ms) (hk : (plsL sts p ms)[k]? = some q) : plsL sts q (ms.drop k) = (plsL sts p ms).drop k := by
  induction ms generalizing p k with
  | nil =>
    have : k = 0 := by
      cases k with
      | zero => rfl
      | succ k => simp [plsL] at hk
    subst this
    have : p = q := by simpa [plsL] using hk
    subst this
    rfl
  | cons m ms ih =>
    cases k with
    | zero =>
      have : p = q := by simpa [plsL] using hk
      subst this
      rfl
    | succ k =>
      cases h with
      | @cons _ _ _ x _ h1 h2 h3 h4 =>
        have hk' : (plsL sts x.2.1 ms)[k]? = some q := by simpa [plsL, h1] using hk
        simp [plsL, h1, ih k h4 hk']
/-! straight lines -/
def combP (n : Int) (o z : List Int) : List Int := List.zipWith (fun o z => n * o - (n - 1) * z) o z
theorem combP_self (n : Int) (s : List Int) : combP n s s = s := by
  induction s with
  | nil => rfl
  | cons x s ih =>
    show (n * x - (n - 1) * x) :: combP n s s = _
    rw [ih, show n * x - (n - 1) * x = x by rw [Int.sub_mul]; omega]
theorem combP_len (n : Int) (o z : List Int) (h : o.length = z.length) : (combP n o z).length = z.length := by
  simp [combP, h]
theorem dot_combP (n : Int) : ∀ (l o z : List Int), o.length = z.length → dot l (combP n o z) = n * dot l o - (n - 1) * dot l z
  | [], o, z, _ => by simp [dot]
  | x :: l, [], [], _ => by simp [dot, combP]
  | x :: l, a :: o, b :: z, h => by
    have ih := dot_combP n l o z (by simpa using h)
    show x * (n * a - (n - 1) * b) + dot l (combP n o z) = n * (x * a + dot l o) - (n - 1) * (x * b + dot l z)
    rw [ih]
    simp only [Int.mul_sub, Int.mul_add, Int.sub_mul, Int.one_mul, Int.sub_mul]
    have e1 : x * (n * a) = n * (x * a) := by rw [← Int.mul_assoc, Int.mul_comm x n, Int.mul_assoc]
    have e2 : x * (n * b) = n * (x * b) := by rw [← Int.mul_assoc, Int.mul_comm x n, Int.mul_assoc]
    omega
theorem combP_set (n : Int) : ∀ (o z : List Int) (k : Nat) (a b : Int), o.length = z.length → combP n (o.set k a) (z.set k b) = (combP n o z).set k (n * a - (n - 1) * b)
  | [], [], k, a, b, _ => by simp [combP]
  | x :: o, y :: z, 0, a, b, _ => rfl
  | x :: o, y :: z, k + 1, a, b, h => by
    show _ :: combP n (o.set k a) (z.set k b) = _ :: (combP n o z).set k _
    rw [combP_set n o z k a b (by simpa using h)]
theorem behind_combP (n : Int) (o z : List Int) (p : Pl) (num : Option Int) (h : o.length = z.length) : behindL (combP n o z) p num = combP n (behindL o p num) (behindL z p num) := by
  cases p with
  | set b l =>
    show (combP n o z).set _ _ = combP n (o.set _ _) (z.set _ _)
    rw [combP_set n o z _ _ _ h, dot_combP n l o z h]
  | take b =>
    show (combP n o z).set _ _ = combP n (o.set _ _) (z.set _ _)
    rw [combP_set n o z _ _ _ h, show n * num.getD 0 - (n - 1) * num.getD 0 = num.getD 0 by rw [Int.sub_mul]; omega]
  | skip => rfl
  | halt => rfl
/-- three runs: at each turn one place, and a straight line -/
inductive Str3 (n : Int) (many : Nat) : List (Int × List Int) → List (Int × List Int) → List (Int × List Int) → Prop
  | nil : Str3 n many [] [] []
  | cons {p : Int} {z o : List Int} {zs os fs : List (Int × List Int)} : z.length = many + 1 → o.length = many + 1 → Str3 n many zs os fs → Str3 n many ((p, z) :: zs) ((p, o) :: os) ((p, combP n o z) :: fs)
theorem str_same (n : Int) (many : Nat) (sts : List Stp) : ∀ (ms : List Mv) (p : Int) (z o : List Int), z.length = many + 1 → o.length = many + 1 → Str3 n many (walkL sts p z ms) (walkL sts p o ms) (walkL sts p (combP n o z) ms)
  | [], p, z, o, h1, h2 => .cons h1 h2 .nil
  | (j, num) :: ms, p, z, o, h1, h2 => by
    refine .cons h1 h2 ?_
    cases h : sts[j]? with
    | none => simp only [h]; exact .nil
    | some x =>
      simp only [h]
      rw [behind_combP n o z _ _ (by omega)]
      exact str_same n many sts ms _ _ _ (by rw [behindL_len]; exact h1) (by rw [behindL_len]; exact h2)
theorem str_at (n : Int) (many : Nat) (sts : List Stp) : ∀ (ms : List Mv) (k : Nat) (p : Int) (st : List Int), Path sts p ms → st.length = many + 1 → ∀ (j : Nat) (num : Int), ms[k]? = some (j, some num) →
    Str3 n many (walkL sts p st (ms.set k (j, some 0))) (walkL sts p st (ms.set k (j, some 1))) (walkL sts p st (ms.set k (j, some n)))
  | [], k, p, st, _, _, j, num, h => by simp at h
  | (j0, num0) :: ms, 0, p, st, hp, hst, j, num, h => by
    obtain ⟨rfl, rfl⟩ : j0 = j ∧ num0 = some num := by simpa using h
    cases hp with
    | @cons _ _ _ x _ h1 h2 h3 h4 =>
      have e := combP_self n st
      show Str3 n many ((p, st) :: _) ((p, st) :: _) ((p, st) :: _)
      simp only [h1]
      have ht : isTake x.2.2 = true := h3.symm
      obtain ⟨a, b, pl⟩ := x
      cases pl with
      | take bx =>
        have s := Str3.cons (n := n) (p := p) hst hst (str_same n many sts ms b (behindL st (.take bx) (some 0)) (behindL st (.take bx) (some 1)) (by rw [behindL_len]; exact hst) (by rw [behindL_len]; exact hst))
        rw [e] at s
        have e2 : combP n (behindL st (.take bx) (some 1)) (behindL st (.take bx) (some 0)) = behindL st (.take bx) (some n) := by
          show combP n (st.set _ 1) (st.set _ 0) = st.set _ n
          rw [combP_set n st st _ _ _ rfl, e]
          simp
        rw [e2] at s
        exact s
      | set _ _ => cases ht
      | skip => cases ht
      | halt => cases ht
  | (j0, num0) :: ms, k + 1, p, st, hp, hst, j, num, h => by
    cases hp with
    | @cons _ _ _ x _ h1 h2 h3 h4 =>
      have e := combP_self n st
      have ih := str_at n many sts ms k x.2.1 (behindL st x.2.2 num0) h4 (by rw [behindL_len]; exact hst) j num (by simpa using h)
      show Str3 n many ((p, st) :: _) ((p, st) :: _) ((p, st) :: _)
      simp only [h1]
      have s := Str3.cons (n := n) (p := p) hst hst ih
      rw [e] at s
      exact s
theorem Path.set {sts : List Stp} : ∀ {ms : List Mv} {p : Int} (k j : Nat) (num m : Int), Path sts p ms → ms[k]? = some (j, some num) → Path sts p (ms.set k (j, some m))
  | [], p, k, j, num, m, _, h => by simp at h
  | (j0, num0) :: ms, p, 0, j, num, m, hp, h => by
    obtain ⟨rfl, rfl⟩ : j0 = j ∧ num0 = some num := by simpa using h
    cases hp with
    | cons h1 h2 h3 h4 => exact .cons h1 h2 (by rw [← h3]; rfl) h4
  | (j0, num0) :: ms, p, k + 1, j, num, m, hp, h => by
    cases hp with
    | cons h1 h2 h3 h4 => exact .cons h1 h2 h3 (Path.set k j num m h4 (by simpa using h))
end FL

/-! XC: exceptions of the text's own classes: defs that let one out, a call that is tried -/
namespace FL
open PySem PySem.Spec PyProof.Rows L2

/-- what is asked of an own class of exceptions -/
structure ExK (K : PySem.W.Frag) (mg : Str → Option Value) (c : Str) (C : Addr) : Prop where
  gC : mg c = some (.ref C)
  q : PySem.W.excIn K C PySem.HandSPX.veTail "ValueError.__new__" = true
  kC : PySem.W.keepIn K (.ref C) = true
  sub : PySem.W.subIn K (.ref C) (.type "BaseException") = some true
  ty : PySem.W.typeIn K (.ref C) = some (.type "type")

/-- a def that answers, or lets an exception out -/
def spX (K : PySem.W.Frag) (mg : Str → Option Value) (n : Nat) (F : Fn) : Sp := fun vs H Q E => vs.length = n ∧ ∃ (args : List Sl) (l : List Item), args.length = n ∧ Rep K mg H ((vs.map some).zip args ++ l) ∧
  ((∃ (r : Sl) (args' : List Sl), F args = .ok (r, args') ∧ ∀ v H', Rep K mg H' ((some v, r) :: ((vs.map some).zip args' ++ l)) → isVw r = false → Q v H') ∨
   (∃ (c : Str) (p : D), F args = .ex c p ∧ ∀ C H', mg c = some (.ref C) → Rep K mg H' l → E (.ref C) none H'))
structure FnX (P : Program) (w : World) (K : PySem.W.Frag) (mg : Str → Option Value) (base : Heap) (x : Str) (n k : Nat) (F : Fn) : Prop where
  ex : ∃ (f : Addr) (fd : FuncData) (ps : List Str), mg x = some (.ref f) ∧ PySem.W.keepIn K (.ref f) = true ∧ Binds K fd ps [] ∧ FnOk P w K mg base (L2.CX P w) k f fd ps (spX K mg n F)

section
variable {K : PySem.W.Frag} {mg : Str → Option Value} {H : Hp} {σ : L2.St} {l : List Item}
theorem sem_callX {n : Nat} {F : Fn} {t : TA} {fs : EvA} {na : Nat} (hn : na = n) (hs : SemA K mg t fs) (hl : ∀ env rs env', fs env = .ok (rs, env') → rs.length = na) : SemE K mg (tCall (spX K mg n F) [] E0 t) (fCall F fs) := by
  subst hn
  intro σ H env l r env' h e Q q
  unfold fCall at e
  obtain ⟨⟨rs, e1⟩, ea, e⟩ := Res.bind_ok e
  obtain ⟨⟨r', as'⟩, eF, e⟩ := Res.bind_ok e
  dsimp only at eF e
  split at e
  · cases e
  · rename_i hr
    cases e
    refine hs σ H env l rs e1 h ea _ fun vs H1 h1 => ?_
    obtain ⟨a, b, c⟩ := moveIn_ok h1
    show spX K mg na F (vs ++ []) H1 Q E0
    rw [List.append_nil]
    have hlen := hl _ _ _ ea
    refine ⟨by rw [h1.alen, hlen], _, _, by rw [b, hlen], c, .inl ⟨r, as', eF, fun v H2 rp hv => q v H2 ?_⟩⟩
    have rp2 : Rep K mg H2 ((vs.map some).zip as' ++ (σ.zip (moveIn e1 rs).2 ++ ((some v, r) :: l))) := by
      refine rp.perm ?_
      have p1 : ((some v, r) :: ((vs.map some).zip as' ++ (σ.zip (moveIn e1 rs).2 ++ l))).Perm ((vs.map some).zip as' ++ ((some v, r) :: (σ.zip (moveIn e1 rs).2 ++ l))) := perm_mid
      exact p1.trans (List.Perm.append_left _ perm_mid)
    obtain ⟨x, y⟩ := moveBack_ok a h1.alen rp2 h1.vw
    exact ⟨x, y.perm perm_mid.symm, fun i z => by subst z; simp [isVw] at hr⟩
end
section
variable {X : Cx} {x : Str} {n k : Nat} {F : Fn} {p pos : Pos} {e : Expr} {es : List Expr} {fs : EvA}
/-- such a def called where it answers -/
theorem se_callX (hF : FnX X.prog X.w X.K X.mg X.base x n k F) (hr : Room k X.A) (hg : Gl X x) (ha : SA X (e :: es) fs) (hn : ArN fs n) (hdb : (x == ("__debug__" : Str)) = false := by decide)
    (he : starEach (e :: es) X.env = (false, eval e X.env) :: starEach es X.env := by rfl) (hpl : (backTo pos (starEach es X.env)).any (·.1) = false := by rfl) : SE X (.Call (.Name x p) (e :: es) [] pos) (fCall F fs) := by
  obtain ⟨f, fd, ps, hm, hk, hb, F⟩ := hF.ex
  obtain ⟨t, p', s⟩ := ha.ex
  exact ⟨_, pe_call F hr hg hm hk hb .nil passL p' hdb he hpl, sem_callX rfl s hn.eq⟩
end

/-! ### statements that may let an exception out -/
def PostX (K : PySem.W.Frag) (mg : Str → Option Value) (W : WX) (D : Ends) (ks : List Nat) (σ : L2.St) (l : List Item) : Res Out → Prop
  | .ok o => PostS K mg D ks σ l o
  | .ex c _ => ∀ C σ' H', mg c = some (.ref C) → Rep K mg H' l → W (.ref C) none σ' H'
  | .bad => False
def SemSX (K : PySem.W.Frag) (mg : Str → Option Value) (W : WX) (ks : List Nat) (t : TS) (f : EvS) : Prop :=
  ∀ (σ : L2.St) (H : Hp) (env : Lo) (l : List Item), Hold K mg H σ env l → ∀ D : Ends, PostX K mg W D ks σ l (f env) → t D σ H
structure SX (X : Cx) (W : WX) (ks : List Nat) (st : Stmt) (f : EvS) : Prop where
  ex : ∃ t, PS X st t ∧ SemSX X.K X.mg W ks t f
structure SXs (X : Cx) (W : WX) (ks : List Nat) (st : List Stmt) (f : EvS) : Prop where
  ex : ∃ t, PSs X st t ∧ SemSX X.K X.mg W ks t f
theorem PostX.keep {K : PySem.W.Frag} {mg : Str → Option Value} {W : WX} {D : Ends} {ks : List Nat} {σ σ1 : L2.St} {l : List Item} {o : Res Out} (k : KeepEq ks σ σ1) (p : PostX K mg W D ks σ l o) : PostX K mg W D ks σ1 l o := by
  cases o with
  | ok o => exact PostS.keep k p
  | ex c d => exact p
  | bad => exact p
/-- no exception -/
def noX {α : Type} : Res α → Res α
  | .ok a => .ok a
  | _ => .bad
@[simp] theorem noX_ok {α : Type} (a : α) : noX (.ok a) = .ok a := rfl
def fNoX (f : EvS) : EvS := fun env => noX (f env)
section
variable {X : Cx} {W : WX} {ks : List Nat} {st : Stmt} {rest body : List Stmt} {f g : EvS} {e : Expr} {pos : Pos}
theorem sx_lift (h : SS X ks st f) : SX X W ks st (fNoX f) := by
  obtain ⟨t, p, s⟩ := h.ex
  refine ⟨t, p, fun σ H env l h D post => ?_⟩
  unfold fNoX at post
  cases e : f env with
  | ok o => rw [e] at post; exact s σ H env l o h e D post
  | ex c d => rw [e] at post; exact post.elim
  | bad => rw [e] at post; exact post.elim
theorem sxs_nil : SXs X W ks [] fNext := ⟨_, pss_nil, fun σ H env l h D post => post σ H h .refl⟩
theorem sxs_one (h : SX X W ks st f) : SXs X W ks [st] f := by
  obtain ⟨t, p, s⟩ := h.ex
  exact ⟨_, pss_one p, s⟩
theorem sxs_cons (h : SX X W ks st f) (h2 : SXs X W ks rest g) : SXs X W ks (st :: rest) (fSeq f g) := by
  obtain ⟨t, p, s⟩ := h.ex
  obtain ⟨t', p', s'⟩ := h2.ex
  refine ⟨_, pss_cons p p', ?_⟩
  intro σ H env l h D post
  refine s σ H env l h _ ?_
  rw [fSeq_eq] at post
  cases e : f env with
  | ex c d => rw [e] at post; exact post
  | bad => rw [e] at post; exact post
  | ok o =>
    rw [e] at post
    cases o with
    | nx e2 => exact fun σ' H' h' k => s' σ' H' e2 l h' D (PostX.keep k post)
    | bk e2 => exact post
    | ct e2 => exact post
    | rt r e2 => exact post
def fIfX (ft : EvT) (f g : EvS) : EvS := fun env => do
  let (b, e1) ← noX (ft env)
  if b = true then f e1 else g e1
theorem sx_if {c : Expr} {a b : List Stmt} {fc : EvT} (hc : ST X c fc) (ha : SXs X W ks a f) (hb : SXs X W ks b g) : SX X W ks (.If c a b pos) (fIfX fc f g) := by
  obtain ⟨t0, p0, s0⟩ := hc.ex
  obtain ⟨t, p, s⟩ := ha.ex
  obtain ⟨t', p', s'⟩ := hb.ex
  refine ⟨_, ps_if p0 p p', ?_⟩
  intro σ H env l h D post
  unfold fIfX at post
  cases ec : fc env with
  | bad => rw [ec] at post; exact post.elim
  | ex c d => rw [ec] at post; exact post.elim
  | ok z =>
    obtain ⟨k, e1⟩ := z
    rw [ec] at post
    refine s0 σ H env l k e1 h ec _ fun H1 h1 => ?_
    cases k with
    | true => exact iteT (s σ H1 e1 l h1 D post)
    | false => exact iteF (s' σ H1 e1 l h1 D post)
/-- raise C("..") -/
def fRaise (c : Str) : EvS := fun _ => .ex c .none
theorem sx_raise {c m : Str} {C : Addr} {j : Nat} {p p2 pos' : Pos} (hc : X.calm = true) (tk : Takes X W) (E : ExK X.K X.mg c C) (hg : Gl X c) (hdb : (c == ("__debug__" : Str)) = false := by decide) :
    SX X W ks (.Raise (some (.Call (.Name c p) [.Constant (.str m) j p2] [] pos)) none pos') (fRaise c) :=
  ⟨_, ps_raise hc tk (pmk_own F.excBase_ValueError E.q E.gC E.kC (raises_own E.sub E.ty) hg hdb), fun σ H env l h D post => post C σ H E.gC (Rep.dropA _ h.rep)⟩

theorem sem_loopX {K : PySem.W.Frag} {mg : Str → Option Value} {g : TG} {tg : Tgt} {tb : TS} {b : EvS} (sg : SemG K mg g tg) (sb : SemSX K mg W ks tb b) (hk : ∀ k ∈ ks, k ∉ tg.slots) {J : It} {its : List Item} {ds : List D} (ok : ItOk K mg J its ds)
    {σ : L2.St} {H : Hp} {env : Lo} {l : List Item} (h : Hold K mg H σ env (its ++ l)) {D : Ends} (post : PostX K mg W D ks σ (its ++ l) (loopF tg b ds env)) :
    ∃ Y : Nat → Nat → L2.St → Hp → Prop, (∃ m, Y 0 m σ H) ∧ ∀ i m σ H, Y i m σ H →
      (J.stop i H ∧ D.nx σ H) ∨ (J.go i H ∧ ∃ N : L2.St → Hp → Prop, (∀ σ' H', N σ' H' → ∃ m', m' < m ∧ Y (i + 1) m' σ' H') ∧ ∀ x H', J.yld i H x H' → g x σ H' fun σ2 H2 => tb { D with nx := N, ct := N, bk := D.nx } σ2 H2) := by
  refine ⟨fun i m σ' H' => m + i = ds.length ∧ KeepEq ks σ σ' ∧ ∃ env', Hold K mg H' σ' env' (its ++ l) ∧ PostX K mg W D ks σ (its ++ l) (loopF tg b (ds.drop i) env'), ⟨ds.length, rfl, .refl, env, h, post⟩, ?_⟩
  rintro i m σ1 H1 ⟨hm, k1, env1, h1, e1⟩
  obtain ⟨G, os, rp⟩ := h1.rep
  obtain ⟨okg, oks⟩ := ok i G H1 os _ rp fun it hi => List.mem_append_right _ (List.mem_append_left _ hi)
  by_cases hi : i < ds.length
  · have hd : ds[i]? = some ds[i] := List.getElem?_eq_getElem hi
    obtain ⟨go, yl⟩ := okg _ hd
    rw [List.drop_eq_getElem_cons hi] at e1
    unfold loopF at e1
    cases eb : bindT tg ds[i] env1 with
    | none => rw [eb] at e1; exact e1.elim
    | some e2 =>
      rw [eb] at e1
      simp only [Res.ofO_some, Res.ok_bind] at e1
      refine .inr ⟨go, fun σ' H' => KeepEq ks σ σ' ∧ ∃ env', Hold K mg H' σ' env' (its ++ l) ∧ PostX K mg W D ks σ (its ++ l) (loopF tg b (ds.drop (i + 1)) env'), fun σ' H' q => ⟨m - 1, by omega, by omega, q⟩, fun x H2 hy => ?_⟩
      obtain ⟨G', gr, dd⟩ := yl x H2 hy
      have h2 : Hold K mg H2 σ1 env1 ((some x, .sh ds[i]) :: (its ++ l)) := ⟨h1.len, Rep.perm ⟨_, _, (rp.grow gr).sh dd⟩ perm_mid⟩
      refine sg σ1 H2 env1 e2 _ x _ h2 eb _ fun σ2 h3 off => ?_
      have k2 : KeepEq ks σ σ2 := k1.trans (keep_off hk off)
      refine sb σ2 H2 e2 _ h3 _ ?_
      cases ec : b e2 with
      | bad => rw [ec] at e1; exact e1.elim
      | ex c d =>
        rw [ec] at e1
        exact e1
      | ok ob =>
        rw [ec] at e1
        cases ob with
        | nx e3 => exact fun σ' H' h' k' => ⟨k2.trans k', e3, h', e1⟩
        | ct e3 => exact fun σ' H' h' k' => ⟨k2.trans k', e3, h', e1⟩
        | bk e3 => exact fun σ' H' h' k' => e1 σ' H' h' (k2.trans k')
        | rt r e3 => exact fun v σ' H' h' n k' => e1 v σ' H' h' n (k2.trans k')
  · rw [List.drop_eq_nil_of_le (by omega)] at e1
    exact .inl ⟨oks (by omega), e1 σ1 H1 h1 k1⟩
theorem PostX.more {K : PySem.W.Frag} {mg : Str → Option Value} {D : Ends} {σ : L2.St} {M l : List Item} {o : Res Out} (p : PostX K mg W D ks σ l o) : PostX K mg W D ks σ (M ++ l) o := by
  cases o with
  | ok o => exact PostS.more p
  | ex c d => exact fun C σ' H' hm rp => p C σ' H' hm (Rep.dropA _ rp)
  | bad => exact p
def fForX (fi : EvI) (tg : Tgt) (b : EvS) : EvS := fun env => do
  let (_, ds, e1) ← noX (fi env)
  loopF tg b ds e1
theorem sx_for {tg iter : Expr} {fi : EvI} {b : EvS} {gg : TG} {tt : Tgt} (hp : PassesOwn (model X.prog X.w) X.A X.env X.xe) (hc : X.calm = true) (hi : SI X tg iter fi) (hg : PG X tg gg) (sg : SemG X.K X.mg gg tt) (hb : SXs X W ks body b) (hk : ∀ k ∈ ks, k ∉ tt.slots := by decide)
    (hs : ∀ x, foldedSetIterable iter X.env x = pure x := by intro _; rfl) : SX X W ks (.For tg iter body [] pos) (fForX fi tt b) := by
  obtain ⟨w, pi, si⟩ := hi.ex
  obtain ⟨t, p, s⟩ := hb.ex
  refine ⟨_, ps_for hp hc pi hg p hs, ?_⟩
  intro σ H env l h D post
  unfold fForX at post
  cases ea : fi env with
  | bad => rw [ea] at post; exact post.elim
  | ex c d => rw [ea] at post; exact post.elim
  | ok z =>
    obtain ⟨ksl, ds, e1⟩ := z
    rw [ea] at post
    refine si σ H env l ksl ds e1 h ea _ fun J vs H1 h1 ok => ?_
    refine sem_loopX sg s hk ok ⟨h1.len, ?_⟩ (PostX.more post)
    refine h1.rep.perm ?_
    rw [← List.append_assoc, ← List.append_assoc]
    exact List.perm_append_comm.append_right l
end

/-! ### a def that may let one out -/
theorem fn_okX {P : Program} {w : World} {K : PySem.W.Frag} {mg : Str → Option Value} {base : Heap} {x qual : Str} {st : Stmt} {f : Addr} {fd : FuncData} {N ps : List Str} {k : Nat} {io : List Nat} {b : EvS} (F : Fun K x qual st f fd) (S : FnScope N ps (defScope st)) (hio : ∀ k ∈ io, k < ps.length)
    (hb : ∀ (cdv : Value) (A : Around) (outer : List Env) (s : Shared) (H : Hp) (E : XK), Room k (A.deeper (envOfC qual (defScope st) s.heap.objs.size f cdv)) → Takes (cxOf (L2.CX P w) P w K mg base N qual (defScope st) f cdv A outer s H E) (fun cls d _ H => E cls d H) →
      PassesOwn (model P w) (cxOf (L2.CX P w) P w K mg base N qual (defScope st) f cdv A outer s H E).A (cxOf (L2.CX P w) P w K mg base N qual (defScope st) f cdv A outer s H E).env (cxOf (L2.CX P w) P w K mg base N qual (defScope st) f cdv A outer s H E).xe →
      SXs (cxOf (L2.CX P w) P w K mg base N qual (defScope st) f cdv A outer s H E) (fun cls d _ H => E cls d H) io (defBody st) b) :
    FnOk P w K mg base (L2.CX P w) (k + 1) f fd ps (spX K mg ps.length (runFn N.length ps.length io b)) := by
  refine F.okX S (fun vs H Q E h => h.1) fun cdv A outer s H vs Q E hr h => ?_
  obtain ⟨hl, args, l, ha, rp, e⟩ := h
  obtain ⟨t, p, sem⟩ := (hb cdv A outer s H E hr (takes_of rfl rfl rfl rfl) (passes_of rfl)).ex
  refine ⟨t, p, ?_⟩
  have hst : Hold K mg H (L2.start N vs) (args ++ List.replicate (N.length - ps.length) .no) l := by
    refine ⟨?_, ?_⟩
    · unfold L2.start
      rw [List.length_append, List.length_append, List.length_map, List.length_replicate, List.length_replicate, hl, ha]
    · unfold L2.start
      rw [hl]
      exact zip_start (by rw [hl, ha]) rp
  have kk : ∀ {σ' : L2.St}, KeepEq io (L2.start N vs) σ' → ∀ k ∈ io, k < ps.length → σ'[k]? = some (vs[k]?) := fun {σ'} kq k hk hlt => by
    rw [kq k hk]
    unfold L2.start
    rw [List.getElem?_append_left (by rw [List.length_map]; omega), List.getElem?_map]
    rw [List.getElem?_eq_getElem (by omega)]
    rfl
  refine sem (L2.start N vs) H _ l hst _ ?_
  unfold runFn at e
  rcases e with ⟨r, args', e, q⟩ | ⟨c, d, e, q⟩
  · obtain ⟨o, eo, e⟩ := Res.bind_ok e
    rw [eo]
    cases o with
    | nx env' =>
      dsimp only at e
      split at e
      · rename_i hn
        cases e
        intro σ' H' h' kq
        have hv := h'.shV (v := .non) (d := .none) fun _ => .non
        exact q .non H' (back_items ps.length hl h'.len hn (kk kq) hv.rep) rfl
      · cases e
    | rt r' env' =>
      dsimp only at e
      split at e
      · rename_i hn
        cases e
        intro v σ' H' h' hv kq
        exact q v H' (back_items ps.length hl h'.len hn (kk kq) h'.rep) hv
      · cases e
    | bk _ => cases e
    | ct _ => cases e
  · cases eo : b (args ++ List.replicate (N.length - ps.length) .no) with
    | bad => rw [eo] at e; cases e
    | ex c' d' =>
      rw [eo] at e
      cases e
      exact fun C σ' H' hm rp => q C H' hm rp
    | ok o =>
      rw [eo] at e
      cases o with
      | nx env' =>
        exfalso
        simp only [Res.ok_bind] at e
        split at e <;> cases e
      | rt r env' =>
        exfalso
        simp only [Res.ok_bind] at e
        split at e <;> cases e
      | bk _ => exfalso; cases e
      | ct _ => exfalso; cases e
theorem fnX_mk {P : Program} {w : World} {K : PySem.W.Frag} {mg : Str → Option Value} {base : Heap} {x qual : Str} {st : Stmt} {f : Addr} {fd : FuncData} {ps : List Str} {n k : Nat} {F : Fn} (F0 : Fun K x qual st f fd) (hm : mg x = some (.ref f)) (hb : Binds K fd ps []) (h : FnOk P w K mg base (L2.CX P w) k f fd ps (spX K mg n F)) : FnX P w K mg base x n k F :=
  ⟨⟨f, fd, ps, hm, F0.kp, hb, h⟩⟩
end FL

/-! XC2: a tried call with an answer in the clause; a caught exception that is held, and asked about -/
namespace FL
open PySem PySem.Spec PyProof.Rows L2

/-! ### a caught exception's object, tracked -/
def ExH (cls : Value) (a : Addr) : HO := .ext fun h => ∃ (oe : Obj) (vs : Array Value), h.get? a = some oe ∧ Zc cls none oe ∧ oe.data = .fields vs
theorem exH_ok {P : Program} {w : World} {H : Hp} {h : Heap} {a : Addr} {cls : Value} {oe : Obj} {vs : Array Value} (e : h.get? a = some oe) (z : Zc cls none oe) (d : oe.data = .fields vs) : ObjOk P w H h a (ExH cls a) :=
  ⟨⟨oe, vs, e, z, d⟩, ⟨oe, e⟩, fun _ _ ⟨o, v, q, r⟩ k => ⟨o, v, k o q, r⟩⟩
section
variable {X : Cx} {pins : List (Addr × Obj)} {σ : L2.St} {H : Hp} {s : Shared}
theorem Inv.track {a : Addr} {o : HO} (I : Inv X pins σ H s) (n0 : X.s_0.heap.get? a = none) (nH : H a = none) (nL : a ≠ X.env.locals) (nC : ∀ x c, X.env.cells.lookup x = some c → c ≠ a) (nP : ∀ p ∈ X.pn ++ pins, p.1 ≠ a)
    (new : ObjOk X.prog X.w (upd H a o) s.heap a o) : Inv X pins σ (upd H a o) s := by
  have ne0 : ∀ b u, X.s_0.heap.get? b = some u → b ≠ a := fun b u e z => by rw [z, n0] at e; cases e
  refine ⟨I.ok, I.os, I.bare, ⟨I.base.keep, I.base.slot, fun b u e n hx => ?_, I.base.there, fun b xs e => ?_, fun b u v e => ?_, fun b ps e => ?_⟩, I.loc, I.cell, ?_, fun x c e => ?_, fun p hp => ?_, fun b u e => ?_, I.len⟩
  · rw [upd_ne (ne0 b u e)]
    exact I.base.free b u e n hx
  · have q := I.base.tups b xs e
    rw [upd_ne (ne_of_none q nH)]
    exact q
  · have q := I.base.frzs b u v e
    rw [upd_ne (ne_of_none q nH)]
    exact q
  · obtain ⟨m, q⟩ := I.base.tbls b ps e
    exact ⟨m, by rw [upd_ne (ne_of_none q nH)]; exact q⟩
  · rw [upd_ne (fun z => nL z.symm)]
    exact I.free
  · rw [upd_ne (nC x c e)]
    exact I.freeC x c e
  · obtain ⟨e, n, ne, nf, d⟩ := I.pin p hp
    exact ⟨e, by rw [upd_ne (nP p hp)]; exact n, ne, nf, d⟩
  · by_cases hb : b = a
    · subst hb
      rw [upd_same] at e
      cases e
      exact new
    · rw [upd_ne hb] at e
      exact (I.hok b u e).stay (fun _ _ _ q => q) (fun c q => by rw [upd_ne (ne_of_none q nH)]; exact q) fun c xs q => by rw [upd_ne (ne_of_none q nH)]; exact q
/-- the context of an except suite whose exception is tracked -/
abbrev suiteT (X : Cx) (a : Addr) : Cx := { X with A := X.A.mark (some (.ref a)), calm := false, xe := fun _ _ => False }
theorem okT {X : Cx} (ok : X.Ok) (a : Addr) : (suiteT X a).Ok :=
  ⟨ok.mod, ok.kind, ok.glob, ok.blt, ok.above, ok.inj, ok.has, ok.cab, (fun z => absurd (show false = true from z) Bool.false_ne_true), ok.frames, ok.stk, ok.exf, ok.bs, ok.bsz, ok.noex, ok.exfs, ok.funs, ok.frf⟩
theorem Inv.suiteT (I : Inv X pins σ H s) (a : Addr) : Inv (suiteT X a) pins σ H s := ⟨okT I.ok a, I.os, I.bare, I.base, I.loc, I.cell, I.free, I.freeC, I.pin, I.hok, I.len⟩
theorem Inv.unsuiteT {a : Addr} (I : Inv (FL.suiteT X a) pins σ H s) (ok : X.Ok) : Inv X pins σ H s := ⟨ok, I.os, I.bare, I.base, I.loc, I.cell, I.free, I.freeC, I.pin, I.hok, I.len⟩
end

/-- what 'except x as n' wishes, the exception tracked -/
def wHold (K : PySem.W.Frag) (c : Value) (i : Nat) (ts : Addr → Value → TS) (D : Ends) : WX := fun cls d σ H =>
  d = none ∧ PySem.W.exmOne K cls c = some true ∧ ∀ a, H a = none → ts a cls { nx := fun σ' H' => D.nx (σ'.set i none) H', rt := D.rt, bk := fun σ' H' => D.bk (σ'.set i none) H', ct := fun σ' H' => D.ct (σ'.set i none) H' } (σ.set i (some (.ref a))) (upd H a (ExH cls a))
section
variable {X : Cx} {x n : Str} {c : Value} {i : Nat} {body suite : List Stmt} {b₀ : Stmt} {np pos pos' : Pos} {tb : WX → TS} {ts : Addr → Value → TS}
theorem ps_try_hold (hs : X.stack = X.env :: X.outer) (hf : X.env.frame = some X.env.locals) (hex : X.ex = []) (hN : X.N.Nodup) (hi : X.N[i]? = some n) (hln : X.env.kindOf n = some .local) (hc : Names X x c)
    (hb : ∀ (W : WX) (pn : List (Addr × Obj)) (xe : Value → Shared → Prop), Takes (X.tr pn xe) W → PassesOwn (model X.prog X.w) X.A X.env xe → PSs (X.tr pn xe) body (tb W))
    (hsu : ∀ (a : Addr) (cls : Value), PSs (suiteT X a) (b₀ :: suite) (ts a cls)) :
    PS X (.Try body [.ExceptHandler (some (.Name x np)) (some n) (b₀ :: suite) pos'] [] [] pos) (fun D σ H => tb (wHold X.K c i ts D) D σ H) := by
  refine ⟨fun pins s σ H D I h => ?_⟩
  have ok := I.ok
  have hfr : X.A.frames = some (X.env :: X.outer) := by rw [ok.frames, hs]
  have hloc : Loc X.env.scope n := .inl hln
  refine wpAny_Try_except ?_
  refine wpAny_mono ((hb (wHold X.K c i ts D) (X.pn ++ pins) (fun e s₁ => wpAny (model X.prog X.w) X.A (noteFrame e X.env) (fun _ s₂ => wpAny (model X.prog X.w) X.A (setFlight e none) (fun _ s₃ =>
    wpAny (model X.prog X.w) X.A (handleBy e X.env [.ExceptHandler (some (.Name x np)) (some n) (b₀ :: suite) pos']) (SP X pins D) X.xe s₃) X.xe s₂) X.xe s₁) (fun u s' xx => ?_) PassesOwn.looking).run [] s σ H D (I.toTry _) h) (fun f s1 hsp => ?_) (fun e s1 he => he)
  · -- the catch
    obtain ⟨a, B, sI, pins', σ', H', cls, d, rfl, J', nb, up, sky, na, os, ag, rfl, hb1, hyes⟩ := xx
    have J : Inv X pins σ' H' sI := J'.ofTry ok
    have sky' : Sky B (X.env :: X.outer) a (Zc cls none) X.env.locals s'.heap := by rw [← hs]; exact sky
    show wpAny (model X.prog X.w) X.A (noteFrame (.ref a) X.env) _ _ _
    refine Sky.land Zc.steady hfr hf sky' fun h3 fl3 up3 => ?_
    have J3 : Inv X pins σ' H' { s' with heap := h3 } := J.landed nb fl3.1 (up.trans up3) os ag
    obtain ⟨oe3, vs3, he3, hz3, hd3⟩ := fl3.there
    have notFr : ∀ {h : Heap} {o : Obj} {vs : Array Value}, h.FunFrames B (X.env :: X.outer) → h.get? a = some o → o.data = .fields vs → a ∉ frs (X.env :: X.outer) := fun {h o vs} ff e dd hm => by
      obtain ⟨_, o', e', hnf⟩ := ff.mem hm
      rw [e] at e'; cases e'
      exact hnf _ dd
    have nfr := notFr fl3.2.2.1 he3 hd3
    have nL : a ≠ X.env.locals := fun z => nfr (List.mem_filterMap.mpr ⟨X.env, List.mem_cons_self, by rw [hf, z]⟩)
    have nF : a ∉ X.fs := fun hm => by
      obtain ⟨e, he, q⟩ := List.mem_filterMap.mp hm
      exact nfr (List.mem_filterMap.mpr ⟨e, List.mem_cons_of_mem _ he, q⟩)
    have nI : sI.heap.get? a = none := by
      cases e : sI.heap.get? a with
      | none => rfl
      | some o =>
        have z := nb a o e (by rw [hs]; exact nfr)
        rw [fl3.2.1] at z; cases z
    have n0 : X.s_0.heap.get? a = none := by
      cases e : X.s_0.heap.get? a with
      | none => rfl
      | some o =>
        obtain ⟨o', z⟩ := J.base.there a o e (by rw [hex]; exact fun z => nomatch z)
        rw [nI] at z; cases z
    have nP : ∀ p ∈ X.pn ++ pins, p.1 ≠ a := fun p hp z => by
      have q := (J.pin p hp).1
      rw [z, nI] at q; cases q
    have S3 := J3.suite he3 hd3 na nL nF
    refine wpAny_handleBy_cons (codeAny_handlers_test ?_) (by intro q; cases q)
    have LT : PySem.W.Looks (model X.prog X.w) h3 (typeOf (.ref a)) cls := fun A Q E s k q => wpAny_typeOf_ref (k _ _ he3) (by rw [hz3.1]; exact q)
    have LM := PySem.W.exm_one (M := model X.prog X.w) (J3.kIn) LT hb1
    have test : ∀ {Q : Value → Shared → Prop} {E : Value → Shared → Prop}, Q c { s' with heap := h3 } → wpAny (model X.prog X.w) (X.A.mark (some (.ref a))) (eval (.Name x np) X.env) Q E { s' with heap := h3 } := fun {Q E} q => by
      obtain ⟨hg, hdbg, hm | ⟨hm, hv, hnn⟩⟩ := hc
      · exact ld_glob (X := X.suite a ((a, oe3) :: (X.pn ++ pins))) S3 hg hm q hdbg
      · exact ld_blt (X := X.suite a ((a, oe3) :: (X.pn ++ pins))) S3 hg hm hv q hnn hdbg
    refine test (LM.here ?_)
    refine codeAny_handlers_suite_as ?_
    refine HandSPX.lands_againZ fl3 fun h4 fl4 up4 => ?_
    have J4 : Inv X pins σ' H' { s' with heap := h4 } := J.landed nb fl4.1 ((up.trans up3).trans up4) os ag
    obtain ⟨oe4, vs4, he4, hz4, hd4⟩ := fl4.there
    have nC : ∀ x c, X.env.cells.lookup x = some c → c ≠ a := fun x c e z => by
      obtain ⟨v, o, ho, hd⟩ := J4.cell x c e
      rw [z] at ho
      have q : ({ s' with heap := h4 } : Shared).heap.get? a = some oe4 := he4
      rw [q] at ho; cases ho
      rw [hd4] at hd; cases hd
    have S4 := Inv.suiteT (Inv.track (o := ExH cls a) J4 n0 na nL nC nP (exH_ok he4 hz4 hd4)) a
    refine store_ok (X := suiteT X a) (v := .ref a) S4 hN hi hloc rfl (fun s5 S5 => ?_) (.inr hln)
    refine wpAny_mono ((hsu a cls).run pins s5 _ _ _ S5 (hyes a na)) (fun f s6 hsp => ?_) (fun _ _ z => False.elim z)
    have end_ : ∀ {σ6 : L2.St} {H6 : Hp} {Q : Shared → Prop}, Inv (suiteT X a) pins σ6 H6 s6 → (∀ s7, Inv X pins (σ6.set i none) H6 s7 → Q s7) →
        wpAny (model X.prog X.w) X.A (do bindName X.env n .none; unbindBehindTheSuite X.env n pos') (fun _ s7 => Q s7) X.xe s6 := fun {σ6 H6 Q} S6 hq => gone_ok (Inv.unsuiteT S6 ok) hN hi hln hq
    cases f with
    | next =>
      obtain ⟨σ6, H6, S6, q6⟩ := hsp
      exact end_ S6 fun s7 J7 => ⟨_, _, J7, q6⟩
    | brk =>
      obtain ⟨σ6, H6, S6, q6⟩ := hsp
      exact end_ S6 fun s7 J7 => ⟨_, _, J7, q6⟩
    | cont =>
      obtain ⟨σ6, H6, S6, q6⟩ := hsp
      exact end_ S6 fun s7 J7 => ⟨_, _, J7, q6⟩
    | ret u =>
      obtain ⟨v6, σ6, H6, S6, r6, q6⟩ := hsp
      exact end_ S6 fun s7 J7 => ⟨_, _, _, J7, r6, q6⟩
  · cases f with
    | next =>
      obtain ⟨σ', H', J', q⟩ := hsp
      exact wpAny_execs_nil ⟨σ', H', J'.ofTry ok, q⟩
    | brk =>
      obtain ⟨σ', H', J', q⟩ := hsp
      exact ⟨σ', H', J'.ofTry ok, q⟩
    | cont =>
      obtain ⟨σ', H', J', q⟩ := hsp
      exact ⟨σ', H', J'.ofTry ok, q⟩
    | ret u =>
      obtain ⟨v, σ', H', J', r, q⟩ := hsp
      exact ⟨v, σ', H', J'.ofTry ok, r, q⟩
end

/-! ### isinstance of it -/
def rIsH (K : PySem.W.Frag) : List V → Hp → VK → Prop := fun xs H Q => ∃ (a D : Addr) (c : V) (cv : Value) (b : Bool), xs = [.ref a, c] ∧ H a = some (ExH (.ref D) a) ∧ ExcC K D ∧ ClsV c cv ∧ PySem.W.kitOne K (.ref D) cv = some b ∧ Q (.bl b) H
def rIsHT (K : PySem.W.Frag) : List V → Hp → VK → Prop := fun xs H Q => ∃ (a D tp : Addr) (cs : List V) (us : List Value) (b : Bool), xs = [.ref a, .ref tp] ∧ H a = some (ExH (.ref D) a) ∧ ExcC K D ∧ H tp = some (.tup cs) ∧ Paired ClsV cs us ∧ PySem.W.kitAny K (.ref D) us = some b ∧ Q (.bl b) H
section
variable {X : Cx}
theorem exH_inst {pins : List (Addr × Obj)} {σ : L2.St} {H : Hp} {s : Shared} {a D : Addr} (I : Inv X pins σ H s) (ha : H a = some (ExH (.ref D) a)) : ∃ oe, PySem.W.InstAt s.heap a oe D none := by
  obtain ⟨⟨oe, vs, ho, hz, hd⟩, _, _⟩ := I.hok a _ ha
  refine ⟨oe, ?_⟩
  obtain ⟨oc, od, oda, osl⟩ := oe
  obtain ⟨h1, h2⟩ := hz
  dsimp only at h1 h2 hd
  subst h1 h2 hd
  exact ⟨ho, rfl, rfl, trivial⟩
theorem call_isH : CallR X (.builtin "isinstance") (rIsH X.K) := by
  intro pins s σ H xs us Q I r h
  obtain ⟨a, D, c, cv, b, rfl, ha, C, k, e, q⟩ := h
  obtain ⟨u1, u2, rfl, r1, r2⟩ := vals2 r
  have ec := k.eq r2
  subst ec
  cases (show u1 = Value.ref a from r1)
  obtain ⟨oe, J⟩ := exH_inst I ha
  exact PySem.W.kia_one (PySem.W.handS_kitx_exc C.hg C.hk C.hs C.hd C.ha C.hn C.ht C.hm) I.kIn J e (fun z => nomatch z) fun tk => ⟨.bl b, H, I.tok tk, rfl, q⟩
theorem call_isHT : CallR X (.builtin "isinstance") (rIsHT X.K) := by
  intro pins s σ H xs us Q I r h
  obtain ⟨a, D, tp, cs, ws, b, rfl, ha, C, hT, k, e, q⟩ := h
  obtain ⟨u1, u2, rfl, r1, r2⟩ := vals2 r
  cases (show u1 = Value.ref a from r1)
  cases (show u2 = Value.ref tp from r2)
  obtain ⟨oe, J⟩ := exH_inst I ha
  obtain ⟨_, its, rv, o, h1, h2, n, h3⟩ := (show ObjOk X.prog X.w H s.heap tp (.tup cs) from I.hok tp _ hT)
  have e3 := ClsV.all k rv
  subst e3
  obtain ⟨oc, od, dt, sl⟩ := o
  simp only at h2 h3
  subst h2 h3
  exact PySem.W.kia_tup (PySem.W.handS_kitx_exc C.hg C.hk C.hs C.hd C.ha C.hn C.ht C.hm) I.kIn J h1 e (fun z => nomatch z) fun tk => ⟨.bl b, H, I.tok tk, rfl, q⟩
end

/-! ### an own list as data, by its slot -/
def frzV (i : Nat) (env : Lo) : Option (D × Lo) := match fVar i env with
  | .ok (r, e1) => freezeR e1 r
  | _ => none
theorem frz_var {K : PySem.W.Frag} {mg : Str → Option Value} {H : Hp} {σ : L2.St} {env env' : Lo} {l : List Item} {i : Nat} {d : D} (h : Hold K mg H σ env l) (e : frzV i env = some (d, env')) : ∃ v, σ[i]? = some (some v) ∧ HoldV K mg H σ env' l v (.sh d) := by
  unfold frzV at e
  cases e1 : fVar i env with
  | bad => rw [e1] at e; cases e
  | ex c p => rw [e1] at e; cases e
  | ok z =>
    obtain ⟨r, e2⟩ := z
    rw [e1] at e
    have k : tVar i σ H fun v H' => H' = H ∧ HoldV K mg H' σ e2 l v r := by
      have := sem_var (K := K) (mg := mg) σ H env l r e2 h e1 (fun v H' => ∃ _ : HoldV K mg H' σ e2 l v r, True) (fun v H' h' => ⟨h', trivial⟩)
      obtain ⟨v, ev, hv, _⟩ := this
      exact ⟨v, ev, rfl, hv⟩
    obtain ⟨v, ev, _, hv⟩ := k
    exact ⟨v, ev, hv.freeze e⟩

/-- try: f(a, b) except C: return False -/
def fTryF (F : Fn) (i j : Nat) (cs : List Str) : EvS := fun env => do
  let (d1, e1) ← Res.ofO (frzV i env)
  let (d2, e2) ← Res.ofO (frzV j e1)
  match F [.sh d1, .sh d2] with
  | .ok (r, _) => if isVw r = true then .bad else .ok (.nx e2)
  | .ex c _ => if c ∈ cs then .ok (.rt (.sh (.bool false)) e2) else .bad
  | .bad => .bad
theorem Res.of_okO {α : Type} {o : Option α} {a : α} (h : Res.ofO o = .ok a) : o = some a := Res.ofO_ok h
section
variable {K : PySem.W.Frag} {mg : Str → Option Value} {H : Hp} {σ : L2.St} {l : List Item}
/-- a call of two names that may raise: what is known at its two ends -/
theorem two_args {env e1 e2 : Lo} {i j : Nat} {d1 d2 : D} (h : Hold K mg H σ env l) (a : frzV i env = some (d1, e1)) (b : frzV j e1 = some (d2, e2)) : ∃ v1 v2, σ[i]? = some (some v1) ∧ σ[j]? = some (some v2) ∧ σ.length = e2.length ∧ Rep K mg H ([(some v1, .sh d1), (some v2, .sh d2)] ++ (σ.zip e2 ++ l)) := by
  obtain ⟨v1, q1, h1⟩ := frz_var h a
  obtain ⟨v2, q2, h2⟩ := frz_var h1.hold b
  refine ⟨v1, v2, q1, q2, h2.len, h2.rep.perm ?_⟩
  have p : (σ.zip e2 ++ ((some v1, Sl.sh d1) :: l)).Perm ((some v1, Sl.sh d1) :: (σ.zip e2 ++ l)) := List.perm_middle
  exact (p.cons _).trans (.swap _ _ _)
end
/-- the tried call of two names -/
def tbTwo (K : PySem.W.Frag) (mg : Str → Option Value) (F : Fn) (i j : Nat) : WX → TS := fun W D σ H => tCallS (spX K mg 2 F) (WE W) (tCons (tVar i) (tCons (tVar j) tNil)) σ H fun _ H1 => D.nx σ H1
section
variable {X : Cx} {ks : List Nat} {x c y z : Str} {n k i j jj : Nat} {F : Fn} {cs : List Str} {p q1 q2 pp1 pp2 pos np pos' rp rq : Pos} {cv : Value}
theorem ss_tryF (hF : FnX X.prog X.w X.K X.mg X.base x 2 k F) (hr : Room k X.A) (hg : Gl X x) (hi : X.N[i]? = some y) (hj : X.N[j]? = some z) (hvi : Vis X.env.scope y) (hvj : Vis X.env.scope z)
    (hs : X.stack = X.env :: X.outer) (hf : X.env.frame = some X.env.locals) (hc : Names X c cv) (hcs : ∀ e ∈ cs, ∀ C, X.mg e = some (.ref C) → PySem.W.exmOne X.K (.ref C) cv = some true)
    (hdb : (x == ("__debug__" : Str)) = false := by decide) (hdy : (y == ("__debug__" : Str)) = false := by decide) (hcy : (y == ("__classdict__" : Str)) = false := by decide) (hdz : (z == ("__debug__" : Str)) = false := by decide) (hcz : (z == ("__classdict__" : Str)) = false := by decide)
    (he : starEach [.Name y q1, .Name z q2] X.env = (false, eval (.Name y q1) X.env) :: starEach [.Name z q2] X.env := by rfl) (he2 : starEach [.Name z q2] X.env = (false, eval (.Name z q2) X.env) :: starEach [] X.env := by rfl)
    (hpl : (backTo pp1 (starEach [.Name z q2] X.env)).any (·.1) = false := by rfl) (hsw : swapsWith (.Call (.Name x p) [.Name y q1, .Name z q2] [] pp1) none pp2.line X.env = pure false := by rfl) :
    SS X ks (.Try [.Expr (.Call (.Name x p) [.Name y q1, .Name z q2] [] pp1) pp2] [.ExceptHandler (some (.Name c np)) none [.Return (some (.Constant (.bool false) jj rp)) rq] pos'] [] [] pos) (fTryF F i j cs) := by
  obtain ⟨f, fd, ps, hm, hk, hb, Fok⟩ := hF.ex
  refine ⟨_, ps_try_only (tb := tbTwo X.K X.mg F i j) (ts := fun _ _ _ => tRet (tC (.bl false))) (Wout := fun _ _ _ _ => False) hs hf hc takes0 (fun W pn xe tk po => ?_) (fun a oe cls d pn hz hv => pss_one (ps_ret pe_bl)), ?_⟩
  · exact pss_one (ps_expr (pe_callS Fok hr hg hm hk hb (fun σ => passAt tk σ) (pa_cons (pe_var hi hvi hdy hcy) (pa_cons (pe_var hj hvj hdz hcz) pa_nil he2) he) hdb he hpl) hsw)
  · intro σ H env l o h e D post
    unfold fTryF at e
    obtain ⟨⟨d1, e1⟩, ea, e⟩ := Res.bind_ok e
    obtain ⟨⟨d2, e2⟩, eb, e⟩ := Res.bind_ok e
    replace ea := Res.ofO_ok ea
    replace eb := Res.ofO_ok eb
    obtain ⟨v1, v2, s1, s2, hl, rp⟩ := two_args h ea eb
    refine ⟨v1, s1, v2, s2, ?_⟩
    refine ⟨rfl, [.sh d1, .sh d2], σ.zip e2 ++ l, rfl, rp, ?_⟩
    dsimp only at e
    cases eF : F [.sh d1, .sh d2] with
    | bad => rw [eF] at e; cases e
    | ok w =>
      obtain ⟨r, as⟩ := w
      rw [eF] at e
      dsimp only at e
      split at e
      · cases e
      · cases e
        refine .inl ⟨r, as, rfl, fun v H' rq _ => post σ H' ⟨hl, ?_⟩ .refl⟩
        exact Rep.dropA _ rq.tail
    | ex c' d =>
      rw [eF] at e
      dsimp only at e
      split at e
      · rename_i hcc
        cases e
        refine .inr ⟨c', d, rfl, fun C H' hC rq => ⟨true, hcs c' hcc C hC, fun _ a ha => ?_, fun z => by cases z⟩⟩
        have hh : Hold X.K X.mg H' σ e2 l := ⟨hl, rq⟩
        exact post _ σ H' (hh.shV fun _ => .bl false) rfl .refl
      · cases e
end
/-- an expression's own list as data -/
def fFz (fa : EvF) : EvF := fun env => do
  let (r, e1) ← fa env
  let (d, e2) ← Res.ofO (freezeR e1 r)
  .ok (.sh d, e2)
theorem se_fz {X : Cx} {e : Expr} {fa : EvF} (h : SE X e fa) : SE X e (fFz fa) := by
  obtain ⟨t, p, s⟩ := h.ex
  refine ⟨t, p, fun σ H env l r env' h e Q q => ?_⟩
  unfold fFz at e
  obtain ⟨⟨r1, e1⟩, ea, e⟩ := Res.bind_ok e
  obtain ⟨⟨d, e2⟩, eb, e⟩ := Res.bind_ok e
  replace eb := Res.ofO_ok eb
  cases e
  exact s σ H env l r1 e1 h ea _ fun v H1 h1 => q v H1 (h1.freeze eb)

/-! ### the def that asks of a refusal -/
/-- names of classes, as a tuple's items -/
def tVals (vs : List V) : TA := fun _ H Q => Q vs H
theorem pa_names {X : Cx} : ∀ {xs : List (Str × Pos)} {as : List Addr}, xs.length = as.length → (∀ (i : Nat) (x : Str) (p : Pos) (a : Addr), xs[i]? = some (x, p) → as[i]? = some a → Gl X x ∧ X.mg x = some (.ref a) ∧ (x == ("__debug__" : Str)) = false) →
    PA X (xs.map fun q => Expr.Name q.1 q.2) (tVals (as.map V.ref))
  | [], [], _, _ => pa_nil
  | [], _ :: _, h, _ => by cases h
  | _ :: _, [], h, _ => by cases h
  | (x, p) :: xs, a :: as, h, f => by
    obtain ⟨g, m, d⟩ := f 0 x p a rfl rfl
    have ih : PA X (xs.map fun q => Expr.Name q.1 q.2) (tVals (as.map V.ref)) := pa_names (by simpa using h) fun i x p a e1 e2 => f (i + 1) x p a (by simpa using e1) (by simpa using e2)
    exact pa_cons (pe_glob (v := .ref a) g m rfl d) ih rfl
theorem paired_refs : ∀ (as : List Addr), Paired ClsV (as.map V.ref) (as.map Value.ref)
  | [] => .nil
  | a :: as => .cons (.own a) (paired_refs as)
/-- what a refusal answers -/
def fRefused (F : Fn) (c : Str) : Fn := fun args => match args with
  | [.sh d1, .sh d2] => match F [.sh d1, .sh d2] with
    | .ex e _ => if e = c then .ok (.sh (.bool true), [.sh d1, .sh d2]) else .bad
    | _ => .bad
  | _ => .bad
theorem start4 {a b c d : Str} {v w : V} : L2.start [a, b, c, d] [v, w] = [some v, some w, none, none] := rfl
theorem Rep.laid {K : PySem.W.Frag} {mg : Str → Option Value} {H : Hp} {L : List Item} {a : Addr} {o : HO} (h : Rep K mg H L) (e : H a = none) : Rep K mg (upd H a o) L := by
  obtain ⟨G, os, rp⟩ := h
  exact ⟨_, _, rp.still e⟩
section
variable {P : Program} {w : World} {K : PySem.W.Frag} {mg : Str → Option Value} {base : Heap}
/-- caught = None; try: f(a, b) except B as error: caught = error; not isinstance of c or of ValueError: False; not isinstance of others -/
theorem fn_refused {x qual y z u er f c0 cB : Str} {st : Stmt} {fa C B : Addr} {fd : FuncData} {k : Nat} {F : Fn} {xs : List (Str × Pos)} {as : List Addr} {j1 j2 jt : Nat}
    {a1 a2 a3 b1 b2 b3 b4 b5 b6 b7 b8 b9 b10 c1 c2 c3 c4 c5 c6 c7 c8 c9 c10 c11 c12 c13 d1 d2 d3 d4 d5 d6 d7 d8 : Pos}
    (F0 : Fun K x qual st fa fd) (S : FnScope [y, z, u, er] [y, z] (defScope st))
    (hbody : defBody st = [.Assign [.Name u a1] (.Constant .none j1 a2) a3,
      .Try [.Expr (.Call (.Name f b1) [.Name y b2, .Name z b3] [] b4) b5] [.ExceptHandler (some (.Name cB b6)) (some er) [.Assign [.Name u b7] (.Name er b8) b9] b10] [] [] c1,
      .If (.BoolOp .Or [.UnaryOp .Not (.Call (.Name "isinstance" c2) [.Name u c3, .Name c0 c4] [] c5) c6, .UnaryOp .Not (.Call (.Name "isinstance" c7) [.Name u c8, .Name "ValueError" c9] [] c10) c11] c12) [.Return (some (.Constant (.bool false) j2 c13)) d1] [] d2,
      .Return (some (.UnaryOp .Not (.Call (.Name "isinstance" d3) [.Name u d4, .Tuple (xs.map fun q => Expr.Name q.1 q.2) jt d5] [] d6) d7)) d8])
    (hF : FnX P w K mg base f 2 k F) (hI : mg "isinstance" = none) (hV : mg "ValueError" = none) (hc0 : mg c0 = some (.ref C)) (hcB : mg cB = some (.ref B))
    (hxl : xs.length = as.length) (hxs : ∀ (i : Nat) (x : Str) (p : Pos) (a : Addr), xs[i]? = some (x, p) → as[i]? = some a → mg x = some (.ref a) ∧ (x == ("__debug__" : Str)) = false)
    (hsz : xs.length ≤ sizeLine) (hex : ExcC K C) (h1 : PySem.W.exmOne K (.ref C) (.ref B) = some true) (h2 : PySem.W.kitOne K (.ref C) (.ref C) = some true) (h3 : PySem.W.kitOne K (.ref C) (.type "ValueError") = some true) (h4 : PySem.W.kitAny K (.ref C) (as.map Value.ref) = some false)
    (gl : ∀ g ∈ [f, c0, cB, "isinstance", "ValueError"] ++ xs.map (·.1), (defScope st).names.lookup g = some .globalImplicit)
    (lo : ∀ g ∈ [y, z, u, er], (defScope st).names.lookup g = some .local)
    (dbg : ∀ g ∈ [y, z, u, er, f, c0, cB], (g == ("__debug__" : Str)) = false ∧ (g == ("__classdict__" : Str)) = false) :
    FnOk P w K mg base CX0 (k + 1) fa fd [y, z] (spF K mg 2 (fRefused F c0)) := by
  have hnd := S.nd
  refine F0.ok S (fun vs H Q E h => h.1) fun cdv A outer s H vs Q E hr h => ?_
  obtain ⟨f0, fd0, ps0, hm0, hk0, hb0, Fok⟩ := hF.ex
  have L0 : ∀ g ∈ [y, z, u, er], Vis (defScope st) g := fun g hg => .inl (lo g hg)
  have hr' : Room k (A.deeper (envOfC qual (defScope st) s.heap.objs.size fa cdv)) := hr
  have D : ∀ {g : Str}, g ∈ [y, z, u, er, f, c0, cB] → (g == ("__debug__" : Str)) = false := fun hg => (dbg _ hg).1
  have D2 : ∀ {g : Str}, g ∈ [y, z, u, er, f, c0, cB] → (g == ("__classdict__" : Str)) = false := fun hg => (dbg _ hg).2
  rw [hbody]
  refine ⟨_, pss_cons (ps_set (i := 2) hnd rfl (.inl (lo u (by simp))) pe_non rfl (.inr (lo u (by simp))))
    (pss_cons (ps_try_hold (i := 3) (c := .ref B) (tb := tbTwo K mg F 0 1) (ts := fun _ _ => tAsg (tVar 3) (gName 2)) rfl rfl rfl hnd rfl (lo er (by simp)) ⟨gl cB (by simp), D (by simp), .inl hcB⟩ (fun W pn xe tk po => ?_) (fun a cls => ?_))
    (pss_cons (ps_if (PW.pt (pw_or (pt_not (pt_val (pe_callB call_isH (gl _ (by simp)) hI bt_isinstance (pa_cons (pe_var (i := 2) rfl (L0 u (by simp)) (D (by simp)) (D2 (by simp))) (pa_cons (pe_glob (v := .ref C) (gl c0 (by simp)) hc0 rfl (D (by simp))) pa_nil))))) (pw_or1 (pt_not (pt_val (pe_callB call_isH (gl _ (by simp)) hI bt_isinstance (pa_cons (pe_var (i := 2) rfl (L0 u (by simp)) (D (by simp)) (D2 (by simp))) (pa_cons (pe_bltn (v := .ty "ValueError") (gl "ValueError" (by simp)) hV boot_ValueError rfl) pa_nil)))))))) (pss_one (ps_ret pe_bl)) pss_nil)
    (pss_one (ps_ret (pe_not (pe_callB call_isHT (gl _ (by simp)) hI bt_isinstance (pa_cons (pe_var (i := 2) rfl (L0 u (by simp)) (D (by simp)) (D2 (by simp))) (pa_cons (pe_tup (pa_names (as := as) hxl fun i x p a e1 e2 => ⟨gl x (by
      have : x ∈ xs.map (·.1) := List.mem_map.mpr ⟨(x, p), List.mem_of_getElem? e1, rfl⟩
      simp [this]), hxs i x p a e1 e2⟩)) pa_nil)))))))), ?_⟩
  · exact pss_one (ps_expr (pe_callS Fok hr' (gl f (by simp)) hm0 hk0 hb0 (fun σ => passAt tk σ) (pa_cons (pe_var (i := 0) rfl (L0 y (by simp)) (D (by simp)) (D2 (by simp))) (pa_cons (pe_var (i := 1) rfl (L0 z (by simp)) (D (by simp)) (D2 (by simp))) pa_nil rfl) rfl) (D (by simp))))
  · exact pss_one (ps_set (i := 2) hnd rfl (.inl (lo u (by simp))) (pe_var (i := 3) rfl (L0 er (by simp)) (D (by simp)) (D2 (by simp))) rfl (.inr (lo u (by simp))))
  · obtain ⟨hl, args, l, r, args', ha, rp, e, q⟩ := h
    match vs, hl, args, ha, rp, e with
    | [v1, v2], _, [A1, A2], _, rp, e =>
      have key : ∃ d1 d2 p, A1 = .sh d1 ∧ A2 = .sh d2 ∧ F [.sh d1, .sh d2] = .ex c0 p ∧ r = .sh (.bool true) ∧ args' = [.sh d1, .sh d2] := by
        cases A1 <;> first | (cases e; done) | skip
        cases A2 <;> first | (cases e; done) | skip
        rename_i d1 d2 _
        cases eF : F [.sh d1, .sh d2] with
        | bad =>
          have e2 : fRefused F c0 [.sh d1, .sh d2] = .bad := by unfold fRefused; dsimp only; rw [eF]
          rw [e2] at e; cases e
        | ok z =>
          have e2 : fRefused F c0 [.sh d1, .sh d2] = .bad := by unfold fRefused; dsimp only; rw [eF]
          rw [e2] at e; cases e
        | ex c' d =>
          have e2 : fRefused F c0 [.sh d1, .sh d2] = if c' = c0 then .ok (.sh (.bool true), [.sh d1, .sh d2]) else .bad := by unfold fRefused; dsimp only; rw [eF]
          rw [e2] at e
          by_cases hc : c' = c0
          · rw [if_pos hc] at e
            cases e
            exact ⟨d1, d2, d, rfl, rfl, by rw [eF, hc], rfl, rfl⟩
          · rw [if_neg hc] at e; cases e
      obtain ⟨d1, d2, d, rfl, rfl, eF, rfl, rfl⟩ := key
      have rp1 : Rep K mg H ((some v1, .sh d1) :: (some v2, .sh d2) :: l) := rp
      have rp2 : Rep K mg H ([(some v1, .sh d1), (some v2, .sh d2)] ++ ((some v1, .sh d1) :: (some v2, .sh d2) :: l)) := by
        obtain ⟨G, os, rp⟩ := rp1
        obtain ⟨w1, q1, t1⟩ := rp.shOf (d := d1) (ov := some v1) (by simp)
        obtain ⟨w2, q2, t2⟩ := rp.shOf (d := d2) (ov := some v2) (by simp)
        cases q1
        cases q2
        exact ⟨_, _, (rp.sh t2).sh t1⟩
      show tCallS (spX K mg 2 F) (WE _) (tCons (tVar 0) (tCons (tVar 1) tNil)) [some v1, some v2, some .non, none] H _
      refine ⟨v1, rfl, v2, rfl, rfl, [.sh d1, .sh d2], _, rfl, rp2, .inr ⟨c0, d, eF, fun C' H' hC rq => ⟨rfl, ?_, fun a na => ?_⟩⟩⟩
      · rw [hc0] at hC; cases hC; exact h1
      · rw [hc0] at hC; cases hC
        refine ⟨.ref a, rfl, ?_⟩
        dsimp only [gName, List.set]
        refine ⟨.ref a, rfl, a, C, .ref C, .ref C, true, rfl, upd_same, hex, .own C, h2, true, rfl, iteF ?_⟩
        refine ⟨.ref a, rfl, a, C, .ty "ValueError", .type "ValueError", true, rfl, upd_same, hex, .ty _, h3, true, rfl, iteF ?_⟩
        refine ⟨.ref a, rfl, ?_⟩
        refine ⟨by rw [List.length_map, ← hxl]; exact hsz, fun tp htp => ?_⟩
        have hat : a ≠ tp := fun z => by rw [← z, upd_same] at htp; cases htp
        have nt : H' tp = none := by rw [upd_ne (fun z => hat z.symm)] at htp; exact htp
        refine ⟨a, C, tp, as.map V.ref, as.map Value.ref, false, rfl, by rw [upd_ne hat, upd_same], hex, upd_same, paired_refs as, h4, false, rfl, ?_⟩
        refine q (.bl true) _ ?_ rfl
        have r3 := Rep.laid (o := .tup (as.map V.ref)) (Rep.laid (o := ExH (.ref C) a) rq na) htp
        obtain ⟨G, os, rp⟩ := r3
        exact ⟨_, _, rp.sh (.bl true)⟩
end
/-! ### a class, the class caught, those that it isn't -/
structure ExT (K : PySem.W.Frag) (mg : Str → Option Value) (C B : Addr) (c b : Str) (as : List Addr) (others : List Str) : Prop where
  E : ExK K mg c C
  gB : mg b = some (.ref B)
  hex : ExcC K C
  tCC : PySem.W.exmOne K (.ref C) (.ref C) = some true
  tCB : PySem.W.exmOne K (.ref C) (.ref B) = some true
  k1 : PySem.W.kitOne K (.ref C) (.ref C) = some true
  k2 : PySem.W.kitOne K (.ref C) (.type "ValueError") = some true
  k3 : PySem.W.kitAny K (.ref C) (as.map Value.ref) = some false
  len : others.length = as.length
  og : ∀ (i : Nat) (x : Str) (a : Addr), others[i]? = some x → as[i]? = some a → mg x = some (.ref a)
theorem ogs_nil {mg : Str → Option Value} : ∀ (i : Nat) (x : Str) (a : Addr), ([] : List Str)[i]? = some x → ([] : List Addr)[i]? = some a → mg x = some (.ref a) := fun i x a e => by simp at e
theorem ogs_cons {mg : Str → Option Value} {y : Str} {b : Addr} {ys : List Str} {bs : List Addr} (h : mg y = some (.ref b)) (t : ∀ (i : Nat) (x : Str) (a : Addr), ys[i]? = some x → bs[i]? = some a → mg x = some (.ref a)) :
    ∀ (i : Nat) (x : Str) (a : Addr), (y :: ys)[i]? = some x → (b :: bs)[i]? = some a → mg x = some (.ref a)
  | 0, x, a, e1, e2 => by simp at e1 e2; subst e1; subst e2; exact h
  | i + 1, x, a, e1, e2 => t i x a (by simpa using e1) (by simpa using e2)
theorem hcs_of {K : PySem.W.Frag} {mg : Str → Option Value} {c : Str} {C : Addr} {cv : Value} (E : ExK K mg c C) (t : PySem.W.exmOne K (.ref C) cv = some true) : ∀ e ∈ [c], ∀ C', mg e = some (.ref C') → PySem.W.exmOne K (.ref C') cv = some true := by
  intro e he C' h
  simp at he
  subst he
  rw [E.gC] at h
  cases h
  exact t
theorem xs_of {mg : Str → Option Value} {xs : List (Str × Pos)} {ys : List Str} {as : List Addr} (h : xs.map (·.1) = ys) (og : ∀ (i : Nat) (x : Str) (a : Addr), ys[i]? = some x → as[i]? = some a → mg x = some (.ref a)) (hd : ∀ y ∈ ys, (y == ("__debug__" : Str)) = false) :
    ∀ (i : Nat) (x : Str) (p : Pos) (a : Addr), xs[i]? = some (x, p) → as[i]? = some a → mg x = some (.ref a) ∧ (x == ("__debug__" : Str)) = false := by
  intro i x p a e1 e2
  have e3 : ys[i]? = some x := by rw [← h, List.getElem?_map, e1]; rfl
  exact ⟨og i x a e3 e2, hd x (List.mem_of_getElem? e3)⟩
end FL

set_option exponentiation.threshold 100000
namespace EN
open PySem PySem.Spec PyProof.Rows L2 FL
def f_with_box : Fn := runFn 3 3 [0, 1, 2]
    (fRet (fOp addD (fOp addD (fSlice (fVar 0) fNoPart (fPart (fOp addD (fVar 1) (fC (.int 1))))) (fTup (fCons (fVar 2) fNil))) (fSlice (fVar 0) (fPart (fOp addD (fVar 1) (fC (.int 2)))) fNoPart)))
def e1_behind : EvF := (fOp mulD (fVar 3) (fVar 4))
def f_behind : Fn := runFn 5 3 [0, 1, 2]
    (fSeq (fIfS (fTst (fOp eqD (fOp ixD (fVar 1) (fC (.int 0))) (fC (.str (Str.ofString "set")))))
    (fRet (fCall f_with_box (fCons (fVar 0) (fCons (fOp ixD (fVar 1) (fC (.int 1))) (fCons (fCB sumD (fCons (fLc (fZip (fCons (fOp ixD (fVar 1) (fC (.int 2))) (fCons (fVar 0) fNil))) (.tp [3, 4]) fYes e1_behind [3, 4]) fNil)) fNil)))))
    fNext)
    (fSeq (fIfS (fTst (fOp eqD (fOp ixD (fVar 1) (fC (.int 0))) (fC (.str (Str.ofString "take")))))
    (fRet (fCall f_with_box (fCons (fVar 0) (fCons (fOp ixD (fVar 1) (fC (.int 1))) (fCons (fVar 2) fNil)))))
    fNext)
    (fRet (fVar 0))))
def f_fits : Fn := runFn 3 3 [0, 1, 2]
    (fSeq (fIfS (fOrT (fTst (fOp ltD (fOp ixD (fVar 2) (fC (.int 0))) (fC (.int 0)))) (fOrT (fTst (fOp geD (fOp ixD (fVar 2) (fC (.int 0))) (fCB lenD (fCons (fVar 0) fNil)))) (fTst (fOp neD (fOp ixD (fOp ixD (fVar 0) (fOp ixD (fVar 2) (fC (.int 0)))) (fC (.int 0))) (fVar 1)))))
    (fRet (fC (.bool false)))
    fNext)
    (fRet (fOp eqD (fOp notND (fOp ixD (fVar 2) (fC (.int 1))) (fC .none)) (fOp eqD (fOp ixD (fOp ixD (fOp ixD (fVar 0) (fOp ixD (fVar 2) (fC (.int 0)))) (fC (.int 2))) (fC (.int 0))) (fC (.str (Str.ofString "take")))))))
def f_first_stand : Fn := runFn 1 1 [0]
    (fRet (fOp addD (fTup (fCons (fC (.int 1)) fNil)) (fOp mulTD (fTup (fCons (fC (.int 0)) fNil)) (fVar 0))))
def b1_ran : EvS := (fSeq (fIfX (fNotT (fTst (fCall f_fits (fCons (fVar 3) (fCons (fVar 5) (fCons (fVar 8) fNil))))))
    (fRaise "NoRun")
    fNext)
    (fSeq (fNoX (fAsg 6 (fCall f_behind (fCons (fVar 6) (fCons (fOp ixD (fOp ixD (fVar 3) (fOp ixD (fVar 8) (fC (.int 0)))) (fC (.int 2))) (fCons (fOp ixD (fVar 8) (fC (.int 1))) fNil))))))
    (fSeq (fNoX (fAsg 5 (fOp ixD (fOp ixD (fVar 3) (fOp ixD (fVar 8) (fC (.int 0)))) (fC (.int 1)))))
    (fNoX (fDrop (fMut 7 appendM (fCons (fTup (fCons (fVar 5) (fCons (fVar 6) fNil))) fNil)))))))
noncomputable def f_ran : Fn := runFn 9 2 [0, 1]
    (fSeq (fNoX (fUnp [2, 3, 4] (fFrzO (fCall f_laid (fCons (fVar 0) fNil)))))
    (fSeq (fNoX (fAsg 5 (fC (.int 0))))
    (fSeq (fNoX (fAsg 6 (fCall f_first_stand (fCons (fOp ixD (fVar 0) (fC (.int 0))) fNil))))
    (fSeq (fNoX (fAsg 7 (fLst (fCons (fTup (fCons (fVar 5) (fCons (fVar 6) fNil))) fNil))))
    (fSeq (fForX (fIter (fVar 1)) (.nm 8) b1_ran)
    (fNoX (fRet (fVar 7))))))))
noncomputable def f_is_run : Fn := runFn 2 2 [0, 1]
    (fSeq (fTryF f_ran 0 1 ["NoRun"])
    (fRet (fC (.bool true))))
noncomputable def f_l_refused : Fn := fRefused f_ran "NoRun"
noncomputable def b1_l_bent : EvS := (fIfS (fTst (fOp eqD (fOp ixD (fOp ixD (fVar 0) (fVar 5)) (fC (.int 0))) (fVar 1)))
    (fAsg 3 (fOp addD (fVar 3) (fOp mulD (fLst (fCons (fTup (fCons (fVar 5) (fCons (fOp ixD (fLst (fCons (fC (.int 0)) (fCons (fC .none) fNil))) (fCB intD (fCons (fOp eqD (fOp ixD (fOp ixD (fOp ixD (fVar 0) (fVar 5)) (fC (.int 2))) (fC (.int 0))) (fC (.str (Str.ofString "take")))) fNil))) fNil))) fNil)) (fC (.int 3)))))
    fNext)
noncomputable def b2_l_bent : EvS := (fDrop (fMut 3 appendM (fCons (fTup (fCons (fVar 5) (fCons (fOp ixD (fLst (fCons (fC .none) (fCons (fC (.int 1)) fNil))) (fCB intD (fCons (fOp eqD (fOp ixD (fOp ixD (fOp ixD (fVar 0) (fVar 5)) (fC (.int 2))) (fC (.int 0))) (fC (.str (Str.ofString "take")))) fNil))) fNil))) fNil)))
noncomputable def t3_l_bent : EvT := (fTst (fOp neD (fOp ixD (fOp ixD (fVar 0) (fVar 5)) (fC (.int 0))) (fVar 1)))
noncomputable def e4_l_bent : EvF := (fVar 5)
noncomputable def f_l_bent : Fn := runFn 6 3 [0, 1, 2]
    (fSeq (fAsg 3 (fLst (fCons (fTup (fCons (fOp subD (fOp subD (fC (.int 0)) (fC (.int 1))) (fOp modD (fOp divD (fVar 2) (fC (.int 5))) (fC (.int 9)))) (fCons (fC .none) fNil))) (fCons (fTup (fCons (fOp addD (fCB lenD (fCons (fVar 0) fNil)) (fOp modD (fOp divD (fVar 2) (fC (.int 5))) (fC (.int 9)))) (fCons (fC .none) fNil))) (fCons (fTup (fCons (fOp addD (fCB lenD (fCons (fVar 0) fNil)) (fOp modD (fOp divD (fVar 2) (fC (.int 5))) (fOp powD (fC (.int 10)) (fC (.int 8))))) (fCons (fC (.int 0)) fNil))) fNil)))))
    (fSeq (fAsg 4 (fLc (fRng (fCons (fCB lenD (fCons (fVar 0) fNil)) fNil)) (.nm 5) t3_l_bent e4_l_bent [5]))
    (fSeq (fFor (fIter (fSlice (fSlice (fVar 4) (fPart (fOp modD (fOp divD (fVar 2) (fC (.int 5))) (fC (.int 7)))) fNoPart) fNoPart (fPart (fC (.int 4))))) (.nm 5) b2_l_bent)
    (fSeq (fFor (fRng (fCons (fCB lenD (fCons (fVar 0) fNil)) fNil)) (.nm 5) b1_l_bent)
    (fRet (fOp ixD (fVar 3) (fOp modD (fOp divD (fVar 2) (fC (.int 3))) (fCB lenD (fCons (fVar 3) fNil)))))))))
noncomputable def f_l_cell : Fn := runFn 3 2 [0, 1]
    (fSeq (fIfS (fTst (fOp ltD (fVar 1) (fScLen 0)))
    (fRet (fScIx 0 (fVar 1)))
    fNext)
    (fSeq (fAsg 2 (fOp addD (fOp mulD (fVar 1) (fC (.int 7919))) (fC (.int 5))))
    (fSeq (fIfS (fTst (fOp gtD (fScLen 0) (fC (.int 0))))
    (fAsg 2 (fOp modD (fOp addD (fOp mulD (fScIx 0 (fOp modD (fOp mulD (fVar 1) (fC (.int 7))) (fScLen 0))) (fC (.int 48271))) (fOp mulD (fVar 1) (fC (.int 7919)))) (fC (.int 2147483647))))
    fNext)
    (fSeq (fAsg 2 (fOp modD (fOp mulD (fVar 2) (fVar 2)) (fC (.int 2147483629))))
    (fRet (fOp modD (fOp mulD (fOp addD (fVar 2) (fC (.int 11))) (fOp addD (fVar 2) (fC (.int 3)))) (fC (.int 2147483587))))))))
noncomputable def e1_l_behind : EvF := (fIf (fTst (fOp neD (fVar 3) (fOp addD (fOp ixD (fVar 1) (fC (.int 1))) (fC (.int 1))))) (fOp ixD (fVar 0) (fVar 3)) (fVar 2))
noncomputable def e2_l_behind : EvF := (fOp mulD (fOp ixD (fOp ixD (fVar 1) (fC (.int 2))) (fVar 3)) (fOp ixD (fVar 0) (fVar 3)))
noncomputable def f_l_behind : Fn := runFn 4 3 [0, 1]
    (fSeq (fIfS (fTst (fOp eqD (fOp ixD (fVar 1) (fC (.int 0))) (fC (.str (Str.ofString "skip")))))
    (fRet (fVar 0))
    fNext)
    (fSeq (fIfS (fTst (fOp eqD (fOp ixD (fVar 1) (fC (.int 0))) (fC (.str (Str.ofString "set")))))
    (fAsg 2 (fCB sumD (fCons (fLc (fRng (fCons (fCB lenD (fCons (fVar 0) fNil)) fNil)) (.nm 3) fYes e2_l_behind [3]) fNil)))
    fNext)
    (fRet (fCB tupleD (fCons (fLc (fRng (fCons (fCB lenD (fCons (fVar 0) fNil)) fNil)) (.nm 3) fYes e1_l_behind [3]) fNil)))))
noncomputable def b1_l_walked : EvS := (fSeq (fAsg 4 (fCall f_l_behind (fCons (fVar 4) (fCons (fOp ixD (fOp ixD (fVar 1) (fVar 6)) (fC (.int 2))) (fCons (fVar 7) fNil)))))
    (fSeq (fAsg 3 (fOp ixD (fOp ixD (fVar 1) (fVar 6)) (fC (.int 1))))
    (fDrop (fMut 5 appendM (fCons (fTup (fCons (fVar 3) (fCons (fVar 4) fNil))) fNil)))))
noncomputable def f_l_walked : Fn := runFn 8 3 [0, 1, 2]
    (fSeq (fAsg 3 (fC (.int 0)))
    (fSeq (fAsg 4 (fOp addD (fTup (fCons (fC (.int 1)) fNil)) (fOp mulTD (fTup (fCons (fC (.int 0)) fNil)) (fVar 0))))
    (fSeq (fAsg 5 (fLst (fCons (fTup (fCons (fVar 3) (fCons (fVar 4) fNil))) fNil)))
    (fSeq (fForB 2 (.tp [6, 7]) b1_l_walked)
    (fRet (fVar 5))))))
noncomputable def t1_l_run : EvT := (fTst (fOp eqD (fOp ixD (fOp ixD (fVar 2) (fVar 11)) (fC (.int 0))) (fVar 5)))
noncomputable def e2_l_run : EvF := (fVar 11)
noncomputable def b3_l_run : EvS := (fSeq (fAsg 7 (fOp divD (fCall f_l_cell (fCons (fVar 0) (fCons (fOp addD (fVar 1) (fOp modD (fVar 6) (fC (.int 23)))) fNil))) (fOp addD (fC (.int 1)) (fOp divD (fVar 6) (fC (.int 23))))))
    (fSeq (fAsg 8 (fLc (fRng (fCons (fCB lenD (fCons (fVar 2) fNil)) fNil)) (.nm 11) t1_l_run e2_l_run [11]))
    (fIfS (fTst (fOp neD (fVar 8) (fLst fNil)))
    (fSeq (fAsg 9 (fOp ixD (fVar 8) (fOp modD (fOp addD (fVar 7) (fOp mulD (fVar 6) (fVar 6))) (fCB lenD (fCons (fVar 8) fNil)))))
    (fSeq (fAsg 10 (fC .none))
    (fSeq (fIfS (fTst (fOp eqD (fOp ixD (fOp ixD (fOp ixD (fVar 2) (fVar 9)) (fC (.int 2))) (fC (.int 0))) (fC (.str (Str.ofString "take")))))
    (fAsg 10 (fOp ixD (fLst (fCons (fC (.int 0)) (fCons (fC (.int 1)) (fCons (fOp subD (fOp modD (fOp divD (fVar 7) (fC (.int 7))) (fC (.int 21))) (fC (.int 10))) (fCons (fOp subD (fOp modD (fOp divD (fVar 7) (fC (.int 7))) (fC (.int 1999999999))) (fC (.int 999999999))) fNil))))) (fOp modD (fOp divD (fVar 7) (fC (.int 3))) (fC (.int 4)))))
    fNext)
    (fSeq (fDrop (fMut 4 appendM (fCons (fTup (fCons (fVar 9) (fCons (fVar 10) fNil))) fNil)))
    (fAsg 5 (fOp ixD (fOp ixD (fVar 2) (fVar 9)) (fC (.int 1))))))))
    fNext)))
noncomputable def f_l_run : Fn := runFn 12 4 [0, 1, 2, 3]
    (fSeq (fAsg 4 (fLst fNil))
    (fSeq (fAsg 5 (fC (.int 0)))
    (fSeq (fFor (fRng (fCons (fVar 3) fNil)) (.nm 6) b3_l_run)
    (fRet (fVar 4)))))
noncomputable def e1_l_lay (R : Fn) : EvF := (fTup (fCons (fVar 8) (fCons (fVar 1) (fCons (fTup (fCons (fC (.str (Str.ofString "skip"))) fNil)) fNil))))
noncomputable def e2_l_lay (R : Fn) : EvF := (fCall R (fCons (fVar 7) (fCons (fVar 1) (fCons (fVar 2) (fCons (fVar 3) fNil)))))
noncomputable def b3_l_lay (R : Fn) : EvS := (fIfS (fTst (fOp eqD (fOp ixD (fVar 4) (fC (.int 0))) (fC (.str (Str.ofString "call")))))
    (fAsg 1 (fCall R (fCons (fOp ixD (fVar 2) (fOp ixD (fVar 4) (fC (.int 1)))) (fCons (fVar 1) (fCons (fVar 2) (fCons (fVar 3) fNil))))))
    (fIfS (fTst (fOp eqD (fOp ixD (fVar 4) (fC (.int 0))) (fC (.str (Str.ofString "either")))))
    (fSeq (fAsg 5 (fLc (fIter (fSlice (fVar 4) (fPart (fC (.int 1))) fNoPart)) (.nm 7) fYes (e2_l_lay R) [7]))
    (fSeq (fAsg 1 (fOp ixD (fVar 3) (fC (.int 0))))
    (fSeq (fStore 3 (fOp addD (fOp ixD (fVar 3) (fC (.int 0))) (fC (.int 1))) (fC (.int 0)))
    (fDrop (fMut 3 extendM (fCons (fLcB 5 (.nm 8) fYes (e1_l_lay R) [8]) fNil))))))
    (fSeq (fAsg 6 (fVar 1))
    (fSeq (fAsg 1 (fOp ixD (fVar 3) (fC (.int 0))))
    (fSeq (fStore 3 (fOp addD (fOp ixD (fVar 3) (fC (.int 0))) (fC (.int 1))) (fC (.int 0)))
    (fIfS (fTst (fOp eqD (fOp ixD (fVar 4) (fC (.int 0))) (fC (.str (Str.ofString "loop")))))
    (fSeq (fDrop (fMut 3 appendM (fCons (fTup (fCons (fVar 6) (fCons (fVar 1) (fCons (fTup (fCons (fC (.str (Str.ofString "skip"))) fNil)) fNil)))) fNil)))
    (fDrop (fMut 3 appendM (fCons (fTup (fCons (fCall R (fCons (fOp ixD (fVar 4) (fC (.int 1))) (fCons (fVar 1) (fCons (fVar 2) (fCons (fVar 3) fNil))))) (fCons (fVar 1) (fCons (fTup (fCons (fC (.str (Str.ofString "skip"))) fNil)) fNil)))) fNil))))
    (fIfS (fTst (fOp neD (fOp ixD (fVar 4) (fC (.int 0))) (fC (.str (Str.ofString "halt")))))
    (fDrop (fMut 3 appendM (fCons (fTup (fCons (fVar 6) (fCons (fVar 1) (fCons (fVar 4) fNil)))) fNil)))
    fNext)))))))
noncomputable def g_l_lay (R : Fn) : Fn := runFn 9 4 [0, 2, 3]
    (fSeq (fForB 0 (.nm 4) (b3_l_lay R))
    (fRet (fVar 1)))
noncomputable def f_l_lay : Nat → Fn
  | 0 => fun _ => .bad
  | n + 1 => g_l_lay (f_l_lay n)
noncomputable def b1_l_line : EvS := (fSeq (fAsg 4 (fOp modD (fOp addD (fOp mulD (fOp divD (fVar 0) (fOp addD (fOp mulD (fVar 3) (fVar 3)) (fC (.int 3)))) (fC (.int 48271))) (fOp mulD (fVar 3) (fC (.int 69621)))) (fC (.int 2147483647))))
    (fSeq (fAsg 5 (fOp ixD (fLst (fCons (fC (.int 0)) (fCons (fC (.int 1)) (fCons (fC (.int 0)) (fCons (fOp1 negD (fC (.int 1))) (fCons (fC (.int 1)) (fCons (fC (.int 2)) (fCons (fC (.int 0)) (fCons (fC (.int 3)) (fCons (fOp1 negD (fC (.int 2))) fNil)))))))))) (fOp modD (fVar 4) (fC (.int 9)))))
    (fSeq (fIfS (fTst (fOp eqD (fOp modD (fOp divD (fVar 4) (fC (.int 9))) (fC (.int 60))) (fC (.int 7))))
    (fSeq (fAsg 5 (fOp subD (fOp modD (fOp divD (fVar 4) (fC (.int 540))) (fC (.int 1999999))) (fC (.int 999999))))
    (fIfS (fTst (fOp gtD (fVar 3) (fC (.int 0))))
    (fAsg 5 (fOp subD (fOp modD (fVar 5) (fC (.int 19))) (fC (.int 9))))
    fNext))
    fNext)
    (fDrop (fMut 2 appendM (fCons (fVar 5) fNil))))))
noncomputable def f_l_line : Fn := runFn 6 2 [0, 1]
    (fSeq (fAsg 2 (fLst fNil))
    (fSeq (fFor (fRng (fCons (fOp addD (fVar 1) (fC (.int 1))) fNil)) (.nm 3) b1_l_line)
    (fRet (fCB tupleD (fCons (fVar 2) fNil)))))
noncomputable def e1_l_deed : EvF := (fTup (fCons (fC (.str (Str.ofString "call"))) (fCons (fOp ixD (fVar 5) (fC (.int 0))) fNil)))
noncomputable def f_l_deed : Fn := runFn 6 3 [0, 1, 2]
    (fSeq (fAsg 3 (fOp modD (fOp divD (fVar 0) (fC (.int 8))) (fC (.int 13))))
    (fSeq (fIfS (fAndT (fTst (fOp gtD (fVar 3) (fC (.int 10)))) (fTst (fOp neD (fVar 2) (fLst fNil))))
    (fRet (fOp ixD (fLcB 2 (.nm 5) fYes e1_l_deed [5]) (fOp modD (fOp divD (fVar 0) (fC (.int 104))) (fCB lenD (fCons (fVar 2) fNil)))))
    fNext)
    (fSeq (fIfS (fTst (fOp eqD (fVar 3) (fC (.int 8))))
    (fRet fEi)
    fNext)
    (fSeq (fIfS (fTst (fOp eqD (fVar 3) (fC (.int 9))))
    (fRet fLo)
    fNext)
    (fSeq (fIfS (fAndT (fTst (fOp eqD (fVar 3) (fC (.int 10)))) (fTst (fOp eqD (fOp modD (fOp divD (fVar 0) (fC (.int 104))) (fC (.int 3))) (fC (.int 0)))))
    (fRet (fTup (fCons (fC (.str (Str.ofString "halt"))) fNil)))
    fNext)
    (fSeq (fIfS (fOrT (fTst (fOp eqD (fVar 3) (fC (.int 7)))) (fTst (fOp eqD (fVar 1) (fC (.int 0)))))
    (fRet (fTup (fCons (fC (.str (Str.ofString "skip"))) fNil)))
    fNext)
    (fSeq (fAsg 4 (fOp modD (fOp divD (fVar 0) (fC (.int 104))) (fVar 1)))
    (fSeq (fIfS (fAndT (fTst (fOp gtD (fVar 3) (fC (.int 4)))) (fTst (fOp ltD (fVar 3) (fC (.int 7)))))
    (fRet (fTup (fCons (fC (.str (Str.ofString "take"))) (fCons (fVar 4) fNil))))
    fNext)
    (fRet (fTup (fCons (fC (.str (Str.ofString "set"))) (fCons (fVar 4) (fCons (fCall f_l_line (fCons (fOp divD (fVar 0) (fC (.int 13))) (fCons (fVar 1) fNil))) fNil)))))))))))))
noncomputable def t1_l_body : EvT := (fAndT (fTst (fOp eqD (fRow0 9) (fC (.str (Str.ofString "call"))))) (fTst (fOp eqD (fOp ixD (fVar 11) (fC (.int 0))) (fOp ixD (fVar 9) (fC (.int 1))))))
noncomputable def e2_l_body : EvF := (fOp ixD (fVar 11) (fC (.int 1)))
noncomputable def b3_l_body : EvB := (fbDeep (fTst (fOp eqD (fOp modD (fVar 8) (fC (.int 8))) (fC (.int 0)))) fbPop
    (fbSeq (fbLift (fAsg 9 (fCall f_l_deed (fCons (fVar 8) (fCons (fVar 1) (fCons (fVar 2) fNil))))))
    (fbSeq (fbLift (fAsg 10 (fCB sumD (fCons (fLcB 2 (.nm 11) t1_l_body e2_l_body [11]) fNil))))
    (fbSeq (fbLift (fAsg 10 (fOp addD (fVar 10) (fCB intD (fCons (fOp neD (fRow0 9) (fC (.str (Str.ofString "call")))) fNil)))))
    (fbIf (fTst (fOp leD (fOp addD (fVar 7) (fVar 10)) (fVar 4))) (fbSeq (fbLift (fAsg 7 (fOp addD (fVar 7) (fVar 10)))) (fbPut 9 3 12)) (fbLift fNext))))))
noncomputable def f_l_body : Fn := runFn 13 5 [0, 1, 2, 3, 4]
    (fzNew 6 5
    (fzSeq (fbLift (fAsg 7 (fC (.int 0))))
    (fzSeq (fbFor (fIter (fVar 0)) (.nm 8) b3_l_body) (fzRet 7))))
noncomputable def e1_l_program : EvF := (fCall f_l_cell (fCons (fVar 0) (fCons (fOp addD (fVar 10) (fVar 14)) fNil)))
noncomputable def b2_l_program : EvS := (fSeq (fAsg 8 (fC (.int 4)))
    (fSeq (fAsg 9 (fC (.int 2)))
    (fSeq (fIfS (fTst (fOp eqD (fVar 7) (fC (.int 0))))
    (fSeq (fAsg 8 (fOp addD (fC (.int 6)) (fOp modD (fOp divD (fCall f_l_cell (fCons (fVar 0) (fCons (fVar 1) fNil))) (fC (.int 3))) (fC (.int 9)))))
    (fAsg 9 (fC (.int 3))))
    fNext)
    (fSeq (fAsg 10 (fOp addD (fOp addD (fOp addD (fVar 1) (fC (.int 1))) (fOp mulD (fC (.int 11)) (fCB intD (fCons (fOp gtD (fVar 7) (fC (.int 0))) fNil)))) (fOp mulD (fC (.int 4)) (fVar 7))))
    (fSeq (fAsg 11 (fLc (fRng (fCons (fVar 8) fNil)) (.nm 14) fYes e1_l_program [14]))
    (fSeq (fUnp [12, 13] (fCall f_l_body (fCons (fVar 11) (fCons (fVar 2) (fCons (fVar 5) (fCons (fVar 9) (fCons (fVar 3) fNil)))))))
    (fSeq (fIfS (fAndT (fTst (fOp eqD (fVar 6) (fC (.int 1)))) (fTst (fOp eqD (fOp modD (fOp divD (fCall f_l_cell (fCons (fVar 0) (fCons (fVar 1) fNil))) (fC (.int 108))) (fC (.int 2))) (fC (.int 1)))))
    (fAsg 12 (fLst (fCons (fTup (fCons (fC (.str (Str.ofString "either"))) (fCons (fLst fNil) (fCons (fLst (fCons (fTup (fCons (fC (.str (Str.ofString "loop"))) (fCons (fLst (fCons (fTup (fCons (fC (.str (Str.ofString "either"))) (fCons (fVar 12) (fCons (fLst fNil) fNil)))) fNil)) fNil))) fNil)) fNil)))) fNil)))
    fNext)
    (fSeq (fAsg 4 (fOp addD (fLst (fCons (fVar 12) fNil)) (fVar 4)))
    (fAsg 5 (fOp addD (fLst (fCons (fTup (fCons (fVar 7) (fCons (fVar 13) fNil))) fNil)) (fVar 5)))))))))))
noncomputable def f_l_program : Fn := runFn 15 4 [0, 1, 2, 3]
    (fSeq (fAsg 4 (fLst fNil))
    (fSeq (fAsg 5 (fLst fNil))
    (fSeq (fAsg 6 (fOp addD (fC (.int 1)) (fOp modD (fCall f_l_cell (fCons (fVar 0) (fCons (fVar 1) fNil))) (fC (.int 4)))))
    (fSeq (fFor (fRng3 (fCons (fOp subD (fVar 6) (fC (.int 1))) (fCons (fOp1 negD (fC (.int 1))) (fCons (fOp1 negD (fC (.int 1))) fNil)))) (.nm 7) b2_l_program)
    (fRet (fTup (fCons (fVar 2) (fCons (fVar 4) fNil))))))))
noncomputable def b1_law : EvS := (fSeq (fAsg 8 (fCall f_l_cell (fCons (fVar 0) (fCons (fOp addD (fC (.int 50)) (fVar 7)) fNil))))
    (fSeq (fAsg 9 (fOp modD (fVar 8) (fOp addD (fCB lenD (fCons (fVar 5) fNil)) (fC (.int 1)))))
    (fSeq (fAsg 10 (fOp addD (fOp addD (fSlice (fVar 5) fNoPart (fPart (fVar 9))) (fLst (fCons (fCall f_l_bent (fCons (fVar 4) (fCons (fOp ixD (fOp ixD (fVar 6) (fVar 9)) (fC (.int 0))) (fCons (fOp divD (fVar 8) (fC (.int 31))) fNil)))) fNil))) (fSlice (fVar 5) (fPart (fOp addD (fVar 9) (fOp modD (fOp divD (fVar 8) (fC (.int 7))) (fC (.int 2))))) fNoPart)))
    (fSeq (fAsg 11 (fFz (fCB listD (fCons (fVar 10) fNil))))
    (fSeq (fIfS (fOrT (fTst (fOp (isBD true) (fCall f_is_run (fCons (fVar 2) (fCons (fVar 11) fNil))) (fC (.bool false)))) (fOrT (fNotT (fTst (fCall f_l_refused (fCons (fVar 2) (fCons (fVar 11) fNil))))) (fTst (fOp neD (fVar 11) (fVar 10)))))
    (fRet (fC (.bool false)))
    fNext)
    (fIfS (fOrT (fTst (fOp (isBD true) (fCall f_is_run (fCons (fVar 2) (fCons (fSlice (fVar 5) fNoPart (fPart (fVar 9))) fNil))) (fC (.bool true)))) (fTst (fOp neD (fCall f_ran (fCons (fVar 2) (fCons (fSlice (fVar 5) fNoPart (fPart (fVar 9))) fNil))) (fSlice (fVar 6) fNoPart (fPart (fOp addD (fVar 9) (fC (.int 1))))))))
    (fRet (fC (.bool false)))
    fNext))))))
noncomputable def f_law : Fn := runFn 12 1 [0]
    (fSeq (fAsg 1 (fOp modD (fCall f_l_cell (fCons (fVar 0) (fCons (fC (.int 0)) fNil))) (fC (.int 7))))
    (fSeq (fAsg 2 (fCall f_l_program (fCons (fVar 0) (fCons (fC (.int 1)) (fCons (fVar 1) (fCons (fC (.int 36)) fNil))))))
    (fSeq (fAsg 3 (fLst (fCons (fC (.int 1)) fNil)))
    (fSeq (fDrop (fCall (f_l_lay 24) (fCons (fOp ixD (fOp ixD (fVar 2) (fC (.int 1))) (fC (.int 0))) (fCons (fC (.int 0)) (fCons (fOp ixD (fVar 2) (fC (.int 1))) (fCons (fVar 3) fNil))))))
    (fSeq (fAsg 4 (fSlice (fVar 3) (fPart (fC (.int 1))) fNoPart))
    (fSeq (fAsg 5 (fCall f_l_run (fCons (fVar 0) (fCons (fC (.int 26)) (fCons (fVar 4) (fCons (fOp modD (fCall f_l_cell (fCons (fVar 0) (fCons (fC (.int 25)) fNil))) (fC (.int 31))) fNil))))))
    (fSeq (fAsg 6 (fCall f_l_walked (fCons (fVar 1) (fCons (fVar 4) (fCons (fVar 5) fNil)))))
    (fSeq (fFor (fRng (fCons (fC (.int 4)) fNil)) (.nm 7) b1_law)
    (fRet (fAndV (fOp (isBD false) (fCall f_is_run (fCons (fVar 2) (fCons (fCB listD (fCons (fVar 5) fNil)) fNil))) (fC (.bool true))) (fOp eqD (fCall f_ran (fCons (fVar 2) (fCons (fCB listD (fCons (fVar 5) fNil)) fNil))) (fVar 6))))))))))))
theorem comp_of {α : Type} {tg : Tgt} {ft : EvT} {fe : EvF} {own : List Nat} {E : Lo} (f g : α → D) : ∀ (xs : List α) (acc : List D), xs.length + acc.length ≤ 16777216 →
    (∀ x ∈ xs, ∃ e1 r e3, bindT tg (f x) E = some e1 ∧ ft e1 = .ok (true, e1) ∧ fe e1 = .ok (r, e3) ∧ (∃ e4, freezeR e3 r = some (g x, e4) ∧ wipeE e4 own = E)) → compF tg ft fe own (xs.map f) acc E = .ok (acc ++ xs.map g, E)
  | [], acc, _, _ => by simp [compF]
  | x :: xs, acc, hl, h => by
    obtain ⟨e1, r, e3, q1, q2, q3, e4, q4, q5⟩ := h x List.mem_cons_self
    have hl' : xs.length + (acc ++ [g x]).length ≤ 16777216 := by simp at hl ⊢; omega
    have ih := comp_of f g xs (acc ++ [g x]) hl' fun x hx => h x (List.mem_cons_of_mem _ hx)
    show (Res.ofO (bindT tg (f x) E)).bind _ = _
    rw [q1]
    show (ft e1).bind _ = _
    rw [q2]
    show (fe e1).bind _ = _
    rw [q3]
    show (Res.ofO (freezeR e3 r)).bind _ = _
    rw [q4]
    show (if acc.length < 16777216 then compF tg ft fe own (xs.map f) (acc ++ [g x]) (wipeE e4 own) else .bad) = _
    rw [if_pos (by simp at hl; omega), q5, ih]
    simp
theorem comp_step {tg : Tgt} {ft : EvT} {fe : EvF} {own : List Nat} {d x : D} {ds acc : List D} {E e1 e2 e3 e4 : Lo} {r : Sl} (h1 : bindT tg d E = some e1) (h2 : ft e1 = .ok (true, e2)) (h3 : fe e2 = .ok (r, e3)) (h4 : freezeR e3 r = some (x, e4)) (hl : acc.length < 16777216) :
    compF tg ft fe own (d :: ds) acc E = compF tg ft fe own ds (acc ++ [x]) (wipeE e4 own) := by
  show (Res.ofO (bindT tg d E)).bind _ = _
  rw [h1]
  show (ft e1).bind _ = _
  rw [h2]
  show (fe e2).bind _ = _
  rw [h3]
  show (Res.ofO (freezeR e3 r)).bind _ = _
  rw [h4]
  show (if acc.length < 16777216 then compF tg ft fe own ds (acc ++ [x]) (wipeE e4 own) else .bad) = _
  rw [if_pos hl]
theorem comp_skip {tg : Tgt} {ft : EvT} {fe : EvF} {own : List Nat} {d : D} {ds acc : List D} {E e1 e2 : Lo} (h1 : bindT tg d E = some e1) (h2 : ft e1 = .ok (false, e2)) :
    compF tg ft fe own (d :: ds) acc E = compF tg ft fe own ds acc (wipeE e2 own) := by
  show (Res.ofO (bindT tg d E)).bind _ = _
  rw [h1]
  show (ft e1).bind _ = _
  rw [h2]
  rfl
/-! ### cells, lines, deeds -/
theorem sdiv {i j : Int} (h0 : 0 < j) (h : j < 1073741824) : divD (.int i) (.int j) = some (.sh (.int (i / j))) := by
  rw [divD_int (divOk_small (by omega) (by omega)), Int.fdiv_eq_ediv_of_nonneg _ (by omega)]
noncomputable def cellV (ns : List Int) (k : Int) : Int := match f_l_cell [.sc ns, .sh (.int k)] with
  | .ok (.sh (.int c), _) => c
  | _ => 0
theorem cell_ex (ns : List Int) (k : Int) (hk : 0 ≤ k) (hk2 : k < 4611686018427387904) : ∃ c : Int, f_l_cell [.sc ns, .sh (.int k)] = .ok (.sh (.int c), [.sc ns, .sh (.int k)]) := by
  unfold f_l_cell
  rw [run_eq]
  have m1 : mulOk k 7919 = true := mulOk_right (by omega) (by omega)
  have m2 : mulOk k 7 = true := mulOk_right (by omega) (by omega)
  by_cases h : k < (ns.length : Int)
  · have hl : k.toNat < ns.length := by omega
    have e : atI ns k = some ns[k.toNat] := at_int hk (List.getElem?_eq_getElem hl)
    refine ⟨ns[k.toNat], ?_⟩
    simp [h, e, backArgs_eq, List.range_succ]
  · have fin : ∀ z : Int, 0 ≤ z → z < 2147483647 → ∃ c : Int, ∀ a0 a1 : Sl, ((fSeq (fAsg 2 (fOp modD (fOp mulD (fVar 2) (fVar 2)) (fC (.int 2147483629))))
    (fRet (fOp modD (fOp mulD (fOp addD (fVar 2) (fC (.int 11))) (fOp addD (fVar 2) (fC (.int 3)))) (fC (.int 2147483587))))) [a0, a1, .sh (.int z)]).bind (runC [0, 1] 2) = .ok (.sh (.int c), [a0, a1]) := by
      intro z h1 h2
      have m3 : mulOk z z = true := mulOk_left (by omega) (by omega)
      obtain ⟨y, hy⟩ : ∃ y : Int, y = z * z % 2147483629 := ⟨_, rfl⟩
      have m4 : mulOk (y + 11) (y + 3) = true := mulOk_left (by omega) (by omega)
      refine ⟨(y + 11) * (y + 3) % 2147483587, fun a0 a1 => ?_⟩
      simp [mulD_int m3, modD_int, ← hy, mulD_int m4, backArgs_eq, List.range_succ]
    by_cases hn : ns = []
    · subst hn
      obtain ⟨z, hz⟩ : ∃ z : Int, z = (k * 7919 + 5) := ⟨_, rfl⟩
      have m3 : mulOk z z = true := mulOk_log (by
        have e1 : z.natAbs < 2 ^ 80 := by omega
        have := (Nat.log2_lt (n := z.natAbs) (k := 80) (by omega)).mpr e1
        omega)
      obtain ⟨y, hy⟩ : ∃ y : Int, y = z * z % 2147483629 := ⟨_, rfl⟩
      have m4 : mulOk (y + 11) (y + 3) = true := mulOk_left (by omega) (by omega)
      refine ⟨(y + 11) * (y + 3) % 2147483587, ?_⟩
      simp [show ¬ k < 0 by omega, mulD_int m1, ← hz, mulD_int m3, modD_int, ← hy, mulD_int m4, backArgs_eq, List.range_succ]
    · have hl : 0 < ns.length := by cases ns <;> simp_all
      have hp : (0 : Int) < ns.length := by omega
      have hi : (k * 7 % ns.length).toNat < ns.length := by
        have := Int.emod_lt_of_pos (k * 7) hp
        have := Int.emod_nonneg (k * 7) (show (ns.length : Int) ≠ 0 by omega)
        omega
      have e : atI ns (k * 7 % ns.length) = some ns[(k * 7 % ns.length).toNat] := at_int (Int.emod_nonneg _ (by omega)) (List.getElem?_eq_getElem hi)
      obtain ⟨v, hv⟩ : ∃ v : Int, v = ns[(k * 7 % ns.length).toNat] := ⟨_, rfl⟩
      rw [← hv] at e
      have m5 : mulOk v 48271 = true := mulOk_right (by omega) (by omega)
      obtain ⟨z, hz⟩ : ∃ z : Int, z = (v * 48271 + k * 7919) % 2147483647 := ⟨_, rfl⟩
      obtain ⟨c, hc⟩ := fin z (by omega) (by omega)
      refine ⟨c, ?_⟩
      have := hc (.sc ns) (.sh (.int k))
      rw [← this]
      have hp' : 0 < ns.length := hl
      simp only [ev_seq, ev_ifS, ev_tst, ev_op, ev_var, ev_scLen, ev_asg, ev_scIx, ev_c] at this ⊢
      simp [h, mulD_int m1, mulD_int m2, hp', modD_int hp, modD_int, e, mulD_int m5, ← hz]
theorem cell_eq (ns : List Int) (k : Int) (hk : 0 ≤ k) (hk2 : k < 4611686018427387904) : f_l_cell [.sc ns, .sh (.int k)] = .ok (.sh (.int (cellV ns k)), [.sc ns, .sh (.int k)]) := by
  obtain ⟨c, h⟩ := cell_ex ns k hk hk2
  have : cellV ns k = c := by unfold cellV; rw [h]
  rw [this, h]
theorem line_ok (c : Int) (many : Nat) (hm : many ≤ 100) : ∃ l : List Int, f_l_line [.sh (.int c), .sh (.int many)] = .ok (.sh (lineD l), [.sh (.int c), .sh (.int many)]) ∧ LineOk many l := by
  obtain ⟨e', q, l, s3, s4, s5, rfl, hl, hx, hx2⟩ := loop_inv (tg := .nm 3) (b := b1_l_line) (fun i e => ∃ (l : List Int) (s3 s4 s5 : Sl), e = [.sh (.int c), .sh (.int many), .ol (l.map PyData.int), s3, s4, s5] ∧ l.length = i ∧ (∀ x ∈ l, -1000000 < x ∧ x < 1000000) ∧ ∀ x ∈ l.tail, -10 < x ∧ x < 10)
    (rngD 0 (many + 1)) (env := [.sh (.int c), .sh (.int many), .ol [], .no, .no, .no]) ⟨[], .no, .no, .no, rfl, rfl, by simp⟩ (by
      rintro i d _ hd ⟨l, s3, s4, s5, rfl, hl, hx, hx2⟩
      have hi : i < many + 1 := by
        have := (List.getElem?_eq_some_iff.mp hd).1
        simpa [rngD] using this
      have hdv : d = .int i := by
        unfold rngD at hd
        rw [List.getElem?_map, List.getElem?_range hi] at hd
        simp at hd
        exact hd.symm
      subst hdv
      have m1 : mulOk (i : Int) (i : Int) = true := mulOk_left (by omega) (by omega)
      have m2 : mulOk (c / ((i : Int) * i + 3)) 48271 = true := mulOk_right (by omega) (by omega)
      have m3 : mulOk (i : Int) 69621 = true := mulOk_left (by omega) (by omega)
      have hq : (i : Int) * i ≤ 10000 := by
        have h1 : (i : Int) ≤ 100 := by omega
        calc (i : Int) * i ≤ 100 * 100 := Int.mul_le_mul h1 h1 (by omega) (by omega)
          _ = 10000 := by rfl
      have hq0 : 0 ≤ (i : Int) * i := Int.mul_nonneg (by omega) (by omega)
      have d1 := sdiv (i := c) (j := (i : Int) * i + 3) (by omega) (by omega)
      obtain ⟨z, hz⟩ : ∃ z : Int, z = (c / ((i : Int) * i + 3) * 48271 + (i : Int) * 69621) % 2147483647 := ⟨_, rfl⟩
      have : ∃ y : Int, atI [PyData.int 0, .int 1, .int 0, .int (-1), .int 1, .int 2, .int 0, .int 3, .int (-2)] (z % 9) = some (.int y) ∧ -10 < y ∧ y < 10 := by
        have h9 : z % 9 = 0 ∨ z % 9 = 1 ∨ z % 9 = 2 ∨ z % 9 = 3 ∨ z % 9 = 4 ∨ z % 9 = 5 ∨ z % 9 = 6 ∨ z % 9 = 7 ∨ z % 9 = 8 := by omega
        rcases h9 with h | h | h | h | h | h | h | h | h <;> rw [h] <;> exact ⟨_, rfl, by omega, by omega⟩
      obtain ⟨y, ey, hy⟩ := this
      have fin : ∀ x : Int, -1000000 < x ∧ x < 1000000 → (0 < (i : Int) → -10 < x ∧ x < 10) → (∀ w ∈ l ++ [x], -1000000 < w ∧ w < 1000000) ∧ ∀ w ∈ (l ++ [x]).tail, -10 < w ∧ w < 10 := by
        intro x h h2
        refine ⟨fun w hw => ?_, fun w hw => ?_⟩
        · rcases List.mem_append.mp hw with hw | hw
          · exact hx w hw
          · rw [List.mem_singleton] at hw; subst hw; exact h
        · cases l with
          | nil => cases hw
          | cons a l =>
            rcases List.mem_append.mp (show w ∈ l ++ [x] from hw) with hw | hw
            · exact hx2 w hw
            · rw [List.mem_singleton] at hw; subst hw
              exact h2 (by rw [← hl]; simp)
      have hll : l.length < 16777216 := by omega
      by_cases h7 : z / 9 % 60 = 7
      · by_cases h0 : (0 : Int) < i
        · refine ⟨_, [.sh (.int c), .sh (.int many), .ol ((l ++ [(z / 540 % 1999999 - 999999) % 19 - 9]).map PyData.int), .sh (.int i), .sh (.int z), .sh (.int ((z / 540 % 1999999 - 999999) % 19 - 9))], rfl, .inl ?_, _, _, _, _, rfl, by simp [hl], fin _ (by omega) (by omega)⟩
          unfold b1_l_line
          have h0' : 0 < i := by omega
          simp [mulD_int m1, d1, mulD_int m2, mulD_int m3, modD_int, ← hz, ey, sdiv, eqD_ok, eqv_int, h7, h0, h0', hll]
        · refine ⟨_, [.sh (.int c), .sh (.int many), .ol ((l ++ [z / 540 % 1999999 - 999999]).map PyData.int), .sh (.int i), .sh (.int z), .sh (.int (z / 540 % 1999999 - 999999))], rfl, .inl ?_, _, _, _, _, rfl, by simp [hl], fin _ (by omega) (by omega)⟩
          unfold b1_l_line
          have h0' : ¬ 0 < i := by omega
          simp [mulD_int m1, d1, mulD_int m2, mulD_int m3, modD_int, ← hz, ey, sdiv, eqD_ok, eqv_int, h7, h0, h0', hll]
      · refine ⟨_, [.sh (.int c), .sh (.int many), .ol ((l ++ [y]).map PyData.int), .sh (.int i), .sh (.int z), .sh (.int y)], rfl, .inl ?_, _, _, _, _, rfl, by simp [hl], fin _ (by omega) (fun _ => hy)⟩
        unfold b1_l_line
        have h7' : (z / 9 % 60 == 7) = false := by simpa using h7
        simp [mulD_int m1, d1, mulD_int m2, mulD_int m3, modD_int, ← hz, ey, sdiv, eqD_ok, eqv_int, h7', hll])
  have hl : l.length = many + 1 := by rw [hl]; simp [rngD]
  refine ⟨l, ?_, hl, hx, hx2⟩
  unfold f_l_line
  rw [run_eq]
  simp [show (-4611686018427387904 : Int) ≤ (many : Int) + 1 by omega, show (many : Int) + 1 < 4611686018427387904 by omega, show ((many : Int) + 1).toNat = many + 1 by omega]
  rw [q]
  simp [backArgs_eq, List.range_succ, lineD]
def pairD (p : Nat × Nat) : D := .tuple [.int p.1, .int p.2]
theorem shaped_lay {k : Nat} {d : D} (h : Lay k d) (hk : k ≤ 64 := by decide) : shapedD d = true := h.shaped hk
theorem lay_pairs (ls : List (Nat × Nat)) : Lay 2 (.list (ls.map pairD)) := by
  refine Lay.list fun d hd => ?_
  obtain ⟨p, _, rfl⟩ := List.mem_map.mp hd
  refine Lay.tuple fun d hd => ?_
  simp only [List.mem_cons, List.not_mem_nil, or_false] at hd
  rcases hd with rfl | rfl <;> exact .int _
theorem eqv_nil (ds : List D) : PyData.eqv (.list ds) (.list []) = ds.isEmpty := by
  cases ds <;> simp [PyData.eqv, PyData.eqvAll]
/-- what a deed is -/
def DeedIs (many : Nat) (ls : List (Nat × Nat)) (x : Sl) : Prop := x = .ow .ei ∨ x = .ow .lo ∨ (∃ p : Pl, x = .sh p.d ∧ PlOk many p) ∨ ∃ q ∈ ls, x = .sh (.tuple [.str sCall, .int q.1])
theorem bf {a b : Int} (h : ¬ a = b) : (a == b) = false := by simpa using h
/-- a deed that is no call -/
theorem deed_plain (c : Int) (many : Nat) (hm : many ≤ 100) (ls : List (Nat × Nat)) (hls : ls.length ≤ 100) (hc : ¬ (10 < c / 8 % 13 ∧ ls ≠ [])) : ∃ x, f_l_deed [.sh (.int c), .sh (.int many), .ol (ls.map pairD)] = .ok (x, [.sh (.int c), .sh (.int many), .ol (ls.map pairD)]) ∧ DeedIs many ls x := by
  obtain ⟨ln, hln, hlo⟩ := line_ok (c / 13) many hm
  have sh1 := shaped_lay (lay_pairs ls)
  have sh2 : shapedD (.list []) = true := rfl
  have d8 := sdiv (i := c) (j := 8) (by omega) (by omega)
  have d104 := sdiv (i := c) (j := 104) (by omega) (by omega)
  have d13 := sdiv (i := c) (j := 13) (by omega) (by omega)
  -- the rest of the def, behind the kind
  obtain ⟨k, hk⟩ : ∃ k : Int, c / 8 % 13 = k := ⟨_, rfl⟩
  rw [hk] at hc
  have first : ∀ (g : EvS), (fSeq (fIfS (fAndT (fTst (fOp gtD (fVar 3) (fC (.int 10)))) (fTst (fOp neD (fVar 2) (fLst fNil))))
    (fRet (fOp ixD (fLcB 2 (.nm 5) fYes e1_l_deed [5]) (fOp modD (fOp divD (fVar 0) (fC (.int 104))) (fCB lenD (fCons (fVar 2) fNil)))))
    fNext) g) [.sh (.int c), .sh (.int many), .ol (ls.map pairD), .sh (.int k), .no, .no] = g [.sh (.int c), .sh (.int many), .ol (ls.map pairD), .sh (.int k), .no, .no] := by
    intro g
    by_cases h10 : 10 < k
    · have hl : ls = [] := Decidable.byContradiction fun z => hc ⟨h10, z⟩
      subst hl
      simp [h10, neD_ok sh2 sh2, eqv_nil]
    · simp [h10]
  have hk13 : k = 0 ∨ k = 1 ∨ k = 2 ∨ k = 3 ∨ k = 4 ∨ k = 5 ∨ k = 6 ∨ k = 7 ∨ k = 8 ∨ k = 9 ∨ k = 10 ∨ k = 11 ∨ k = 12 := by omega
  have go : ∀ (g : EvS) (R : Res (Sl × List Sl)), ((g [.sh (.int c), .sh (.int many), .ol (ls.map pairD), .sh (.int k), .no, .no]).bind (runC [0, 1, 2] 3) = R) → ((fSeq (fAsg 3 (fOp modD (fOp divD (fVar 0) (fC (.int 8))) (fC (.int 13)))) (fSeq (fIfS (fAndT (fTst (fOp gtD (fVar 3) (fC (.int 10)))) (fTst (fOp neD (fVar 2) (fLst fNil))))
    (fRet (fOp ixD (fLcB 2 (.nm 5) fYes e1_l_deed [5]) (fOp modD (fOp divD (fVar 0) (fC (.int 104))) (fCB lenD (fCons (fVar 2) fNil)))))
    fNext) g)) [.sh (.int c), .sh (.int many), .ol (ls.map pairD), .no, .no, .no]).bind (runC [0, 1, 2] 3) = R := by
    intro g R h
    rw [← h, ev_seq]
    have e1 : fAsg 3 (fOp modD (fOp divD (fVar 0) (fC (.int 8))) (fC (.int 13))) [.sh (.int c), .sh (.int many), .ol (ls.map pairD), .no, .no, .no] = .ok (.nx [.sh (.int c), .sh (.int many), .ol (ls.map pairD), .sh (.int k), .no, .no]) := by
      simp [d8, modD_int, hk]
    rw [e1]
    show ((fSeq _ g) _).bind _ = _
    rw [first]
  have ret : ∀ x : Sl, (retR [.sh (.int c), .sh (.int many), .ol (ls.map pairD), .sh (.int k), .no, .no] x = some (x, [.sh (.int c), .sh (.int many), .ol (ls.map pairD), .sh (.int k), .no, .no])) → True := fun _ _ => trivial
  unfold f_l_deed
  rw [run_eq]
  by_cases h8 : k = 8
  · refine ⟨.ow .ei, go _ _ ?_, .inl rfl⟩
    subst h8
    simp [eqD_ok, eqv_int, backArgs_eq, List.range_succ]
  by_cases h9 : k = 9
  · refine ⟨.ow .lo, go _ _ ?_, .inr (.inl rfl)⟩
    subst h9
    simp [eqD_ok, eqv_int, backArgs_eq, List.range_succ]
  by_cases h10 : k = 10 ∧ c / 104 % 3 = 0
  · refine ⟨.sh Pl.halt.d, go _ _ ?_, .inr (.inr (.inl ⟨.halt, rfl, trivial⟩))⟩
    obtain ⟨rfl, h3⟩ := h10
    simp [eqD_ok, eqv_int, d104, modD_int, h3, backArgs_eq, List.range_succ]
    rfl
  have t10 : ∀ (a b : EvS) (env : Lo), env = [.sh (.int c), .sh (.int many), .ol (ls.map pairD), .sh (.int k), .no, .no] → fIfS (fAndT (fTst (fOp eqD (fVar 3) (fC (.int 10)))) (fTst (fOp eqD (fOp modD (fOp divD (fVar 0) (fC (.int 104))) (fC (.int 3))) (fC (.int 0))))) a b env = b env := by
    intro a b env he
    subst he
    by_cases hk10 : k = 10
    · have h3 : ¬ c / 104 % 3 = 0 := fun z => h10 ⟨hk10, z⟩
      subst hk10
      simp [eqD_ok, eqv_int, d104, modD_int, bf h3]
    · simp [eqD_ok, eqv_int, bf hk10]
  by_cases h7 : k = 7 ∨ many = 0
  · refine ⟨.sh Pl.skip.d, go _ _ ?_, .inr (.inr (.inl ⟨.skip, rfl, trivial⟩))⟩
    rw [ev_seq]
    simp only [ev_ifS, ev_tst, ev_op, ev_var, ev_c]
    simp [eqD_ok, eqv_int, bf h8, bf h9, -ev_andT]
    rw [show ∀ e : Lo, (fAndT (fTst (fOp eqD (fVar 3) (fC (.int 10)))) (fTst (fOp eqD (fOp modD (fOp divD (fVar 0) (fC (.int 104))) (fC (.int 3))) (fC (.int 0))))) e = (fAndT (fTst (fOp eqD (fVar 3) (fC (.int 10)))) (fTst (fOp eqD (fOp modD (fOp divD (fVar 0) (fC (.int 104))) (fC (.int 3))) (fC (.int 0))))) e from fun _ => rfl]
    rcases h7 with h7 | h7
    · subst h7
      simp [eqD_ok, eqv_int, backArgs_eq, List.range_succ]
      rfl
    · subst h7
      by_cases hk10 : k = 10
      · have h3 : ¬ c / 104 % 3 = 0 := fun z => h10 ⟨hk10, z⟩
        subst hk10
        simp [eqD_ok, eqv_int, d104, modD_int, bf h3, backArgs_eq, List.range_succ]
        rfl
      · by_cases hk7 : k = 7
        · subst hk7
          simp [eqD_ok, eqv_int, backArgs_eq, List.range_succ]
          rfl
        · simp [eqD_ok, eqv_int, bf hk10, bf hk7, backArgs_eq, List.range_succ]
          rfl
  have h7k : ¬ k = 7 := fun z => h7 (.inl z)
  have h0 : ¬ many = 0 := fun z => h7 (.inr z)
  have h0' : ¬ (many : Int) = 0 := by omega
  have mp : (0 : Int) < many := by omega
  have mp' : 0 < many := by omega
  obtain ⟨b, hb⟩ : ∃ b : Int, b = c / 104 % many := ⟨_, rfl⟩
  have b1 : 0 ≤ b := by rw [hb]; exact Int.emod_nonneg _ (by omega)
  have b2 : b < many := by rw [hb]; exact Int.emod_lt_of_pos _ mp
  by_cases ht : 4 < k ∧ k < 7
  · refine ⟨.sh (Pl.take b).d, go _ _ ?_, .inr (.inr (.inl ⟨.take b, rfl, b1, b2⟩))⟩
    have hk10 : ¬ k = 10 := by omega
    simp [eqD_ok, eqv_int, bf h8, bf h9, bf hk10, bf h7k, bf h0', d104, modD_int mp, mp', ← hb, ht, backArgs_eq, List.range_succ]
    rfl
  · refine ⟨.sh (Pl.set b ln).d, go _ _ ?_, .inr (.inr (.inl ⟨.set b ln, rfl, b1, b2, hlo⟩))⟩
    have ht' : (decide (4 < k) && decide (k < 7)) = false := by
      by_cases h4 : 4 < k
      · have : ¬ k < 7 := fun z => ht ⟨h4, z⟩
        simp [this]
      · simp [h4]
    by_cases hk10 : k = 10
    · have h3 : ¬ c / 104 % 3 = 0 := fun z => h10 ⟨hk10, z⟩
      subst hk10
      simp [eqD_ok, eqv_int, bf h3, bf h0', d104, modD_int mp, modD_int, mp', ← hb, d13, hln, backArgs_eq, List.range_succ]
      rfl
    · by_cases h4 : 4 < k
      · have h7' : ¬ k < 7 := fun z => ht ⟨h4, z⟩
        simp [eqD_ok, eqv_int, bf h8, bf h9, bf hk10, bf h7k, bf h0', d104, modD_int mp, mp', ← hb, h4, h7', d13, hln, backArgs_eq, List.range_succ]
        rfl
      · simp [eqD_ok, eqv_int, bf h8, bf h9, bf hk10, bf h7k, bf h0', d104, modD_int mp, mp', ← hb, h4, d13, hln, backArgs_eq, List.range_succ]
        rfl
theorem deed_ok (c : Int) (many : Nat) (hm : many ≤ 100) (ls : List (Nat × Nat)) (hls : ls.length ≤ 100) : ∃ x, f_l_deed [.sh (.int c), .sh (.int many), .ol (ls.map pairD)] = .ok (x, [.sh (.int c), .sh (.int many), .ol (ls.map pairD)]) ∧ DeedIs many ls x := by
  by_cases hc : 10 < c / 8 % 13 ∧ ls ≠ []
  · obtain ⟨k, hk⟩ : ∃ k : Int, k = c / 8 % 13 := ⟨_, rfl⟩
    rw [← hk] at hc
    have sh1 := shaped_lay (lay_pairs ls)
    have sh2 : shapedD (.list []) = true := rfl
    have d8 := sdiv (i := c) (j := 8) (by omega) (by omega)
    have d104 := sdiv (i := c) (j := 104) (by omega) (by omega)
    obtain ⟨h1, h2⟩ := hc
    have hl : 0 < ls.length := by cases ls <;> simp_all
    have hp : (0 : Int) < ls.length := by omega
    have hi : (c / 104 % ls.length).toNat < ls.length := by
      have := Int.emod_lt_of_pos (c / 104) hp
      have := Int.emod_nonneg (c / 104) (show (ls.length : Int) ≠ 0 by omega)
      omega
    obtain ⟨q, hq⟩ : ∃ q, q = ls[(c / 104 % ls.length).toNat] := ⟨_, rfl⟩
    have e : atI (ls.map fun q => PyData.tuple [.str sCall, .int q.1]) (c / 104 % ls.length) = some (.tuple [.str sCall, .int q.1]) := at_int (Int.emod_nonneg _ (by omega)) (by rw [List.getElem?_map, List.getElem?_eq_getElem hi, hq]; rfl)
    have cc := comp_of (tg := .nm 5) (ft := fYes) (fe := e1_l_deed) (own := [5]) (E := [.sh (.int c), .sh (.int many), .no, .sh (.int k), .no, .no]) pairD (fun q => PyData.tuple [.str sCall, .int q.1]) ls [] (by simp; omega) (fun p hp => by
      have g0 : atI [PyData.int p.1, .int p.2] 0 = some (.int p.1) := rfl
      refine ⟨_, .sh (.tuple [.str sCall, .int p.1]), [.sh (.int c), .sh (.int many), .no, .sh (.int k), .no, .sh (pairD p)], rfl, rfl, ?_, _, rfl, rfl⟩
      unfold e1_l_deed pairD
      simp [g0]
      rfl)
    refine ⟨.sh (.tuple [.str sCall, .int q.1]), ?_, .inr (.inr (.inr ⟨q, by rw [hq]; exact List.getElem_mem hi, rfl⟩))⟩
    have emp : (ls.map pairD).isEmpty = false := by cases ls <;> simp_all
    unfold f_l_deed
    rw [run_eq]
    simp [d8, modD_int, ← hk, h1, neD_ok sh1 sh2, eqv_nil, emp, h2]
    rw [cc]
    simp [d104, modD_int hp, modD_int, hl, e, backArgs_eq, List.range_succ]
  · exact deed_plain c many hm ls hls hc
/-! ### the rows of a body -/
theorem loopB_inv {tg : Tgt} {f : EvB} (Iv : Nat → Lo → BSt → Prop) (ds : List D) {env : Lo} {b : BSt} (h0 : Iv 0 env b) (hs : ∀ i d e b, ds[i]? = some d → Iv i e b → ∃ e1 e2 b2, bindT tg d e = some e1 ∧ f b e1 = .ok (.nx e2, b2) ∧ Iv (i + 1) e2 b2) :
    ∃ e' b', loopB tg f ds b env = .ok (.nx e', b') ∧ Iv ds.length e' b' := by
  have key : ∀ (ds : List D) (k : Nat) (env : Lo) (b : BSt), Iv k env b → (∀ i d e b, ds[i]? = some d → Iv (k + i) e b → ∃ e1 e2 b2, bindT tg d e = some e1 ∧ f b e1 = .ok (.nx e2, b2) ∧ Iv (k + i + 1) e2 b2) → ∃ e' b', loopB tg f ds b env = .ok (.nx e', b') ∧ Iv (k + ds.length) e' b' := by
    intro ds
    induction ds with
    | nil => intro k env b h _; exact ⟨env, b, rfl, h⟩
    | cons d ds ih =>
      intro k env b h hs
      obtain ⟨e1, e2, b2, q1, q2, q3⟩ := hs 0 d env b rfl h
      obtain ⟨e', b', r1, r2⟩ := ih (k + 1) e2 b2 q3 fun i d e b hd hi => by
        have := hs (i + 1) d e b (by simpa using hd) (by rw [show k + (i + 1) = k + 1 + i by omega]; exact hi)
        rw [show k + (i + 1) + 1 = k + 1 + i + 1 by omega] at this
        exact this
      refine ⟨e', b', ?_, by rw [List.length_cons, show k + (ds.length + 1) = k + 1 + ds.length by omega]; exact r2⟩
      show (Res.ofO (bindT tg d env)).bind _ = _
      rw [q1]
      show (f b e1).bind _ = _
      rw [q2]
      exact r1
  have := key ds 0 env b h0 (fun i d e b hd hi => by rw [Nat.zero_add] at hi ⊢; exact hs i d e b hd hi)
  rw [Nat.zero_add] at this
  exact this
/-- a comprehension that picks, over a list of any kind -/
theorem comp_pick {α : Type} {tg : Tgt} {ft : EvT} {fe : EvF} {own : List Nat} {E : Lo} (f : α → D) (p : α → Bool) (g : α → D) : ∀ (xs : List α) (acc : List D), xs.length + acc.length ≤ 16777216 →
    (∀ x ∈ xs, ∃ e1, bindT tg (f x) E = some e1 ∧ ft e1 = .ok (p x, e1) ∧ (p x = true → fe e1 = .ok (.sh (g x), e1)) ∧ wipeE e1 own = E) → compF tg ft fe own (xs.map f) acc E = .ok (acc ++ (xs.filter p).map g, E)
  | [], acc, _, _ => by simp [compF]
  | x :: xs, acc, hl, h => by
    obtain ⟨e1, q1, q2, q3, q4⟩ := h x List.mem_cons_self
    rw [List.length_cons] at hl
    by_cases hp : p x = true
    · have ih := comp_pick (tg := tg) (ft := ft) (fe := fe) (own := own) (E := E) f p g xs (acc ++ [g x]) (by simp; omega) fun y hy => h y (List.mem_cons_of_mem _ hy)
      show (Res.ofO (bindT tg (f x) E)).bind _ = _
      rw [q1]
      show (ft e1).bind _ = _
      rw [q2, hp]
      show (fe e1).bind _ = _
      rw [q3 hp]
      show (if acc.length < 16777216 then compF tg ft fe own (xs.map f) (acc ++ [g x]) (wipeE e1 own) else .bad) = _
      rw [if_pos (by omega), q4, ih, List.filter_cons_of_pos hp]
      simp
    · have ih := comp_pick (tg := tg) (ft := ft) (fe := fe) (own := own) (E := E) f p g xs acc (by omega) fun y hy => h y (List.mem_cons_of_mem _ hy)
      have hp : p x = false := by simpa using hp
      show (Res.ofO (bindT tg (f x) E)).bind _ = _
      rw [q1]
      show (ft e1).bind _ = _
      rw [q2, hp]
      show compF tg ft fe own (xs.map f) acc (wipeE e1 own) = _
      rw [q4, ih, List.filter_cons_of_neg (by rw [hp]; decide)]
theorem eqv_str (a b : Str) : PyData.eqv (.str a) (.str b) = (a == b) := by simp [PyData.eqv]
theorem shW : shapedD (.str sSet) = true ∧ shapedD (.str sTake) = true ∧ shapedD (.str sSkip) = true ∧ shapedD (.str sHalt) = true ∧ shapedD (.str sCall) = true ∧ shapedD (.str sEither) = true ∧ shapedD (.str sLoop) = true := ⟨by decide +kernel, by decide +kernel, by decide +kernel, by decide +kernel, by decide +kernel, by decide +kernel, by decide +kernel⟩
/-- the words of rows -/
def IsWord (z : Str) : Prop := z = sSet ∨ z = sTake ∨ z = sSkip ∨ z = sHalt ∨ z = sCall ∨ z = sEither ∨ z = sLoop
theorem IsWord.sh {z : Str} (h : IsWord z) : shapedD (.str z) = true := by
  obtain ⟨a, b, c, d, e, f, g⟩ := shW
  rcases h with rfl | rfl | rfl | rfl | rfl | rfl | rfl <;> assumption
theorem eqW {a b : Str} (ha : IsWord a) (hb : IsWord b) : eqD (.str a) (.str b) = some (.sh (.bool (a == b))) := by rw [eqD_ok ha.sh hb.sh, eqv_str]
theorem neW {a b : Str} (ha : IsWord a) (hb : IsWord b) : neD (.str a) (.str b) = some (.sh (.bool (!(a == b)))) := by rw [neD_ok ha.sh hb.sh, eqv_str]
theorem wCall : IsWord sCall := .inr (.inr (.inr (.inr (.inl rfl))))
theorem wEi : IsWord sEither := .inr (.inr (.inr (.inr (.inr (.inl rfl)))))
theorem wLo : IsWord sLoop := .inr (.inr (.inr (.inr (.inr (.inr rfl)))))
/-- the word of a deed -/
def deedW : Sl → Str
  | .ow .ei => sEither
  | .ow .lo => sLoop
  | .sh (.tuple (.str z :: _)) => z
  | _ => sSkip
theorem deed_row0 {many : Nat} {ls : List (Nat × Nat)} {x : Sl} (h : DeedIs many ls x) (env : Lo) : row0C env (some x) = .ok (.sh (.str (deedW x)), env) ∧ IsWord (deedW x) := by
  rcases h with rfl | rfl | ⟨p, rfl, _⟩ | ⟨q, _, rfl⟩
  · exact ⟨rfl, wEi⟩
  · exact ⟨rfl, wLo⟩
  · cases p with
    | set b l => exact ⟨rfl, .inl rfl⟩
    | take b => exact ⟨rfl, .inr (.inl rfl)⟩
    | skip => exact ⟨rfl, .inr (.inr (.inl rfl))⟩
    | halt => exact ⟨rfl, .inr (.inr (.inr (.inl rfl)))⟩
  · exact ⟨rfl, wCall⟩
/-- what a deed costs -/
def costOf (ls : List (Nat × Nat)) : Sl → Nat
  | .sh (.tuple [.str z, .int k]) => if z = sCall then ((ls.filter fun p => (p.1 : Int) == k).map (·.2)).sum else 1
  | _ => 1
theorem costOf_two (ls : List (Nat × Nat)) (z : Str) (k : Int) : costOf ls (.sh (.tuple [.str z, .int k])) = if z = sCall then ((ls.filter fun p => (p.1 : Int) == k).map (·.2)).sum else 1 := rfl
theorem cost_call (ls : List (Nat × Nat)) (hnd : (ls.map (·.1)).Nodup) (q : Nat × Nat) (hq : q ∈ ls) : ((ls.filter fun p => (p.1 : Int) == (q.1 : Int)).map (·.2)).sum = q.2 := by
  induction ls with
  | nil => cases hq
  | cons p ls ih =>
    rw [List.map_cons, List.nodup_cons] at hnd
    rcases List.mem_cons.mp hq with rfl | hq
    · have : (ls.filter fun p => (p.1 : Int) == (q.1 : Int)) = [] := by
        rw [List.filter_eq_nil_iff]
        intro a ha z
        refine hnd.1 ?_
        have z : (a.1 : Int) = (q.1 : Int) := by simpa using z
        have : a.1 = q.1 := by omega
        rw [← this]
        exact List.mem_map_of_mem ha
      simp [this]
    · have hne : ((p.1 : Int) == (q.1 : Int)) = false := by
        have : p.1 ≠ q.1 := fun z => hnd.1 (by rw [z]; exact List.mem_map_of_mem hq)
        simp; omega
      rw [List.filter_cons_of_neg (by rw [hne]; decide)]
      exact ih hnd.2 hq
theorem intsum (ls : List Nat) : (ls.map fun (n : Nat) => (n : Int)).sum = (ls.sum : Nat) := by
  induction ls with
  | nil => rfl
  | cons n ls ih => simp [ih]
/-- the cost, as the def sums it up -/
theorem cost_comp {many : Nat} {ls : List (Nat × Nat)} {x : Sl} (h : DeedIs many ls x) (hls : ls.length ≤ 100) (a0 a1 a3 a4 a7 a8 a10 a12 : Sl) :
    ∃ ks : List Int, compF (.nm 11) t1_l_body e2_l_body [11] (ls.map pairD) [] [a0, a1, .no, a3, a4, .no, .no, a7, a8, x, a10, .no, a12] = .ok (ks.map PyData.int, [a0, a1, .no, a3, a4, .no, .no, a7, a8, x, a10, .no, a12]) ∧ ks.sum + (if (!(deedW x == sCall)) = true then 1 else 0) = (costOf ls x : Int) := by
  obtain ⟨r0, wx⟩ := deed_row0 h [a0, a1, .no, a3, a4, .no, .no, a7, a8, x, a10, .no, a12]
  have none : (deedW x == sCall) = false → compF (.nm 11) t1_l_body e2_l_body [11] (ls.map pairD) [] [a0, a1, .no, a3, a4, .no, .no, a7, a8, x, a10, .no, a12] = .ok ([], [a0, a1, .no, a3, a4, .no, .no, a7, a8, x, a10, .no, a12]) := by
    intro hw
    refine comp_none _ _ fun d hd => ⟨[a0, a1, .no, a3, a4, .no, .no, a7, a8, x, a10, .sh d, a12], [a0, a1, .no, a3, a4, .no, .no, a7, a8, x, a10, .sh d, a12], rfl, ?_, rfl⟩
    obtain ⟨r1, _⟩ := deed_row0 h [a0, a1, .no, a3, a4, .no, .no, a7, a8, x, a10, .sh d, a12]
    unfold t1_l_body
    have := eqW wx wCall
    simp [r1]
    rw [show Str.ofString "call" = sCall from rfl, this]
    simp [hw]
  rcases h with rfl | rfl | ⟨p, rfl, hp⟩ | ⟨q, hq, rfl⟩
  · exact ⟨[], none (by decide +kernel), by show (0 : Int) + (if (!(sEither == sCall)) = true then 1 else 0) = 1; rw [show (sEither == sCall) = false from by decide +kernel]; rfl⟩
  · exact ⟨[], none (by decide +kernel), by show (0 : Int) + (if (!(sLoop == sCall)) = true then 1 else 0) = 1; rw [show (sLoop == sCall) = false from by decide +kernel]; rfl⟩
  · have hw : (deedW (.sh p.d) == sCall) = false := by
      cases p with
      | set b l => show (sSet == sCall) = false; decide +kernel
      | take b => show (sTake == sCall) = false; decide +kernel
      | skip => show (sSkip == sCall) = false; decide +kernel
      | halt => show (sHalt == sCall) = false; decide +kernel
    refine ⟨[], none hw, ?_⟩
    rw [hw]
    cases p with
    | set b l => rfl
    | take b =>
      have e : costOf ls (.sh (Pl.take b).d) = 1 := by rw [show (Pl.take b).d = .tuple [.str sTake, .int b] from rfl, costOf_two]; exact if_neg (by decide +kernel)
      rw [e]
      rfl
    | skip => rfl
    | halt => rfl
  · refine ⟨((ls.filter fun p => (p.1 : Int) == (q.1 : Int)).map (·.2)).map fun (n : Nat) => (n : Int), ?_, ?_⟩
    · have := comp_pick (tg := .nm 11) (ft := t1_l_body) (fe := e2_l_body) (own := [11]) (E := [a0, a1, .no, a3, a4, .no, .no, a7, a8, .sh (.tuple [.str sCall, .int q.1]), a10, .no, a12]) pairD (fun p : Nat × Nat => (p.1 : Int) == (q.1 : Int)) (fun p => .int p.2) ls [] (by simp; omega) (fun p hp => by
        refine ⟨[a0, a1, .no, a3, a4, .no, .no, a7, a8, .sh (.tuple [.str sCall, .int q.1]), a10, .sh (pairD p), a12], rfl, ?_, fun _ => ?_, rfl⟩
        · unfold t1_l_body pairD
          have g0 : atI [PyData.int p.1, .int p.2] 0 = some (.int p.1) := rfl
          have g1 : atI [PyData.str sCall, .int q.1] 1 = some (.int q.1) := rfl
          have := eqW wCall wCall
          simp
          rw [show Str.ofString "call" = sCall from rfl, this]
          simp [g0, g1, eqD_ok, eqv_int]
        · unfold e2_l_body pairD
          have g1 : atI [PyData.int p.1, .int p.2] 1 = some (.int p.2) := rfl
          simp [g1])
      rw [this]
      simp
    · rw [intsum]
      show _ + (if (!(sCall == sCall)) = true then (1 : Int) else 0) = ((if sCall = sCall then ((ls.filter fun p => (p.1 : Int) == (q.1 : Int)).map (·.2)).sum else 1 : Nat) : Int)
      rw [if_pos rfl, show (sCall == sCall) = true from by decide +kernel]
      simp

theorem DeedIs.asg {many : Nat} {ls : List (Nat × Nat)} {x : Sl} (h : DeedIs many ls x) (env : Lo) : asgR env x = some (x, env) := by
  rcases h with rfl | rfl | ⟨p, rfl, _⟩ | ⟨q, _, rfl⟩ <;> rfl
theorem DeedIs.cal {many : Nat} {ls : List (Nat × Nat)} {x : Sl} (h : DeedIs many ls x) (e2 : Lo) (rs as : List Sl) : callC2 e2 rs (x, as) = .ok (x, moveBack e2 rs as) := by
  rcases h with rfl | rfl | ⟨p, rfl, _⟩ | ⟨q, _, rfl⟩ <;> rfl
/-- a deed is put to the rows -/
theorem body_put (many : Nat) (ls : List (Nat × Nat)) (N : Nat) (hN : N ≤ 20) (dp : Int) (hdp : dp = N + 1) (lk : Look) (dB vB n used : Nat) (hnd : (ls.map (·.1)).Nodup) (hlk : ∀ p ∈ ls, ∃ R, lk p.1 = some R ∧ ROk many lk dB (vB + 1) p.2 R) (hn : n ≤ 30) (b : BSt) (hb : StOk many lk N dB vB n b used) (hbl : b.1.length ≤ n) {x : Sl} (dx : DeedIs many ls x) (a0 a1 a2 a4 a5 a6 a7 a8 a10 a11 a12 : Sl) :
    ∃ s9 b2, fbPut 9 3 12 b [a0, a1, a2, .sh (.int dp), a4, a5, a6, a7, a8, x, a10, a11, a12] = .ok (.nx [a0, a1, a2, .sh (.int dp), a4, a5, a6, a7, a8, s9, a10, a11, a12], b2) ∧ StOk many lk N dB vB (n + 1) b2 (used + costOf ls x) ∧ b2.1.length ≤ n + 1 := by
  have hdeep := hb.deep
  have hl1 : b.1.length < 16777215 := by omega
  have hl2 : b.2.length < 16777214 := by omega
  rcases dx with rfl | rfl | ⟨p, rfl, hp⟩ | ⟨q, hq, rfl⟩
  · by_cases h : b.2.length < N
    · refine ⟨.no, ([], .e1 b.1 :: b.2), ?_, hb.eiGo h, Nat.zero_le _⟩
      show fbPutC 9 12 dp b _ (some (.ow .ei)) = _
      rw [bputC_ei]
      rw [if_pos ⟨hl1, hl2, by show 12 < 13; omega⟩, if_pos (by omega)]
      rfl
    · refine ⟨.no, (b.1 ++ [eitherD [] []], b.2), ?_, hb.eiStay, by simp; omega⟩
      show fbPutC 9 12 dp b _ (some (.ow .ei)) = _
      rw [bputC_ei]
      rw [if_pos ⟨hl1, hl2, by show 12 < 13; omega⟩, if_neg (by omega)]
      rfl
  · by_cases h : b.2.length < N
    · refine ⟨.no, ([], .lp b.1 :: b.2), ?_, hb.loGo h, Nat.zero_le _⟩
      show fbPutC 9 12 dp b _ (some (.ow .lo)) = _
      rw [bputC_lo]
      rw [if_pos ⟨hl1, hl2, by show 12 < 13; omega⟩, if_pos (by omega)]
      rfl
    · refine ⟨.no, (b.1 ++ [loopD []], b.2), ?_, hb.loStay, by simp; omega⟩
      show fbPutC 9 12 dp b _ (some (.ow .lo)) = _
      rw [bputC_lo]
      rw [if_pos ⟨hl1, hl2, by show 12 < 13; omega⟩, if_neg (by omega)]
      rfl
  · have e : costOf ls (.sh p.d) = 1 := by
      cases p with
      | set b l => rfl
      | take b => rw [show (Pl.take b).d = .tuple [.str sTake, .int b] from rfl, costOf_two]; exact if_neg (by decide +kernel)
      | skip => rfl
      | halt => rfl
    rw [e]
    refine ⟨.sh p.d, (b.1 ++ [p.d], b.2), ?_, hb.plain hp, by simp; omega⟩
    have key : ∀ (z : Str) (ds : List D), p.d = .tuple (.str z :: ds) → z ≠ sEither ∧ z ≠ sLoop → fbPut 9 3 12 b [a0, a1, a2, .sh (.int dp), a4, a5, a6, a7, a8, .sh p.d, a10, a11, a12] = .ok (.nx [a0, a1, a2, .sh (.int dp), a4, a5, a6, a7, a8, .sh p.d, a10, a11, a12], (b.1 ++ [p.d], b.2)) := by
      intro z ds hz hne
      rw [hz]
      show fbPutC 9 12 dp b _ (some (.sh (.tuple (.str z :: ds)))) = _
      rw [bputC_sh]
      rw [if_pos ⟨hne.1, hne.2, hl1, by show 12 < 13; omega⟩]
    cases p with
    | set b l => exact key sSet _ rfl ⟨by decide +kernel, by decide +kernel⟩
    | take b => exact key sTake _ rfl ⟨by decide +kernel, by decide +kernel⟩
    | skip => exact key sSkip _ rfl ⟨by decide +kernel, by decide +kernel⟩
    | halt => exact key sHalt _ rfl ⟨by decide +kernel, by decide +kernel⟩
  · have e : costOf ls (.sh (.tuple [.str sCall, .int q.1])) = q.2 := by
      show (if sCall = sCall then ((ls.filter fun p => (p.1 : Int) == (q.1 : Int)).map (·.2)).sum else 1) = q.2
      rw [if_pos rfl, cost_call ls hnd q hq]
    rw [e]
    obtain ⟨R, h1, h2⟩ := hlk q hq
    refine ⟨.sh (.tuple [.str sCall, .int q.1]), (b.1 ++ [.tuple [.str sCall, .int q.1]], b.2), ?_, hb.call h1 h2, by simp; omega⟩
    show fbPutC 9 12 dp b _ (some (.sh (.tuple (.str sCall :: [.int q.1])))) = _
    rw [bputC_sh]
    rw [if_pos ⟨by decide +kernel, by decide +kernel, hl1, by show 12 < 13; omega⟩]
/-- one cell -/
theorem body_turn (c : Int) (many : Nat) (hm : many ≤ 100) (ls : List (Nat × Nat)) (hls : ls.length ≤ 100) (N most : Nat) (hN : N ≤ 20) (dp : Int) (hdp : dp = N + 1) (lk : Look) (dB vB n used : Nat) (hnd : (ls.map (·.1)).Nodup) (hlk : ∀ p ∈ ls, ∃ R, lk p.1 = some R ∧ ROk many lk dB (vB + 1) p.2 R) (hn : n ≤ 30) (b : BSt) (hb : StOk many lk N dB vB n b used) (hbl : b.1.length ≤ n) (hus : used ≤ most) (a0 a9 a10 a11 a12 : Sl) :
    ∃ s9 s10 s11 s12, ∃ used' b2, b3_l_body b [a0, .sh (.int many), .ol (ls.map pairD), .sh (.int dp), .sh (.int most), .no, .no, .sh (.int used), .sh (.int c), a9, a10, a11, a12] = .ok (.nx [a0, .sh (.int many), .ol (ls.map pairD), .sh (.int dp), .sh (.int most), .no, .no, .sh (.int (used' : Nat)), .sh (.int c), s9, s10, s11, s12], b2) ∧ StOk many lk N dB vB (n + 1) b2 used' ∧ b2.1.length ≤ n + 1 ∧ used' ≤ most := by
  have hdeep : b.2.length < 16777215 := by have := hb.deep; omega
  unfold b3_l_body
  by_cases hp : c % 8 = 0 ∧ b.2 ≠ []
  · obtain ⟨h8, hne⟩ := hp
    have hpop := hb.pop
    refine ⟨a9, a10, a11, a12, used, popB b, ?_, hpop, ?_, hus⟩
    · have hemp : b.2.isEmpty = false := by cases h : b.2 <;> simp_all
      simp [modD_int, eqD_ok, eqv_int, h8, hdeep, hemp]
      obtain ⟨cur, ctx⟩ := b
      unfold fbPop
      cases ctx with
      | nil => exact absurd rfl hne
      | cons f fs => cases f <;> rfl
    · obtain ⟨_, _, _, q, _, _⟩ := hpop
      exact q.1
  · obtain ⟨x, hx, dx⟩ := deed_ok c many hm ls hls
    obtain ⟨ks, hks, hcost⟩ := cost_comp dx hls a0 (.sh (.int many)) (.sh (.int dp)) (.sh (.int most)) (.sh (.int used)) (.sh (.int c)) a10 a12
    obtain ⟨r0, wx⟩ := deed_row0 dx [a0, .sh (.int many), .ol (ls.map pairD), .sh (.int dp), .sh (.int most), .no, .no, .sh (.int used), .sh (.int c), x, .sh (.int ks.sum), a11, a12]
    have hnw := neW wx wCall
    obtain ⟨k, hk⟩ : ∃ k : Nat, k = costOf ls x := ⟨_, rfl⟩
    have step1 : (fAsg 9 (fCall f_l_deed (fCons (fVar 8) (fCons (fVar 1) (fCons (fVar 2) fNil))))) [a0, .sh (.int many), .ol (ls.map pairD), .sh (.int dp), .sh (.int most), .no, .no, .sh (.int used), .sh (.int c), a9, a10, a11, a12] = .ok (.nx [a0, .sh (.int many), .ol (ls.map pairD), .sh (.int dp), .sh (.int most), .no, .no, .sh (.int used), .sh (.int c), x, a10, a11, a12]) := by
      simp [hx, dx.cal, dx.asg]
    have step2 : (fAsg 10 (fCB sumD (fCons (fLcB 2 (.nm 11) t1_l_body e2_l_body [11]) fNil))) [a0, .sh (.int many), .ol (ls.map pairD), .sh (.int dp), .sh (.int most), .no, .no, .sh (.int used), .sh (.int c), x, a10, a11, a12] = .ok (.nx [a0, .sh (.int many), .ol (ls.map pairD), .sh (.int dp), .sh (.int most), .no, .no, .sh (.int used), .sh (.int c), x, .sh (.int ks.sum), a11, a12]) := by
      simp
      rw [hks]
      simp
    have step3 : (fAsg 10 (fOp addD (fVar 10) (fCB intD (fCons (fOp neD (fRow0 9) (fC (.str (Str.ofString "call")))) fNil)))) [a0, .sh (.int many), .ol (ls.map pairD), .sh (.int dp), .sh (.int most), .no, .no, .sh (.int used), .sh (.int c), x, .sh (.int ks.sum), a11, a12] = .ok (.nx [a0, .sh (.int many), .ol (ls.map pairD), .sh (.int dp), .sh (.int most), .no, .no, .sh (.int used), .sh (.int c), x, .sh (.int k), a11, a12]) := by
      simp [r0]
      rw [show Str.ofString "call" = sCall from rfl, hnw]
      simp
      rw [hk, ← hcost]
      simp
    have T1 : (fTst (fOp eqD (fOp modD (fVar 8) (fC (.int 8))) (fC (.int 0)))) [a0, .sh (.int many), .ol (ls.map pairD), .sh (.int dp), .sh (.int most), .no, .no, .sh (.int used), .sh (.int c), a9, a10, a11, a12] = .ok (decide (c % 8 = 0), [a0, .sh (.int many), .ol (ls.map pairD), .sh (.int dp), .sh (.int most), .no, .no, .sh (.int used), .sh (.int c), a9, a10, a11, a12]) := by
      simp [modD_int, eqD_ok, eqv_int]
      rfl
    have first : ∀ f g : EvB, fbDeep (fTst (fOp eqD (fOp modD (fVar 8) (fC (.int 8))) (fC (.int 0)))) f g b [a0, .sh (.int many), .ol (ls.map pairD), .sh (.int dp), .sh (.int most), .no, .no, .sh (.int used), .sh (.int c), a9, a10, a11, a12] = g b [a0, .sh (.int many), .ol (ls.map pairD), .sh (.int dp), .sh (.int most), .no, .no, .sh (.int used), .sh (.int c), a9, a10, a11, a12] := by
      intro f g
      rw [ev_bdeep, T1]
      by_cases h8 : c % 8 = 0
      · have hne : b.2 = [] := Decidable.byContradiction fun z => hp ⟨h8, z⟩
        rw [decide_eq_true h8]
        show (if b.2.length < 16777215 then (if b.2.isEmpty then g b _ else f b _) else Res.bad) = _
        rw [if_pos hdeep, hne]
        rfl
      · rw [decide_eq_false h8]
        rfl
    rw [first]
    have lift : ∀ (s : EvS) (g : EvB) (e e2 : Lo), s e = .ok (.nx e2) → fbSeq (fbLift s) g b e = g b e2 := fun s g e e2 h => by
      rw [ev_bseq, ev_blift, h]
      rfl
    rw [lift _ _ _ _ step1, lift _ _ _ _ step2, lift _ _ _ _ step3]
    have T2 : (fTst (fOp leD (fOp addD (fVar 7) (fVar 10)) (fVar 4))) [a0, .sh (.int many), .ol (ls.map pairD), .sh (.int dp), .sh (.int most), .no, .no, .sh (.int used), .sh (.int c), x, .sh (.int k), a11, a12] = .ok (decide (used + k ≤ most), [a0, .sh (.int many), .ol (ls.map pairD), .sh (.int dp), .sh (.int most), .no, .no, .sh (.int used), .sh (.int c), x, .sh (.int k), a11, a12]) := by
      simp
      omega
    rw [ev_bif, T2]
    by_cases hle : used + k ≤ most
    · rw [decide_eq_true hle]
      obtain ⟨s9, b2, q1, q2, q3⟩ := body_put many ls N hN dp hdp lk dB vB n used hnd hlk hn b hb hbl dx a0 (.sh (.int many)) (.ol (ls.map pairD)) (.sh (.int most)) .no .no (.sh (.int ((used + k : Nat) : Int))) (.sh (.int c)) (.sh (.int k)) a11 a12
      refine ⟨s9, .sh (.int k), a11, a12, used + k, b2, ?_, by rw [hk]; exact q2, q3, hle⟩
      rw [Res.bind_ok', bifC_t]
      rw [lift _ _ _ [a0, .sh (.int many), .ol (ls.map pairD), .sh (.int dp), .sh (.int most), .no, .no, .sh (.int ((used + k : Nat) : Int)), .sh (.int c), x, .sh (.int k), a11, a12] (by simp), q1]
    · rw [decide_eq_false hle]
      exact ⟨x, .sh (.int k), a11, a12, used, b, rfl, hb.up (by omega), by omega, hus⟩
/-- a body -/
theorem body_ok (cs : List Int) (hcs : cs.length ≤ 30) (many : Nat) (hm : many ≤ 100) (ls : List (Nat × Nat)) (hls : ls.length ≤ 100) (N most : Nat) (hN : N ≤ 20) (dp : Int) (hdp : dp = N + 1) (lk : Look) (dB vB : Nat) (hnd : (ls.map (·.1)).Nodup) (hlk : ∀ p ∈ ls, ∃ R, lk p.1 = some R ∧ ROk many lk dB (vB + 1) p.2 R) :
    ∃ R used, f_l_body [.ol (cs.map PyData.int), .sh (.int many), .ol (ls.map pairD), .sh (.int dp), .sh (.int most)] = .ok (.sh (.tuple [.list (rowsD R), .int (used : Nat)]), [.sh (.list (cs.map PyData.int)), .sh (.int many), .ol (ls.map pairD), .sh (.int dp), .sh (.int most)]) ∧ ROk many lk (N + 1 + dB) (N + 1 + vB) used R ∧ used ≤ most := by
  obtain ⟨e', b', q, used, s8, s9, s10, s11, s12, rfl, q1, q2, q3⟩ := loopB_inv (tg := .nm 8) (f := b3_l_body) (fun i e b => ∃ (used : Nat) (s8 s9 s10 s11 s12 : Sl), e = [.sh (.list (cs.map PyData.int)), .sh (.int many), .ol (ls.map pairD), .sh (.int dp), .sh (.int most), .no, .no, .sh (.int used), s8, s9, s10, s11, s12] ∧ StOk many lk N dB vB i b used ∧ b.1.length ≤ i ∧ used ≤ most) (cs.map PyData.int)
    (env := [.sh (.list (cs.map PyData.int)), .sh (.int many), .ol (ls.map pairD), .sh (.int dp), .sh (.int most), .no, .no, .sh (.int (0 : Nat)), .no, .no, .no, .no, .no]) (b := ([], [])) ⟨0, .no, .no, .no, .no, .no, rfl, StOk.start, Nat.le_refl _, Nat.zero_le _⟩ (by
      rintro i d _ b hd ⟨used, s8, s9, s10, s11, s12, rfl, h1, h2, h3⟩
      rw [List.getElem?_map] at hd
      cases hc : cs[i]? with
      | none => rw [hc] at hd; cases hd
      | some c =>
        rw [hc] at hd
        cases hd
        have hi : i < cs.length := (List.getElem?_eq_some_iff.mp hc).1
        obtain ⟨t9, t10, t11, t12, used', b2, w1, w2, w3, w4⟩ := body_turn c many hm ls hls N most hN dp hdp lk dB vB i used hnd hlk (by omega) b h1 h2 h3 (.sh (.list (cs.map PyData.int))) s9 s10 s11 s12
        exact ⟨_, _, b2, rfl, w1, used', _, _, _, _, _, rfl, w2, w3, w4⟩)
  obtain ⟨R, r1, r2⟩ := q1.close (by rw [List.length_map]; omega)
  refine ⟨R, used, ?_, r2, q3⟩
  unfold f_l_body
  rw [run_eq]
  have q' : loopB (.nm 8) b3_l_body (cs.map PyData.int) ([], []) [.sh (.list (cs.map PyData.int)), .sh (.int many), .ol (ls.map pairD), .sh (.int dp), .sh (.int most), .no, .no, .sh (.int 0), .no, .no, .no, .no, .no] = .ok (.nx [.sh (.list (cs.map PyData.int)), .sh (.int many), .ol (ls.map pairD), .sh (.int dp), .sh (.int most), .no, .no, .sh (.int used), s8, s9, s10, s11, s12], b') := q
  have forE : ∀ (b : BSt) (env : Lo), fbFor (fIter (fVar 0)) (.nm 8) b3_l_body b env = (fIter (fVar 0) env).bind fun p => loopB (.nm 8) b3_l_body p.2.1 b p.2.2 := fun b env => rfl
  simp [forE]
  rw [q']
  simp [r1, backArgs_eq, List.range_succ]
/-! ### programs -/
theorem rows_items (Bs : List Rows) : bodiesD Bs = .list (Bs.map fun R => .list (rowsD R)) := rfl
/-- cells in a row -/
theorem cells_comp (ns : List Int) (bg : Int) (h0 : 0 ≤ bg) (h1 : bg ≤ 100000) (n : Nat) (hn : n ≤ 500) (a1 a2 a3 a4 a5 a6 a7 a8 a9 a11 a12 a13 : Sl) :
    compF (.nm 14) fYes e1_l_program [14] (rngD 0 n) [] [.sc ns, a1, a2, a3, a4, a5, a6, a7, a8, a9, .sh (.int bg), a11, a12, a13, .no] = .ok (((List.range n).map fun (j : Nat) => cellV ns (bg + j)).map PyData.int, [.sc ns, a1, a2, a3, a4, a5, a6, a7, a8, a9, .sh (.int bg), a11, a12, a13, .no]) := by
  have := comp_of (tg := .nm 14) (ft := fYes) (fe := e1_l_program) (own := [14]) (E := [.sc ns, a1, a2, a3, a4, a5, a6, a7, a8, a9, .sh (.int bg), a11, a12, a13, .no]) (fun (j : Nat) => PyData.int (0 + (j : Int))) (fun (j : Nat) => .int (cellV ns (bg + j))) (List.range n) [] (by simp; omega) (fun j hj => by
    have hj : j < n := List.mem_range.mp hj
    have hc := cell_eq ns (bg + j) (by omega) (by omega)
    refine ⟨_, .sh (.int (cellV ns (bg + j))), [.sc ns, a1, a2, a3, a4, a5, a6, a7, a8, a9, .sh (.int bg), a11, a12, a13, .sh (.int (0 + (j : Int)))], rfl, rfl, ?_, _, rfl, rfl⟩
    unfold e1_l_program
    simp [hc])
  unfold rngD
  rw [this, List.map_map]
  rfl
theorem seqN {f g : EvS} {e e2 : Lo} (h : f e = .ok (.nx e2)) : fSeq f g e = g e2 := by rw [ev_seq, h]; rfl
/-- the rest of a turn, behind the size and the depth -/
theorem prog_rest (ns : List Int) (at_ many most count k n N0 : Nat) (hat : at_ ≤ 1000) (hm : many ≤ 100) (hmo : most ≤ 1000) (hk : k < count) (hc : count ≤ 4) (hn : n ≤ 14) (hN : N0 ≤ 2) (dp : Int) (hdp : dp = N0 + 1) (dB vB : Nat) (Bs : List Rows) (ms : List Nat) (hB : BsOk many (k + 1) dB vB Bs ms) (hlen : Bs.length ≤ 4) (hlast : count = 1 → dB = 0 ∧ vB = 0 ∧ N0 = 2) (a11 a12 a13 a14 a10 : Sl) :
    ∃ N R m m', N ≤ 5 ∧ (1 < count → N = N0 ∧ m' = m) ∧ m ≤ most + 3 ∧ ROk many (lkOf (k + 1) Bs) (N + 1 + dB) (N + 1 + vB) m R ∧ ∃ s10 s11 s12 s13,
    (fSeq (fAsg 10 (fOp addD (fOp addD (fOp addD (fVar 1) (fC (.int 1))) (fOp mulD (fC (.int 11)) (fCB intD (fCons (fOp gtD (fVar 7) (fC (.int 0))) fNil)))) (fOp mulD (fC (.int 4)) (fVar 7))))
    (fSeq (fAsg 11 (fLc (fRng (fCons (fVar 8) fNil)) (.nm 14) fYes e1_l_program [14]))
    (fSeq (fUnp [12, 13] (fCall f_l_body (fCons (fVar 11) (fCons (fVar 2) (fCons (fVar 5) (fCons (fVar 9) (fCons (fVar 3) fNil)))))))
    (fSeq (fIfS (fAndT (fTst (fOp eqD (fVar 6) (fC (.int 1)))) (fTst (fOp eqD (fOp modD (fOp divD (fCall f_l_cell (fCons (fVar 0) (fCons (fVar 1) fNil))) (fC (.int 108))) (fC (.int 2))) (fC (.int 1)))))
    (fAsg 12 (fLst (fCons (fTup (fCons (fC (.str (Str.ofString "either"))) (fCons (fLst fNil) (fCons (fLst (fCons (fTup (fCons (fC (.str (Str.ofString "loop"))) (fCons (fLst (fCons (fTup (fCons (fC (.str (Str.ofString "either"))) (fCons (fVar 12) (fCons (fLst fNil) fNil)))) fNil)) fNil))) fNil)) fNil)))) fNil)))
    fNext)
    (fSeq (fAsg 4 (fOp addD (fLst (fCons (fVar 12) fNil)) (fVar 4)))
    (fAsg 5 (fOp addD (fLst (fCons (fTup (fCons (fVar 7) (fCons (fVar 13) fNil))) fNil)) (fVar 5)))))))) [.sc ns, .sh (.int at_), .sh (.int many), .sh (.int most), .ol (Bs.map fun R => .list (rowsD R)), .ol ((lsOf (k + 1) ms).map pairD), .sh (.int count), .sh (.int k), .sh (.int n), .sh (.int dp), a10, a11, a12, a13, a14] =
      .ok (.nx [.sc ns, .sh (.int at_), .sh (.int many), .sh (.int most), .ol ((R :: Bs).map fun R => .list (rowsD R)), .ol ((lsOf k (m' :: ms)).map pairD), .sh (.int count), .sh (.int k), .sh (.int n), .sh (.int dp), s10, s11, s12, s13, a14]) := by
  have hls : (lsOf (k + 1) ms).length ≤ 100 := by rw [lsOf_len, ← hB.len]; omega
  have cat := cell_eq ns at_ (by omega) (by omega)
  obtain ⟨c, hcv⟩ : ∃ c, c = cellV ns at_ := ⟨_, rfl⟩
  rw [← hcv] at cat
  have d108 := sdiv (i := c) (j := 108) (by omega) (by omega)
  obtain ⟨bg, hbg⟩ : ∃ bg : Int, bg = at_ + 1 + 11 * (if 0 < k then 1 else 0) + 4 * k := ⟨_, rfl⟩
  have hbg1 : 0 ≤ bg ∧ bg ≤ 100000 := by
    rw [hbg]
    split <;> omega
  have cc := cells_comp ns bg hbg1.1 hbg1.2 n (by omega) (.sh (.int at_)) (.sh (.int many)) (.sh (.int most)) (.ol (Bs.map fun R => .list (rowsD R))) (.ol ((lsOf (k + 1) ms).map pairD)) (.sh (.int count)) (.sh (.int k)) (.sh (.int n)) (.sh (.int dp)) a11 a12 a13
  obtain ⟨R, used, q, r1, r2⟩ := body_ok ((List.range n).map fun (j : Nat) => cellV ns (bg + j)) (by simp; omega) many hm (lsOf (k + 1) ms) hls N0 most (by omega) dp hdp (lkOf (k + 1) Bs) dB vB (lsOf_nd ms (k + 1)) hB.look
  obtain ⟨cs, hcs⟩ : ∃ cs : List Int, cs = (List.range n).map fun (j : Nat) => cellV ns (bg + j) := ⟨_, rfl⟩
  rw [← hcs] at cc q
  have m1 : mulOk 11 (if 0 < k then 1 else 0) = true := mulOk_left (by omega) (by omega)
  have m2 : mulOk 4 (k : Int) = true := mulOk_left (by omega) (by omega)
  rw [seqN (e2 := [.sc ns, .sh (.int at_), .sh (.int many), .sh (.int most), .ol (Bs.map fun R => .list (rowsD R)), .ol ((lsOf (k + 1) ms).map pairD), .sh (.int count), .sh (.int k), .sh (.int n), .sh (.int dp), .sh (.int bg), a11, a12, a13, a14]) (by
    simp [mulD_int m1, mulD_int m2, hbg])]
  rw [seqN (e2 := [.sc ns, .sh (.int at_), .sh (.int many), .sh (.int most), .ol (Bs.map fun R => .list (rowsD R)), .ol ((lsOf (k + 1) ms).map pairD), .sh (.int count), .sh (.int k), .sh (.int n), .sh (.int dp), .sh (.int bg), .ol (cs.map PyData.int), a12, a13, a14]) (by
    simp [show (-4611686018427387904 : Int) ≤ n by omega, show (n : Int) < 4611686018427387904 by omega]
    rw [cc]
    simp)]
  rw [seqN (e2 := [.sc ns, .sh (.int at_), .sh (.int many), .sh (.int most), .ol (Bs.map fun R => .list (rowsD R)), .ol ((lsOf (k + 1) ms).map pairD), .sh (.int count), .sh (.int k), .sh (.int n), .sh (.int dp), .sh (.int bg), .sh (.list (cs.map PyData.int)), .sh (.list (rowsD R)), .sh (.int used), a14]) (by
    simp [q])]
  -- the last two statements
  have fin : ∀ (S : Rows) (m : Nat) (x : Sl), x = .sh (.list (rowsD S)) ∨ x = .ol (rowsD S) → (fSeq (fAsg 4 (fOp addD (fLst (fCons (fVar 12) fNil)) (fVar 4)))
    (fAsg 5 (fOp addD (fLst (fCons (fTup (fCons (fVar 7) (fCons (fVar 13) fNil))) fNil)) (fVar 5)))) [.sc ns, .sh (.int at_), .sh (.int many), .sh (.int most), .ol (Bs.map fun R => .list (rowsD R)), .ol ((lsOf (k + 1) ms).map pairD), .sh (.int count), .sh (.int k), .sh (.int n), .sh (.int dp), .sh (.int bg), .sh (.list (cs.map PyData.int)), x, .sh (.int m), a14] =
    .ok (.nx [.sc ns, .sh (.int at_), .sh (.int many), .sh (.int most), .ol ((S :: Bs).map fun R => .list (rowsD R)), .ol ((lsOf k (m :: ms)).map pairD), .sh (.int count), .sh (.int k), .sh (.int n), .sh (.int dp), .sh (.int bg), .sh (.list (cs.map PyData.int)), .sh (.list (rowsD S)), .sh (.int m), a14]) := by
    intro S m x hx
    have lB : 1 + Bs.length ≤ 16777216 := by omega
    have lL : 1 + (lsOf (k + 1) ms).length ≤ 16777216 := by omega
    rcases hx with rfl | rfl <;> simp [lB, lL, lsOf, pairD]
  by_cases hw : count = 1 ∧ c / 108 % 2 = 1
  · obtain ⟨h1, h2⟩ := hw
    obtain ⟨rfl, rfl, rfl⟩ := hlast h1
    subst h1
    have ok3 : ROk many (lkOf (k + 1) Bs) (5 + 1 + 0) (5 + 1 + 0) (used + 3) (.ei .nil (.lo (.ei R .nil .nil) .nil) .nil) := by
      have h1 : ROk many (lkOf (k + 1) Bs) 4 4 (used + 0 + 1 + 0) (.ei R .nil .nil) := .ei r1 .nil .nil
      have h2 : ROk many (lkOf (k + 1) Bs) 5 5 (used + 0 + 1 + 0 + 1 + 0) (.lo (.ei R .nil .nil) .nil) := .lo h1 .nil
      have h3 : ROk many (lkOf (k + 1) Bs) 6 6 (0 + (used + 0 + 1 + 0 + 1 + 0) + 1 + 0) (.ei .nil (.lo (.ei R .nil .nil) .nil) .nil) := .ei .nil h2 .nil
      rw [show 0 + (used + 0 + 1 + 0 + 1 + 0) + 1 + 0 = used + 3 by omega] at h3
      exact h3
    refine ⟨5, .ei .nil (.lo (.ei R .nil .nil) .nil) .nil, used + 3, used, by omega, by omega, by omega, ok3, .sh (.int bg), .sh (.list (cs.map PyData.int)), .sh (.list [eitherD [] [loopD [eitherD (rowsD R) []]]]), .sh (.int used), ?_⟩
    rw [seqN (e2 := [.sc ns, .sh (.int at_), .sh (.int many), .sh (.int most), .ol (Bs.map fun R => .list (rowsD R)), .ol ((lsOf (k + 1) ms).map pairD), .sh (.int (1 : Nat)), .sh (.int k), .sh (.int n), .sh (.int dp), .sh (.int bg), .sh (.list (cs.map PyData.int)), .ol [eitherD [] [loopD [eitherD (rowsD R) []]]], .sh (.int used), a14]) ?_]
    · exact fin (.ei .nil (.lo (.ei R .nil .nil) .nil) .nil) used _ (.inr rfl)
    · have e1 : (fAndT (fTst (fOp eqD (fVar 6) (fC (.int 1)))) (fTst (fOp eqD (fOp modD (fOp divD (fCall f_l_cell (fCons (fVar 0) (fCons (fVar 1) fNil))) (fC (.int 108))) (fC (.int 2))) (fC (.int 1))))) [.sc ns, .sh (.int at_), .sh (.int many), .sh (.int most), .ol (Bs.map fun R => .list (rowsD R)), .ol ((lsOf (k + 1) ms).map pairD), .sh (.int (1 : Nat)), .sh (.int k), .sh (.int n), .sh (.int dp), .sh (.int bg), .sh (.list (cs.map PyData.int)), .sh (.list (rowsD R)), .sh (.int used), a14] = .ok (true, [.sc ns, .sh (.int at_), .sh (.int many), .sh (.int most), .ol (Bs.map fun R => .list (rowsD R)), .ol ((lsOf (k + 1) ms).map pairD), .sh (.int (1 : Nat)), .sh (.int k), .sh (.int n), .sh (.int dp), .sh (.int bg), .sh (.list (cs.map PyData.int)), .sh (.list (rowsD R)), .sh (.int used), a14]) := by
        simp [eqD_ok, eqv_int, cat, d108, modD_int, h2]
      rw [ev_ifS, e1, Res.bind_ok', ifSC_t]
      simp
      rfl
  · refine ⟨N0, R, used, used, by omega, fun _ => ⟨rfl, rfl⟩, by omega, r1, .sh (.int bg), .sh (.list (cs.map PyData.int)), .sh (.list (rowsD R)), .sh (.int used), ?_⟩
    rw [seqN (e2 := [.sc ns, .sh (.int at_), .sh (.int many), .sh (.int most), .ol (Bs.map fun R => .list (rowsD R)), .ol ((lsOf (k + 1) ms).map pairD), .sh (.int count), .sh (.int k), .sh (.int n), .sh (.int dp), .sh (.int bg), .sh (.list (cs.map PyData.int)), .sh (.list (rowsD R)), .sh (.int used), a14]) ?_]
    · exact fin R used _ (.inl rfl)
    · by_cases h1 : count = 1
      · have h2 : ¬ c / 108 % 2 = 1 := fun z => hw ⟨h1, z⟩
        subst h1
        simp [eqD_ok, eqv_int, cat, d108, modD_int, bf h2]
      · have h1' : ¬ (count : Int) = 1 := by omega
        simp [eqD_ok, eqv_int, bf h1']
theorem prog_turn (ns : List Int) (at_ many most count k : Nat) (hat : at_ ≤ 1000) (hm : many ≤ 100) (hmo : most ≤ 1000) (hk : k < count) (hc : count ≤ 4) (dB vB : Nat) (Bs : List Rows) (ms : List Nat) (hB : BsOk many (k + 1) dB vB Bs ms) (hlen : Bs.length ≤ 4) (hlast : count = 1 → dB = 0 ∧ vB = 0) (a8 a9 a10 a11 a12 a13 a14 : Sl) :
    ∃ N R m m', N ≤ 5 ∧ (1 < count → N = (if k = 0 then 2 else 1) ∧ m' = m) ∧ m ≤ most + 3 ∧ ROk many (lkOf (k + 1) Bs) (N + 1 + dB) (N + 1 + vB) m R ∧ ∃ s8 s9 s10 s11 s12 s13, b2_l_program [.sc ns, .sh (.int at_), .sh (.int many), .sh (.int most), .ol (Bs.map fun R => .list (rowsD R)), .ol ((lsOf (k + 1) ms).map pairD), .sh (.int count), .sh (.int k), a8, a9, a10, a11, a12, a13, a14] =
      .ok (.nx [.sc ns, .sh (.int at_), .sh (.int many), .sh (.int most), .ol ((R :: Bs).map fun R => .list (rowsD R)), .ol ((lsOf k (m' :: ms)).map pairD), .sh (.int count), .sh (.int k), s8, s9, s10, s11, s12, s13, a14]) := by
  have cat := cell_eq ns at_ (by omega) (by omega)
  obtain ⟨c, hcv⟩ : ∃ c, c = cellV ns at_ := ⟨_, rfl⟩
  rw [← hcv] at cat
  have d3 := sdiv (i := c) (j := 3) (by omega) (by omega)
  by_cases hk0 : k = 0
  · subst hk0
    obtain ⟨n, hn⟩ : ∃ n : Nat, (n : Int) = 6 + c / 3 % 9 := ⟨(6 + c / 3 % 9).toNat, by omega⟩
    obtain ⟨N, R, m, m', h1, h2, h3, h4, s10, s11, s12, s13, h5⟩ := prog_rest ns at_ many most count 0 n 2 hat hm hmo hk hc (by omega) (by omega) 3 (by omega) dB vB Bs ms hB hlen (fun z => ⟨(hlast z).1, (hlast z).2, rfl⟩) a11 a12 a13 a14 a10
    refine ⟨N, R, m, m', h1, h2, h3, h4, .sh (.int n), .sh (.int 3), s10, s11, s12, s13, ?_⟩
    unfold b2_l_program
    rw [seqN (e2 := [.sc ns, .sh (.int at_), .sh (.int many), .sh (.int most), .ol (Bs.map fun R => .list (rowsD R)), .ol ((lsOf (0 + 1) ms).map pairD), .sh (.int count), .sh (.int (0 : Nat)), .sh (.int 4), a9, a10, a11, a12, a13, a14]) (by simp)]
    rw [seqN (e2 := [.sc ns, .sh (.int at_), .sh (.int many), .sh (.int most), .ol (Bs.map fun R => .list (rowsD R)), .ol ((lsOf (0 + 1) ms).map pairD), .sh (.int count), .sh (.int (0 : Nat)), .sh (.int 4), .sh (.int 2), a10, a11, a12, a13, a14]) (by simp)]
    rw [seqN (e2 := [.sc ns, .sh (.int at_), .sh (.int many), .sh (.int most), .ol (Bs.map fun R => .list (rowsD R)), .ol ((lsOf (0 + 1) ms).map pairD), .sh (.int count), .sh (.int (0 : Nat)), .sh (.int n), .sh (.int 3), a10, a11, a12, a13, a14]) (by simp [eqD_ok, eqv_int, cat, d3, modD_int, hn])]
    exact h5
  · have hk0' : ¬ (k : Int) = 0 := by omega
    obtain ⟨N, R, m, m', h1, h2, h3, h4, s10, s11, s12, s13, h5⟩ := prog_rest ns at_ many most count k 4 1 hat hm hmo hk hc (by omega) (by omega) 2 (by omega) dB vB Bs ms hB hlen (fun z => by omega) a11 a12 a13 a14 a10
    refine ⟨N, R, m, m', h1, by rw [if_neg hk0]; exact h2, h3, h4, .sh (.int 4), .sh (.int 2), s10, s11, s12, s13, ?_⟩
    unfold b2_l_program
    rw [seqN (e2 := [.sc ns, .sh (.int at_), .sh (.int many), .sh (.int most), .ol (Bs.map fun R => .list (rowsD R)), .ol ((lsOf (k + 1) ms).map pairD), .sh (.int count), .sh (.int k), .sh (.int 4), a9, a10, a11, a12, a13, a14]) (by simp)]
    rw [seqN (e2 := [.sc ns, .sh (.int at_), .sh (.int many), .sh (.int most), .ol (Bs.map fun R => .list (rowsD R)), .ol ((lsOf (k + 1) ms).map pairD), .sh (.int count), .sh (.int k), .sh (.int 4), .sh (.int 2), a10, a11, a12, a13, a14]) (by simp)]
    rw [seqN (e2 := [.sc ns, .sh (.int at_), .sh (.int many), .sh (.int most), .ol (Bs.map fun R => .list (rowsD R)), .ol ((lsOf (k + 1) ms).map pairD), .sh (.int count), .sh (.int k), .sh (.int 4), .sh (.int 2), a10, a11, a12, a13, a14]) (by simp [eqD_ok, eqv_int, bf hk0'])]
    exact h5
theorem prog_ok (ns : List Int) (at_ many most : Nat) (hat : at_ ≤ 1000) (hm : many ≤ 100) (hmo : most ≤ 1000) :
    ∃ bs, f_l_program [.sc ns, .sh (.int at_), .sh (.int many), .sh (.int most)] = .ok (.sh (progD many bs), [.sc ns, .sh (.int at_), .sh (.int many), .sh (.int most)]) ∧ POk many (most + 3) bs := by
  have cat := cell_eq ns at_ (by omega) (by omega)
  obtain ⟨c, hcv⟩ : ∃ c, c = cellV ns at_ := ⟨_, rfl⟩
  rw [← hcv] at cat
  obtain ⟨count, hcount⟩ : ∃ count : Nat, (count : Int) = 1 + c % 4 := ⟨(1 + c % 4).toNat, by omega⟩
  have hc4 : 1 ≤ count ∧ count ≤ 4 := by omega
  obtain ⟨e', q, Bs, ms, ms', dB, vB, s7, s8, s9, s10, s11, s12, s13, rfl, h1, h2, h3, h4, h5⟩ := loop_inv (tg := .nm 7) (b := b2_l_program) (fun i e => ∃ (Bs : List Rows) (ms ms' : List Nat) (dB vB : Nat) (s7 s8 s9 s10 s11 s12 s13 : Sl), e = [.sc ns, .sh (.int at_), .sh (.int many), .sh (.int most), .ol (Bs.map fun R => .list (rowsD R)), .ol ((lsOf (count - i) ms').map pairD), .sh (.int count), s7, s8, s9, s10, s11, s12, s13, .no] ∧
      BsOk many (count - i) dB vB Bs ms ∧ Bs.length = i ∧ (∀ m ∈ ms, m ≤ most + 3) ∧ (i < count → ms' = ms) ∧ (i < count → dB ≤ 2 * i ∧ vB ≤ i) ∧ (i = count → dB ≤ 9 ∧ vB ≤ 5)) (dnD (count - 1 : Int) ((count - 1 : Int) - (-1)).toNat)
    (env := [.sc ns, .sh (.int at_), .sh (.int many), .sh (.int most), .ol [], .ol [], .sh (.int count), .no, .no, .no, .no, .no, .no, .no, .no]) ⟨[], [], [], 0, 0, .no, .no, .no, .no, .no, .no, .no, rfl, .nil, rfl, by simp, fun _ => rfl, fun _ => ⟨Nat.zero_le _, Nat.zero_le _⟩, by omega⟩ (by
      rintro i d _ hd ⟨Bs, ms, ms', dB, vB, s7, s8, s9, s10, s11, s12, s13, rfl, h1, h2, h3, h4, h5, h6⟩
      have hi : i < count := by
        have := (List.getElem?_eq_some_iff.mp hd).1
        simp only [dnD, List.length_map, List.length_range] at this
        omega
      have hdv : d = .int ((count - i - 1 : Nat) : Int) := by
        unfold dnD at hd
        rw [List.getElem?_map, List.getElem?_range (by omega)] at hd
        simp at hd
        rw [← hd]
        congr 1
        omega
      subst hdv
      have hk : count - i - 1 + 1 = count - i := by omega
      have e1 := h4 hi
      subst e1
      obtain ⟨hd1, hd2⟩ := h5 hi
      obtain ⟨N, R, m, m', n1, n2, n3, n4, t8, t9, t10, t11, t12, t13, n5⟩ := prog_turn ns at_ many most count (count - i - 1) hat hm hmo (by omega) hc4.2 dB vB Bs ms' (by rw [hk]; exact h1) (by omega) (fun z => by omega) s8 s9 s10 s11 s12 s13 .no
      rw [hk] at n4 n5
      refine ⟨_, _, rfl, .inl n5, R :: Bs, m :: ms', m' :: ms', N + 1 + dB, N + vB, _, t8, t9, t10, t11, t12, t13, by rw [show count - (i + 1) = count - i - 1 by omega], ?_, by simp [h2], ?_, ?_, ?_, ?_⟩
      · rw [show count - (i + 1) = count - i - 1 by omega]
        exact .cons (by rw [hk]; exact h1) (by rw [hk]; exact n4)
      · intro x hx
        rcases List.mem_cons.mp hx with rfl | hx
        · exact n3
        · exact h3 x hx
      · intro hlt
        rw [(n2 (by omega)).2]
      · intro hlt
        have := (n2 (by omega)).1
        rw [if_neg (by omega)] at this
        omega
      · intro he
        by_cases hc1 : count = 1
        · omega
        · have := (n2 (by omega)).1
          rw [if_pos (by omega)] at this
          omega)
  have hlen : (dnD (count - 1 : Int) ((count - 1 : Int) - (-1)).toNat).length = count := by
    simp only [dnD, List.length_map, List.length_range]
    omega
  rw [hlen] at h1 h2 h5
  rw [hlen] at q
  obtain ⟨h51, h52⟩ := h5
  refine ⟨Bs, ?_, ⟨fun z => by rw [z] at h2; simp at h2; omega, by omega, fun i R hi => ?_⟩⟩
  · unfold f_l_program
    rw [run_eq]
    rw [List.cons_append, List.cons_append, List.cons_append, List.cons_append, List.nil_append]
    show ((fSeq _ _ [.sc ns, .sh (.int at_), .sh (.int many), .sh (.int most), .no, .no, .no, .no, .no, .no, .no, .no, .no, .no, .no])).bind _ = _
    rw [seqN (e2 := [.sc ns, .sh (.int at_), .sh (.int many), .sh (.int most), .ol [], .no, .no, .no, .no, .no, .no, .no, .no, .no, .no]) (by simp)]
    rw [seqN (e2 := [.sc ns, .sh (.int at_), .sh (.int many), .sh (.int most), .ol [], .ol [], .no, .no, .no, .no, .no, .no, .no, .no, .no]) (by simp)]
    rw [seqN (e2 := [.sc ns, .sh (.int at_), .sh (.int many), .sh (.int most), .ol [], .ol [], .sh (.int count), .no, .no, .no, .no, .no, .no, .no, .no]) (by simp [cat, modD_int, hcount])]
    rw [seqN (by
      rw [ev_for]
      simp only [ev_rng3, ev_cons, ev_op, ev_var, ev_c, ev_op1]
      have ec : ((count : Int) - 1 - (-1)).toNat = count := by omega
      rw [ec] at q
      simp [show (-4611686018427387904 : Int) ≤ (count : Int) - 1 by omega, show (count : Int) - 1 < 4611686018427387904 by omega]
      exact q)]
    simp [backArgs_eq, List.range_succ, progD, bodiesD]
  · obtain ⟨m, hm1, hm2⟩ := h1.all i R hi
    refine ⟨m, h3 m hm1, ?_⟩
    rw [show count - count + i + 1 = i + 1 by omega] at hm2
    exact hm2.up (by have := h52 rfl; omega) (by have := h52 rfl; omega)
/-! ### the law's own layout -/
def bumpF (s : LS) : LS := ⟨s.count + 1, s.steps⟩
theorem goes_some {s s' : LS} {a b : Int} {d : D} (h : goes s a b d = some s') : s' = ⟨s.count, s.steps ++ [stepD a b d]⟩ ∧ s.steps.length < 16777216 := by
  unfold goes at h
  split at h
  · cases h; exact ⟨rfl, by assumption⟩
  · cases h
theorem layPl_mono {r : Pl} {p p' : Int} {s s' : LS} (h : layPl r p s = some (p', s')) : s.steps.length ≤ s'.steps.length := by
  cases r with
  | halt => cases h; exact Nat.le_refl _
  | _ =>
    simp only [layPl, Option.map_eq_some_iff] at h
    obtain ⟨s2, h1, h2⟩ := h
    cases h2
    rw [(goes_some h1).1]
    simp
theorem layN_mono (bs : List Rows) : ∀ (n : Nat) (R : Rows) (p : Int) (s : LS) (p' : Int) (s' : LS), layN bs n R p s = some (p', s') → s.steps.length ≤ s'.steps.length := by
  intro n
  induction n with
  | zero => intro R p s p' s' h; cases h
  | succ n ih =>
    have one : ∀ (R : Rows) (p : Int) (s : LS) (p' : Int) (s' : LS), layOne (layN bs n) bs R p s = some (p', s') → s.steps.length ≤ s'.steps.length := by
      intro R p s p' s' h
      cases R with
      | nil => cases h
      | pl r t => exact layPl_mono h
      | ei a b t =>
        have h : layEi (layN bs n) a b p s = some (p', s') := h
        unfold layEi at h
        simp only [Option.bind_eq_bind, Option.bind_eq_some_iff, Option.some.injEq, Prod.mk.injEq] at h
        obtain ⟨⟨q1, s1⟩, e1, ⟨q2, s2⟩, e2, s3, e3, s4, e4, rfl, rfl⟩ := h
        have h5 : s.steps.length ≤ s1.steps.length := ih _ _ _ _ _ e1
        have h6 : s1.steps.length ≤ s2.steps.length := ih _ _ _ _ _ e2
        have h3 := (goes_some e3).1
        have h4 := (goes_some e4).1
        rw [h4, h3]
        simp
        omega
      | lo a t =>
        have h : layLo (layN bs n) a p s = some (p', s') := h
        unfold layLo at h
        simp only [Option.bind_eq_bind, Option.bind_eq_some_iff, Option.some.injEq, Prod.mk.injEq] at h
        obtain ⟨s1, e1, ⟨q, s2⟩, e2, s3, e3, rfl, rfl⟩ := h
        have h2 := ih _ _ _ _ _ e2
        rw [(goes_some e3).1]
        rw [(goes_some e1).1] at h2
        simp at h2 ⊢
        omega
      | ca k t =>
        have h : ((bs[k]?).bind fun R => layN bs n R p s) = some (p', s') := h
        rw [Option.bind_eq_some_iff] at h
        obtain ⟨R, _, h⟩ := h
        exact ih _ _ _ _ _ h
    intro R
    have cons : ∀ (R : Rows) (hne : rowsD R ≠ []), (∀ p s p' s', layRows (layN bs n) bs R.tl p s = some (p', s') → s.steps.length ≤ s'.steps.length) → ∀ p s p' s', layRows (layN bs n) bs R p s = some (p', s') → s.steps.length ≤ s'.steps.length := by
      intro R hne h p s p' s' e
      rw [layRows_cons _ _ _ _ _ hne, Option.bind_eq_some_iff] at e
      obtain ⟨⟨q, s1⟩, e1, e2⟩ := e
      have h5 : s.steps.length ≤ s1.steps.length := one _ _ _ _ _ e1
      have h6 : s1.steps.length ≤ s'.steps.length := h _ _ _ _ e2
      omega
    show ∀ p s p' s', layRows (layN bs n) bs R p s = some (p', s') → _
    induction R with
    | nil => intro p s p' s' h; cases h; exact Nat.le_refl _
    | pl r t ih => exact cons _ (by simp [rowsD]) ih
    | ei a b t _ _ ih => exact cons _ (by simp [rowsD]) ih
    | lo a t _ ih => exact cons _ (by simp [rowsD]) ih
    | ca k t ih => exact cons _ (by simp [rowsD]) ih
theorem wSkip : IsWord sSkip := .inr (.inr (.inl rfl))
theorem wSet : IsWord sSet := .inl rfl
theorem wTake : IsWord sTake := .inr (.inl rfl)
theorem wHalt : IsWord sHalt := .inr (.inr (.inr (.inl rfl)))
/-- a row's word, and that it stands first -/
theorem row_word (R : Rows) (h : rowsD R ≠ []) : ∃ z ds, rowD R = .tuple (.str z :: ds) ∧ IsWord z ∧ z = (rowD R).word := by
  cases R with
  | nil => exact absurd rfl h
  | pl r t =>
    cases r with
    | set b l => exact ⟨_, _, rfl, wSet, rfl⟩
    | take b => exact ⟨_, _, rfl, wTake, rfl⟩
    | skip => exact ⟨_, _, rfl, wSkip, rfl⟩
    | halt => exact ⟨_, _, rfl, wHalt, rfl⟩
  | ei a b t => exact ⟨_, _, rfl, wEi, rfl⟩
  | lo a t => exact ⟨_, _, rfl, wLo, rfl⟩
  | ca k t => exact ⟨_, _, rfl, wCall, rfl⟩
theorem ifT {t : EvT} {A B : EvS} {e e2 : Lo} (h : t e = .ok (true, e2)) : fIfS t A B e = A e2 := by rw [ev_ifS, h, Res.bind_ok', ifSC_t]
theorem ifF {t : EvT} {A B : EvS} {e e2 : Lo} (h : t e = .ok (false, e2)) : fIfS t A B e = B e2 := by rw [ev_ifS, h, Res.bind_ok', ifSC_f]
/-- what a def does that lays rows out -/
def LayDoes (bs : List Rows) (rec : LayF) (F : Fn) : Prop := ∀ (R : Rows) (p : Int) (s : LS) (p' : Int) (s' : LS), rec R p s = some (p', s') → s'.steps.length ≤ 10000 →
  F [.sh (.list (rowsD R)), .sh (.int p), .sh (bodiesD bs), .ol (.int s.count :: s.steps)] = .ok (.sh (.int p'), [.sh (.list (rowsD R)), .no, .sh (bodiesD bs), .ol (.int s'.count :: s'.steps)])
/-- one row -/
theorem lay_turn (bs : List Rows) (n : Nat) (ih : LayDoes bs (layN bs n) (f_l_lay n)) (R : Rows) (hne : rowsD R ≠ []) (p : Int) (s : LS) (p' : Int) (s' : LS) (h : layOne (layN bs n) bs R p s = some (p', s')) (hl : s'.steps.length ≤ 10000) (a0 a5 a6 a7 a8 : Sl) :
    ∃ s5 s6 s7 s8, b3_l_lay (f_l_lay n) [a0, .sh (.int p), .sh (bodiesD bs), .ol (.int s.count :: s.steps), .sh (rowD R), a5, a6, a7, a8] = .ok (.nx [a0, .sh (.int p'), .sh (bodiesD bs), .ol (.int s'.count :: s'.steps), .sh (rowD R), s5, s6, s7, s8]) := by
  unfold b3_l_lay
  have sC : Str.ofString "call" = sCall := rfl
  have sE : Str.ofString "either" = sEither := rfl
  have sL : Str.ofString "loop" = sLoop := rfl
  have sH : Str.ofString "halt" = sHalt := rfl
  have sS : Str.ofString "skip" = sSkip := rfl
  have z0 : ∀ (x : D) (xs : List D), atI (x :: xs) 0 = some x := fun x xs => at_nat (n := 0) rfl
  cases R with
  | nil => exact absurd rfl hne
  | ca k t =>
    have h : ((bs[k]?).bind fun R => layN bs n R p s) = some (p', s') := h
    rw [Option.bind_eq_some_iff] at h
    obtain ⟨S, hS, h⟩ := h
    have q := ih S p s p' s' h hl
    refine ⟨a5, a6, a7, a8, ?_⟩
    have g0 : atI [PyData.str sCall, .int (k : Int)] 0 = some (.str sCall) := rfl
    have g1 : atI [PyData.str sCall, .int (k : Int)] 1 = some (.int k) := rfl
    have g2 : atI (bs.map fun R => PyData.list (rowsD R)) (k : Int) = some (.list (rowsD S)) := at_nat (by rw [List.getElem?_map, hS]; rfl)
    simp only [rowD, bodiesD] at q ⊢
    simp [sC, g0, g1, g2, eqW wCall wCall, q]
  | ei a b t =>
    have h : layEi (layN bs n) a b p s = some (p', s') := h
    unfold layEi at h
    simp only [Option.bind_eq_bind, Option.bind_eq_some_iff, Option.some.injEq, Prod.mk.injEq] at h
    obtain ⟨⟨q1, s1⟩, e1, ⟨q2, s2⟩, e2, s3, e3, s4, e4, rfl, rfl⟩ := h
    obtain ⟨h3, l3⟩ := goes_some e3
    obtain ⟨h4, l4⟩ := goes_some e4
    subst h4; subst h3
    simp at hl
    have m2 : s1.steps.length ≤ s2.steps.length := layN_mono bs n _ _ _ _ _ e2
    have i1 := ih a p s q1 s1 e1 (by omega)
    have i2 := ih b p s1 q2 s2 e2 (by omega)
    have cc : compF (.nm 7) fYes (e2_l_lay (f_l_lay n)) [7] [.list (rowsD a), .list (rowsD b)] [] [a0, .sh (.int p), .sh (bodiesD bs), .ol (.int s.count :: s.steps), .sh (eitherD (rowsD a) (rowsD b)), a5, a6, .no, a8] = .ok ([.int q1, .int q2], [a0, .sh (.int p), .sh (bodiesD bs), .ol (.int s2.count :: s2.steps), .sh (eitherD (rowsD a) (rowsD b)), a5, a6, .no, a8]) := by
      simp [compF, e2_l_lay, i1, i2]
    have hrow : rowD (.ei a b t) = .tuple [.str sEither, .list (rowsD a), .list (rowsD b)] := rfl
    have hsl : eitherD (rowsD a) (rowsD b) = .tuple [.str sEither, .list (rowsD a), .list (rowsD b)] := rfl
    rw [hsl] at cc
    have g0 : atI [PyData.str sEither, .list (rowsD a), .list (rowsD b)] 0 = some (.str sEither) := rfl
    refine ⟨.ol [.int q1, .int q2], a6, a7, a8, ?_⟩
    have cn : ¬ sEither = sCall := by decide +kernel
    have cg : cutG [PyData.str sEither, .list (rowsD a), .list (rowsD b)] (some 1) none = [.list (rowsD a), .list (rowsD b)] := rfl
    rw [hrow]
    rw [ifF (e2 := [a0, .sh (.int p), .sh (bodiesD bs), .ol (.int s.count :: s.steps), .sh (.tuple [.str sEither, .list (rowsD a), .list (rowsD b)]), a5, a6, a7, a8]) (by simp [sC, g0, eqW wEi wCall, cn])]
    rw [ifT (e2 := [a0, .sh (.int p), .sh (bodiesD bs), .ol (.int s.count :: s.steps), .sh (.tuple [.str sEither, .list (rowsD a), .list (rowsD b)]), a5, a6, a7, a8]) (by simp [sE, g0, eqW wEi wEi])]
    rw [seqN (e2 := [a0, .sh (.int p), .sh (bodiesD bs), .ol (.int s2.count :: s2.steps), .sh (.tuple [.str sEither, .list (rowsD a), .list (rowsD b)]), .ol [.int q1, .int q2], a6, a7, a8]) (by simp [cg, cc])]
    rw [seqN (e2 := [a0, .sh (.int s2.count), .sh (bodiesD bs), .ol (.int s2.count :: s2.steps), .sh (.tuple [.str sEither, .list (rowsD a), .list (rowsD b)]), .ol [.int q1, .int q2], a6, a7, a8]) (by simp [z0])]
    have st : storV 3 (.int (s2.count + 1)) [a0, .sh (.int s2.count), .sh (bodiesD bs), .ol (.int s2.count :: s2.steps), .sh (.tuple [.str sEither, .list (rowsD a), .list (rowsD b)]), .ol [.int q1, .int q2], a6, a7, a8] (.sh (.int 0)) (some (.ol (.int s2.count :: s2.steps))) = .ok (.nx [a0, .sh (.int s2.count), .sh (bodiesD bs), .ol (.int (s2.count + 1) :: s2.steps), .sh (.tuple [.str sEither, .list (rowsD a), .list (rowsD b)]), .ol [.int q1, .int q2], a6, a7, a8]) := storV_at (ixN_nat (k := 0) (by simp))
    rw [seqN (e2 := [a0, .sh (.int s2.count), .sh (bodiesD bs), .ol (.int (s2.count + 1) :: s2.steps), .sh (.tuple [.str sEither, .list (rowsD a), .list (rowsD b)]), .ol [.int q1, .int q2], a6, a7, a8]) (by simp [st, z0])]
    have c2 : compF (.nm 8) fYes (e1_l_lay (f_l_lay n)) [8] [.int q1, .int q2] [] [a0, .sh (.int s2.count), .sh (bodiesD bs), .ol (.int (s2.count + 1) :: s2.steps), .sh (.tuple [.str sEither, .list (rowsD a), .list (rowsD b)]), .no, a6, a7, .no] = .ok ([stepD q1 s2.count skipD, stepD q2 s2.count skipD], [a0, .sh (.int s2.count), .sh (bodiesD bs), .ol (.int (s2.count + 1) :: s2.steps), .sh (.tuple [.str sEither, .list (rowsD a), .list (rowsD b)]), .no, a6, a7, .no]) := by
      simp [compF, e1_l_lay, sS, stepD, skipD]
    have lx : s2.steps.length ≤ 16777213 := by omega
    simp [c2, lx]
  | lo a t => 
    have h : layLo (layN bs n) a p s = some (p', s') := h
    unfold layLo at h
    simp only [Option.bind_eq_bind, Option.bind_eq_some_iff, Option.some.injEq, Prod.mk.injEq] at h
    obtain ⟨s1, e1, ⟨q, s2⟩, e2, s3, e3, rfl, rfl⟩ := h
    obtain ⟨h1, l1⟩ := goes_some e1
    obtain ⟨h3, l3⟩ := goes_some e3
    subst h1; subst h3
    simp at hl
    have m2 : (s.steps ++ [stepD p s.count skipD]).length ≤ s2.steps.length := layN_mono bs n _ _ _ _ _ e2
    simp at m2
    have i1 := ih a s.count _ q s2 e2 (by omega)
    have hrow : rowD (.lo a t) = .tuple [.str sLoop, .list (rowsD a)] := rfl
    have g0 : atI [PyData.str sLoop, .list (rowsD a)] 0 = some (.str sLoop) := rfl
    have g1 : atI [PyData.str sLoop, .list (rowsD a)] 1 = some (.list (rowsD a)) := rfl
    refine ⟨a5, .sh (.int p), a7, a8, ?_⟩
    have cn : ¬ sLoop = sCall := by decide +kernel
    have cn2 : ¬ sLoop = sEither := by decide +kernel
    rw [hrow]
    rw [ifF (e2 := [a0, .sh (.int p), .sh (bodiesD bs), .ol (.int s.count :: s.steps), .sh (.tuple [.str sLoop, .list (rowsD a)]), a5, a6, a7, a8]) (by simp [sC, g0, eqW wLo wCall, cn])]
    rw [ifF (e2 := [a0, .sh (.int p), .sh (bodiesD bs), .ol (.int s.count :: s.steps), .sh (.tuple [.str sLoop, .list (rowsD a)]), a5, a6, a7, a8]) (by simp [sE, g0, eqW wLo wEi, cn2])]
    rw [seqN (e2 := [a0, .sh (.int p), .sh (bodiesD bs), .ol (.int s.count :: s.steps), .sh (.tuple [.str sLoop, .list (rowsD a)]), a5, .sh (.int p), a7, a8]) (by simp [z0])]
    rw [seqN (e2 := [a0, .sh (.int s.count), .sh (bodiesD bs), .ol (.int s.count :: s.steps), .sh (.tuple [.str sLoop, .list (rowsD a)]), a5, .sh (.int p), a7, a8]) (by simp [z0])]
    have st : storV 3 (.int (s.count + 1)) [a0, .sh (.int s.count), .sh (bodiesD bs), .ol (.int s.count :: s.steps), .sh (.tuple [.str sLoop, .list (rowsD a)]), a5, .sh (.int p), a7, a8] (.sh (.int 0)) (some (.ol (.int s.count :: s.steps))) = .ok (.nx [a0, .sh (.int s.count), .sh (bodiesD bs), .ol (.int (s.count + 1) :: s.steps), .sh (.tuple [.str sLoop, .list (rowsD a)]), a5, .sh (.int p), a7, a8]) := storV_at (ixN_nat (k := 0) (by simp))
    rw [seqN (e2 := [a0, .sh (.int s.count), .sh (bodiesD bs), .ol (.int (s.count + 1) :: s.steps), .sh (.tuple [.str sLoop, .list (rowsD a)]), a5, .sh (.int p), a7, a8]) (by simp [st, z0])]
    rw [ifT (e2 := [a0, .sh (.int s.count), .sh (bodiesD bs), .ol (.int (s.count + 1) :: s.steps), .sh (.tuple [.str sLoop, .list (rowsD a)]), a5, .sh (.int p), a7, a8]) (by simp [sL, g0, eqW wLo wLo])]
    have lx : s.steps.length + 1 < 16777216 := by omega
    rw [seqN (e2 := [a0, .sh (.int s.count), .sh (bodiesD bs), .ol (.int (s.count + 1) :: (s.steps ++ [stepD p s.count skipD])), .sh (.tuple [.str sLoop, .list (rowsD a)]), a5, .sh (.int p), a7, a8]) (by simp [sS, stepD, skipD, lx])]
    have lx2 : s2.steps.length + 1 < 16777216 := by omega
    simp only [stepD, skipD] at i1
    simp [g1, i1, sS, stepD, skipD, lx2]
  | pl r t =>
    have h : layPl r p s = some (p', s') := h
    have hw := Pl.word r
    obtain ⟨z, ds, hz, wz, hzw⟩ := row_word (.pl r t) hne
    have hrd : rowD (.pl r t) = r.d := rfl
    rw [← hrd, ← hzw] at hw
    have g0 : atI (PyData.str z :: ds) 0 = some (.str z) := z0 _ _
    have zC : ¬ z = sCall := by rcases hw with rfl | rfl | rfl | rfl <;> decide +kernel
    have zE : ¬ z = sEither := by rcases hw with rfl | rfl | rfl | rfl <;> decide +kernel
    have zL : ¬ z = sLoop := by rcases hw with rfl | rfl | rfl | rfl <;> decide +kernel
    refine ⟨a5, .sh (.int p), a7, a8, ?_⟩
    rw [hz]
    rw [ifF (e2 := [a0, .sh (.int p), .sh (bodiesD bs), .ol (.int s.count :: s.steps), .sh (.tuple (.str z :: ds)), a5, a6, a7, a8]) (by simp [sC, g0, eqW wz wCall, zC])]
    rw [ifF (e2 := [a0, .sh (.int p), .sh (bodiesD bs), .ol (.int s.count :: s.steps), .sh (.tuple (.str z :: ds)), a5, a6, a7, a8]) (by simp [sE, g0, eqW wz wEi, zE])]
    rw [seqN (e2 := [a0, .sh (.int p), .sh (bodiesD bs), .ol (.int s.count :: s.steps), .sh (.tuple (.str z :: ds)), a5, .sh (.int p), a7, a8]) (by simp [z0])]
    rw [seqN (e2 := [a0, .sh (.int s.count), .sh (bodiesD bs), .ol (.int s.count :: s.steps), .sh (.tuple (.str z :: ds)), a5, .sh (.int p), a7, a8]) (by simp [z0])]
    have st : storV 3 (.int (s.count + 1)) [a0, .sh (.int s.count), .sh (bodiesD bs), .ol (.int s.count :: s.steps), .sh (.tuple (.str z :: ds)), a5, .sh (.int p), a7, a8] (.sh (.int 0)) (some (.ol (.int s.count :: s.steps))) = .ok (.nx [a0, .sh (.int s.count), .sh (bodiesD bs), .ol (.int (s.count + 1) :: s.steps), .sh (.tuple (.str z :: ds)), a5, .sh (.int p), a7, a8]) := storV_at (ixN_nat (k := 0) (by simp))
    rw [seqN (e2 := [a0, .sh (.int s.count), .sh (bodiesD bs), .ol (.int (s.count + 1) :: s.steps), .sh (.tuple (.str z :: ds)), a5, .sh (.int p), a7, a8]) (by simp [st, z0])]
    rw [ifF (e2 := [a0, .sh (.int s.count), .sh (bodiesD bs), .ol (.int (s.count + 1) :: s.steps), .sh (.tuple (.str z :: ds)), a5, .sh (.int p), a7, a8]) (by simp [sL, g0, eqW wz wLo, zL])]
    by_cases hh : r = .halt
    · subst hh
      cases h
      have zz : z = sHalt := hzw
      subst zz
      rw [ifF (e2 := [a0, .sh (.int s.count), .sh (bodiesD bs), .ol (.int (s.count + 1) :: s.steps), .sh (.tuple (.str sHalt :: ds)), a5, .sh (.int p), a7, a8]) (by simp [sH, g0, neW wHalt wHalt])]
      rfl
    · have zH : ¬ z = sHalt := by
        rw [hzw]
        cases r with
        | halt => exact absurd rfl hh
        | set b l => show ¬ sSet = sHalt; decide +kernel
        | take b => show ¬ sTake = sHalt; decide +kernel
        | skip => show ¬ sSkip = sHalt; decide +kernel
      have e2 : layPl r p s = (goes ⟨s.count + 1, s.steps⟩ p s.count r.d).map fun s2 => (s.count, s2) := by
        cases r <;> first | rfl | exact absurd rfl hh
      rw [e2, Option.map_eq_some_iff] at h
      obtain ⟨s2, e3, e4⟩ := h
      cases e4
      obtain ⟨h1, l1⟩ := goes_some e3
      subst h1
      rw [ifT (e2 := [a0, .sh (.int s.count), .sh (bodiesD bs), .ol (.int (s.count + 1) :: s.steps), .sh (.tuple (.str z :: ds)), a5, .sh (.int p), a7, a8]) (by simp [sH, g0, neW wz wHalt, zH])]
      simp at hl
      have lx : s.steps.length + 1 < 16777216 := by omega
      have hz2 : r.d = .tuple (.str z :: ds) := hz
      simp [stepD, lx, hz2]
theorem loop_cons {tg : Tgt} {b : EvS} {d : D} {ds : List D} {env e1 e2 : Lo} (h1 : bindT tg d env = some e1) (h2 : b e1 = .ok (.nx e2)) : loopF tg b (d :: ds) env = loopF tg b ds e2 := by
  show (Res.ofO (bindT tg d env)).bind _ = _
  rw [h1]
  show (b e1).bind _ = _
  rw [h2]
  rfl
theorem lay_rows (bs : List Rows) (n : Nat) (ih : LayDoes bs (layN bs n) (f_l_lay n)) : ∀ (R : Rows) (p : Int) (s : LS) (p' : Int) (s' : LS), layRows (layN bs n) bs R p s = some (p', s') → s'.steps.length ≤ 10000 → ∀ a0 a4 a5 a6 a7 a8 : Sl,
    ∃ s4 s5 s6 s7 s8, loopF (.nm 4) (b3_l_lay (f_l_lay n)) (rowsD R) [a0, .sh (.int p), .sh (bodiesD bs), .ol (.int s.count :: s.steps), a4, a5, a6, a7, a8] = .ok (.nx [a0, .sh (.int p'), .sh (bodiesD bs), .ol (.int s'.count :: s'.steps), s4, s5, s6, s7, s8]) := by
  intro R
  have cons : ∀ R : Rows, rowsD R ≠ [] → (∀ (p : Int) (s : LS) (p' : Int) (s' : LS), layRows (layN bs n) bs R.tl p s = some (p', s') → s'.steps.length ≤ 10000 → ∀ a0 a4 a5 a6 a7 a8 : Sl,
    ∃ s4 s5 s6 s7 s8, loopF (.nm 4) (b3_l_lay (f_l_lay n)) (rowsD R.tl) [a0, .sh (.int p), .sh (bodiesD bs), .ol (.int s.count :: s.steps), a4, a5, a6, a7, a8] = .ok (.nx [a0, .sh (.int p'), .sh (bodiesD bs), .ol (.int s'.count :: s'.steps), s4, s5, s6, s7, s8])) →
    ∀ (p : Int) (s : LS) (p' : Int) (s' : LS), layRows (layN bs n) bs R p s = some (p', s') → s'.steps.length ≤ 10000 → ∀ a0 a4 a5 a6 a7 a8 : Sl,
    ∃ s4 s5 s6 s7 s8, loopF (.nm 4) (b3_l_lay (f_l_lay n)) (rowsD R) [a0, .sh (.int p), .sh (bodiesD bs), .ol (.int s.count :: s.steps), a4, a5, a6, a7, a8] = .ok (.nx [a0, .sh (.int p'), .sh (bodiesD bs), .ol (.int s'.count :: s'.steps), s4, s5, s6, s7, s8]) := by
    intro R hne ht p s p' s' h hl a0 a4 a5 a6 a7 a8
    rw [layRows_cons _ _ _ _ _ hne, Option.bind_eq_some_iff] at h
    obtain ⟨⟨q, s1⟩, e1, e2⟩ := h
    have m : s1.steps.length ≤ s'.steps.length := by
      have := layN_mono bs (n + 1) R.tl q s1 p' s' e2
      exact this
    obtain ⟨t5, t6, t7, t8, q1⟩ := lay_turn bs n ih R hne p s q s1 e1 (by omega) a0 a5 a6 a7 a8
    obtain ⟨u4, u5, u6, u7, u8, q2⟩ := ht q s1 p' s' e2 hl a0 (.sh (rowD R)) t5 t6 t7 t8
    refine ⟨u4, u5, u6, u7, u8, ?_⟩
    rw [rowsD_cons R hne, loop_cons rfl q1]
    exact q2
  induction R with
  | nil =>
    intro p s p' s' h hl a0 a4 a5 a6 a7 a8
    cases h
    exact ⟨a4, a5, a6, a7, a8, rfl⟩
  | pl r t ih => exact cons _ (by simp [rowsD]) ih
  | ei a b t _ _ ih => exact cons _ (by simp [rowsD]) ih
  | lo a t _ ih => exact cons _ (by simp [rowsD]) ih
  | ca k t ih => exact cons _ (by simp [rowsD]) ih
theorem lay_all (bs : List Rows) : ∀ n, LayDoes bs (layN bs n) (f_l_lay n) := by
  intro n
  induction n with
  | zero => intro R p s p' s' h; cases h
  | succ n ih =>
    intro R p s p' s' h hl
    obtain ⟨s4, s5, s6, s7, s8, q⟩ := lay_rows bs n ih R p s p' s' h hl (.sh (.list (rowsD R))) .no .no .no .no .no
    show g_l_lay (f_l_lay n) _ = _
    unfold g_l_lay
    rw [run_eq]
    have e1 : fForB 0 (.nm 4) (b3_l_lay (f_l_lay n)) [.sh (.list (rowsD R)), .sh (.int p), .sh (bodiesD bs), .ol (.int s.count :: s.steps), .no, .no, .no, .no, .no] = .ok (.nx [.sh (.list (rowsD R)), .sh (.int p'), .sh (bodiesD bs), .ol (.int s'.count :: s'.steps), s4, s5, s6, s7, s8]) := by
      show fFor (fIter (fVar 0)) _ _ _ = _
      simp [q]
    show (fSeq _ _ [.sh (.list (rowsD R)), .sh (.int p), .sh (bodiesD bs), .ol (.int s.count :: s.steps), .no, .no, .no, .no, .no]).bind (runC [0, 2, 3] 4) = _
    rw [seqN e1]
    simp [backArgs_eq, List.range_succ]
/-! ### the package's runs -/
@[simp] theorem shaped_bool (b : Bool) : shapedD (.bool b) = true := by
  unfold shapedD SeqAt.shaped
  rfl
theorem eqv_bool (a b : Bool) : PyData.eqv (.bool a) (.bool b) = (a == b) := by cases a <;> cases b <;> rfl
theorem zat (x : D) (xs : List D) : atI (x :: xs) 0 = some x := at_nat (n := 0) rfl
theorem zat1 (x y : D) (xs : List D) : atI (x :: y :: xs) 1 = some y := at_nat (n := 1) rfl
theorem zat2 (x y z : D) (xs : List D) : atI (x :: y :: z :: xs) 2 = some z := at_nat (n := 2) rfl
def isSet : Pl → Bool
  | .set _ _ => true
  | _ => false
def isSkip : Pl → Bool
  | .skip => true
  | _ => false
theorem wn1 : ¬ sSet = sTake := by decide +kernel
theorem wn2 : ¬ sSet = sSkip := by decide +kernel
theorem wn3 : ¬ sTake = sSet := by decide +kernel
theorem wn4 : ¬ sTake = sSkip := by decide +kernel
theorem wn5 : ¬ sSkip = sSet := by decide +kernel
theorem wn6 : ¬ sSkip = sTake := by decide +kernel
theorem wn7 : ¬ sHalt = sSet := by decide +kernel
theorem wn8 : ¬ sHalt = sTake := by decide +kernel
theorem wn9 : ¬ sHalt = sSkip := by decide +kernel
/-- a deed's word -/
theorem pl_word (r : Pl) : ∃ z ds, r.d = .tuple (.str z :: ds) ∧ IsWord z ∧ (decide (z = sTake)) = isTake r ∧ decide (z = sSet) = isSet r ∧ decide (z = sSkip) = isSkip r := by
  cases r with
  | set b l => exact ⟨_, _, rfl, wSet, decide_eq_false wn1, decide_eq_true rfl, decide_eq_false wn2⟩
  | take b => exact ⟨_, _, rfl, wTake, decide_eq_true rfl, decide_eq_false wn3, decide_eq_false wn4⟩
  | skip => exact ⟨_, _, rfl, wSkip, decide_eq_false wn6, decide_eq_false wn5, decide_eq_true rfl⟩
  | halt => exact ⟨_, _, rfl, wHalt, decide_eq_false wn8, decide_eq_false wn7, decide_eq_false wn9⟩
theorem eqW2 {z w : Str} (hz : IsWord z) (hw : IsWord w) : eqD (.str z) (.str w) = some (.sh (.bool (decide (z = w)))) := by
  rw [eqW hz hw]
  by_cases h : z = w
  · subst h; simp
  · simp [h]
theorem first_ok (many : Nat) (hm : many ≤ 1000) : f_first_stand [.sh (.int many)] = .ok (.sh (lineD (1 :: List.replicate many 0)), [.sh (.int many)]) := by
  unfold f_first_stand
  rw [run_eq]
  have l : 1 + many ≤ 16777216 := by omega
  simp [mulTD_one _ many hm, l, lineD, backArgs_eq, List.range_succ]
theorem box_ok (st : List Int) (b : Nat) (n : Int) (hb : b + 1 < st.length) (hl : st.length ≤ 1000) : f_with_box [.sh (lineD st), .sh (.int b), .sh (.int n)] = .ok (.sh (lineD (st.set (b + 1) n)), [.sh (lineD st), .sh (.int b), .sh (.int n)]) := by
  unfold f_with_box lineD
  rw [run_eq]
  have c1 : cutG (st.map PyData.int) none (some ((b : Int) + 1)) = (st.map PyData.int).take (b + 1) := cutG_to _ (b + 1)
  have c2 : cutG (st.map PyData.int) (some ((b : Int) + 2)) none = (st.map PyData.int).drop (b + 2) := cutG_from _ (b + 2)
  have e : (st.map PyData.int).take (b + 1) ++ .int n :: (st.map PyData.int).drop (b + 2) = (st.map PyData.int).set (b + 1) (.int n) := by
    rw [List.set_eq_take_append_cons_drop, if_pos (by simp; omega)]
  have l3 : min (b + 1) st.length ≤ 16777215 := by omega
  have l4 : min (b + 1) st.length + 1 + (st.length - (b + 2)) ≤ 16777216 := by omega
  simp [c1, c2, l3, l4, e, backArgs_eq, List.range_succ]
theorem zipW (l st : List Int) : (List.zip l st).map (fun p => PyData.int (p.1 * p.2)) = (List.zipWith (fun a b => a * b) l st).map PyData.int := by
  induction l generalizing st with
  | nil => rfl
  | cons x l ih =>
    cases st with
    | nil => rfl
    | cons y st => simp [ih]
theorem zipI (l st : List Int) : zipD (l.map PyData.int) (st.map PyData.int) = (List.zip l st).map fun p => PyData.tuple [.int p.1, .int p.2] := by
  induction l generalizing st with
  | nil => rfl
  | cons x l ih =>
    cases st with
    | nil => rfl
    | cons y st =>
      have := ih st
      unfold zipD at this ⊢
      simp [this]
theorem behind_ok (many : Nat) (hm : many ≤ 100) (st : List Int) (hst : st.length = many + 1) (p : Pl) (hp : PlOk many p) (num : Option Int) (hn : num.isSome = isTake p) :
    f_behind [.sh (lineD st), .sh p.d, .sh (optD num)] = .ok (.sh (lineD (behindL st p num)), [.sh (lineD st), .sh p.d, .sh (optD num)]) := by
  unfold f_behind
  rw [run_eq]
  have sS : Str.ofString "set" = sSet := rfl
  have sT : Str.ofString "take" = sTake := rfl
  cases p with
  | set b l =>
    obtain ⟨h0, h1, hl, hx, _⟩ := hp
    obtain ⟨k, rfl⟩ : ∃ k : Nat, b = k := ⟨b.toNat, by omega⟩
    have bx := box_ok st k (dot l st) (by omega) (by omega)
    have cc : compF (.tp [3, 4]) fYes e1_behind [3, 4] (zipD (l.map PyData.int) (st.map PyData.int)) [] [.sh (lineD st), .sh (.tuple [.str sSet, .int k, lineD l]), .sh (optD num), .no, .no] = .ok ((List.zipWith (fun a b => a * b) l st).map PyData.int, [.sh (lineD st), .sh (.tuple [.str sSet, .int k, lineD l]), .sh (optD num), .no, .no]) := by
      rw [zipI, comp_of (E := [.sh (lineD st), .sh (.tuple [.str sSet, .int k, lineD l]), .sh (optD num), .no, .no]) _ (fun p => .int (p.1 * p.2)) _ _ (by simp; omega) (fun p hp => by
        have hpl : p.1 ∈ l := (List.of_mem_zip hp).1
        have m1 : mulOk p.1 p.2 = true := mulOk_left (by have := (hx _ hpl).1; omega) (by have := (hx _ hpl).2; omega)
        refine ⟨_, .sh (.int (p.1 * p.2)), [.sh (lineD st), .sh (.tuple [.str sSet, .int k, lineD l]), .sh (optD num), .sh (.int p.1), .sh (.int p.2)], rfl, rfl, ?_, _, rfl, rfl⟩
        unfold e1_behind
        simp [mulD_int m1]), zipW]
      rfl
    have tr : (Pl.set (k : Int) l).d = .tuple [.str sSet, .int k, lineD l] := rfl
    rw [tr]
    have w : behindL st (.set (k : Int) l) num = st.set (k + 1) (dot l st) := by simp [behindL]
    rw [w]
    have hd : sumD [.list (List.zipWith (fun x y => PyData.int (x * y)) l st)] = some (.sh (.int (dot l st))) := by
      have := sumD_ints (List.zipWith (fun a b => a * b) l st)
      rw [List.map_zipWith] at this
      exact this
    have z1 : atI [PyData.str sSet, .int k, lineD l] 1 = some (.int k) := zat1 _ _ _
    have z2 : atI [PyData.str sSet, .int k, lineD l] 2 = some (lineD l) := zat2 _ _ _ _
    have z0 : atI [PyData.str sSet, .int k, lineD l] 0 = some (.str sSet) := zat _ _
    unfold lineD at *
    simp [sS, eqW2 wSet wSet, z0, z1, z2, cc, hd, bx, backArgs_eq, List.range_succ]
  | take b =>
    obtain ⟨h0, h1⟩ := hp
    obtain ⟨k, rfl⟩ : ∃ k : Nat, b = k := ⟨b.toNat, by omega⟩
    cases num with
    | none => cases hn
    | some m =>
    have bx := box_ok st k m (by omega) (by omega)
    have tr : (Pl.take (k : Int)).d = .tuple [.str sTake, .int k] := rfl
    rw [tr]
    have w : behindL st (.take (k : Int)) (some m) = st.set (k + 1) m := by simp [behindL]
    rw [w]
    have z1 : atI [PyData.str sTake, .int k] 1 = some (.int k) := zat1 _ _ _
    have z0 : atI [PyData.str sTake, .int k] 0 = some (.str sTake) := zat _ _
    simp [sS, sT, eqW2 wTake wSet, eqW2 wTake wTake, wn3, z0, z1, bx, optD, backArgs_eq, List.range_succ]
  | skip =>
    have tr : (Pl.skip).d = .tuple [.str sSkip] := rfl
    rw [tr]
    have w : behindL st .skip num = st := rfl
    rw [w]
    simp [sS, sT, eqW2 wSkip wSet, eqW2 wSkip wTake, wn5, wn6, zat, backArgs_eq, List.range_succ]
  | halt =>
    have tr : (Pl.halt).d = .tuple [.str sHalt] := rfl
    rw [tr]
    have w : behindL st .halt num = st := rfl
    rw [w]
    simp [sS, sT, eqW2 wHalt wSet, eqW2 wHalt wTake, wn7, wn8, zat, backArgs_eq, List.range_succ]
/-- a move that is a way on -/
theorem fits_ok (sts : List Stp) (hl : sts.length ≤ 100000) (j : Nat) (num : Option Int) (x : Stp) (hx : sts[j]? = some x) (hn : num.isSome = isTake x.2.2) :
    f_fits [.sh (.list (sts.map stD)), .sh (.int x.1), .sh (mvD (j, num))] = .ok (.sh (.bool true), [.sh (.list (sts.map stD)), .sh (.int x.1), .sh (mvD (j, num))]) := by
  obtain ⟨a, b, r⟩ := x
  obtain ⟨z, ds, hz, wz, tz, _, _⟩ := pl_word r
  have hj : j < sts.length := (List.getElem?_eq_some_iff.mp hx).1
  have i1 : atI (sts.map stD) (j : Int) = some (.tuple [.int a, .int b, .tuple (.str z :: ds)]) := by
    rw [← hz]
    exact at_nat (by rw [List.getElem?_map, hx]; rfl)
  have z0 : atI [PyData.int j, optD num] 0 = some (.int j) := zat _ _
  have z1 : atI [PyData.int j, optD num] 1 = some (optD num) := zat1 _ _ _
  have y0 : atI [PyData.int a, .int b, .tuple (.str z :: ds)] 0 = some (.int a) := zat _ _
  have y2 : atI [PyData.int a, .int b, .tuple (.str z :: ds)] 2 = some (.tuple (.str z :: ds)) := zat2 _ _ _ _
  have sT : Str.ofString "take" = sTake := rfl
  have hm : mvD (j, num) = .tuple [.int j, optD num] := rfl
  unfold f_fits
  rw [run_eq, hm]
  have hnn : notND (optD num) .none = some (.sh (.bool (isTake r))) := by
    rw [← hn]
    cases num <;> simp [optD]
  have hn' : isTake r = (decide (z = sTake)) := tz.symm
  have jl : ¬ (sts.length : Int) ≤ j := by omega
  have jn : ¬ (j : Int) < 0 := by omega
  simp [z0, z1, i1, y0, y2, zat, sT, eqW2 wz wTake, hnn, neD_ok, eqv_int, eqD_ok, eqv_bool, hn', jl, jn, backArgs_eq, List.range_succ]
/-! ### a move that leads nowhere -/
def BadMv (sts : List Stp) (p j : Int) (num : Option Int) : Prop := j < 0 ∨ (sts.length : Int) ≤ j ∨ ∃ (k : Nat) (x : Stp), j = k ∧ sts[k]? = some x ∧ (x.1 ≠ p ∨ num.isSome ≠ isTake x.2.2)
def badD (j : Int) (num : Option Int) : D := .tuple [.int j, optD num]
theorem fits_no (sts : List Stp) (hl : sts.length ≤ 100000) (p j : Int) (num : Option Int) (h : BadMv sts p j num) :
    f_fits [.sh (.list (sts.map stD)), .sh (.int p), .sh (badD j num)] = .ok (.sh (.bool false), [.sh (.list (sts.map stD)), .sh (.int p), .sh (badD j num)]) := by
  have z0 : atI [PyData.int j, optD num] 0 = some (.int j) := zat _ _
  have z1 : atI [PyData.int j, optD num] 1 = some (optD num) := zat1 _ _ _
  have hm : badD j num = .tuple [.int j, optD num] := rfl
  unfold f_fits
  rw [run_eq, hm]
  by_cases h1 : j < 0
  · simp [z0, h1, backArgs_eq, List.range_succ]
  by_cases h2 : (sts.length : Int) ≤ j
  · simp [z0, h1, h2, backArgs_eq, List.range_succ]
  rcases h with h | h | ⟨k, ⟨a, b, r⟩, rfl, hx, h⟩
  · exact absurd h h1
  · exact absurd h h2
  obtain ⟨z, ds, hz, wz, tz, _, _⟩ := pl_word r
  have i1 : atI (sts.map stD) (k : Int) = some (.tuple [.int a, .int b, .tuple (.str z :: ds)]) := by
    rw [← hz]
    exact at_nat (by rw [List.getElem?_map, hx]; rfl)
  have y0 : atI [PyData.int a, .int b, .tuple (.str z :: ds)] 0 = some (.int a) := zat _ _
  have y2 : atI [PyData.int a, .int b, .tuple (.str z :: ds)] 2 = some (.tuple (.str z :: ds)) := zat2 _ _ _ _
  have sT : Str.ofString "take" = sTake := rfl
  have hnn : notND (optD num) .none = some (.sh (.bool num.isSome)) := by
    cases num <;> simp [optD]
  by_cases ha : a = p
  · subst ha
    have hq : num.isSome ≠ isTake r := by
      rcases h with h | h
      · exact absurd rfl h
      · exact h
    have tz' : isTake r = decide (z = sTake) := tz.symm
    rw [tz'] at hq
    have hb : (num.isSome == decide (z = sTake)) = false := by simpa using hq
    simp [z0, z1, h1, h2, i1, y0, y2, zat, sT, eqW2 wz wTake, hnn, neD_ok, eqv_int, eqD_ok, eqv_bool, hb, backArgs_eq, List.range_succ]
  · simp [z0, h1, h2, i1, y0, neD_ok, eqv_int, bf ha, backArgs_eq, List.range_succ]
theorem ran_loop (many : Nat) (hm : many ≤ 100) (c : Int) (sts : List Stp) (hs : StsOk many c sts) (hl : sts.length ≤ 100000) (a0 a1 a2 a4 : Sl) (tl : List D) : ∀ (ms : List Mv) (p : Int) (st : List Int) (acc : List D) (s8 : Sl), Path sts p ms → st.length = many + 1 → acc.length + ms.length ≤ 100000 →
    ∃ ste t8, ste.length = many + 1 ∧ loopF (.nm 8) b1_ran (ms.map mvD ++ tl) [a0, a1, a2, .sh (.list (sts.map stD)), a4, .sh (.int p), .sh (lineD st), .ol (acc ++ [stateD (p, st)]), s8] = loopF (.nm 8) b1_ran tl [a0, a1, a2, .sh (.list (sts.map stD)), a4, .sh (.int (endAt sts p ms)), .sh (lineD ste), .ol (acc ++ (walkL sts p st ms).map stateD), t8] := by
  intro ms
  induction ms with
  | nil =>
    intro p st acc s8 _ hst _
    exact ⟨st, s8, hst, rfl⟩
  | cons m ms ih =>
    intro p st acc s8 h hst hlen
    cases h with
    | @cons _ j num x _ h1 h2 h3 h4 =>
    subst h2
    obtain ⟨a, b, r⟩ := x
    have ft := fits_ok sts hl j num (a, b, r) h1 h3
    have bo := behind_ok many hm st hst r (hs _ (List.mem_of_getElem? h1)).1 num h3
    simp only [List.length_cons] at hlen
    obtain ⟨ste, t8, hte, q⟩ := ih b (behindL st r num) (acc ++ [stateD (a, st)]) (.sh (mvD (j, num))) h4 (by rw [behindL_len]; exact hst) (by simp; omega)
    refine ⟨ste, t8, hte, ?_⟩
    have w : walkL sts a st ((j, num) :: ms) = (a, st) :: walkL sts b (behindL st r num) ms := by
      show (a, st) :: _ = _
      simp only [h1]
    have en : endAt sts a ((j, num) :: ms) = endAt sts b ms := by
      rw [endAt]
      simp only [h1]
    rw [w, en]
    have i1 : atI (sts.map stD) (j : Int) = some (.tuple [.int a, .int b, r.d]) := at_nat (by rw [List.getElem?_map, h1]; rfl)
    have hmv : mvD (j, num) = .tuple [.int j, optD num] := rfl
    have z0 : atI [PyData.int j, optD num] 0 = some (.int j) := zat _ _
    have z1 : atI [PyData.int j, optD num] 1 = some (optD num) := zat1 _ _ _
    have y1 : atI [PyData.int a, .int b, r.d] 1 = some (.int b) := zat1 _ _ _
    have y2 : atI [PyData.int a, .int b, r.d] 2 = some r.d := zat2 _ _ _ _
    rw [hmv] at ft
    have al : acc.length + 1 < 16777216 := by omega
    have turn : b1_ran [a0, a1, a2, .sh (.list (sts.map stD)), a4, .sh (.int a), .sh (lineD st), .ol (acc ++ [stateD (a, st)]), .sh (mvD (j, num))] = .ok (.nx [a0, a1, a2, .sh (.list (sts.map stD)), a4, .sh (.int b), .sh (lineD (behindL st r num)), .ol ((acc ++ [stateD (a, st)]) ++ [stateD (b, behindL st r num)]), .sh (mvD (j, num))]) := by
      unfold b1_ran
      rw [hmv]
      simp [fIfX, fNoX, ft, i1, z0, z1, y1, y2, bo, al, stateD]
    rw [List.map_cons, List.cons_append, loop_cons rfl turn, q]
    simp
theorem walk_head (sts : List Stp) (p : Int) (st : List Int) (ms : List Mv) : (walkL sts p st ms).take 1 = [(p, st)] := by cases ms <;> rfl
theorem ran_open (many M : Nat) (hm : many ≤ 100) (hM : M ≤ 1000) (bs : List Rows) (c : Int) (sts : List Stp) (e : Int) (hL : Laid many M bs c sts e) (A1 : Sl) (ds : List D) (hA : A1 = .ol ds ∨ A1 = .sh (.list ds)) :
    f_ran [.sh (progD many bs), A1] = (fSeq (fun env => loopF (.nm 8) b1_ran ds env) (fNoX (fRet (fVar 7))) [.sh (progD many bs), .sh (.list ds), .sh (.int c), .sh (.list (sts.map stD)), .sh (.int e), .sh (.int 0), .sh (lineD (1 :: List.replicate many 0)), .ol [stateD (0, 1 :: List.replicate many 0)], .no]).bind (runC [0, 1] 2) := by
  unfold f_ran
  rw [run_eq]
  have hlen := hL.len
  have ld := f_laid_eq hL.to
  have fs := first_ok many (by omega)
  have pd : progD many bs = .tuple [.int many, bodiesD bs] := rfl
  have z0 : atI [PyData.int many, bodiesD bs] 0 = some (.int many) := zat _ _
  show (fSeq _ _ [.sh (progD many bs), A1, .no, .no, .no, .no, .no, .no, .no]).bind _ = _
  rw [seqN (e2 := [.sh (progD many bs), A1, .sh (.int c), .sh (.list (sts.map stD)), .sh (.int e), .no, .no, .no, .no]) (by simp [fNoX, ld])]
  rw [seqN (e2 := [.sh (progD many bs), A1, .sh (.int c), .sh (.list (sts.map stD)), .sh (.int e), .sh (.int 0), .no, .no, .no]) (by simp [fNoX])]
  rw [seqN (e2 := [.sh (progD many bs), A1, .sh (.int c), .sh (.list (sts.map stD)), .sh (.int e), .sh (.int 0), .sh (lineD (1 :: List.replicate many 0)), .no, .no]) (by
    rw [pd]
    simp [fNoX, z0, fs])]
  rw [seqN (e2 := [.sh (progD many bs), A1, .sh (.int c), .sh (.list (sts.map stD)), .sh (.int e), .sh (.int 0), .sh (lineD (1 :: List.replicate many 0)), .ol [stateD (0, 1 :: List.replicate many 0)], .no]) (by simp [fNoX, stateD])]
  have hF : ∀ (a2 a3 a4 a5 a6 a7 a8 a0 : Sl), fForX (fIter (fVar 1)) (.nm 8) b1_ran [a0, A1, a2, a3, a4, a5, a6, a7, a8] = loopF (.nm 8) b1_ran ds [a0, .sh (.list ds), a2, a3, a4, a5, a6, a7, a8] := by
    intro a2 a3 a4 a5 a6 a7 a8 a0
    rcases hA with rfl | rfl <;> simp [fForX]
  congr 1
  rw [fSeq_eq, fSeq_eq, hF]
theorem ran_ok (many M : Nat) (hm : many ≤ 100) (hM : M ≤ 1000) (bs : List Rows) (c : Int) (sts : List Stp) (e : Int) (hL : Laid many M bs c sts e) (ms : List Mv) (hp : Path sts 0 ms) (hms : ms.length ≤ 90000) (A1 : Sl) (hA : A1 = .ol (ms.map mvD) ∨ A1 = .sh (.list (ms.map mvD))) :
    f_ran [.sh (progD many bs), A1] = .ok (.ol ((walkL sts 0 (1 :: List.replicate many 0) ms).map stateD), [.sh (progD many bs), .sh (.list (ms.map mvD))]) := by
  rw [ran_open many M hm hM bs c sts e hL A1 _ hA]
  have hlen := hL.len
  obtain ⟨ste, t8, _, q⟩ := ran_loop many hm c sts hL.ok (by omega) (.sh (progD many bs)) (.sh (.list (ms.map mvD))) (.sh (.int c)) (.sh (.int e)) [] ms 0 (1 :: List.replicate many 0) [] .no hp (by simp) (by simp; omega)
  rw [List.append_nil, List.nil_append, List.nil_append] at q
  rw [fSeq_eq, q]
  simp [loopF, fNoX, backArgs_eq, List.range_succ]
theorem ran_no (many M : Nat) (hm : many ≤ 100) (hM : M ≤ 1000) (bs : List Rows) (c : Int) (sts : List Stp) (e : Int) (hL : Laid many M bs c sts e) (ms : List Mv) (hp : Path sts 0 ms) (hms : ms.length ≤ 90000) (j : Int) (num : Option Int) (hb : BadMv sts (endAt sts 0 ms) j num) (tl : List D) (A1 : Sl) (hA : A1 = .ol (ms.map mvD ++ badD j num :: tl) ∨ A1 = .sh (.list (ms.map mvD ++ badD j num :: tl))) :
    f_ran [.sh (progD many bs), A1] = .ex "NoRun" .none := by
  rw [ran_open many M hm hM bs c sts e hL A1 _ hA]
  have hlen := hL.len
  obtain ⟨ste, t8, _, q⟩ := ran_loop many hm c sts hL.ok (by omega) (.sh (progD many bs)) (.sh (.list (ms.map mvD ++ badD j num :: tl))) (.sh (.int c)) (.sh (.int e)) (badD j num :: tl) ms 0 (1 :: List.replicate many 0) [] .no hp (by simp) (by simp; omega)
  rw [List.nil_append, List.nil_append] at q
  have fn := fits_no sts (by omega) (endAt sts 0 ms) j num hb
  rw [fSeq_eq, q]
  unfold loopF
  simp [b1_ran, fIfX, fn, fRaise]
  rfl
theorem is_run_ok (many M : Nat) (hm : many ≤ 100) (hM : M ≤ 1000) (bs : List Rows) (c : Int) (sts : List Stp) (e : Int) (hL : Laid many M bs c sts e) (ms : List Mv) (hp : Path sts 0 ms) (hms : ms.length ≤ 90000) :
    f_is_run [.sh (progD many bs), .ol (ms.map mvD)] = .ok (.sh (.bool true), [.sh (progD many bs), .sh (.list (ms.map mvD))]) := by
  have := ran_ok many M hm hM bs c sts e hL ms hp hms (.sh (.list (ms.map mvD))) (.inr rfl)
  unfold f_is_run
  rw [run_eq]
  simp [fTryF, frzV, isVw, this, backArgs_eq, List.range_succ]
theorem is_run_no (many M : Nat) (hm : many ≤ 100) (hM : M ≤ 1000) (bs : List Rows) (c : Int) (sts : List Stp) (e : Int) (hL : Laid many M bs c sts e) (ms : List Mv) (hp : Path sts 0 ms) (hms : ms.length ≤ 90000) (j : Int) (num : Option Int) (hb : BadMv sts (endAt sts 0 ms) j num) (tl : List D) :
    f_is_run [.sh (progD many bs), .sh (.list (ms.map mvD ++ badD j num :: tl))] = .ok (.sh (.bool false), [.sh (progD many bs), .sh (.list (ms.map mvD ++ badD j num :: tl))]) := by
  have := ran_no many M hm hM bs c sts e hL ms hp hms j num hb tl (.sh (.list (ms.map mvD ++ badD j num :: tl))) (.inr rfl)
  unfold f_is_run
  rw [run_eq]
  simp [fTryF, frzV, isVw, this, backArgs_eq, List.range_succ]
theorem refused_no (many M : Nat) (hm : many ≤ 100) (hM : M ≤ 1000) (bs : List Rows) (c : Int) (sts : List Stp) (e : Int) (hL : Laid many M bs c sts e) (ms : List Mv) (hp : Path sts 0 ms) (hms : ms.length ≤ 90000) (j : Int) (num : Option Int) (hb : BadMv sts (endAt sts 0 ms) j num) (tl : List D) :
    f_l_refused [.sh (progD many bs), .sh (.list (ms.map mvD ++ badD j num :: tl))] = .ok (.sh (.bool true), [.sh (progD many bs), .sh (.list (ms.map mvD ++ badD j num :: tl))]) := by
  have := ran_no many M hm hM bs c sts e hL ms hp hms j num hb tl (.sh (.list (ms.map mvD ++ badD j num :: tl))) (.inr rfl)
  simp [f_l_refused, fRefused, this]
/-! ### the law's own runs -/
theorem set_range (st : List Int) (b : Nat) (n : Int) : (List.range st.length).map (fun (k : Nat) => PyData.int (if k = b then n else st.getD k 0)) = (st.set b n).map PyData.int := by
  refine List.ext_getElem (by simp) fun i h1 h2 => ?_
  simp only [List.length_map, List.length_range] at h1
  simp only [List.getElem_map, List.getElem_range, List.getElem_set]
  by_cases hb : b = i
  · subst hb; simp
  · rw [if_neg hb, if_neg (fun z => hb z.symm)]
    simp [h1]
theorem dot_range (l st : List Int) (h : l.length = st.length) : (List.range st.length).map (fun (k : Nat) => PyData.int (l.getD k 0 * st.getD k 0)) = (List.zipWith (fun a b => a * b) l st).map PyData.int := by
  refine List.ext_getElem (by simp [h]) fun i h1 h2 => ?_
  simp only [List.length_map, List.length_range] at h1
  have h3 : i < l.length := by omega
  simp [h1, h3]
theorem at_line (st : List Int) (k : Nat) (h : k < st.length) : atI (st.map PyData.int) (k : Int) = some (.int (st.getD k 0)) := at_nat (by simp [h])
theorem lbehind_ok (many : Nat) (hm : many ≤ 100) (st : List Int) (hst : st.length = many + 1) (p : Pl) (hp : PlOk many p) (hh : p ≠ .halt) (num : Option Int) (hn : num.isSome = isTake p) :
    f_l_behind [.sh (lineD st), .sh p.d, .sh (optD num)] = .ok (.sh (lineD (behindL st p num)), [.sh (lineD st), .sh p.d, .no]) := by
  have sS : Str.ofString "set" = sSet := rfl
  have sK : Str.ofString "skip" = sSkip := rfl
  -- the last statement
  have fin : ∀ (z : Str) (b : Nat) (n : Int) (ds : List D), ((fRet (fCB tupleD (fCons (fLc (fRng (fCons (fCB lenD (fCons (fVar 0) fNil)) fNil)) (.nm 3) fYes e1_l_behind [3]) fNil))) [.sh (lineD st), .sh (.tuple (.str z :: .int b :: ds)), .sh (.int n), .no]).bind (runC [0, 1] 3) = .ok (.sh (lineD (st.set (b + 1) n)), [.sh (lineD st), .sh (.tuple (.str z :: .int b :: ds)), .no]) := by
    intro z b n ds
    have z1 : atI (PyData.str z :: .int b :: ds) 1 = some (.int b) := zat1 _ _ _
    have cc : compF (.nm 3) fYes e1_l_behind [3] (rngD 0 st.length) [] [.sh (lineD st), .sh (.tuple (.str z :: .int b :: ds)), .sh (.int n), .no] = .ok ((st.set (b + 1) n).map PyData.int, [.sh (lineD st), .sh (.tuple (.str z :: .int b :: ds)), .sh (.int n), .no]) := by
      have := comp_of (tg := .nm 3) (ft := fYes) (fe := e1_l_behind) (own := [3]) (E := [.sh (lineD st), .sh (.tuple (.str z :: .int b :: ds)), .sh (.int n), .no]) (fun (k : Nat) => PyData.int (0 + (k : Int))) (fun (k : Nat) => .int (if k = b + 1 then n else st.getD k 0)) (List.range st.length) [] (by simp; omega) (fun k hk => by
        have hk : k < st.length := List.mem_range.mp hk
        have ak := at_line st k hk
        refine ⟨_, .sh (.int (if k = b + 1 then n else st.getD k 0)), [.sh (lineD st), .sh (.tuple (.str z :: .int b :: ds)), .sh (.int n), .sh (.int (0 + (k : Int)))], rfl, rfl, ?_, _, rfl, rfl⟩
        unfold e1_l_behind
        by_cases hb : k = b + 1
        · subst hb
          simp [lineD, z1, neD_ok, eqv_int]
        · have hb2 : ¬ (k : Int) = (b : Int) + 1 := by omega
          unfold lineD at *
          simp only [if_neg hb]
          simp [z1, neD_ok, eqv_int, bf hb2, ak])
      unfold rngD
      rw [this, List.nil_append, set_range]
    have hl1 : (-4611686018427387904 : Int) ≤ st.length := by omega
    have hl2 : (st.length : Int) < 4611686018427387904 := by omega
    have ll : (st.map PyData.int).length = st.length := by simp
    unfold lineD at *
    simp [hl1, hl2, cc, backArgs_eq, List.range_succ]
  unfold f_l_behind
  rw [run_eq]
  cases p with
  | halt => exact absurd rfl hh
  | skip =>
    have tr : (Pl.skip).d = .tuple [.str sSkip] := rfl
    have w : behindL st .skip num = st := rfl
    rw [tr, w]
    simp [sK, eqW2 wSkip wSkip, zat, backArgs_eq, List.range_succ]
  | take b =>
    obtain ⟨h0, h1⟩ := hp
    obtain ⟨k, rfl⟩ : ∃ k : Nat, b = k := ⟨b.toNat, by omega⟩
    cases num with
    | none => cases hn
    | some m =>
    have tr : (Pl.take (k : Int)).d = .tuple [.str sTake, .int k] := rfl
    have w : behindL st (.take (k : Int)) (some m) = st.set (k + 1) m := by simp [behindL]
    rw [tr, w]
    have z0 : atI [PyData.str sTake, .int k] 0 = some (.str sTake) := zat _ _
    have f := fin sTake k m []
    show (fSeq _ _ [.sh (lineD st), .sh (.tuple [.str sTake, .int k]), .sh (.int m), .no]).bind _ = _
    rw [seqN (e2 := [.sh (lineD st), .sh (.tuple [.str sTake, .int k]), .sh (.int m), .no]) (by simp [sK, z0, eqW2 wTake wSkip, wn4])]
    rw [seqN (e2 := [.sh (lineD st), .sh (.tuple [.str sTake, .int k]), .sh (.int m), .no]) (by simp [sS, z0, eqW2 wTake wSet, wn3])]
    exact f
  | set b l =>
    obtain ⟨h0, h1, hl, hx, _⟩ := hp
    obtain ⟨k, rfl⟩ : ∃ k : Nat, b = k := ⟨b.toNat, by omega⟩
    have tr : (Pl.set (k : Int) l).d = .tuple [.str sSet, .int k, lineD l] := rfl
    have w : behindL st (.set (k : Int) l) num = st.set (k + 1) (dot l st) := by simp [behindL]
    rw [tr, w]
    have z0 : atI [PyData.str sSet, .int k, lineD l] 0 = some (.str sSet) := zat _ _
    have z2 : atI [PyData.str sSet, .int k, lineD l] 2 = some (lineD l) := zat2 _ _ _ _
    have f := fin sSet k (dot l st) [lineD l]
    have cc : compF (.nm 3) fYes e2_l_behind [3] (rngD 0 st.length) [] [.sh (lineD st), .sh (.tuple [.str sSet, .int k, lineD l]), .sh (optD num), .no] = .ok ((List.zipWith (fun a b => a * b) l st).map PyData.int, [.sh (lineD st), .sh (.tuple [.str sSet, .int k, lineD l]), .sh (optD num), .no]) := by
      have := comp_of (tg := .nm 3) (ft := fYes) (fe := e2_l_behind) (own := [3]) (E := [.sh (lineD st), .sh (.tuple [.str sSet, .int k, lineD l]), .sh (optD num), .no]) (fun (k : Nat) => PyData.int (0 + (k : Int))) (fun (k : Nat) => .int (l.getD k 0 * st.getD k 0)) (List.range st.length) [] (by simp; omega) (fun i hi => by
        have hi : i < st.length := List.mem_range.mp hi
        have ak := at_line st i hi
        have al := at_line l i (by omega)
        have hmem : l.getD i 0 ∈ l := by
          have : i < l.length := by omega
          simp [this]
        have m1 : mulOk (l.getD i 0) (st.getD i 0) = true := mulOk_left (by have := (hx _ hmem).1; omega) (by have := (hx _ hmem).2; omega)
        refine ⟨_, .sh (.int (l.getD i 0 * st.getD i 0)), [.sh (lineD st), .sh (.tuple [.str sSet, .int k, lineD l]), .sh (optD num), .sh (.int (0 + (i : Int)))], rfl, rfl, ?_, _, rfl, rfl⟩
        unfold e2_l_behind
        obtain ⟨u, hu⟩ : ∃ u, u = l.getD i 0 := ⟨_, rfl⟩
        obtain ⟨v, hv⟩ : ∃ v, v = st.getD i 0 := ⟨_, rfl⟩
        rw [← hu] at al m1 ⊢
        rw [← hv] at ak m1 ⊢
        unfold lineD at *
        simp [z2, al, ak, mulD_int m1])
      unfold rngD
      rw [this, List.nil_append, dot_range l st (by omega)]
    have hd : sumD [.list ((List.zipWith (fun a b => a * b) l st).map PyData.int)] = some (.sh (.int (dot l st))) := sumD_ints _
    obtain ⟨W, hW⟩ : ∃ W, W = (List.zipWith (fun a b => a * b) l st).map PyData.int := ⟨_, rfl⟩
    rw [← hW] at cc hd
    have hl1 : (-4611686018427387904 : Int) ≤ st.length := by omega
    have hl2 : (st.length : Int) < 4611686018427387904 := by omega
    show (fSeq _ _ [.sh (lineD st), .sh (.tuple [.str sSet, .int k, lineD l]), .sh (optD num), .no]).bind _ = _
    rw [seqN (e2 := [.sh (lineD st), .sh (.tuple [.str sSet, .int k, lineD l]), .sh (optD num), .no]) (by simp [sK, z0, eqW2 wSet wSkip, wn2])]
    rw [seqN (e2 := [.sh (lineD st), .sh (.tuple [.str sSet, .int k, lineD l]), .sh (.int (dot l st)), .no]) (by
      unfold lineD at *
      simp [sS, z0, eqW2 wSet wSet, hl1, hl2, cc, hd])]
    exact f
/-! ### walked -/
theorem walked_loop (many : Nat) (hm : many ≤ 100) (c : Int) (sts : List Stp) (hs : StsOk many c sts) (hl : sts.length ≤ 100000) (a0 : Sl) : ∀ (ms : List Mv) (p : Int) (st : List Int) (acc : List D) (s6 s7 : Sl), Path sts p ms → st.length = many + 1 → acc.length + ms.length ≤ 100000 →
    ∃ pe ste t6 t7, loopF (.tp [6, 7]) b1_l_walked (ms.map mvD) [a0, .ol (sts.map stD), .no, .sh (.int p), .sh (lineD st), .ol (acc ++ [stateD (p, st)]), s6, s7] = .ok (.nx [a0, .ol (sts.map stD), .no, .sh (.int pe), .sh (lineD ste), .ol (acc ++ (walkL sts p st ms).map stateD), t6, t7]) := by
  intro ms
  induction ms with
  | nil =>
    intro p st acc s6 s7 _ _ _
    exact ⟨p, st, s6, s7, rfl⟩
  | cons m ms ih =>
    intro p st acc s6 s7 h hst hlen
    cases h with
    | @cons _ j num x _ h1 h2 h3 h4 =>
    subst h2
    obtain ⟨a, b, r⟩ := x
    have ok := hs _ (List.mem_of_getElem? h1)
    have bo := lbehind_ok many hm st hst r ok.1 ok.2.1 num h3
    simp only [List.length_cons] at hlen
    obtain ⟨pe, ste, t6, t7, q⟩ := ih b (behindL st r num) (acc ++ [stateD (a, st)]) (.sh (.int j)) (.sh (optD num)) h4 (by rw [behindL_len]; exact hst) (by simp; omega)
    refine ⟨pe, ste, t6, t7, ?_⟩
    have w : walkL sts a st ((j, num) :: ms) = (a, st) :: walkL sts b (behindL st r num) ms := by
      show (a, st) :: _ = _
      simp only [h1]
    rw [w]
    have i1 : atI (sts.map stD) (j : Int) = some (.tuple [.int a, .int b, r.d]) := at_nat (by rw [List.getElem?_map, h1]; rfl)
    have y1 : atI [PyData.int a, .int b, r.d] 1 = some (.int b) := zat1 _ _ _
    have y2 : atI [PyData.int a, .int b, r.d] 2 = some r.d := zat2 _ _ _ _
    have al : acc.length + 1 < 16777216 := by omega
    have turn : b1_l_walked [a0, .ol (sts.map stD), .no, .sh (.int a), .sh (lineD st), .ol (acc ++ [stateD (a, st)]), .sh (.int j), .sh (optD num)] = .ok (.nx [a0, .ol (sts.map stD), .no, .sh (.int b), .sh (lineD (behindL st r num)), .ol ((acc ++ [stateD (a, st)]) ++ [stateD (b, behindL st r num)]), .sh (.int j), .sh (optD num)]) := by
      unfold b1_l_walked
      simp [i1, y1, y2, bo, al, stateD]
    rw [List.map_cons, loop_cons rfl turn, q]
    simp
theorem walked_ok (many : Nat) (hm : many ≤ 100) (c : Int) (sts : List Stp) (hs : StsOk many c sts) (hl : sts.length ≤ 100000) (ms : List Mv) (hp : Path sts 0 ms) (hms : ms.length ≤ 90000) :
    f_l_walked [.sh (.int many), .ol (sts.map stD), .ol (ms.map mvD)] = .ok (.ol ((walkL sts 0 (1 :: List.replicate many 0) ms).map stateD), [.sh (.int many), .ol (sts.map stD), .ol (ms.map mvD)]) := by
  obtain ⟨pe, ste, t6, t7, q⟩ := walked_loop many hm c sts hs hl (.sh (.int many)) ms 0 (1 :: List.replicate many 0) [] .no .no hp (by simp) (by simp; omega)
  have l : 1 + many ≤ 16777216 := by omega
  unfold f_l_walked
  rw [run_eq]
  show (fSeq _ _ [.sh (.int many), .ol (sts.map stD), .ol (ms.map mvD), .no, .no, .no, .no, .no]).bind _ = _
  rw [seqN (e2 := [.sh (.int many), .ol (sts.map stD), .ol (ms.map mvD), .sh (.int 0), .no, .no, .no, .no]) (by simp)]
  rw [seqN (e2 := [.sh (.int many), .ol (sts.map stD), .ol (ms.map mvD), .sh (.int 0), .sh (lineD (1 :: List.replicate many 0)), .no, .no, .no]) (by simp [mulTD_one _ many (by omega), l, lineD])]
  rw [seqN (e2 := [.sh (.int many), .ol (sts.map stD), .ol (ms.map mvD), .sh (.int 0), .sh (lineD (1 :: List.replicate many 0)), .ol [stateD (0, 1 :: List.replicate many 0)], .no, .no]) (by simp [stateD])]
  rw [seqN (e2 := [.sh (.int many), .ol (sts.map stD), .ol (ms.map mvD), .sh (.int pe), .sh (lineD ste), .ol ((walkL sts 0 (1 :: List.replicate many 0) ms).map stateD), t6, t7]) (by
    rw [List.nil_append, List.nil_append] at q
    simp [q])]
  simp [backArgs_eq, List.range_succ]
/-! ### the moves that the law makes -/
theorem endAt_snoc {sts : List Stp} {j : Nat} {num : Option Int} {x : Stp} (hx : sts[j]? = some x) : ∀ {ms : List Mv} {p : Int}, Path sts p ms → endAt sts p (ms ++ [(j, num)]) = x.2.1 := by
  intro ms
  induction ms with
  | nil => intro p _; simp [endAt, hx]
  | cons m ms ih =>
    intro p h
    cases h with
    | cons h1 h2 h3 h4 => simpa [endAt, h1] using ih h4
def hits (sts : List Stp) (here : Int) (j : Nat) : Bool := match sts[j]? with
  | some x => x.1 == here
  | none => false
theorem run_turn (ns : List Int) (at_ : Nat) (hat : at_ ≤ 1000) (sts : List Stp) (hl : sts.length ≤ 100000) (n : Int) (turn : Nat) (ht : turn ≤ 100000) (ms : List Mv) (hp : Path sts 0 ms) (hms : ms.length ≤ 100000) (s7 s8 s9 s10 : Sl) :
    ∃ ms' t7 t8 t9 t10, b3_l_run [.sc ns, .sh (.int at_), .ol (sts.map stD), .sh (.int n), .ol (ms.map mvD), .sh (.int (endAt sts 0 ms)), .sh (.int turn), s7, s8, s9, s10, .no] = .ok (.nx [.sc ns, .sh (.int at_), .ol (sts.map stD), .sh (.int n), .ol (ms'.map mvD), .sh (.int (endAt sts 0 ms')), .sh (.int turn), t7, t8, t9, t10, .no]) ∧ Path sts 0 ms' ∧ ms'.length ≤ ms.length + 1 := by
  obtain ⟨here, hh⟩ : ∃ h, h = endAt sts 0 ms := ⟨_, rfl⟩
  rw [← hh]
  have cl := cell_eq ns (at_ + turn % 23) (by omega) (by omega)
  obtain ⟨c, hc⟩ : ∃ c, c = cellV ns (at_ + turn % 23) := ⟨_, rfl⟩
  rw [← hc] at cl
  have d1 := sdiv (i := (turn : Int)) (j := 23) (by omega) (by omega)
  have d2 := sdiv (i := c) (j := 1 + (turn : Int) / 23) (by omega) (by omega)
  obtain ⟨seed, hseed⟩ : ∃ s, s = c / (1 + (turn : Int) / 23) := ⟨_, rfl⟩
  rw [← hseed] at d2
  have mt : mulOk turn turn = true := mulOk_left (by omega) (by omega)
  obtain ⟨fl, hfl⟩ : ∃ fl, fl = ((List.range sts.length).filter (hits sts here)) := ⟨_, rfl⟩
  have ll1 : (-4611686018427387904 : Int) ≤ sts.length := by omega
  have ll2 : (sts.length : Int) < 4611686018427387904 := by omega
  have lm : (sts.map stD).length = sts.length := by simp
  have cc : compF (.nm 11) t1_l_run e2_l_run [11] (rngD 0 sts.length) [] [.sc ns, .sh (.int at_), .ol (sts.map stD), .sh (.int n), .ol (ms.map mvD), .sh (.int here), .sh (.int turn), .sh (.int seed), s8, s9, s10, .no] = .ok (fl.map fun (k : Nat) => PyData.int (0 + (k : Int)), [.sc ns, .sh (.int at_), .ol (sts.map stD), .sh (.int n), .ol (ms.map mvD), .sh (.int here), .sh (.int turn), .sh (.int seed), s8, s9, s10, .no]) := by
    have := comp_pick (tg := .nm 11) (ft := t1_l_run) (fe := e2_l_run) (own := [11]) (E := [.sc ns, .sh (.int at_), .ol (sts.map stD), .sh (.int n), .ol (ms.map mvD), .sh (.int here), .sh (.int turn), .sh (.int seed), s8, s9, s10, .no]) (fun (k : Nat) => PyData.int (0 + (k : Int))) (hits sts here) (fun (k : Nat) => PyData.int (0 + (k : Int))) (List.range sts.length) [] (by simp; omega) (fun k hk => by
      have hk : k < sts.length := List.mem_range.mp hk
      obtain ⟨⟨a, b, r⟩, hx⟩ : ∃ x, x = sts[k] := ⟨_, rfl⟩
      have hx2 : sts[k]? = some (a, b, r) := by rw [List.getElem?_eq_getElem hk, ← hx]
      have i1 : atI (sts.map stD) (k : Int) = some (.tuple [.int a, .int b, r.d]) := at_nat (by rw [List.getElem?_map, hx2]; rfl)
      have y0 : atI [PyData.int a, .int b, r.d] 0 = some (.int a) := zat _ _
      have hh : hits sts here k = (a == here) := by unfold hits; rw [hx2]
      refine ⟨[.sc ns, .sh (.int at_), .ol (sts.map stD), .sh (.int n), .ol (ms.map mvD), .sh (.int here), .sh (.int turn), .sh (.int seed), s8, s9, s10, .sh (.int (0 + (k : Int)))], rfl, ?_, ?_, rfl⟩
      · unfold t1_l_run
        simp [i1, y0, eqD_ok, eqv_int, hh]
      · intro _
        unfold e2_l_run
        simp)
    unfold rngD
    rw [this, List.nil_append, hfl]
  unfold b3_l_run
  rw [seqN (e2 := [.sc ns, .sh (.int at_), .ol (sts.map stD), .sh (.int n), .ol (ms.map mvD), .sh (.int here), .sh (.int turn), .sh (.int seed), s8, s9, s10, .no]) (by simp [modD_int, cl, d1, d2])]
  rw [seqN (e2 := [.sc ns, .sh (.int at_), .ol (sts.map stD), .sh (.int n), .ol (ms.map mvD), .sh (.int here), .sh (.int turn), .sh (.int seed), .ol (fl.map fun (k : Nat) => PyData.int (0 + (k : Int))), s9, s10, .no]) (by simp [ll1, ll2, cc])]
  have sh1 : shapedD (.list (fl.map fun (k : Nat) => PyData.int (0 + (k : Int)))) = true := (Lay.list (k := 0) (fun d hd => by
    obtain ⟨k, _, rfl⟩ := List.mem_map.mp hd
    exact .int _)).shaped
  have sh2 : shapedD (.list []) = true := (Lay.list (k := 0) (ds := []) nofun).shaped
  by_cases hf : fl = []
  · subst hf
    refine ⟨ms, .sh (.int seed), .ol [], s9, s10, ?_, hp, by omega⟩
    rw [← hh, ifF (e2 := [.sc ns, .sh (.int at_), .ol (sts.map stD), .sh (.int n), .ol (ms.map mvD), .sh (.int here), .sh (.int turn), .sh (.int seed), .ol [], s9, s10, .no]) (by simp [neD_ok sh2 sh2, eqv_nil])]
    rfl
  · have hlen : 0 < fl.length := by cases fl <;> simp_all
    have hlp : (0 : Int) < fl.length := by omega
    obtain ⟨q, hq⟩ : ∃ q : Int, q = (seed + turn * turn) % fl.length := ⟨_, rfl⟩
    have q0 : 0 ≤ q := by rw [hq]; exact Int.emod_nonneg _ (by omega)
    have q1 : q < fl.length := by rw [hq]; exact Int.emod_lt_of_pos _ hlp
    obtain ⟨k, hk⟩ : ∃ k : Nat, q = k := ⟨q.toNat, by omega⟩
    have hkl : k < fl.length := by omega
    obtain ⟨j, hj⟩ : ∃ j, j = fl[k] := ⟨_, rfl⟩
    have hjm : j ∈ fl := by rw [hj]; exact List.getElem_mem _
    have hhit : hits sts here j = true := by rw [hfl] at hjm; exact (List.mem_filter.mp hjm).2
    have hjl : j < sts.length := by rw [hfl] at hjm; exact List.mem_range.mp (List.mem_filter.mp hjm).1
    obtain ⟨⟨a, b, r⟩, hx⟩ : ∃ x, x = sts[j] := ⟨_, rfl⟩
    have hx2 : sts[j]? = some (a, b, r) := by rw [List.getElem?_eq_getElem hjl, ← hx]
    have hah : a = here := by
      unfold hits at hhit
      rw [hx2] at hhit
      simpa using hhit
    have ap : atI (fl.map fun (k : Nat) => PyData.int (0 + (k : Int))) q = some (.int (j : Int)) := by
      rw [hk]
      refine at_nat ?_
      rw [List.getElem?_map, List.getElem?_eq_getElem hkl, ← hj]
      simp
    obtain ⟨z, ds, hz, wz, tz, _, _⟩ := pl_word r
    have i1 : atI (sts.map stD) (j : Int) = some (.tuple [.int a, .int b, .tuple (.str z :: ds)]) := by
      rw [← hz]
      exact at_nat (by rw [List.getElem?_map, hx2]; rfl)
    have y1 : atI [PyData.int a, .int b, .tuple (.str z :: ds)] 1 = some (.int b) := zat1 _ _ _
    have y2 : atI [PyData.int a, .int b, .tuple (.str z :: ds)] 2 = some (.tuple (.str z :: ds)) := zat2 _ _ _ _
    have sT : Str.ofString "take" = sTake := rfl
    have emp : fl.isEmpty = false := by cases fl <;> simp_all
    have emp2 : (fl.map fun (k : Nat) => PyData.int (0 + (k : Int))).isEmpty = false := by cases fl <;> simp_all
    obtain ⟨FL, hFL⟩ : ∃ FL, FL = fl.map fun (k : Nat) => PyData.int (0 + (k : Int)) := ⟨_, rfl⟩
    have hFl : (FL.length : Int) = fl.length := by rw [hFL]; simp
    have hFp : (0 : Int) < FL.length := by omega
    rw [← hFL] at ap emp2 sh1 ⊢
    rw [ifT (e2 := [.sc ns, .sh (.int at_), .ol (sts.map stD), .sh (.int n), .ol (ms.map mvD), .sh (.int here), .sh (.int turn), .sh (.int seed), .ol FL, s9, s10, .no]) (by simp [neD_ok sh1 sh2, eqv_nil, emp2])]
    rw [← hFl] at hq
    rw [seqN (e2 := [.sc ns, .sh (.int at_), .ol (sts.map stD), .sh (.int n), .ol (ms.map mvD), .sh (.int here), .sh (.int turn), .sh (.int seed), .ol FL, .sh (.int j), s10, .no]) (by simp [mulD_int mt, modD_int hFp, ← hq, ap])]
    rw [seqN (e2 := [.sc ns, .sh (.int at_), .ol (sts.map stD), .sh (.int n), .ol (ms.map mvD), .sh (.int here), .sh (.int turn), .sh (.int seed), .ol FL, .sh (.int j), .sh .none, .no]) (by simp)]
    -- the number
    have num : ∃ o : Option Int, o.isSome = isTake r ∧ (fIfS (fTst (fOp eqD (fOp ixD (fOp ixD (fOp ixD (fVar 2) (fVar 9)) (fC (.int 2))) (fC (.int 0))) (fC (.str (Str.ofString "take")))))
    (fAsg 10 (fOp ixD (fLst (fCons (fC (.int 0)) (fCons (fC (.int 1)) (fCons (fOp subD (fOp modD (fOp divD (fVar 7) (fC (.int 7))) (fC (.int 21))) (fC (.int 10))) (fCons (fOp subD (fOp modD (fOp divD (fVar 7) (fC (.int 7))) (fC (.int 1999999999))) (fC (.int 999999999))) fNil))))) (fOp modD (fOp divD (fVar 7) (fC (.int 3))) (fC (.int 4)))))
    fNext) [.sc ns, .sh (.int at_), .ol (sts.map stD), .sh (.int n), .ol (ms.map mvD), .sh (.int here), .sh (.int turn), .sh (.int seed), .ol FL, .sh (.int j), .sh .none, .no] = .ok (.nx [.sc ns, .sh (.int at_), .ol (sts.map stD), .sh (.int n), .ol (ms.map mvD), .sh (.int here), .sh (.int turn), .sh (.int seed), .ol FL, .sh (.int j), .sh (optD o), .no]) := by
      by_cases hT : z = sTake
      · subst hT
        have d7 := sdiv (i := seed) (j := 7) (by omega) (by omega)
        have d3 := sdiv (i := seed) (j := 3) (by omega) (by omega)
        obtain ⟨v, hv⟩ : ∃ v : Int, atI [PyData.int 0, .int 1, .int (seed / 7 % 21 - 10), .int (seed / 7 % 1999999999 - 999999999)] (seed / 3 % 4) = some (.int v) := by
          have h : seed / 3 % 4 = 0 ∨ seed / 3 % 4 = 1 ∨ seed / 3 % 4 = 2 ∨ seed / 3 % 4 = 3 := by omega
          rcases h with h | h | h | h <;> rw [h]
          · exact ⟨_, zat _ _⟩
          · exact ⟨_, zat1 _ _ _⟩
          · exact ⟨_, zat2 _ _ _ _⟩
          · exact ⟨_, at_nat (n := 3) rfl⟩
        refine ⟨some v, by rw [← tz]; simp, ?_⟩
        rw [ifT (e2 := [.sc ns, .sh (.int at_), .ol (sts.map stD), .sh (.int n), .ol (ms.map mvD), .sh (.int here), .sh (.int turn), .sh (.int seed), .ol FL, .sh (.int j), .sh .none, .no]) (by simp [i1, y2, zat, sT, eqW2 wTake wTake])]
        simp [d7, d3, modD_int, hv, optD]
      · refine ⟨none, by rw [← tz]; simp [hT], ?_⟩
        rw [ifF (e2 := [.sc ns, .sh (.int at_), .ol (sts.map stD), .sh (.int n), .ol (ms.map mvD), .sh (.int here), .sh (.int turn), .sh (.int seed), .ol FL, .sh (.int j), .sh .none, .no]) (by simp [i1, y2, zat, sT, eqW2 wz wTake, hT])]
        rfl
    obtain ⟨o, ho, hnum⟩ := num
    rw [seqN hnum]
    have lms : ms.length + 1 < 16777216 := by omega
    refine ⟨ms ++ [(j, o)], .sh (.int seed), .ol FL, .sh (.int j), .sh (optD o), ?_, hp.snoc hx2 ho (by rw [← hh, ← hah]), by simp⟩
    rw [endAt_snoc hx2 hp]
    have lms2 : ms.length < 16777216 := by omega
    simp [i1, y1, lms, lms2, mvD]
theorem run_ok (ns : List Int) (at_ : Nat) (hat : at_ ≤ 1000) (sts : List Stp) (hl : sts.length ≤ 100000) (n : Nat) (hn : n ≤ 90000) :
    ∃ ms, f_l_run [.sc ns, .sh (.int at_), .ol (sts.map stD), .sh (.int n)] = .ok (.ol (ms.map mvD), [.sc ns, .sh (.int at_), .ol (sts.map stD), .sh (.int n)]) ∧ Path sts 0 ms ∧ ms.length ≤ n := by
  obtain ⟨e', q, ms, s6, s7, s8, s9, s10, rfl, h1, h2⟩ := loop_inv (tg := .nm 6) (b := b3_l_run) (fun i e => ∃ (ms : List Mv) (s6 s7 s8 s9 s10 : Sl), e = [.sc ns, .sh (.int at_), .ol (sts.map stD), .sh (.int n), .ol (ms.map mvD), .sh (.int (endAt sts 0 ms)), s6, s7, s8, s9, s10, .no] ∧ Path sts 0 ms ∧ ms.length ≤ i)
    (rngD 0 n) (env := [.sc ns, .sh (.int at_), .ol (sts.map stD), .sh (.int n), .ol [], .sh (.int 0), .no, .no, .no, .no, .no, .no]) ⟨[], .no, .no, .no, .no, .no, rfl, .nil, Nat.le_refl _⟩ (by
      rintro i d _ hd ⟨ms, s6, s7, s8, s9, s10, rfl, h1, h2⟩
      obtain ⟨hi, rfl⟩ := rng_get hd
      obtain ⟨ms', t7, t8, t9, t10, r1, r2, r3⟩ := run_turn ns at_ hat sts hl n i (by omega) ms h1 (by omega) s7 s8 s9 s10
      exact ⟨_, _, rfl, .inl r1, ms', _, t7, t8, t9, t10, rfl, r2, by omega⟩)
  rw [rng_len] at h2
  refine ⟨ms, ?_, h1, h2⟩
  have n1 : (-4611686018427387904 : Int) ≤ n := by omega
  have n2 : (n : Int) < 4611686018427387904 := by omega
  unfold f_l_run
  rw [run_eq]
  show (fSeq _ _ [.sc ns, .sh (.int at_), .ol (sts.map stD), .sh (.int n), .no, .no, .no, .no, .no, .no, .no, .no]).bind _ = _
  rw [seqN (e2 := [.sc ns, .sh (.int at_), .ol (sts.map stD), .sh (.int n), .ol [], .no, .no, .no, .no, .no, .no, .no]) (by simp)]
  rw [seqN (e2 := [.sc ns, .sh (.int at_), .ol (sts.map stD), .sh (.int n), .ol [], .sh (.int 0), .no, .no, .no, .no, .no, .no]) (by simp)]
  rw [seqN (e2 := [.sc ns, .sh (.int at_), .ol (sts.map stD), .sh (.int n), .ol (ms.map mvD), .sh (.int (endAt sts 0 ms)), s6, s7, s8, s9, s10, .no]) (by simp [n1, n2, q])]
  simp [backArgs_eq, List.range_succ]
/-! ### a bent move -/
theorem mulD_list (a : List D) (k : Nat) (h : a.length * k ≤ 16777216) (h2 : k ≤ 16777216) : mulD (.list a) (.int k) = some (.ol (List.replicate k a).flatten) := by
  have h3 : -(2 ^ 63) ≤ (k : Int) ∧ (k : Int) < 2 ^ 63 ∧ a.length * (k : Int).toNat ≤ 16777216 := ⟨by omega, by omega, by simpa using h⟩
  rw [show mulD (.list a) (.int k) = if -(2 ^ 63) ≤ (k : Int) ∧ (k : Int) < 2 ^ 63 ∧ a.length * (k : Int).toNat ≤ 16777216 then some (.ol (List.replicate (k : Int).toNat a).flatten) else none from rfl, if_pos h3]
  simp
def BadL (sts : List Stp) (p : Int) (L : List D) : Prop := ∀ d ∈ L, ∃ j num, d = badD j num ∧ BadMv sts p j num
theorem BadL.app {sts : List Stp} {p : Int} {L M : List D} (a : BadL sts p L) (b : BadL sts p M) : BadL sts p (L ++ M) := fun d hd => (List.mem_append.mp hd).elim (a d) (b d)
theorem bent_ok (sts : List Stp) (hl : sts.length ≤ 100000) (p y : Int) :
    ∃ j num, f_l_bent [.ol (sts.map stD), .sh (.int p), .sh (.int y)] = .ok (.sh (badD j num), [.ol (sts.map stD), .sh (.int p), .sh (.int y)]) ∧ BadMv sts p j num := by
  have d5 := sdiv (i := y) (j := 5) (by omega) (by omega)
  have d3 := sdiv (i := y) (j := 3) (by omega) (by omega)
  have ll1 : (-4611686018427387904 : Int) ≤ sts.length := by omega
  have ll2 : (sts.length : Int) < 4611686018427387904 := by omega
  obtain ⟨T, hT⟩ : ∃ T : Int, T = 100000000 := ⟨_, rfl⟩
  have hp8 : powD (.int 10) (.int 8) = some (.sh (.int T)) := by rw [hT]; rfl
  have hT0 : 0 < T := by omega
  have hTm : 0 ≤ y / 5 % T := Int.emod_nonneg _ (by omega)
  obtain ⟨S, hS⟩ : ∃ S, S = sts.map stD := ⟨_, rfl⟩
  have hSl : S.length = sts.length := by rw [hS]; simp
  obtain ⟨L0, hL0⟩ : ∃ L0, L0 = [badD (-1 - y / 5 % 9) none, badD (sts.length + y / 5 % 9) none, badD (sts.length + y / 5 % T) (some 0)] := ⟨_, rfl⟩
  have hB0 : BadL sts p L0 := by
    intro d hd
    rw [hL0] at hd
    simp only [List.mem_cons, List.not_mem_nil, or_false] at hd
    rcases hd with rfl | rfl | rfl
    · exact ⟨_, _, rfl, .inl (by omega)⟩
    · exact ⟨_, _, rfl, .inr (.inl (by omega))⟩
    · exact ⟨_, _, rfl, .inr (.inl (by omega))⟩
  have stp : ∀ k : Nat, k < sts.length → ∃ a b r z ds, sts[k]? = some (a, b, r) ∧ r.d = .tuple (.str z :: ds) ∧ IsWord z ∧ decide (z = sTake) = isTake r ∧ atI S (k : Int) = some (.tuple [.int a, .int b, .tuple (.str z :: ds)]) := by
    intro k hk
    obtain ⟨⟨a, b, r⟩, hx⟩ : ∃ x, x = sts[k] := ⟨_, rfl⟩
    have hx2 : sts[k]? = some (a, b, r) := by rw [List.getElem?_eq_getElem hk, ← hx]
    obtain ⟨z, ds, hz, wz, tz, _, _⟩ := pl_word r
    refine ⟨a, b, r, z, ds, hx2, hz, wz, tz, ?_⟩
    rw [← hz, hS]
    exact at_nat (by rw [List.getElem?_map, hx2]; rfl)
  have sT : Str.ofString "take" = sTake := rfl
  obtain ⟨fl, hfl⟩ : ∃ fl, fl = (List.range sts.length).filter (fun k => !hits sts p k) := ⟨_, rfl⟩
  have hfm : ∀ k ∈ fl, k < sts.length ∧ hits sts p k = false := by
    intro k hk
    rw [hfl] at hk
    obtain ⟨h1, h2⟩ := List.mem_filter.mp hk
    exact ⟨List.mem_range.mp h1, by simpa using h2⟩
  have hfll : fl.length ≤ 100000 := by
    rw [hfl]
    have := List.length_filter_le (fun k => !hits sts p k) (List.range sts.length)
    rw [List.length_range] at this
    omega
  have cc : compF (.nm 5) t3_l_bent e4_l_bent [5] (rngD 0 sts.length) [] [.ol S, .sh (.int p), .sh (.int y), .ol L0, .no, .no] = .ok (fl.map fun (k : Nat) => PyData.int (0 + (k : Int)), [.ol S, .sh (.int p), .sh (.int y), .ol L0, .no, .no]) := by
    have := comp_pick (tg := .nm 5) (ft := t3_l_bent) (fe := e4_l_bent) (own := [5]) (E := [.ol S, .sh (.int p), .sh (.int y), .ol L0, .no, .no]) (fun (k : Nat) => PyData.int (0 + (k : Int))) (fun k => !hits sts p k) (fun (k : Nat) => PyData.int (0 + (k : Int))) (List.range sts.length) [] (by simp; omega) (fun k hk => by
      have hk : k < sts.length := List.mem_range.mp hk
      obtain ⟨a, b, r, z, ds, hx, hz, wz, tz, i1⟩ := stp k hk
      have y0 : atI [PyData.int a, .int b, .tuple (.str z :: ds)] 0 = some (.int a) := zat _ _
      have hh : hits sts p k = (a == p) := by unfold hits; rw [hx]
      refine ⟨[.ol S, .sh (.int p), .sh (.int y), .ol L0, .no, .sh (.int (0 + (k : Int)))], rfl, ?_, ?_, rfl⟩
      · unfold t3_l_bent
        simp [i1, y0, neD_ok, eqv_int, hh]
      · intro _
        unfold e4_l_bent
        simp)
    unfold rngD
    rw [this, List.nil_append, hfl]
  obtain ⟨q, hq⟩ : ∃ q : Nat, (q : Int) = y / 5 % 7 := ⟨(y / 5 % 7).toNat, by omega⟩
  obtain ⟨fs, hfs⟩ : ∃ fs, fs = (fl.drop q).take 4 := ⟨_, rfl⟩
  have hfsm : ∀ k ∈ fs, k ∈ fl := fun k hk => by rw [hfs] at hk; exact List.mem_of_mem_drop (List.mem_of_mem_take hk)
  have hfsl : fs.length ≤ 4 := by rw [hfs, List.length_take]; omega
  have c1 : cutG (fl.map fun (k : Nat) => PyData.int (0 + (k : Int))) (some (q : Int)) none = (fl.drop q).map fun (k : Nat) => PyData.int (0 + (k : Int)) := by rw [cutG_from, List.map_drop]
  have c2 : cutG ((fl.drop q).map fun (k : Nat) => PyData.int (0 + (k : Int))) none (some 4) = fs.map fun (k : Nat) => PyData.int (0 + (k : Int)) := by
    rw [show (4 : Int) = ((4 : Nat) : Int) by rfl, cutG_to, hfs, List.map_take]
  -- the steps from elsewhere
  obtain ⟨e2, q2, L1, O4, s5, rfl, hB1, hL1⟩ := loop_inv (tg := .nm 5) (b := b2_l_bent) (fun i e => ∃ (L : List D) (O4 s5 : Sl), e = [.ol S, .sh (.int p), .sh (.int y), .ol L, O4, s5] ∧ BadL sts p L ∧ 3 ≤ L.length ∧ L.length ≤ 3 + i)
    (fs.map fun (k : Nat) => PyData.int (0 + (k : Int))) (env := [.ol S, .sh (.int p), .sh (.int y), .ol L0, .ol (fl.map fun (k : Nat) => PyData.int (0 + (k : Int))), .no]) ⟨L0, _, .no, rfl, hB0, by rw [hL0]; simp, by rw [hL0]; simp⟩ (by
      rintro i d _ hd ⟨L, O4, s5, rfl, hB, hL3, hLl⟩
      obtain ⟨hi, _⟩ := List.getElem?_eq_some_iff.mp hd
      rw [List.length_map] at hi
      rw [List.getElem?_map] at hd
      obtain ⟨k, hk, rfl⟩ := Option.map_eq_some_iff.mp hd
      have hkm := List.mem_of_getElem? hk
      obtain ⟨hkl, hh⟩ := hfm k (hfsm k hkm)
      obtain ⟨a, b, r, z, ds, hx, hz, wz, tz, i1⟩ := stp k hkl
      have y2 : atI [PyData.int a, .int b, .tuple (.str z :: ds)] 2 = some (.tuple (.str z :: ds)) := zat2 _ _ _ _
      have hap : a ≠ p := by
        unfold hits at hh
        rw [hx] at hh
        simpa using hh
      have n0 : atI [PyData.none, .int 1] 0 = some .none := zat _ _
      have n1 : atI [PyData.none, .int 1] 1 = some (.int 1) := zat1 _ _ _
      have ln : L.length < 16777216 := by omega
      obtain ⟨num, hn⟩ : ∃ num : Option Int, num = if z = sTake then some 1 else none := ⟨_, rfl⟩
      refine ⟨[.ol S, .sh (.int p), .sh (.int y), .ol L, O4, .sh (.int (0 + (k : Int)))], [.ol S, .sh (.int p), .sh (.int y), .ol (L ++ [badD k num]), O4, .sh (.int (0 + (k : Int)))], rfl, .inl ?_, L ++ [badD k num], O4, _, rfl, hB.app (fun d hd => ?_), by simp <;> omega, by simp <;> omega⟩
      · unfold b2_l_bent
        by_cases ht : z = sTake
        · subst ht
          rw [if_pos rfl] at hn
          subst hn
          simp [i1, y2, zat, sT, eqW2 wz wTake, n1, ln, badD, optD]
        · rw [if_neg ht] at hn
          subst hn
          simp [i1, y2, zat, sT, eqW2 wz wTake, ht, n0, ln, badD, optD]
      · simp at hd
        subst hd
        exact ⟨_, _, rfl, .inr (.inr ⟨k, _, rfl, hx, .inl hap⟩)⟩)
  rw [List.length_map] at hL1
  -- the steps from here
  obtain ⟨e3, q3, L2, s6, rfl, hB2, hL2⟩ := loop_inv (tg := .nm 5) (b := b1_l_bent) (fun i e => ∃ (L : List D) (s5 : Sl), e = [.ol S, .sh (.int p), .sh (.int y), .ol L, O4, s5] ∧ BadL sts p L ∧ 3 ≤ L.length ∧ L.length ≤ 7 + 3 * i)
    (rngD 0 sts.length) (env := [.ol S, .sh (.int p), .sh (.int y), .ol L1, O4, s5]) ⟨L1, s5, rfl, hB1, hL1.1, by omega⟩ (by
      rintro i d _ hd ⟨L, s5, rfl, hB, hL3, hLl⟩
      obtain ⟨hi, rfl⟩ := rng_get hd
      obtain ⟨a, b, r, z, ds, hx, hz, wz, tz, i1⟩ := stp i hi
      have y0 : atI [PyData.int a, .int b, .tuple (.str z :: ds)] 0 = some (.int a) := zat _ _
      have y2 : atI [PyData.int a, .int b, .tuple (.str z :: ds)] 2 = some (.tuple (.str z :: ds)) := zat2 _ _ _ _
      have n0 : atI [PyData.int 0, .none] 0 = some (.int 0) := zat _ _
      have n1 : atI [PyData.int 0, .none] 1 = some .none := zat1 _ _ _
      by_cases hap : a = p
      · obtain rfl : p = a := hap.symm
        obtain ⟨num, hn⟩ : ∃ num : Option Int, num = if z = sTake then none else some 0 := ⟨_, rfl⟩
        have m3 : mulD (.list [badD i num]) (.int 3) = some (.ol [badD i num, badD i num, badD i num]) := mulD_list [badD i num] 3 (by simp) (by omega)
        have ln : L.length + 3 ≤ 16777216 := by omega
        refine ⟨[.ol S, .sh (.int p), .sh (.int y), .ol L, O4, .sh (.int (i : Int))], [.ol S, .sh (.int p), .sh (.int y), .ol (L ++ [badD i num, badD i num, badD i num]), O4, .sh (.int (i : Int))], rfl, .inl ?_, _, _, rfl, hB.app (fun d hd => ?_), by simp <;> omega, by simp <;> omega⟩
        · unfold b1_l_bent
          by_cases ht : z = sTake
          · subst ht
            rw [if_pos rfl] at hn
            subst hn
            have m3' : mulD (.list [.tuple [.int i, .none]]) (.int 3) = some (.ol [badD i none, badD i none, badD i none]) := m3
            simp [i1, y0, y2, zat, sT, eqW2 wz wTake, n1, ln, eqD_ok, eqv_int, m3']
          · rw [if_neg ht] at hn
            subst hn
            have m3' : mulD (.list [.tuple [.int i, .int 0]]) (.int 3) = some (.ol [badD i (some 0), badD i (some 0), badD i (some 0)]) := m3
            simp [i1, y0, y2, zat, sT, eqW2 wz wTake, ht, n0, ln, eqD_ok, eqv_int, m3']
        · have hd : d = badD i num := by simpa using hd
          subst hd
          refine ⟨_, _, rfl, .inr (.inr ⟨i, _, rfl, hx, .inr ?_⟩)⟩
          show num.isSome ≠ isTake r
          rw [← tz, hn]
          by_cases ht : z = sTake
          · simp [ht]
          · simp [ht]
      · refine ⟨[.ol S, .sh (.int p), .sh (.int y), .ol L, O4, .sh (.int (i : Int))], [.ol S, .sh (.int p), .sh (.int y), .ol L, O4, .sh (.int (i : Int))], rfl, .inl ?_, L, _, rfl, hB, hL3, by omega⟩
        unfold b1_l_bent
        simp [i1, y0, eqD_ok, eqv_int, bf hap])
  have hlr : (rngD 0 sts.length).length = sts.length := by simp [rngD]
  rw [hlr] at hL2
  -- one of them
  have lp : (0 : Int) < L2.length := by omega
  have l1 : (-4611686018427387904 : Int) ≤ L2.length := by omega
  have l2 : (L2.length : Int) < 4611686018427387904 := by omega
  obtain ⟨u, hu⟩ : ∃ u : Nat, (u : Int) = y / 3 % L2.length := ⟨(y / 3 % L2.length).toNat, by have := Int.emod_nonneg (y / 3) (show (L2.length : Int) ≠ 0 by omega); omega⟩
  have hul : u < L2.length := by have := Int.emod_lt_of_pos (y / 3) lp; omega
  obtain ⟨j, num, hj, hb⟩ := hB2 L2[u] (List.getElem_mem _)
  have au : atI L2 (u : Int) = some (badD j num) := at_nat (by rw [List.getElem?_eq_getElem hul, hj])
  refine ⟨j, num, ?_, hb⟩
  obtain ⟨A, hA⟩ : ∃ A, A = fl.map fun (k : Nat) => PyData.int (0 + (k : Int)) := ⟨_, rfl⟩
  obtain ⟨B, hB⟩ : ∃ B, B = (fl.drop q).map fun (k : Nat) => PyData.int (0 + (k : Int)) := ⟨_, rfl⟩
  obtain ⟨C, hC⟩ : ∃ C, C = fs.map fun (k : Nat) => PyData.int (0 + (k : Int)) := ⟨_, rfl⟩
  rw [← hA] at cc c1 q2
  rw [← hB] at c1 c2
  rw [← hC] at c2 q2
  rw [← hS]
  unfold f_l_bent
  rw [run_eq]
  show (fSeq _ _ [.ol S, .sh (.int p), .sh (.int y), .no, .no, .no]).bind _ = _
  rw [seqN (e2 := [.ol S, .sh (.int p), .sh (.int y), .ol L0, .no, .no]) (by
    rw [hL0]
    simp [d5, modD_int, modD_int hT0, hp8, hSl, ll1, ll2, badD, optD])]
  rw [seqN (e2 := [.ol S, .sh (.int p), .sh (.int y), .ol L0, .ol A, .no]) (by simp [hSl, ll1, ll2, cc])]
  rw [seqN (e2 := [.ol S, .sh (.int p), .sh (.int y), .ol L1, O4, s5]) (by simp [d5, modD_int, ← hq, c1, c2, q2])]
  rw [seqN (e2 := [.ol S, .sh (.int p), .sh (.int y), .ol L2, O4, s6]) (by simp [hSl, ll1, ll2, q3])]
  simp [d3, l1, l2, modD_int lp, ← hu, au, backArgs_eq, List.range_succ]
/-! ### the law -/
theorem Lay.line (l : List Int) : Lay 1 (lineD l) := .tuple (layInts l)
theorem Lay.state (s : Int × List Int) : Lay 2 (stateD s) := .tuple (fun d hd => by
  rcases List.mem_cons.mp hd with rfl | hd
  · exact (Lay.int _).mono (by omega)
  · rw [List.mem_singleton.mp hd]
    exact Lay.line _)
theorem Lay.states (ws : List (Int × List Int)) : Lay 3 (.list (ws.map stateD)) := .list (fun d hd => by
  obtain ⟨s, _, rfl⟩ := List.mem_map.mp hd
  exact Lay.state s)
theorem Lay.mv (m : Mv) : Lay 1 (mvD m) := .tuple (fun d hd => by
  rcases List.mem_cons.mp hd with rfl | hd
  · exact .int _
  · rw [List.mem_singleton.mp hd]
    cases m.2 with
    | none => exact ⟨rfl, Nat.le_refl _⟩
    | some n => exact .int n)
theorem Lay.mvs (ms : List Mv) : Lay 2 (.list (ms.map mvD)) := .list (fun d hd => by
  obtain ⟨s, _, rfl⟩ := List.mem_map.mp hd
  exact Lay.mv s)

theorem Lay.bad (j : Int) (num : Option Int) : Lay 1 (badD j num) := .tuple (fun d hd => by
  simp only [List.mem_cons, List.not_mem_nil, or_false] at hd
  rcases hd with rfl | rfl
  · exact .int _
  · cases num with
    | none => exact ⟨rfl, Nat.le_refl _⟩
    | some n => exact .int _)
theorem path_take {sts : List Stp} : ∀ {ms : List Mv} {p : Int} (k : Nat), Path sts p ms → Path sts p (ms.take k)
  | [], p, k, _ => by rw [List.take_nil]; exact .nil
  | m :: ms, p, 0, _ => .nil
  | m :: ms, p, k + 1, h => by
    cases h with
    | cons h1 h2 h3 h4 => exact .cons h1 h2 h3 (path_take k h4)
theorem walkL_take {sts : List Stp} : ∀ {ms : List Mv} {p : Int} (st : List Int) (k : Nat), Path sts p ms → walkL sts p st (ms.take k) = (walkL sts p st ms).take (k + 1)
  | [], p, st, k, _ => by simp [walkL]
  | m :: ms, p, st, 0, _ => by
    show [(p, st)] = _
    rw [walk_head]
  | m :: ms, p, st, k + 1, h => by
    cases h with
    | @cons _ j num x _ h1 h2 h3 h4 =>
      have := walkL_take (behindL st x.2.2 num) k h4
      show (p, st) :: _ = (p, st) :: List.take (k + 1) _
      simp only [h1]
      rw [this]
theorem walk_at {sts : List Stp} : ∀ {ms : List Mv} {p : Int} (st : List Int) (k : Nat), Path sts p ms → k ≤ ms.length → ∃ s, (walkL sts p st ms)[k]? = some (endAt sts p (ms.take k), s)
  | [], p, st, 0, _, _ => ⟨st, rfl⟩
  | [], p, st, k + 1, _, h => by simp at h
  | m :: ms, p, st, 0, _, _ => ⟨st, rfl⟩
  | m :: ms, p, st, k + 1, h, hk => by
    cases h with
    | @cons _ j num x _ h1 h2 h3 h4 =>
      obtain ⟨s, e⟩ := walk_at (behindL st x.2.2 num) k h4 (by simpa using hk)
      refine ⟨s, ?_⟩
      have w : walkL sts p st ((j, num) :: ms) = (p, st) :: walkL sts x.2.1 (behindL st x.2.2 num) ms := by
        show (p, st) :: _ = _
        simp only [h1]
      have en : endAt sts p ((j, num) :: ms.take k) = endAt sts x.2.1 (ms.take k) := by
        rw [endAt]
        simp only [h1]
      rw [w, List.take_succ_cons, en, List.getElem?_cons_succ]
      exact e
theorem law_turn (ns : List Int) (many : Nat) (hm : many ≤ 100) (bs : List Rows) (c : Int) (sts : List Stp) (e : Int) (hL : Laid many 39 bs c sts e) (ms : List Mv) (hp : Path sts 0 ms) (hms : ms.length ≤ 1000) (turn : Nat) (ht : turn < 4) (s3 s8 s9 s10 s11 : Sl) :
    ∃ t8 t9 t10 t11, b1_law [.sc ns, .sh (.int many), .sh (progD many bs), s3, .ol (sts.map stD), .ol (ms.map mvD), .ol ((walkL sts 0 (1 :: List.replicate many 0) ms).map stateD), .sh (.int turn), s8, s9, s10, s11] =
      .ok (.nx [.sc ns, .sh (.int many), .sh (progD many bs), s3, .ol (sts.map stD), .ol (ms.map mvD), .ol ((walkL sts 0 (1 :: List.replicate many 0) ms).map stateD), .sh (.int turn), t8, t9, t10, t11]) := by
  have hlen := hL.len
  have cl := cell_eq ns (50 + turn) (by omega) (by omega)
  obtain ⟨y, hy⟩ : ∃ y, y = cellV ns (50 + turn) := ⟨_, rfl⟩
  rw [← hy] at cl
  have d7 := sdiv (i := y) (j := 7) (by omega) (by omega)
  have d31 := sdiv (i := y) (j := 31) (by omega) (by omega)
  obtain ⟨cut, hcut⟩ : ∃ cut : Nat, (cut : Int) = y % (ms.length + 1 : Int) := ⟨(y % (ms.length + 1 : Int)).toNat, by
    have := Int.emod_nonneg y (show ((ms.length : Int) + 1) ≠ 0 by omega)
    omega⟩
  have hcl : cut ≤ ms.length := by
    have := Int.emod_lt_of_pos y (show (0 : Int) < (ms.length : Int) + 1 by omega)
    omega
  obtain ⟨sk, hsk⟩ : ∃ sk : Nat, (sk : Int) = y / 7 % 2 := ⟨(y / 7 % 2).toNat, by omega⟩
  have hp2 := path_take cut hp
  have hml2 : (ms.take cut).length ≤ 90000 := by rw [List.length_take]; omega
  obtain ⟨stand, hat⟩ := walk_at (1 :: List.replicate many 0) cut hp hcl
  obtain ⟨j, num, hbent, hbad⟩ := bent_ok sts (by omega) (endAt sts 0 (ms.take cut)) (y / 31)
  have ra2 := ran_ok many 39 hm (by omega) _ c sts e hL (ms.take cut) hp2 hml2 (.ol ((ms.take cut).map mvD)) (.inl rfl)
  have ir2 := is_run_ok many 39 hm (by omega) _ c sts e hL (ms.take cut) hp2 hml2
  have irn := is_run_no many 39 hm (by omega) _ c sts e hL (ms.take cut) hp2 hml2 j num hbad ((ms.drop (cut + sk)).map mvD)
  have rfn := refused_no many 39 hm (by omega) _ c sts e hL (ms.take cut) hp2 hml2 j num hbad ((ms.drop (cut + sk)).map mvD)
  rw [walkL_take _ cut hp] at ra2
  obtain ⟨W, hW⟩ : ∃ W, W = walkL sts 0 (1 :: List.replicate many 0) ms := ⟨_, rfl⟩
  have hWl : W.length = ms.length + 1 := by rw [hW]; exact walkL_len _ _ _ _ hp
  rw [← hW] at hat ra2
  rw [← hW]
  obtain ⟨BL, hBL⟩ : ∃ BL, BL = (ms.take cut).map mvD ++ badD j num :: (ms.drop (cut + sk)).map mvD := ⟨_, rfl⟩
  have hBLl : BL.length ≤ 16777216 := by
    rw [hBL]
    simp
    omega
  have lB : Lay 2 (.list BL) := .list (fun d hd => by
    rw [hBL] at hd
    rcases List.mem_append.mp hd with hd | hd
    · obtain ⟨m, _, rfl⟩ := List.mem_map.mp hd
      exact Lay.mv m
    · rcases List.mem_cons.mp hd with rfl | hd
      · exact Lay.bad _ _
      · obtain ⟨m, _, rfl⟩ := List.mem_map.mp hd
        exact Lay.mv m)
  have lW := Lay.states (W.take (cut + 1))
  rw [← hBL] at irn rfn
  have cm : cutG (ms.map mvD) none (some (cut : Int)) = (ms.take cut).map mvD := by rw [cutG_to, List.map_take]
  have cd : cutG (ms.map mvD) (some ((cut : Int) + sk)) none = (ms.drop (cut + sk)).map mvD := by
    rw [show (cut : Int) + sk = ((cut + sk : Nat) : Int) by omega, cutG_from, List.map_drop]
  have cw : cutG (W.map stateD) none (some ((cut : Int) + 1)) = (W.take (cut + 1)).map stateD := by
    rw [show (cut : Int) + 1 = ((cut + 1 : Nat) : Int) by omega, cutG_to, List.map_take]
  obtain ⟨here, hh⟩ : ∃ h, h = endAt sts 0 (ms.take cut) := ⟨_, rfl⟩
  rw [← hh] at hat hbent
  have aw : atI (W.map stateD) (cut : Int) = some (.tuple [.int here, lineD stand]) := at_nat (by rw [List.getElem?_map, hat]; rfl)
  have z0 : atI [PyData.int here, lineD stand] 0 = some (.int here) := zat _ _
  obtain ⟨MS, hMS⟩ : ∃ MS, MS = ms.map mvD := ⟨_, rfl⟩
  obtain ⟨MC, hMC⟩ : ∃ MC, MC = (ms.take cut).map mvD := ⟨_, rfl⟩
  obtain ⟨MD, hMD⟩ : ∃ MD, MD = (ms.drop (cut + sk)).map mvD := ⟨_, rfl⟩
  obtain ⟨WS, hWS⟩ : ∃ WS, WS = W.map stateD := ⟨_, rfl⟩
  obtain ⟨WC, hWC⟩ : ∃ WC, WC = (W.take (cut + 1)).map stateD := ⟨_, rfl⟩
  obtain ⟨SS, hSS⟩ : ∃ SS, SS = sts.map stD := ⟨_, rfl⟩
  obtain ⟨P, hP⟩ : ∃ P, P = progD many bs := ⟨_, rfl⟩
  have hMSl : MS.length = ms.length := by rw [hMS]; simp
  have hMCl : MC.length ≤ 1000 := by rw [hMC]; simp; omega
  have hMDl : MD.length ≤ 1000 := by rw [hMD]; simp; omega
  rw [← hMC] at cm ra2 ir2
  rw [← hMC, ← hMD] at hBL
  rw [← hMD] at cd
  rw [← hMS] at cm cd ⊢
  rw [← hWC] at ra2 cw lW
  rw [← hWS] at cw aw ⊢
  rw [← hSS] at hbent ⊢
  rw [← hP] at ra2 ir2 irn rfn ⊢
  have m1 : (-4611686018427387904 : Int) ≤ MS.length := by omega
  have m2 : (MS.length : Int) < 4611686018427387904 := by omega
  have m3 : (0 : Int) < MS.length + 1 := by omega
  have hcut' : y % (MS.length + 1 : Int) = cut := by rw [hMSl]; omega
  have b1 : MC.length + 1 ≤ 16777216 := by omega
  have b2 : MC.length + (1 + MD.length) ≤ 16777216 := by omega
  refine ⟨.sh (.int y), .sh (.int cut), .ol BL, .sh (.list BL), ?_⟩
  unfold b1_law
  rw [seqN (e2 := [.sc ns, .sh (.int many), .sh P, s3, .ol SS, .ol MS, .ol WS, .sh (.int turn), .sh (.int y), s9, s10, s11]) (by simp [cl])]
  rw [seqN (e2 := [.sc ns, .sh (.int many), .sh P, s3, .ol SS, .ol MS, .ol WS, .sh (.int turn), .sh (.int y), .sh (.int cut), s10, s11]) (by simp [m1, m2, modD_int m3, hcut'])]
  rw [seqN (e2 := [.sc ns, .sh (.int many), .sh P, s3, .ol SS, .ol MS, .ol WS, .sh (.int turn), .sh (.int y), .sh (.int cut), .ol BL, s11]) (by
    rw [hBL]
    simp [cm, cd, aw, z0, d31, d7, hbent, modD_int, ← hsk, b1, b2, Nat.add_assoc])]
  rw [seqN (e2 := [.sc ns, .sh (.int many), .sh P, s3, .ol SS, .ol MS, .ol WS, .sh (.int turn), .sh (.int y), .sh (.int cut), .ol BL, .sh (.list BL)]) (by simp [fFz, freezeR])]
  rw [seqN (e2 := [.sc ns, .sh (.int many), .sh P, s3, .ol SS, .ol MS, .ol WS, .sh (.int turn), .sh (.int y), .sh (.int cut), .ol BL, .sh (.list BL)]) (by simp [irn, rfn, neD_ok, lB.shaped, lB.refl])]
  simp [cm, cw, ir2, ra2, neD_ok, lW.shaped, lW.refl]
theorem law_true (ns : List Int) (hns : ns.length ≤ 63) : ∃ as, f_law [.sc ns] = .ok (.sh (.bool true), as) := by
  have c0 := cell_eq ns 0 (by omega) (by omega)
  obtain ⟨x, hx⟩ : ∃ x, x = cellV ns 0 := ⟨_, rfl⟩
  rw [← hx] at c0
  obtain ⟨many, hmany⟩ : ∃ many : Nat, x % 7 = many := ⟨(x % 7).toNat, by omega⟩
  have hm : many ≤ 100 := by omega
  obtain ⟨bs, pr, po⟩ := prog_ok ns 1 many 36 (by omega) hm (by omega)
  obtain ⟨c, sts, e, hL⟩ := po.laid (by omega)
  have hlen := hL.len
  obtain ⟨b, bs', rfl⟩ : ∃ b bs', bs = b :: bs' := by
    cases bs with
    | nil => exact absurd rfl po.ne
    | cons b bs' => exact ⟨_, _, rfl⟩
  have la := lay_all (b :: bs') 24 b 0 ⟨1, []⟩ e ⟨c, sts.map stD⟩ (hL.fst b bs' rfl) (by show (sts.map stD).length ≤ 10000; rw [List.length_map]; omega)
  have la : f_l_lay 24 [.sh (.list (rowsD b)), .sh (.int 0), .sh (bodiesD (b :: bs')), .ol [.int 1]] = .ok (.sh (.int e), [.sh (.list (rowsD b)), .no, .sh (bodiesD (b :: bs')), .ol (.int c :: sts.map stD)]) := la
  have c25 := cell_eq ns 25 (by omega) (by omega)
  obtain ⟨y, hy⟩ : ∃ y, y = cellV ns 25 := ⟨_, rfl⟩
  rw [← hy] at c25
  obtain ⟨turns, ht⟩ : ∃ turns : Nat, (turns : Int) = y % 31 := ⟨(y % 31).toNat, by omega⟩
  obtain ⟨ms, ru, hp, hms⟩ := run_ok ns 26 (by omega) sts (by omega) turns (by omega)
  have wk := walked_ok many hm c sts hL.ok (by omega) ms hp (by omega)
  have ra := ran_ok many 39 hm (by omega) _ c sts e hL ms hp (by omega) (.ol (ms.map mvD)) (.inl rfl)
  have ir := is_run_ok many 39 hm (by omega) _ c sts e hL ms hp (by omega)
  obtain ⟨e', q, t8, t9, t10, t11, s7, he'⟩ := loop_inv (tg := .nm 7) (b := b1_law) (fun i e => ∃ t8 t9 t10 t11 s7, e = [.sc ns, .sh (.int many), .sh (progD many (b :: bs')), .ol (.int c :: sts.map stD), .ol (sts.map stD), .ol (ms.map mvD), .ol ((walkL sts 0 (1 :: List.replicate many 0) ms).map stateD), s7, t8, t9, t10, t11])
    (rngD 0 4) (env := [.sc ns, .sh (.int many), .sh (progD many (b :: bs')), .ol (.int c :: sts.map stD), .ol (sts.map stD), .ol (ms.map mvD), .ol ((walkL sts 0 (1 :: List.replicate many 0) ms).map stateD), .no, .no, .no, .no, .no]) ⟨.no, .no, .no, .no, .no, rfl⟩ (by
      rintro i d _ hd ⟨t8, t9, t10, t11, s7, rfl⟩
      obtain ⟨hi, rfl⟩ := rng_get hd
      obtain ⟨u8, u9, u10, u11, r⟩ := law_turn ns many hm _ c sts e hL ms hp (by omega) i hi (.ol (.int c :: sts.map stD)) t8 t9 t10 t11
      exact ⟨_, _, rfl, .inl r, u8, u9, u10, u11, _, rfl⟩)
  subst he'
  have lW := Lay.states (walkL sts 0 (1 :: List.replicate many 0) ms)
  have hms2 : (ms.map mvD).length = ms.length := by simp
  obtain ⟨W, hW⟩ : ∃ W, W = (walkL sts 0 (1 :: List.replicate many 0) ms).map stateD := ⟨_, rfl⟩
  obtain ⟨P, hP⟩ : ∃ P, P = progD many (b :: bs') := ⟨_, rfl⟩
  have hPt : P = .tuple [.int many, bodiesD (b :: bs')] := hP
  have z1 : atI [PyData.int many, bodiesD (b :: bs')] 1 = some (bodiesD (b :: bs')) := zat1 _ _ _
  have zb : bodiesD (b :: bs') = .list (.list (rowsD b) :: bs'.map fun R => .list (rowsD R)) := rfl
  have zb0 : atI (PyData.list (rowsD b) :: bs'.map fun R => .list (rowsD R)) 0 = some (.list (rowsD b)) := zat _ _
  have cs : cutG (PyData.int c :: sts.map stD) (some 1) none = sts.map stD := cutG_from _ 1
  obtain ⟨MS, hMS⟩ : ∃ MS, MS = ms.map mvD := ⟨_, rfl⟩
  obtain ⟨SS, hSS⟩ : ∃ SS, SS = sts.map stD := ⟨_, rfl⟩
  rw [← hW] at wk ra q lW
  rw [← hP] at pr ra ir q
  rw [← hMS] at ru wk ra ir q
  rw [← hSS] at la ru wk cs q
  clear hW
  unfold f_law
  rw [run_eq]
  show ∃ as, (fSeq _ _ [.sc ns, .no, .no, .no, .no, .no, .no, .no, .no, .no, .no, .no]).bind _ = _
  rw [seqN (e2 := [.sc ns, .sh (.int many), .no, .no, .no, .no, .no, .no, .no, .no, .no, .no]) (by simp [c0, modD_int, hmany])]
  rw [seqN (e2 := [.sc ns, .sh (.int many), .sh P, .no, .no, .no, .no, .no, .no, .no, .no, .no]) (by
    have : f_l_program [.sc ns, .sh (.int 1), .sh (.int many), .sh (.int 36)] = .ok (.sh P, [.sc ns, .sh (.int 1), .sh (.int many), .sh (.int 36)]) := pr
    simp [this])]
  rw [seqN (e2 := [.sc ns, .sh (.int many), .sh P, .ol [.int 1], .no, .no, .no, .no, .no, .no, .no, .no]) (by simp)]
  rw [seqN (e2 := [.sc ns, .sh (.int many), .sh P, .ol (.int c :: SS), .no, .no, .no, .no, .no, .no, .no, .no]) (by
    rw [zb] at la z1
    rw [hPt, zb]
    simp [z1, zb0, la])]
  rw [seqN (e2 := [.sc ns, .sh (.int many), .sh P, .ol (.int c :: SS), .ol SS, .no, .no, .no, .no, .no, .no, .no]) (by simp [cs])]
  rw [seqN (e2 := [.sc ns, .sh (.int many), .sh P, .ol (.int c :: SS), .ol SS, .ol MS, .no, .no, .no, .no, .no, .no]) (by
    have : f_l_run [.sc ns, .sh (.int 26), .ol SS, .sh (.int turns)] = .ok (.ol MS, [.sc ns, .sh (.int 26), .ol SS, .sh (.int turns)]) := ru
    simp [c25, modD_int, ← ht, this])]
  rw [seqN (e2 := [.sc ns, .sh (.int many), .sh P, .ol (.int c :: SS), .ol SS, .ol MS, .ol W, .no, .no, .no, .no, .no]) (by simp [wk])]
  rw [seqN (e2 := [.sc ns, .sh (.int many), .sh P, .ol (.int c :: SS), .ol SS, .ol MS, .ol W, s7, t8, t9, t10, t11]) (by simp [q])]
  refine ⟨[.sc ns], ?_⟩
  have m1 : MS.length ≤ 16777216 := by rw [hMS, hms2]; omega
  simp [ra, ir, m1, lW.shaped, lW.refl, eqD_ok, backArgs_eq, List.range_succ]

def topS (i : Nat) : Stmt := PySem.Challenge.pw_evennotes_k18_no_runs.main.body.getD i (.Pass ⟨0, 0, 0, 0⟩)
structure Zs (K : PySem.W.Frag) (mg : Str → Option Value) : Prop where
  list : mg "list" = none
  range : mg "range" = none
  len : mg "len" = none
  int : mg "int" = none
  sum : mg "sum" = none
  tuple : mg "tuple" = none
  isinstance : mg "isinstance" = none
  ValueError : mg "ValueError" = none
  zip : mg "zip" = none
  x_NoRun : ∃ C B as, ExT K mg C B "NoRun" "NoteError" as ["Needed", "NoBox", "NoName", "NoRow", "NoText", "NotAlike", "NoNumber", "TooGreat"]
/-! ### Layout -/
abbrev sY (j : Nat) : Stmt := inClass (topS 14) j
theorem scY0 : FnScope ["self", "bodies"] ["self", "bodies"] (defScope (sY 0)) := ⟨rfl, rfl, rfl, by decide +kernel, rfl, by decide +kernel, by decide +kernel⟩
theorem scY1 : FnScope ["self"] ["self"] (defScope (sY 1)) := ⟨rfl, rfl, rfl, by decide +kernel, rfl, by decide +kernel, by decide +kernel⟩
theorem scY2 : FnScope ["self", "place", "to", "deed"] ["self", "place", "to", "deed"] (defScope (sY 2)) := ⟨rfl, rfl, rfl, by decide +kernel, rfl, by decide +kernel, by decide +kernel⟩
theorem scY3 : FnScope ["self", "row", "place", "one", "other", "to"] ["self", "row", "place"] (defScope (sY 3)) := ⟨rfl, rfl, rfl, by decide +kernel, rfl, by decide +kernel, by decide +kernel⟩
theorem scY4 : FnScope ["self", "row", "place", "to"] ["self", "row", "place"] (defScope (sY 4)) := ⟨rfl, rfl, rfl, by decide +kernel, rfl, by decide +kernel, by decide +kernel⟩
theorem scY5 : FnScope ["self", "row", "place", "to"] ["self", "row", "place"] (defScope (sY 5)) := ⟨rfl, rfl, rfl, by decide +kernel, rfl, by decide +kernel, by decide +kernel⟩
theorem scY6 : FnScope ["self", "rows", "place", "row"] ["self", "rows", "place"] (defScope (sY 6)) := ⟨rfl, rfl, rfl, by decide +kernel, rfl, by decide +kernel, by decide +kernel⟩
section
variable {P : Program} {w : World} {K : PySem.W.Frag} {mg : Str → Option Value} {base : Heap} {C aP aN : Addr}
theorem okY0 {f : Addr} {fd : FuncData} (F : Fun K "__init__" "Layout.__init__" (sY 0) f fd) (T : LTxt K mg C aP aN) : FnOk P w K mg base CX0 1 f fd ["self", "bodies"] (spMk K C) := by
  refine F.ok scY0 (fun vs H Q E h => ?_) (fun cdv A outer s H vs Q E hr h => ?_)
  · obtain ⟨G, x, dx, bv, bs, rfl, _⟩ := h
    rfl
  · obtain ⟨G, x, dx, bv, bs, rfl, sm, gx, ob, db, k⟩ := h
    refine ⟨_, pss_cons (ps_fld (pv 0) (pv 1) rfl) (pss_cons (ps_fld (pv 0) pe_int rfl) (pss_one (ps_fld (pv 0) (pe_lst pa_nil) rfl))), ?_⟩
    refine ⟨_, rfl, _, rfl, x, C, dx, _, rfl, ob, T.cl, T.nB, (by show 0 < 1000; decide), ?_⟩
    refine ⟨_, rfl, x, C, dx, _, rfl, upd_same, T.cl, T.nC, (by show 1 < 1000; decide), ?_⟩
    refine ⟨Nat.zero_le _, fun l hl => ?_⟩
    have hxl : x ≠ l := fun z => by rw [← z, upd_same] at hl; cases hl
    have hl0 : H l = none := by rw [upd_ne (fun z => hxl z.symm), upd_ne (fun z => hxl z.symm)] at hl; exact hl
    refine ⟨_, rfl, x, C, dx, _, rfl, (by rw [upd_ne hxl, upd_same]), T.cl, T.nS, (by show 2 < 1000; decide), ?_⟩
    refine k l _ ⟨fun a o e => ?_, gx, sm.free hl0, ?_, ⟨[], ?_, .nil⟩, db⟩ (fun a o e ha => ?_) hl0
    · have ha : a ≠ x := fun z => by rw [z, gx] at e; cases e
      have h2 := sm _ _ e
      rw [upd_ne ha, upd_ne (ne_of_none h2 hl0), upd_ne ha, upd_ne ha]
      exact h2
    · rw [upd_same, lfs_make]
    · rw [upd_ne (fun z => hxl z.symm), upd_same]
    · rw [upd_ne ha, upd_ne (ne_of_none e hl0), upd_ne ha, upd_ne ha]
      exact e
theorem okY1 {f : Addr} {fd : FuncData} (F : Fun K "new_place" "Layout.new_place" (sY 1) f fd) (T : LTxt K mg C aP aN) : FnOk P w K mg base CX0 1 f fd ["self"] (spNew K C) := by
  refine F.ok scY1 (fun vs H Q E h => ?_) (fun cdv A outer s H vs Q E hr h => ?_)
  · obtain ⟨G, x, dx, l, bv, bs, s, rfl, _⟩ := h
    rfl
  · obtain ⟨G, x, dx, l, bv, bs, s, rfl, L, k⟩ := h
    refine ⟨_, pss_cons (ps_fld (pv 0) (pe_op op_add (pe_fld (pv 0) rfl) pe_int) rfl) (pss_one (ps_ret (pe_op op_sub (pe_fld (pv 0) rfl) pe_int))), ?_⟩
    refine ⟨_, rfl, x, C, dx, _, _, rfl, L.ob, T.cl, T.nC, lfs_count _ _ _, _, _, rfl, rfl, _, rfl, x, C, dx, _, rfl, L.ob, T.cl, T.nC, (by show 3 < 1000; decide), ?_⟩
    rw [lfs_put]
    refine ⟨_, rfl, x, C, dx, _, _, rfl, upd_same, T.cl, T.nC, lfs_count _ _ _, _, _, rfl, rfl, ?_⟩
    have e1 : s.count + 1 - 1 = s.count := by omega
    show Q (V.int (s.count + 1 - 1)) _
    rw [e1]
    have kp : ∀ a o, H a = some o → a ≠ x → upd H x (.ins C dx (lfs bv (s.count + 1) l)) a = some o := fun a o e ha => by rw [upd_ne ha]; exact e
    refine k _ ⟨fun a o e => kp a o (L.same _ _ e) (L.keep e).1, L.gx, L.gl, upd_same, ?_, L.bo⟩ fun a o e ha _ => kp a o e ha
    obtain ⟨vs, h1, h2⟩ := L.st
    exact ⟨vs, kp _ _ h1 (fun z => L.ne z.symm), h2⟩
theorem okY2 {f : Addr} {fd : FuncData} (F : Fun K "goes" "Layout.goes" (sY 2) f fd) (T : LTxt K mg C aP aN) : FnOk P w K mg base CX0 1 f fd ["self", "place", "to", "deed"] (spGoes K C) := by
  refine F.ok scY2 (fun vs H Q E h => ?_) (fun cdv A outer s H vs Q E hr h => ?_)
  · obtain ⟨G, x, dx, l, bv, bs, s, s', a, b, dv, d, rfl, _⟩ := h
    rfl
  · obtain ⟨G, x, dx, l, bv, bs, s, s', a, b, dv, d, rfl, L, dd, e, k⟩ := h
    refine ⟨_, pss_one (ps_expr (pe_bm PySem.F.plainAttrs_list PySem.F.slot_list_append PySem.F.type_list_append mt_append (pe_fld (pv 0) rfl) (pa_cons (pe_tup (pa_cons (pv 1) (pa_cons (pv 2) (pa_cons (pv 3) pa_nil)))) pa_nil))), ?_⟩
    unfold goes at e
    split at e
    case isFalse => cases e
    rename_i hz
    cases e
    obtain ⟨vs, h1, h2⟩ := L.st
    refine ⟨_, rfl, x, C, dx, _, _, rfl, L.ob, T.cl, T.nS, lfs_steps _ _ _, .inl ⟨rfl, vs, .of h1⟩, ?_⟩
    refine ⟨_, rfl, _, rfl, _, rfl, by rw [sizeLine_eq]; show 3 ≤ _; omega, fun t ht => ?_⟩
    have hlt : l ≠ t := ne_of_none h1 ht
    refine ⟨l, vs, .ref t, rfl, rfl, by rw [upd_ne hlt]; exact h1, sizeL' (by rw [h2.length]; exact hz), ?_⟩
    have gt : G t = none := L.same.free ht
    have sG : Same G (upd G t (.tup [.int a, .int b, dv])) := sameU gt
    have kp : ∀ c o, H c = some o → c ≠ l → upd (upd H t (.tup [.int a, .int b, dv])) l (.lst (vs ++ [.ref t])) c = some o := fun c o e hc => by rw [upd_ne hc, upd_ne (ne_of_none e ht)]; exact e
    refine k (upd G t (.tup [.int a, .int b, dv])) _ sG ⟨fun c o e => ?_, ?_, ?_, kp _ _ L.ob L.ne, ⟨_, upd_same, (DtAll.mono sG _ _ h2).append (.one (.tup (.inl upd_same) (.cons (.int _) (.cons (.int _) (.cons (Dt.mono sG _ _ dd) .nil)))))⟩, Dt.mono sG _ _ L.bo⟩ (fun c o e _ hc => kp c o e hc) fun c o e _ _ hg => by rw [upd_ne (ne_of_none e ht)]; exact hg
    · by_cases hc : c = t
      · subst hc
        rw [upd_same] at e
        rw [upd_ne (fun z => hlt z.symm), upd_same]
        exact e
      · rw [upd_ne hc] at e
        exact kp c o (L.same _ _ e) (L.keep e).2
    · rw [upd_ne (ne_of_none L.ob ht)]; exact L.gx
    · rw [upd_ne hlt]; exact L.gl
theorem okY3 {f fl fn fg : Addr} {fd fdl fdn fdg : FuncData} {n : Nat} {fun_ : List FL.Rows → LayF} (F : Fun K "lay_either" "Layout.lay_either" (sY 3) f fd) (T : LTxt K mg C aP aN) (hn1 : 1 ≤ n)
    (GL : FnOk P w K mg base CX0 n fl fdl ["self", "rows", "place"] (spL K C (fun R => .list (rowsD R)) fun_)) (bL : Binds K fdl ["self", "rows", "place"] []) (mL : Meth K C "lay" fl)
    (GN : FnOk P w K mg base CX0 1 fn fdn ["self"] (spNew K C)) (bN : Binds K fdn ["self"] []) (mN : Meth K C "new_place" fn)
    (GG : FnOk P w K mg base CX0 1 fg fdg ["self", "place", "to", "deed"] (spGoes K C)) (bG : Binds K fdg ["self", "place", "to", "deed"] []) (mG : Meth K C "goes" fg) :
    FnOk P w K mg base CX0 (n + 1) f fd ["self", "row", "place"] (spL K C FL.rowD fun bs R p s => match R with | .ei a b _ => layEi (fun_ bs) a b p s | _ => none) := by
  refine F.ok scY3 (fun vs H Q E h => ?_) (fun cdv A outer s H vs Q E hr h => ?_)
  · obtain ⟨G, x, dx, l, bv, bs, s, rv, R, p, p', s', rfl, _⟩ := h
    rfl
  · obtain ⟨G, x, dx, l, bv, bs, s, rv, R, p, p', s', rfl, L, dr, e, k⟩ := h
    have hr1 : Room 1 _ := hr.mono hn1
    have noL : ∀ c, (lfs bv c l).lookup ("lay" : Str) = none := fun c => by unfold lfs; simp [List.lookup, show (("lay" : Str) == ("bodies" : Str)) = false from by decide +kernel, show (("lay" : Str) == ("count" : Str)) = false from by decide +kernel, show (("lay" : Str) == ("steps" : Str)) = false from by decide +kernel]
    have noN : ∀ c, (lfs bv c l).lookup ("new_place" : Str) = none := fun c => by unfold lfs; simp [List.lookup, show (("new_place" : Str) == ("bodies" : Str)) = false from by decide +kernel, show (("new_place" : Str) == ("count" : Str)) = false from by decide +kernel, show (("new_place" : Str) == ("steps" : Str)) = false from by decide +kernel]
    have noG : ∀ c, (lfs bv c l).lookup ("goes" : Str) = none := fun c => by unfold lfs; simp [List.lookup, show (("goes" : Str) == ("bodies" : Str)) = false from by decide +kernel, show (("goes" : Str) == ("count" : Str)) = false from by decide +kernel, show (("goes" : Str) == ("steps" : Str)) = false from by decide +kernel]
    refine ⟨_, pss_cons (ps_set (i := 3) scY3.nd rfl (.inl rfl) (pe_meth (pv 0) T.cl mL GL hr bL .nil pass0 (pa_cons (pe_ix ix_seq (pv 1) pe_int (fun _ _ => rfl)) (pa_cons (pv 2) pa_nil))))
      (pss_cons (ps_set (i := 4) scY3.nd rfl (.inl rfl) (pe_meth (pv 0) T.cl mL GL hr bL .nil pass0 (pa_cons (pe_ix ix_seq (pv 1) pe_int (fun _ _ => rfl)) (pa_cons (pv 2) pa_nil))))
      (pss_cons (ps_set (i := 5) scY3.nd rfl (.inl rfl) (pe_meth0 (pv 0) T.cl mN GN hr1 bN .nil pass0))
      (pss_cons (ps_expr (pe_meth (pv 0) T.cl mG GG hr1 bG .nil pass0 (pa_cons (pv 3) (pa_cons (pv 5) (pa_cons (pe_glob (by rfl) T.gN (v := .ref aN) rfl) pa_nil)))))
      (pss_cons (ps_expr (pe_meth (pv 0) T.cl mG GG hr1 bG .nil pass0 (pa_cons (pv 4) (pa_cons (pv 5) (pa_cons (pe_glob (by rfl) T.gN (v := .ref aN) rfl) pa_nil)))))
      (pss_one (ps_ret (pv 5))))))), ?_⟩
    cases R with
    | ei a b t =>
      have e : layEi (fun_ bs) a b p s = some (p', s') := e
      unfold layEi at e
      simp only [Option.bind_eq_bind, Option.bind_eq_some_iff, Option.some.injEq, Prod.mk.injEq] at e
      obtain ⟨⟨q1, s1⟩, e1, ⟨q2, s2⟩, e2, s3, e3, s4, e4, rfl, rfl⟩ := e
      have dr : Dt K G rv (eitherD (rowsD a) (rowsD b)) := dr
      cases dr with
      | @tup ra xs _ ha hxs =>
        cases hxs with
        | @cons v1 vs1 _ _ d1 hxs =>
          cases d1
          cases hxs with
          | @cons va vs2 _ _ da hxs =>
            cases hxs with
            | @cons vb vs3 _ _ db hxs =>
              cases hxs
              have hra := (ha.mono L.same).sq
              refine ⟨_, rfl, x, dx, _, rfl, L.ob, noL _, ⟨_, rfl, .inr (.inl ⟨ra, _, 1, va, rfl, rfl, hra, rfl, _, rfl, ?_⟩)⟩⟩
              refine ⟨G, x, dx, l, bv, bs, s, va, a, p, q1, s1, rfl, L, da, e1, fun G1 H1 g1 L1 k1 n1 => ?_⟩
              have hra1 := ((ha.mono g1).mono L1.same).sq
              refine ⟨_, rfl, x, dx, _, rfl, L1.ob, noL _, ⟨_, rfl, .inr (.inl ⟨ra, _, 2, vb, rfl, rfl, hra1, rfl, _, rfl, ?_⟩)⟩⟩
              refine ⟨G1, x, dx, l, bv, bs, s1, vb, b, p, q2, s2, rfl, L1, Dt.mono g1 _ _ db, e2, fun G2 H2 g2 L2 k2 n2 => ?_⟩
              refine ⟨_, rfl, x, dx, _, rfl, L2.ob, noN _, G2, x, dx, l, bv, bs, s2, rfl, L2, fun H3 L3 k3 => ?_⟩
              refine ⟨_, rfl, x, dx, _, rfl, L3.ob, noG _, _, rfl, _, rfl, ?_⟩
              refine ⟨G2, x, dx, l, bv, bs, _, s3, q1, s2.count, .ref aN, skipD, rfl, L3, .tup (.inr T.kN) (.cons (.str _) .nil), e3, fun G4 H4 g4 L4 k4 n4 => ?_⟩
              refine ⟨_, rfl, x, dx, _, rfl, L4.ob, noG _, _, rfl, _, rfl, ?_⟩
              refine ⟨G4, x, dx, l, bv, bs, s3, s4, q2, s2.count, .ref aN, skipD, rfl, L4, .tup (.inr T.kN) (.cons (.str _) .nil), e4, fun G5 H5 g5 L5 k5 n5 => ?_⟩
              refine ⟨_, rfl, k G5 H5 (((g1.trans g2).trans g4).trans g5) L5 (fun c o ec h1 h2 => k5 c o (k4 c o (k3 c o (k2 c o (k1 c o ec h1 h2) h1 h2) h1 h2) h1 h2) h1 h2) (n1.trans k1 (n2.trans k2 (NewG.trans (G1 := G2) (fun _ _ _ _ _ h => h) k3 (n4.trans k4 n5))))⟩
    | nil => cases e
    | pl r t => cases e
    | lo a t => cases e
    | ca k t => cases e
theorem okY4 {f fl fn fg : Addr} {fd fdl fdn fdg : FuncData} {n : Nat} {fun_ : List FL.Rows → LayF} (F : Fun K "lay_loop" "Layout.lay_loop" (sY 4) f fd) (T : LTxt K mg C aP aN) (hn1 : 1 ≤ n)
    (GL : FnOk P w K mg base CX0 n fl fdl ["self", "rows", "place"] (spL K C (fun R => .list (rowsD R)) fun_)) (bL : Binds K fdl ["self", "rows", "place"] []) (mL : Meth K C "lay" fl)
    (GN : FnOk P w K mg base CX0 1 fn fdn ["self"] (spNew K C)) (bN : Binds K fdn ["self"] []) (mN : Meth K C "new_place" fn)
    (GG : FnOk P w K mg base CX0 1 fg fdg ["self", "place", "to", "deed"] (spGoes K C)) (bG : Binds K fdg ["self", "place", "to", "deed"] []) (mG : Meth K C "goes" fg) :
    FnOk P w K mg base CX0 (n + 1) f fd ["self", "row", "place"] (spL K C FL.rowD fun bs R p s => match R with | .lo a _ => layLo (fun_ bs) a p s | _ => none) := by
  refine F.ok scY4 (fun vs H Q E h => ?_) (fun cdv A outer s H vs Q E hr h => ?_)
  · obtain ⟨G, x, dx, l, bv, bs, s, rv, R, p, p', s', rfl, _⟩ := h
    rfl
  · obtain ⟨G, x, dx, l, bv, bs, s, rv, R, p, p', s', rfl, L, dr, e, k⟩ := h
    have hr1 : Room 1 _ := hr.mono hn1
    have noL : ∀ c, (lfs bv c l).lookup ("lay" : Str) = none := fun c => by unfold lfs; simp [List.lookup, show (("lay" : Str) == ("bodies" : Str)) = false from by decide +kernel, show (("lay" : Str) == ("count" : Str)) = false from by decide +kernel, show (("lay" : Str) == ("steps" : Str)) = false from by decide +kernel]
    have noN : ∀ c, (lfs bv c l).lookup ("new_place" : Str) = none := fun c => by unfold lfs; simp [List.lookup, show (("new_place" : Str) == ("bodies" : Str)) = false from by decide +kernel, show (("new_place" : Str) == ("count" : Str)) = false from by decide +kernel, show (("new_place" : Str) == ("steps" : Str)) = false from by decide +kernel]
    have noG : ∀ c, (lfs bv c l).lookup ("goes" : Str) = none := fun c => by unfold lfs; simp [List.lookup, show (("goes" : Str) == ("bodies" : Str)) = false from by decide +kernel, show (("goes" : Str) == ("count" : Str)) = false from by decide +kernel, show (("goes" : Str) == ("steps" : Str)) = false from by decide +kernel]
    refine ⟨_, pss_cons (ps_set (i := 3) scY4.nd rfl (.inl rfl) (pe_meth0 (pv 0) T.cl mN GN hr1 bN .nil pass0))
      (pss_cons (ps_expr (pe_meth (pv 0) T.cl mG GG hr1 bG .nil pass0 (pa_cons (pv 2) (pa_cons (pv 3) (pa_cons (pe_glob (by rfl) T.gN (v := .ref aN) rfl) pa_nil)))))
      (pss_cons (ps_expr (pe_meth (pv 0) T.cl mG GG hr1 bG .nil pass0 (pa_cons (pe_meth (pv 0) T.cl mL GL hr bL .nil pass0 (pa_cons (pe_ix ix_seq (pv 1) pe_int (fun _ _ => rfl)) (pa_cons (pv 3) pa_nil))) (pa_cons (pv 3) (pa_cons (pe_glob (by rfl) T.gN (v := .ref aN) rfl) pa_nil)))))
      (pss_one (ps_ret (pv 3))))), ?_⟩
    cases R with
    | lo a t =>
      have e : layLo (fun_ bs) a p s = some (p', s') := e
      unfold layLo at e
      simp only [Option.bind_eq_bind, Option.bind_eq_some_iff, Option.some.injEq, Prod.mk.injEq] at e
      obtain ⟨s1, e1, ⟨q, s2⟩, e2, s3, e3, rfl, rfl⟩ := e
      have dr : Dt K G rv (loopD (rowsD a)) := dr
      cases dr with
      | @tup ra xs _ ha hxs =>
        cases hxs with
        | @cons v1 vs1 _ _ d1 hxs =>
          cases d1
          cases hxs with
          | @cons va vs2 _ _ da hxs =>
            cases hxs
            refine ⟨_, rfl, x, dx, _, rfl, L.ob, noN _, G, x, dx, l, bv, bs, s, rfl, L, fun H3 L3 k3 => ?_⟩
            refine ⟨_, rfl, x, dx, _, rfl, L3.ob, noG _, _, rfl, _, rfl, ?_⟩
            refine ⟨G, x, dx, l, bv, bs, _, s1, p, s.count, .ref aN, skipD, rfl, L3, .tup (.inr T.kN) (.cons (.str _) .nil), e1, fun G4 H4 g4 L4 k4 n4 => ?_⟩
            have hra := ((ha.mono g4).mono L4.same).sq
            refine ⟨_, rfl, x, dx, _, rfl, L4.ob, noG _, ?_⟩
            refine ⟨_, rfl, x, dx, _, rfl, L4.ob, noL _, ⟨_, rfl, .inr (.inl ⟨ra, _, 1, va, rfl, rfl, hra, rfl, _, rfl, ?_⟩)⟩⟩
            refine ⟨G4, x, dx, l, bv, bs, s1, va, a, s.count, q, s2, rfl, L4, Dt.mono g4 _ _ da, e2, fun G1 H1 g1 L1 k1 n1 => ?_⟩
            refine ⟨_, rfl, ?_⟩
            refine ⟨G1, x, dx, l, bv, bs, s2, s3, q, s.count, .ref aN, skipD, rfl, L1, .tup (.inr T.kN) (.cons (.str _) .nil), e3, fun G5 H5 g5 L5 k5 n5 => ?_⟩
            refine ⟨_, rfl, k G5 H5 ((g4.trans g1).trans g5) L5 (fun c o ec h1 h2 => k5 c o (k1 c o (k4 c o (k3 c o ec h1 h2) h1 h2) h1 h2) h1 h2) (NewG.trans (G1 := G) (fun _ _ _ _ _ h => h) k3 (n4.trans k4 (n1.trans k1 n5)))⟩
    | nil => cases e
    | pl r t => cases e
    | ei a b t => cases e
    | ca k t => cases e
theorem decS {a b : Str} : decide (V.str a = V.str b) = decide (a = b) := by
  by_cases h : a = b
  · subst h; simp
  · rw [decide_eq_false h, decide_eq_false (fun z => h (by cases z; rfl))]
theorem okY5 {f fl fn fg fe fo : Addr} {fd fdl fdn fdg fde fdo : FuncData} {n : Nat} {fun_ : List FL.Rows → LayF} (F : Fun K "lay_row" "Layout.lay_row" (sY 5) f fd) (T : LTxt K mg C aP aN) (hn1 : 1 ≤ n)
    (GL : FnOk P w K mg base CX0 n fl fdl ["self", "rows", "place"] (spL K C (fun R => .list (rowsD R)) fun_)) (bL : Binds K fdl ["self", "rows", "place"] []) (mL : Meth K C "lay" fl)
    (GE : FnOk P w K mg base CX0 (n + 1) fe fde ["self", "row", "place"] (spL K C FL.rowD fun bs R p s => match R with | .ei a b _ => layEi (fun_ bs) a b p s | _ => none)) (bE : Binds K fde ["self", "row", "place"] []) (mE : Meth K C "lay_either" fe)
    (GO : FnOk P w K mg base CX0 (n + 1) fo fdo ["self", "row", "place"] (spL K C FL.rowD fun bs R p s => match R with | .lo a _ => layLo (fun_ bs) a p s | _ => none)) (bO : Binds K fdo ["self", "row", "place"] []) (mO : Meth K C "lay_loop" fo)
    (GN : FnOk P w K mg base CX0 1 fn fdn ["self"] (spNew K C)) (bN : Binds K fdn ["self"] []) (mN : Meth K C "new_place" fn)
    (GG : FnOk P w K mg base CX0 1 fg fdg ["self", "place", "to", "deed"] (spGoes K C)) (bG : Binds K fdg ["self", "place", "to", "deed"] []) (mG : Meth K C "goes" fg) :
    FnOk P w K mg base CX0 (n + 2) f fd ["self", "row", "place"] (spL K C FL.rowD fun bs => layOne (fun_ bs) bs) := by
  refine F.ok scY5 (fun vs H Q E h => ?_) (fun cdv A outer s H vs Q E hr h => ?_)
  · obtain ⟨G, x, dx, l, bv, bs, s, rv, R, p, p', s', rfl, _⟩ := h
    rfl
  · obtain ⟨G, x, dx, l, bv, bs, s, rv, R, p, p', s', rfl, L, dr, e, k⟩ := h
    have hr1 : Room 1 _ := hr.mono (by omega)
    have noL : ∀ c, (lfs bv c l).lookup ("lay" : Str) = none := fun c => by unfold lfs; simp [List.lookup, show (("lay" : Str) == ("bodies" : Str)) = false from by decide +kernel, show (("lay" : Str) == ("count" : Str)) = false from by decide +kernel, show (("lay" : Str) == ("steps" : Str)) = false from by decide +kernel]
    have noN : ∀ c, (lfs bv c l).lookup ("new_place" : Str) = none := fun c => by unfold lfs; simp [List.lookup, show (("new_place" : Str) == ("bodies" : Str)) = false from by decide +kernel, show (("new_place" : Str) == ("count" : Str)) = false from by decide +kernel, show (("new_place" : Str) == ("steps" : Str)) = false from by decide +kernel]
    have noG : ∀ c, (lfs bv c l).lookup ("goes" : Str) = none := fun c => by unfold lfs; simp [List.lookup, show (("goes" : Str) == ("bodies" : Str)) = false from by decide +kernel, show (("goes" : Str) == ("count" : Str)) = false from by decide +kernel, show (("goes" : Str) == ("steps" : Str)) = false from by decide +kernel]
    have noE : ∀ c, (lfs bv c l).lookup ("lay_either" : Str) = none := fun c => by unfold lfs; simp [List.lookup, show (("lay_either" : Str) == ("bodies" : Str)) = false from by decide +kernel, show (("lay_either" : Str) == ("count" : Str)) = false from by decide +kernel, show (("lay_either" : Str) == ("steps" : Str)) = false from by decide +kernel]
    have noO : ∀ c, (lfs bv c l).lookup ("lay_loop" : Str) = none := fun c => by unfold lfs; simp [List.lookup, show (("lay_loop" : Str) == ("bodies" : Str)) = false from by decide +kernel, show (("lay_loop" : Str) == ("count" : Str)) = false from by decide +kernel, show (("lay_loop" : Str) == ("steps" : Str)) = false from by decide +kernel]
    refine ⟨_, pss_cons (ps_if (pt_cmpR op_eq (pe_ix ix_seq (pv 1) pe_int (fun _ _ => rfl)) pe_str (nomark _)) (pss_one (ps_ret (pe_meth (pv 0) T.cl mE GE hr bE .nil pass0 (pa_cons (pv 1) (pa_cons (pv 2) pa_nil))))) pss_nil)
      (pss_cons (ps_if (pt_cmpR op_eq (pe_ix ix_seq (pv 1) pe_int (fun _ _ => rfl)) pe_str (nomark _)) (pss_one (ps_ret (pe_meth (pv 0) T.cl mO GO hr bO .nil pass0 (pa_cons (pv 1) (pa_cons (pv 2) pa_nil))))) pss_nil)
      (pss_cons (ps_if (pt_cmpR op_eq (pe_ix ix_seq (pv 1) pe_int (fun _ _ => rfl)) pe_str (nomark _)) (pss_one (ps_ret (pe_meth (pv 0) T.cl mL GL (hr.mono (by omega)) bL .nil pass0 (pa_cons (pe_ix ix_seq (pe_fld (pv 0) rfl) (pe_ix ix_seq (pv 1) pe_int (fun _ _ => rfl)) (fun _ _ => rfl)) (pa_cons (pv 2) pa_nil))))) pss_nil)
      (pss_cons (ps_set (i := 3) scY5.nd rfl (.inl rfl) (pe_meth0 (pv 0) T.cl mN GN hr1 bN .nil pass0))
      (pss_cons (ps_if (pt_cmpR op_in_seq (pe_ix ix_seq (pv 1) pe_int (fun _ _ => rfl)) (pe_glob (by rfl) T.gP (v := .ref aP) rfl) (by rfl)) (pss_one (ps_expr (pe_meth (pv 0) T.cl mG GG hr1 bG .nil pass0 (pa_cons (pv 2) (pa_cons (pv 3) (pa_cons (pv 1) pa_nil)))))) pss_nil)
      (pss_one (ps_ret (pv 3))))))), ?_⟩
    -- the row is a tuple that begins with a text
    have key : ∃ (ra : Addr) (xs : List V) (z : Str) (ds : List D), rv = .ref ra ∧ FL.rowD R = .tuple (.str z :: ds) ∧ TupAt K G ra (.str z :: xs) ∧ DtAll K G xs ds := by
      have aux : ∀ (z : Str) (ds : List D), Dt K G rv (.tuple (.str z :: ds)) → FL.rowD R = .tuple (.str z :: ds) → ∃ (ra : Addr) (xs : List V) (z : Str) (ds : List D), rv = .ref ra ∧ FL.rowD R = .tuple (.str z :: ds) ∧ TupAt K G ra (.str z :: xs) ∧ DtAll K G xs ds := by
        intro z ds h hd
        cases h with
        | tup ha hx =>
          cases hx with
          | cons h1 h2 => cases h1; exact ⟨_, _, z, ds, rfl, hd, ha, h2⟩
      cases R with
      | nil => cases e
      | pl r t => cases r <;> exact aux _ _ dr rfl
      | ei a b t => exact aux _ _ dr rfl
      | lo a t => exact aux _ _ dr rfl
      | ca k t => exact aux _ _ dr rfl
    obtain ⟨ra, xs, z, ds, rfl, er, ha, hx⟩ := key
    have hra := (ha.mono L.same).sq
    have i0 : ∀ {Q : VK} {H' : Hp}, SqT K H' ra (.str z :: xs) → Q (.str z) H' → rIx K (.ref ra) (.int 0) H' Q := fun h q => .inr (.inl ⟨ra, _, 0, .str z, rfl, rfl, h, atI_zero _ _, q⟩)
    refine ⟨_, rfl, i0 hra ⟨rfl, _, rfl, ?_⟩⟩
    rw [decS]
    -- either
    cases R with
    | nil => cases e
    | ei a b t =>
      cases er
      refine if_true_of (by decide +kernel) ?_
      exact ⟨_, rfl, x, dx, _, rfl, L.ob, noE _, _, rfl, _, rfl, G, x, dx, l, bv, bs, s, .ref ra, .ei a b t, p, p', s', rfl, L, dr, e, k⟩
    | lo a t =>
      cases er
      refine if_false_of (by decide +kernel) ⟨_, rfl, i0 hra ⟨rfl, _, rfl, ?_⟩⟩
      rw [decS]
      refine if_true_of (by decide +kernel) ?_
      exact ⟨_, rfl, x, dx, _, rfl, L.ob, noO _, _, rfl, _, rfl, G, x, dx, l, bv, bs, s, .ref ra, .lo a t, p, p', s', rfl, L, dr, e, k⟩
    | ca j t =>
      cases er
      refine if_false_of (by decide +kernel) ⟨_, rfl, i0 hra ⟨rfl, _, rfl, ?_⟩⟩
      rw [decS]
      refine if_false_of (by decide +kernel) ⟨_, rfl, i0 hra ⟨rfl, _, rfl, ?_⟩⟩
      rw [decS]
      refine if_true_of (by decide +kernel) ?_
      cases hx with
      | cons h1 h2 =>
        cases h1
        cases h2
        have e : ((bs[j]?).bind fun R => fun_ bs R p s) = some (p', s') := e
        rw [Option.bind_eq_some_iff] at e
        obtain ⟨R1, eb, e⟩ := e
        have bo := L.bo
        unfold bodiesD at bo
        cases bo with
        | @lst ba ys _ hb hys =>
          obtain ⟨v1, ev1, d1⟩ := hys.get (i := j) (d := .list (rowsD R1)) (by rw [List.getElem?_map, eb]; rfl)
          refine ⟨_, rfl, x, dx, _, rfl, L.ob, noL _, ?_⟩
          refine ⟨_, rfl, x, C, dx, _, _, rfl, L.ob, T.cl, T.nB, lfs_bodies _ _ _, ?_⟩
          refine ⟨_, rfl, .inr (.inl ⟨ra, _, 1, .int j, rfl, rfl, hra, rfl, ?_⟩)⟩
          refine .inl ⟨ba, ys, j, v1, rfl, rfl, .of (L.same _ _ hb), atI_nat ev1, _, rfl, ?_⟩
          exact ⟨G, x, dx, l, _, bs, s, v1, R1, p, p', s', rfl, L, d1, e, k⟩
    | pl r t =>
      have ne1 : decide (z = sEither) = false := by cases r <;> (cases er; decide +kernel)
      have ne2 : decide (z = sLoop) = false := by cases r <;> (cases er; decide +kernel)
      have ne3 : decide (z = sCall) = false := by cases r <;> (cases er; decide +kernel)
      refine if_false_of ne1 ⟨_, rfl, i0 hra ⟨rfl, _, rfl, ?_⟩⟩
      rw [decS]
      refine if_false_of ne2 ⟨_, rfl, i0 hra ⟨rfl, _, rfl, ?_⟩⟩
      rw [decS]
      refine if_false_of ne3 ?_
      refine ⟨_, rfl, x, dx, _, rfl, L.ob, noN _, G, x, dx, l, bv, bs, s, rfl, L, fun H3 L3 k3 => ?_⟩
      have hra3 := (ha.mono L3.same).sq
      refine ⟨_, rfl, i0 hra3 ⟨aP, _, rfl, .inr (.inr T.kP), rfl, rfl, _, rfl, ?_⟩⟩
      have e : layPl r p s = some (p', s') := e
      have e2 : r = .halt ∨ (inV (.str z) [.str sSet, .str sTake, .str sSkip] = true ∧ (goes ⟨s.count + 1, s.steps⟩ p s.count r.d).map (fun s2 => (s.count, s2)) = some (p', s')) := by
        cases r with
        | halt => exact .inl rfl
        | set b ln => exact .inr ⟨by cases er; decide +kernel, e⟩
        | take b => exact .inr ⟨by cases er; decide +kernel, e⟩
        | skip => exact .inr ⟨by cases er; decide +kernel, e⟩
      rcases e2 with rfl | ⟨hin, e2⟩
      · cases er
        refine if_false_of (by decide +kernel) ?_
        cases e
        exact ⟨_, rfl, k G H3 (.refl _) L3 k3 fun _ _ _ _ _ h => h⟩
      · refine if_true_of hin ?_
        rw [Option.map_eq_some_iff] at e2
        obtain ⟨s2, e3, e4⟩ := e2
        cases e4
        refine ⟨_, rfl, x, dx, _, rfl, L3.ob, noG _, _, rfl, _, rfl, _, rfl, ?_⟩
        exact ⟨G, x, dx, l, bv, bs, _, _, p, s.count, .ref ra, _, rfl, L3, dr, e3, fun G4 H4 g4 L4 k4 n4 => ⟨_, rfl, k G4 H4 g4 L4 (fun c o ec h1 h2 => k4 c o (k3 c o ec h1 h2) h1 h2) (NewG.trans (G1 := G) (fun _ _ _ _ _ h => h) k3 n4)⟩⟩
theorem okY6 {f fr : Addr} {fd fdr : FuncData} {n : Nat} {rec : List FL.Rows → LayF} (F : Fun K "lay" "Layout.lay" (sY 6) f fd) (T : LTxt K mg C aP aN)
    (GR : FnOk P w K mg base CX0 n fr fdr ["self", "row", "place"] (spL K C FL.rowD fun bs => layOne (rec bs) bs)) (bR : Binds K fdr ["self", "row", "place"] []) (mR : Meth K C "lay_row" fr) :
    FnOk P w K mg base CX0 (n + 1) f fd ["self", "rows", "place"] (spL K C (fun R => .list (rowsD R)) fun bs => layRows (rec bs) bs) := by
  refine F.ok scY6 (fun vs H Q E h => ?_) (fun cdv A outer s H vs Q E hr h => ?_)
  · obtain ⟨G, x, dx, l, bv, bs, s, rv, R, p, p', s', rfl, _⟩ := h
    rfl
  · obtain ⟨G, x, dx, l, bv, bs, s, rv, R, p, p', s', rfl, L, dr, e, k⟩ := h
    have noR : ∀ c, (lfs bv c l).lookup ("lay_row" : Str) = none := fun c => by unfold lfs; simp [List.lookup, show (("lay_row" : Str) == ("bodies" : Str)) = false from by decide +kernel, show (("lay_row" : Str) == ("count" : Str)) = false from by decide +kernel, show (("lay_row" : Str) == ("steps" : Str)) = false from by decide +kernel]
    refine ⟨_, pss_cons (ps_for PassesOwn.never rfl (pi_list (pv 1)) (pg_name (i := 3) scY6.nd rfl (.inl rfl))
        (pss_one (ps_set (i := 2) scY6.nd rfl (.inl rfl) (pe_meth (pv 0) T.cl mR GR hr bR .nil pass0 (pa_cons (pv 3) (pa_cons (pv 2) pa_nil))))))
      (pss_one (ps_ret (pv 2))), ?_⟩
    cases dr with
    | @lst a xs _ ha hxs =>
      refine ⟨_, rfl, a, rfl, ⟨xs, .of (L.same _ _ ha)⟩, for_list (K := K) (a := a) (xs := xs) (fun i σ H' => ∃ (G' : Hp) (s1 : LS) (R1 : FL.Rows) (q : Int) (v : Option V), σ = [some (.ref x), some (.ref a), some (.int q), v] ∧ Same G G' ∧ LayAt K C G' H' x dx l bv bs s1 ∧ Kept H H' x l ∧ NewG G G' H x l ∧ rowsD R1 = (rowsD R).drop i ∧ layRows (rec bs) bs R1 q s1 = some (p', s'))
        ⟨G, s, R, p, none, rfl, .refl _, L, fun _ _ h _ _ => h, fun _ _ _ _ _ h => h, rfl, e⟩ (fun i σ H' _ ⟨G', s1, R1, q, v, _, g, L1, _, _, _, _⟩ => .of (L1.same _ _ (g _ _ ha))) ?_ ?_⟩
      · rintro i y σ H' hi ⟨G', s1, R1, q, v, rfl, g, L1, k1, n1, er, e1⟩
        obtain ⟨d, ed, dd⟩ := hxs.get' hi
        have hlt : i < (rowsD R).length := (List.getElem?_eq_some_iff.mp ed).1
        have hne : rowsD R1 ≠ [] := by
          rw [er]
          intro z
          have := congrArg List.length z
          rw [List.length_drop] at this
          simp at this
          omega
        have er2 := rowsD_cons R1 hne
        rw [er, List.drop_eq_getElem_cons hlt] at er2
        rw [List.getElem?_eq_getElem hlt] at ed
        cases ed
        have hd : (rowsD R)[i] = FL.rowD R1 := (List.cons.inj er2).1
        have ht : (rowsD R).drop (i + 1) = rowsD R1.tl := (List.cons.inj er2).2
        rw [layRows_cons _ _ _ _ _ hne, Option.bind_eq_some_iff] at e1
        obtain ⟨⟨q2, s2⟩, e2, e3⟩ := e1
        rw [hd] at dd
        refine ⟨_, rfl, x, dx, _, rfl, L1.ob, noR _, _, rfl, _, rfl, G', x, dx, l, bv, bs, s1, y, R1, q, q2, s2, rfl, L1, Dt.mono g _ _ dd, e2, fun G2 H2 g2 L2 k2 n2 => ?_⟩
        exact ⟨G2, s2, R1.tl, q2, _, rfl, g.trans g2, L2, fun c o ec h1 h2 => k2 c o (k1 c o ec h1 h2) h1 h2, n1.trans k1 n2, ht.symm, e3⟩
      · rintro σ H' ⟨G', s1, R1, q, v, rfl, g, L1, k1, n1, er, e1⟩
        have : rowsD R1 = [] := by rw [er, hxs.length]; simp
        have hR : R1 = .nil := by cases R1 <;> first | rfl | (cases this)
        subst hR
        cases e1
        exact ⟨_, rfl, k G' H' g L1 k1 n1⟩
/-- the methods, all together -/
theorem okYs {f1 f2 f3 f4 f5 f6 : Addr} {d1 d2 d3 d4 d5 d6 : FuncData} (T : LTxt K mg C aP aN)
    (F1 : Fun K "new_place" "Layout.new_place" (sY 1) f1 d1) (b1 : Binds K d1 ["self"] []) (m1 : Meth K C "new_place" f1)
    (F2 : Fun K "goes" "Layout.goes" (sY 2) f2 d2) (b2 : Binds K d2 ["self", "place", "to", "deed"] []) (m2 : Meth K C "goes" f2)
    (F3 : Fun K "lay_either" "Layout.lay_either" (sY 3) f3 d3) (b3 : Binds K d3 ["self", "row", "place"] []) (m3 : Meth K C "lay_either" f3)
    (F4 : Fun K "lay_loop" "Layout.lay_loop" (sY 4) f4 d4) (b4 : Binds K d4 ["self", "row", "place"] []) (m4 : Meth K C "lay_loop" f4)
    (F5 : Fun K "lay_row" "Layout.lay_row" (sY 5) f5 d5) (b5 : Binds K d5 ["self", "row", "place"] []) (m5 : Meth K C "lay_row" f5)
    (F6 : Fun K "lay" "Layout.lay" (sY 6) f6 d6) (b6 : Binds K d6 ["self", "rows", "place"] []) (m6 : Meth K C "lay" f6) :
    ∀ n, FnOk P w K mg base CX0 (3 * n + 1) f6 d6 ["self", "rows", "place"] (spL K C (fun R => .list (rowsD R)) fun bs => layN bs n)
  | 0 => ⟨fun vs H Q E ⟨G, x, dx, l, bv, bs, s, rv, R, p, p', s', h, _⟩ => by rw [h]; rfl, fun A outer s H args us vs Q E _ _ _ _ ⟨G, x, dx, l, bv, bs, s, rv, R, p, p', s', _, _, _, e, _⟩ => by cases e⟩
  | n + 1 => by
    have G6 := okYs T F1 b1 m1 F2 b2 m2 F3 b3 m3 F4 b4 m4 F5 b5 m5 F6 b6 m6 n
    have G1 : FnOk P w K mg base CX0 1 f1 d1 ["self"] (spNew K C) := okY1 F1 T
    have G2 : FnOk P w K mg base CX0 1 f2 d2 ["self", "place", "to", "deed"] (spGoes K C) := okY2 F2 T
    have G3 := okY3 F3 T (by omega) G6 b6 m6 G1 b1 m1 G2 b2 m2
    have G4 := okY4 F4 T (by omega) G6 b6 m6 G1 b1 m1 G2 b2 m2
    have G5 := okY5 F5 T (by omega) G6 b6 m6 G3 b3 m3 G4 b4 m4 G1 b1 m1 G2 b2 m2
    exact okY6 F6 T G5 b5 m5
abbrev s_laid : Stmt := topS 15
theorem sc_laid : FnScope ["program", "layout", "end"] ["program"] (defScope s_laid) := ⟨rfl, rfl, rfl, by decide +kernel, rfl, by decide +kernel, by decide +kernel⟩
theorem ok_laid {f f0 f6 : Addr} {fd d0 d6 : FuncData} (F : Fun K "laid" "laid" s_laid f fd) (T : LTxt K mg C aP aN) (M : Mk K C f0)
    (G0 : FnOk P w K mg base CX0 1 f0 d0 ["self", "bodies"] (spMk K C)) (b0 : Binds K d0 ["self", "bodies"] [])
    (G6 : FnOk P w K mg base CX0 73 f6 d6 ["self", "rows", "place"] (spL K C (fun R => .list (rowsD R)) fun bs => layN bs 24)) (b6 : Binds K d6 ["self", "rows", "place"] []) (m6 : Meth K C "lay" f6) :
    FnOk P w K mg base CX0 74 f fd ["program"] (spF K mg 1 f_laid) := by
  refine F.ok sc_laid (fun vs H Q E h => h.1) (fun cdv A outer s H vs Q E hr h => ?_)
  obtain ⟨hl, args, l, r, args', ha, rp, e, q⟩ := h
  obtain ⟨d, ⟨c, steps, en⟩, rfl, ⟨many, b, bs, rfl, eL⟩, er⟩ := f_laid_ok e
  cases er
  obtain ⟨v, rfl⟩ : ∃ v, vs = [v] := by
    cases vs with
    | nil => cases hl
    | cons v vs => cases vs with
      | nil => exact ⟨v, rfl⟩
      | cons _ _ => cases hl
  have noL : ∀ bv c l, (lfs bv c l).lookup ("lay" : Str) = none := fun bv c l => by unfold lfs; simp [List.lookup, show (("lay" : Str) == ("bodies" : Str)) = false from by decide +kernel, show (("lay" : Str) == ("count" : Str)) = false from by decide +kernel, show (("lay" : Str) == ("steps" : Str)) = false from by decide +kernel]
  refine ⟨_, pss_cons (ps_set (i := 1) sc_laid.nd rfl (.inl rfl) (pe_make M G0 (hr.mono (by decide)) rfl T.mgC b0 .nil pass0 (pa_cons (pe_ix ix_seq (pv 0) pe_int (fun _ _ => rfl)) pa_nil)))
    (pss_cons (ps_set (i := 2) sc_laid.nd rfl (.inl rfl) (pe_meth (pv 1) T.cl m6 G6 hr b6 .nil pass0 (pa_cons (pe_ix ix_seq (pe_ix ix_seq (pv 0) pe_int (fun _ _ => rfl)) pe_int (fun _ _ => rfl)) (pa_cons pe_int pa_nil))))
    (pss_one (ps_ret (pe_tup (pa_cons (pe_fld (pv 1) rfl) (pa_cons (pe_callTy call_list_of (by rfl) T.lst bt_list (pa_cons (pe_fld (pv 1) rfl) pa_nil) (by decide) (by decide)) (pa_cons (pv 2) pa_nil))))))), ?_⟩
  obtain ⟨G, os, rp⟩ := rp
  obtain ⟨v', ev, dp⟩ := rp.shOf (ov := some v) (d := progD many (b :: bs)) (List.mem_append_left _ List.mem_cons_self)
  cases ev
  have sm := rp.same
  have there := RL.there rp.rl
  unfold progD at dp
  cases dp with
  | @tup pa xs _ hp hxs =>
    cases hxs with
    | @cons vm _ _ _ dm hxs =>
      cases dm
      cases hxs with
      | @cons bv _ _ _ db hxs =>
        cases hxs
        refine ⟨_, rfl, .inr (.inl ⟨pa, _, 1, bv, rfl, rfl, (hp.mono sm).sq, rfl, ?_⟩)⟩
        intro x dx hx hdx hne
        have k0 : Same H (upd (upd H dx (.own x)) x (.ins C dx [])) := fun a o e => by rw [upd_ne (ne_of_none e hx), upd_ne (ne_of_none e hdx)]; exact e
        refine ⟨G, x, dx, bv, b :: bs, rfl, sm.trans k0, sm.free hx, upd_same, db, fun ll H1 L1 k1 hll => ⟨rfl, ?_⟩⟩
        have s1 : Same H H1 := fun a o e => k1 a o (k0 _ _ e) (ne_of_none e hx)
        have ll0 : H ll = none := by
          have h2 := hll
          by_cases z : ll = x
          · rw [z, upd_same] at h2; cases h2
          · rw [upd_ne z] at h2
            by_cases z2 : ll = dx
            · rw [z2, upd_same] at h2; cases h2
            · rw [upd_ne z2] at h2; exact h2
        have hp1 := (hp.mono L1.same).sq
        unfold bodiesD at db
        cases db with
        | @lst ba ys _ hb hys =>
          obtain ⟨v1, ev1, d1⟩ := hys.get (i := 0) (d := .list (rowsD b)) rfl
          refine ⟨_, rfl, x, dx, _, rfl, L1.ob, noL _ _ _, ?_⟩
          refine ⟨_, rfl, .inr (.inl ⟨pa, _, 1, .ref ba, rfl, rfl, hp1, rfl, .inl ⟨ba, ys, 0, v1, rfl, rfl, .of (L1.same _ _ hb), (atI_nat (j := 0) ev1), ?_⟩⟩)⟩
          refine ⟨G, x, dx, ll, _, b :: bs, ⟨1, []⟩, v1, b, 0, en, ⟨c, steps⟩, rfl, L1, d1, eL, fun G2 H2 g2 L2 k2 n2 => ?_⟩
          have s2 : Same H H2 := fun a o e => k2 a o (s1 _ _ e) (ne_of_none e hx) (ne_of_none e ll0)
          obtain ⟨vs, h1, h2⟩ := L2.st
          refine ⟨_, rfl, x, C, dx, _, _, rfl, L2.ob, T.cl, T.nC, lfs_count _ _ _, ?_⟩
          refine ⟨_, rfl, x, C, dx, _, _, rfl, L2.ob, T.cl, T.nS, lfs_steps _ _ _, ?_⟩
          refine ⟨ll, vs, rfl, .inl (.of h1), fun q0 hq0 => ?_⟩
          refine ⟨_, rfl, by rw [sizeLine_eq]; show 3 ≤ _; omega, fun t ht => ?_⟩
          have ntq : t ≠ q0 := fun z => by rw [z, upd_same] at ht; cases ht
          have ht0 : H2 t = none := by rw [upd_ne ntq] at ht; exact ht
          have fin : Same H2 (upd (upd H2 q0 (.lst vs)) t (.tup [.int c, .ref q0, .int en])) := fun a o e => by rw [upd_ne (ne_of_none e ht0), upd_ne (ne_of_none e hq0)]; exact e
          have hH0 : ∀ a, H2 a = none → H a = none := fun a h => by
            cases e : H a with
            | none => rfl
            | some o => rw [s2 _ _ e] at h; cases h
          refine q _ _ ⟨G2, [t, q0] ++ os, L2.same.trans fin, .cons (.ow (.tri upd_same (.int c) ?_ h2 (.int en))) ?_, ?_, fun a ha => ?_⟩ rfl
          · rw [upd_ne (fun z => ntq z.symm), upd_same]
          · have rl := rp.rl
            cases rl with
            | @cons _ _ o os1 _ ri t1 =>
              cases ri with
              | bx bb => cases bb with
                | sh _ =>
                  exact .cons .no (t1.mono g2 fun a _ o e => fin _ _ (s2 _ _ e))
          · refine List.nodup_append.mpr ⟨by simp [ntq], rp.nd, fun a ha b' hb' z => ?_⟩
            obtain ⟨o, eo⟩ := there b' hb'
            simp only [List.mem_cons, List.not_mem_nil, or_false] at ha
            rcases ha with ha | ha
            · rw [← z, ha, hH0 t ht0] at eo; cases eo
            · rw [← z, ha, hH0 q0 hq0] at eo; cases eo
          · simp only [List.mem_append, List.mem_cons, List.not_mem_nil, or_false] at ha
            rcases ha with (rfl | rfl) | ha
            · exact L2.same.free ht0
            · exact L2.same.free hq0
            · obtain ⟨o, eo⟩ := there a ha
              exact n2 a o (s1 _ _ eo) (ne_of_none eo hx) (ne_of_none eo ll0) (rp.off a ha)
end

abbrev s_with_box : Stmt := topS 18
abbrev N_with_box : List Str := ["stand", "box", "number"]
theorem sc_with_box : FnScope ["stand", "box", "number"] ["stand", "box", "number"] (defScope s_with_box) := ⟨rfl, rfl, rfl, by decide +kernel, rfl, by decide +kernel, by decide +kernel⟩
abbrev s_behind : Stmt := topS 19
abbrev N_behind : List Str := ["stand", "deed", "number", "one", "other"]
theorem sc_behind : FnScope ["stand", "deed", "number", "one", "other"] ["stand", "deed", "number"] (defScope s_behind) := ⟨rfl, rfl, rfl, by decide +kernel, rfl, by decide +kernel, by decide +kernel⟩
abbrev s_fits : Stmt := topS 20
abbrev N_fits : List Str := ["steps", "place", "move"]
theorem sc_fits : FnScope ["steps", "place", "move"] ["steps", "place", "move"] (defScope s_fits) := ⟨rfl, rfl, rfl, by decide +kernel, rfl, by decide +kernel, by decide +kernel⟩
abbrev s_first_stand : Stmt := topS 17
abbrev N_first_stand : List Str := ["many"]
theorem sc_first_stand : FnScope ["many"] ["many"] (defScope s_first_stand) := ⟨rfl, rfl, rfl, by decide +kernel, rfl, by decide +kernel, by decide +kernel⟩
abbrev s_ran : Stmt := topS 21
abbrev N_ran : List Str := ["program", "moves", "count", "steps", "end", "place", "stand", "found", "move"]
theorem sc_ran : FnScope ["program", "moves", "count", "steps", "end", "place", "stand", "found", "move"] ["program", "moves"] (defScope s_ran) := ⟨rfl, rfl, rfl, by decide +kernel, rfl, by decide +kernel, by decide +kernel⟩
abbrev s_is_run : Stmt := topS 22
abbrev N_is_run : List Str := ["program", "moves"]
theorem sc_is_run : FnScope ["program", "moves"] ["program", "moves"] (defScope s_is_run) := ⟨rfl, rfl, rfl, by decide +kernel, rfl, by decide +kernel, by decide +kernel⟩
abbrev s_l_refused : Stmt := topS 34
abbrev N_l_refused : List Str := ["_law_program_here", "_law_moves", "_law_caught", "error"]
theorem sc_l_refused : FnScope ["_law_program_here", "_law_moves", "_law_caught", "error"] ["_law_program_here", "_law_moves"] (defScope s_l_refused) := ⟨rfl, rfl, rfl, by decide +kernel, rfl, by decide +kernel, by decide +kernel⟩
abbrev s_l_bent : Stmt := topS 33
abbrev N_l_bent : List Str := ["_law_steps", "_law_place", "_law_cell_here", "_law_some", "_law_others", "_law_k"]
theorem sc_l_bent : FnScope ["_law_steps", "_law_place", "_law_cell_here", "_law_some", "_law_others", "_law_k"] ["_law_steps", "_law_place", "_law_cell_here"] (defScope s_l_bent) := ⟨rfl, rfl, rfl, by decide +kernel, rfl, by decide +kernel, by decide +kernel⟩
abbrev s_l_cell : Stmt := topS 24
abbrev N_l_cell : List Str := ["_law_script", "_law_k", "_law_number"]
theorem sc_l_cell : FnScope ["_law_script", "_law_k", "_law_number"] ["_law_script", "_law_k"] (defScope s_l_cell) := ⟨rfl, rfl, rfl, by decide +kernel, rfl, by decide +kernel, by decide +kernel⟩
abbrev s_l_behind : Stmt := topS 30
abbrev N_l_behind : List Str := ["_law_stand", "_law_deed_here", "_law_number", "_law_k"]
theorem sc_l_behind : FnScope ["_law_stand", "_law_deed_here", "_law_number", "_law_k"] ["_law_stand", "_law_deed_here", "_law_number"] (defScope s_l_behind) := ⟨rfl, rfl, rfl, by decide +kernel, rfl, by decide +kernel, by decide +kernel⟩
abbrev s_l_walked : Stmt := topS 32
abbrev N_l_walked : List Str := ["_law_many", "_law_steps", "_law_moves", "_law_place", "_law_stand", "_law_rows", "_law_step", "_law_number"]
theorem sc_l_walked : FnScope ["_law_many", "_law_steps", "_law_moves", "_law_place", "_law_stand", "_law_rows", "_law_step", "_law_number"] ["_law_many", "_law_steps", "_law_moves"] (defScope s_l_walked) := ⟨rfl, rfl, rfl, by decide +kernel, rfl, by decide +kernel, by decide +kernel⟩
abbrev s_l_run : Stmt := topS 31
abbrev N_l_run : List Str := ["_law_script", "_law_at", "_law_steps", "_law_most", "_law_moves", "_law_place", "_law_k", "_law_cell_here", "_law_some", "_law_step", "_law_number", "_law_j"]
theorem sc_l_run : FnScope ["_law_script", "_law_at", "_law_steps", "_law_most", "_law_moves", "_law_place", "_law_k", "_law_cell_here", "_law_some", "_law_step", "_law_number", "_law_j"] ["_law_script", "_law_at", "_law_steps", "_law_most"] (defScope s_l_run) := ⟨rfl, rfl, rfl, by decide +kernel, rfl, by decide +kernel, by decide +kernel⟩
abbrev s_l_lay : Stmt := topS 29
abbrev N_l_lay : List Str := ["_law_rows", "_law_place", "_law_bodies", "_law_made", "_law_row", "_law_led", "_law_begin", "_law_some", "_law_one"]
theorem sc_l_lay : FnScope ["_law_rows", "_law_place", "_law_bodies", "_law_made", "_law_row", "_law_led", "_law_begin", "_law_some", "_law_one"] ["_law_rows", "_law_place", "_law_bodies", "_law_made"] (defScope s_l_lay) := ⟨rfl, rfl, rfl, by decide +kernel, rfl, by decide +kernel, by decide +kernel⟩
abbrev s_l_line : Stmt := topS 25
abbrev N_l_line : List Str := ["_law_cell_here", "_law_many", "_law_line_here", "_law_k", "_law_number", "_law_one"]
theorem sc_l_line : FnScope ["_law_cell_here", "_law_many", "_law_line_here", "_law_k", "_law_number", "_law_one"] ["_law_cell_here", "_law_many"] (defScope s_l_line) := ⟨rfl, rfl, rfl, by decide +kernel, rfl, by decide +kernel, by decide +kernel⟩
abbrev s_l_deed : Stmt := topS 26
abbrev N_l_deed : List Str := ["_law_cell_here", "_law_many", "_law_later_on", "_law_kind", "_law_box", "_law_pair"]
theorem sc_l_deed : FnScope ["_law_cell_here", "_law_many", "_law_later_on", "_law_kind", "_law_box", "_law_pair"] ["_law_cell_here", "_law_many", "_law_later_on"] (defScope s_l_deed) := ⟨rfl, rfl, rfl, by decide +kernel, rfl, by decide +kernel, by decide +kernel⟩
abbrev s_l_body : Stmt := topS 27
abbrev N_l_body : List Str := ["_law_cells", "_law_many", "_law_later_on", "_law_deep", "_law_most", "_law_body_here", "_law_stack", "_law_used", "_law_cell_here", "_law_row", "_law_cost", "_law_pair", "_law_inner"]
theorem sc_l_body : FnScope ["_law_cells", "_law_many", "_law_later_on", "_law_deep", "_law_most", "_law_body_here", "_law_stack", "_law_used", "_law_cell_here", "_law_row", "_law_cost", "_law_pair", "_law_inner"] ["_law_cells", "_law_many", "_law_later_on", "_law_deep", "_law_most"] (defScope s_l_body) := ⟨rfl, rfl, rfl, by decide +kernel, rfl, by decide +kernel, by decide +kernel⟩
abbrev s_l_program : Stmt := topS 28
abbrev N_l_program : List Str := ["_law_script", "_law_at", "_law_many", "_law_most", "_law_bodies", "_law_later_on", "_law_count", "_law_k", "_law_size", "_law_deep", "_law_begin", "_law_cells", "_law_body_here", "_law_used", "_law_j"]
theorem sc_l_program : FnScope ["_law_script", "_law_at", "_law_many", "_law_most", "_law_bodies", "_law_later_on", "_law_count", "_law_k", "_law_size", "_law_deep", "_law_begin", "_law_cells", "_law_body_here", "_law_used", "_law_j"] ["_law_script", "_law_at", "_law_many", "_law_most"] (defScope s_l_program) := ⟨rfl, rfl, rfl, by decide +kernel, rfl, by decide +kernel, by decide +kernel⟩
abbrev s_law : Stmt := topS 35
abbrev N_law : List Str := ["_law_script", "_law_many", "_law_program_here", "_law_made", "_law_steps", "_law_moves", "_law_due", "_law_k", "_law_cell_here", "_law_at", "_law_bent_here", "_law_handed"]
theorem sc_law : FnScope ["_law_script", "_law_many", "_law_program_here", "_law_made", "_law_steps", "_law_moves", "_law_due", "_law_k", "_law_cell_here", "_law_at", "_law_bent_here", "_law_handed"] ["_law_script"] (defScope s_law) := ⟨rfl, rfl, rfl, by decide +kernel, rfl, by decide +kernel, by decide +kernel⟩
theorem lvl_le {c b n : Nat} (h : c ≤ b) : c ≤ b + (2 * n + 1) := by omega
section
variable {P : Program} {w : World} {K : PySem.W.Frag} {mg : Str → Option Value} {base : Heap}
theorem ok_with_box {f : Addr} {fd : FuncData} (F : Fun K "with_box" "with_box" s_with_box f fd) (Z : Zs K mg)  : FnOk P w K mg base CX0 1 f fd ["stand", "box", "number"] (spF K mg 3 f_with_box) :=
  have nd := sc_with_box.nd
  fn_ok F sc_with_box (by decide) fun cdv A outer s H E hr =>
    (ss_one (ss_ret (se_add (se_add (se_slice (se_v 0) so_none (so_some (se_add (se_v 1) se_int))) (se_tup (sa_cons (se_v 2) sa_nil))) (se_slice (se_v 0) (so_some (se_add (se_v 1) se_int)) so_none))))
theorem ok_behind {f : Addr} {fd : FuncData} (F : Fun K "behind" "behind" s_behind f fd) (Z : Zs K mg) (C_with_box : FnF P w K mg base "with_box" 3 1 f_with_box) : FnOk P w K mg base CX0 2 f fd ["stand", "deed", "number"] (spF K mg 3 f_behind) :=
  have nd := sc_behind.nd
  fn_ok F sc_behind (by decide) fun cdv A outer s H E hr =>
    (ss_cons (ss_if (st_cmp (op_eqD hr.units) so_eq (se_ix (se_v 1) se_int) se_str (nomark _))
    (ss_one (ss_ret (se_call C_with_box (hr.mono (by decide)) (by rfl) (sa_cons (se_v 0) (sa_cons (se_ix (se_v 1) se_int) (sa_cons (se_sum rfl Z.sum (sa_cons (se_lc (own := [("one", 3), ("other", 4)]) rfl nd (si_zip (by rfl) Z.zip (sa_cons (se_ix (se_v 1) se_int) (sa_cons (se_v 0) sa_nil))) (by exact blkOk_by (N := N_behind) (sc := defScope s_behind) (own := [("one", 3), ("other", 4)]) (by decide +kernel)) (semg_tp (is := [3, 4])) (by decide) (fun _ _ _ _ _ => (pg_tup rfl (pgs_cons (pg_name (i := 3) nd rfl (by first | exact .inl rfl | exact .inr rfl)) (pgs_cons (pg_name (i := 4) nd rfl (by first | exact .inl rfl | exact .inr rfl)) pgs_nil)))) (fun _ _ _ _ _ => sts_nil) (fun _ _ _ _ _ => (se_mul (se_v 3) (se_v 4)))) sa_nil)) sa_nil))) (ar_cons (ar_cons (ar_cons ar_nil))))))
    ss_nil)
    (ss_cons (ss_if (st_cmp (op_eqD hr.units) so_eq (se_ix (se_v 1) se_int) se_str (nomark _))
    (ss_one (ss_ret (se_call C_with_box (hr.mono (by decide)) (by rfl) (sa_cons (se_v 0) (sa_cons (se_ix (se_v 1) se_int) (sa_cons (se_v 2) sa_nil))) (ar_cons (ar_cons (ar_cons ar_nil))))))
    ss_nil)
    (ss_one (ss_ret (se_v 0)))))
theorem ok_fits {f : Addr} {fd : FuncData} (F : Fun K "fits" "fits" s_fits f fd) (Z : Zs K mg)  : FnOk P w K mg base CX0 1 f fd ["steps", "place", "move"] (spF K mg 3 f_fits) :=
  have nd := sc_fits.nd
  fn_ok F sc_fits (by decide) fun cdv A outer s H E hr =>
    (ss_cons (ss_if (st_of (sw_or (st_cmp op_lt so_cmp (se_ix (se_v 2) se_int) se_int (nomark _)) (sw_or (st_cmp op_ge so_cmp (se_ix (se_v 2) se_int) (se_len Z.len (sa_cons (se_v 0) sa_nil)) (nomark _)) (sw_or1 (st_cmp (op_neD hr.units) so_ne (se_ix (se_ix (se_v 0) (se_ix (se_v 2) se_int)) se_int) (se_v 1) (nomark _))))))
    (ss_one (ss_ret se_bl))
    ss_nil)
    (ss_one (ss_ret (se_cmp (op_eqD hr.units) so_eq (se_cmp op_notN so_notN (se_ix (se_v 2) se_int) se_non (nomark _)) (se_cmp (op_eqD hr.units) so_eq (se_ix (se_ix (se_ix (se_v 0) (se_ix (se_v 2) se_int)) se_int) se_int) se_str (nomark _)) (nomark _)))))
theorem ok_first_stand {f : Addr} {fd : FuncData} (F : Fun K "first_stand" "first_stand" s_first_stand f fd) (Z : Zs K mg)  : FnOk P w K mg base CX0 1 f fd ["many"] (spF K mg 1 f_first_stand) :=
  have nd := sc_first_stand.nd
  fn_ok F sc_first_stand (by decide) fun cdv A outer s H E hr =>
    (ss_one (ss_ret (se_add (se_tup (sa_cons se_int sa_nil)) (se_mulT (se_tup (sa_cons se_int sa_nil)) (se_v 0)))))
theorem ok_ran {f : Addr} {fd : FuncData} (F : Fun K "ran" "ran" s_ran f fd) (Z : Zs K mg) (C_behind : FnF P w K mg base "behind" 3 2 f_behind) (C_fits : FnF P w K mg base "fits" 3 1 f_fits) (C_first_stand : FnF P w K mg base "first_stand" 1 1 f_first_stand) (C_laid : FnF P w K mg base "laid" 1 74 f_laid) : FnOk P w K mg base (L2.CX P w) 75 f fd ["program", "moves"] (spX K mg 2 f_ran) := by
  obtain ⟨C_NoRun, B_NoRun, as_NoRun, X_NoRun⟩ := Z.x_NoRun
  have nd := sc_ran.nd
  exact fn_okX F sc_ran (by decide) fun cdv A outer s H E hr tk hp =>
    (sxs_cons (sx_lift (ss_unp (is := [2, 3, 4]) (se_frzO (se_call C_laid (hr.mono (by decide)) (by rfl) (sa_cons (se_v 0) sa_nil) (ar_cons ar_nil))) (pg_tup rfl (pgs_cons (pg_name (i := 2) nd rfl (.inl rfl)) (pgs_cons (pg_name (i := 3) nd rfl (.inl rfl)) (pgs_cons (pg_name (i := 4) nd rfl (.inl rfl)) pgs_nil)))) (semg_tp (is := [2, 3, 4]))))
    (sxs_cons (sx_lift (ss_set (i := 5) nd rfl (.inl rfl) se_int))
    (sxs_cons (sx_lift (ss_set (i := 6) nd rfl (.inl rfl) (se_call C_first_stand (hr.mono (by decide)) (by rfl) (sa_cons (se_ix (se_v 0) se_int) sa_nil) (ar_cons ar_nil))))
    (sxs_cons (sx_lift (ss_set (i := 7) nd rfl (.inl rfl) (se_lst (sa_cons (se_tup (sa_cons (se_v 5) (sa_cons (se_v 6) sa_nil))) sa_nil))))
    (sxs_cons (sx_for hp rfl (si_val (se_v 1)) (pg_name (i := 8) nd rfl (.inl rfl)) semg_nm
    (sxs_cons (sx_if (st_not (st_val (se_call C_fits (hr.mono (by decide)) (by rfl) (sa_cons (se_v 3) (sa_cons (se_v 5) (sa_cons (se_v 8) sa_nil))) (ar_cons (ar_cons (ar_cons ar_nil))))))
    (sxs_one (sx_raise rfl tk X_NoRun.E rfl))
    sxs_nil)
    (sxs_cons (sx_lift (ss_set (i := 6) nd rfl (.inl rfl) (se_call C_behind (hr.mono (by decide)) (by rfl) (sa_cons (se_v 6) (sa_cons (se_ix (se_ix (se_v 3) (se_ix (se_v 8) se_int)) se_int) (sa_cons (se_ix (se_v 8) se_int) sa_nil))) (ar_cons (ar_cons (ar_cons ar_nil))))))
    (sxs_cons (sx_lift (ss_set (i := 5) nd rfl (.inl rfl) (se_ix (se_ix (se_v 3) (se_ix (se_v 8) se_int)) se_int)))
    (sxs_one (sx_lift (ss_expr (se_mut (i := 7) PySem.F.slot_list_append PySem.F.type_list_append mt_append sm_append rfl (by first | exact Or.inl rfl | exact Or.inr (Or.inl rfl) | exact Or.inr (Or.inr rfl)) (sa_cons (se_tup (sa_cons (se_v 5) (sa_cons (se_v 6) sa_nil))) sa_nil)))))))))
    (sxs_one (sx_lift (ss_ret (se_v 7)))))))))
theorem ok_is_run {f : Addr} {fd : FuncData} (F : Fun K "is_run" "is_run" s_is_run f fd) (Z : Zs K mg) (C_ran : FnX P w K mg base "ran" 2 75 f_ran) : FnOk P w K mg base CX0 76 f fd ["program", "moves"] (spF K mg 2 f_is_run) := by
  obtain ⟨C_NoRun, B_NoRun, as_NoRun, X_NoRun⟩ := Z.x_NoRun
  have nd := sc_is_run.nd
  exact fn_ok F sc_is_run (by decide) fun cdv A outer s H E hr =>
    (ss_cons (ss_tryF C_ran (hr.mono (by decide)) rfl (i := 0) (j := 1) rfl rfl (by first | exact Or.inl rfl | exact Or.inr (Or.inl rfl) | exact Or.inr (Or.inr rfl)) (by first | exact Or.inl rfl | exact Or.inr (Or.inl rfl) | exact Or.inr (Or.inr rfl)) rfl rfl ⟨rfl, rfl, .inl X_NoRun.E.gC⟩ (hcs_of X_NoRun.E X_NoRun.tCC))
    (ss_one (ss_ret se_bl)))
theorem ok_l_refused {f : Addr} {fd : FuncData} (F : Fun K "_law_refused" "_law_refused" s_l_refused f fd) (Z : Zs K mg) (C_ran : FnX P w K mg base "ran" 2 75 f_ran) : FnOk P w K mg base CX0 76 f fd ["_law_program_here", "_law_moves"] (spF K mg 2 f_l_refused) := by
  obtain ⟨C_NoRun, B_NoRun, as_NoRun, X_NoRun⟩ := Z.x_NoRun
  exact fn_refused (xs := [("Needed", _), ("NoBox", _), ("NoName", _), ("NoRow", _), ("NoText", _), ("NotAlike", _), ("NoNumber", _), ("TooGreat", _)]) F sc_l_refused rfl C_ran Z.isinstance Z.ValueError X_NoRun.E.gC X_NoRun.gB (by rw [← X_NoRun.len]; rfl) (xs_of (ys := ["Needed", "NoBox", "NoName", "NoRow", "NoText", "NotAlike", "NoNumber", "TooGreat"]) rfl X_NoRun.og (by decide)) (by rw [sizeLine_eq]; show 8 ≤ _; omega) X_NoRun.hex X_NoRun.tCB X_NoRun.k1 X_NoRun.k2 X_NoRun.k3 (by decide +kernel) (by decide +kernel) (by decide)
theorem ok_l_bent {f : Addr} {fd : FuncData} (F : Fun K "_law_bent" "_law_bent" s_l_bent f fd) (Z : Zs K mg)  : FnOk P w K mg base CX0 1 f fd ["_law_steps", "_law_place", "_law_cell_here"] (spF K mg 3 f_l_bent) :=
  have nd := sc_l_bent.nd
  fn_ok F sc_l_bent (by decide) fun cdv A outer s H E hr =>
    (ss_cons (ss_set (i := 3) nd rfl (.inl rfl) (se_lst (sa_cons (se_tup (sa_cons (se_sub (se_sub se_int se_int) (se_mod (se_div (se_v 2) se_int) se_int)) (sa_cons se_non sa_nil))) (sa_cons (se_tup (sa_cons (se_add (se_len Z.len (sa_cons (se_v 0) sa_nil)) (se_mod (se_div (se_v 2) se_int) se_int)) (sa_cons se_non sa_nil))) (sa_cons (se_tup (sa_cons (se_add (se_len Z.len (sa_cons (se_v 0) sa_nil)) (se_mod (se_div (se_v 2) se_int) (se_pow se_int se_int))) (sa_cons se_int sa_nil))) sa_nil)))))
    (ss_cons (ss_setLc (own := [("_law_k", 5)]) (i := 4) rfl nd rfl rfl (sw_true rfl rfl rfl (by decide +kernel)) (si_rng1 (by rfl) Z.range (sa_cons (se_len Z.len (sa_cons (se_v 0) sa_nil)) sa_nil)) (by exact blkOk_by (N := N_l_bent) (sc := defScope s_l_bent) (own := [("_law_k", 5)]) (by decide +kernel)) semg_nm (by decide) (fun _ _ _ _ _ => (pg_name (i := 5) nd rfl (by first | exact .inl rfl | exact .inr rfl))) (fun _ _ _ _ _ => (sts_one (st_cmp (op_neD hr.units) so_ne (se_ix (se_ix (se_v 0) (se_v 5)) se_int) (se_v 1) (nomark _)))) (fun _ _ _ _ _ => (se_v 5)))
    (ss_cons (ss_for PassesOwn.never rfl (si_val (se_slice (se_slice (se_v 4) (so_some (se_mod (se_div (se_v 2) se_int) se_int)) so_none) so_none (so_some se_int))) (pg_name (i := 5) nd rfl (.inl rfl)) semg_nm
    (ss_one (ss_expr (se_mut (i := 3) PySem.F.slot_list_append PySem.F.type_list_append mt_append sm_append rfl (by first | exact Or.inl rfl | exact Or.inr (Or.inl rfl) | exact Or.inr (Or.inr rfl)) (sa_cons (se_tup (sa_cons (se_v 5) (sa_cons (se_ix (se_lst (sa_cons se_non (sa_cons se_int sa_nil))) (se_tint Z.int (sa_cons (se_cmp (op_eqD hr.units) so_eq (se_ix (se_ix (se_ix (se_v 0) (se_v 5)) se_int) se_int) se_str (nomark _)) sa_nil))) sa_nil))) sa_nil)))))
    (ss_cons (ss_for PassesOwn.never rfl (si_rng1 (by rfl) Z.range (sa_cons (se_len Z.len (sa_cons (se_v 0) sa_nil)) sa_nil)) (pg_name (i := 5) nd rfl (.inl rfl)) semg_nm
    (ss_one (ss_if (st_cmp (op_eqD hr.units) so_eq (se_ix (se_ix (se_v 0) (se_v 5)) se_int) (se_v 1) (nomark _))
    (ss_one (ss_set (i := 3) nd rfl (.inl rfl) (se_add (se_v 3) (se_mul (se_lst (sa_cons (se_tup (sa_cons (se_v 5) (sa_cons (se_ix (se_lst (sa_cons se_int (sa_cons se_non sa_nil))) (se_tint Z.int (sa_cons (se_cmp (op_eqD hr.units) so_eq (se_ix (se_ix (se_ix (se_v 0) (se_v 5)) se_int) se_int) se_str (nomark _)) sa_nil))) sa_nil))) sa_nil)) se_int))))
    ss_nil)))
    (ss_one (ss_ret (se_ix (se_v 3) (se_mod (se_div (se_v 2) se_int) (se_len Z.len (sa_cons (se_v 3) sa_nil))))))))))
theorem ok_l_cell {f : Addr} {fd : FuncData} (F : Fun K "_law_cell" "_law_cell" s_l_cell f fd) (Z : Zs K mg)  : FnOk P w K mg base CX0 1 f fd ["_law_script", "_law_k"] (spF K mg 2 f_l_cell) :=
  have nd := sc_l_cell.nd
  fn_ok F sc_l_cell (by decide) fun cdv A outer s H E hr =>
    (ss_cons (ss_if (st_cmp op_lt so_cmp (se_v 1) (se_scLen (i := 0) (by rfl) Z.len rfl (by first | exact Or.inl rfl | exact Or.inr (Or.inl rfl) | exact Or.inr (Or.inr rfl))) (nomark _))
    (ss_one (ss_ret (se_scIx (i := 0) rfl (by first | exact Or.inl rfl | exact Or.inr (Or.inl rfl) | exact Or.inr (Or.inr rfl)) (se_v 1))))
    ss_nil)
    (ss_cons (ss_set (i := 2) nd rfl (.inl rfl) (se_add (se_mul (se_v 1) se_int) se_int))
    (ss_cons (ss_if (st_cmp op_gt so_cmp (se_scLen (i := 0) (by rfl) Z.len rfl (by first | exact Or.inl rfl | exact Or.inr (Or.inl rfl) | exact Or.inr (Or.inr rfl))) se_int (nomark _))
    (ss_one (ss_set (i := 2) nd rfl (.inl rfl) (se_mod (se_add (se_mul (se_scIx (i := 0) rfl (by first | exact Or.inl rfl | exact Or.inr (Or.inl rfl) | exact Or.inr (Or.inr rfl)) (se_mod (se_mul (se_v 1) se_int) (se_scLen (i := 0) (by rfl) Z.len rfl (by first | exact Or.inl rfl | exact Or.inr (Or.inl rfl) | exact Or.inr (Or.inr rfl))))) se_int) (se_mul (se_v 1) se_int)) se_int)))
    ss_nil)
    (ss_cons (ss_set (i := 2) nd rfl (.inl rfl) (se_mod (se_mul (se_v 2) (se_v 2)) se_int))
    (ss_one (ss_ret (se_mod (se_mul (se_add (se_v 2) se_int) (se_add (se_v 2) se_int)) se_int)))))))
theorem ok_l_behind {f : Addr} {fd : FuncData} (F : Fun K "_law_behind" "_law_behind" s_l_behind f fd) (Z : Zs K mg)  : FnOk P w K mg base CX0 1 f fd ["_law_stand", "_law_deed_here", "_law_number"] (spF K mg 3 f_l_behind) :=
  have nd := sc_l_behind.nd
  fn_ok F sc_l_behind (by decide) fun cdv A outer s H E hr =>
    (ss_cons (ss_if (st_cmp (op_eqD hr.units) so_eq (se_ix (se_v 1) se_int) se_str (nomark _))
    (ss_one (ss_ret (se_v 0)))
    ss_nil)
    (ss_cons (ss_if (st_cmp (op_eqD hr.units) so_eq (se_ix (se_v 1) se_int) se_str (nomark _))
    (ss_one (ss_set (i := 2) nd rfl (.inr rfl) (se_sum rfl Z.sum (sa_cons (se_lc (own := [("_law_k", 3)]) rfl nd (si_rng1 (by rfl) Z.range (sa_cons (se_len Z.len (sa_cons (se_v 0) sa_nil)) sa_nil)) (by exact blkOk_by (N := N_l_behind) (sc := defScope s_l_behind) (own := [("_law_k", 3)]) (by decide +kernel)) semg_nm (by decide) (fun _ _ _ _ _ => (pg_name (i := 3) nd rfl (by first | exact .inl rfl | exact .inr rfl))) (fun _ _ _ _ _ => sts_nil) (fun _ _ _ _ _ => (se_mul (se_ix (se_ix (se_v 1) se_int) (se_v 3)) (se_ix (se_v 0) (se_v 3))))) sa_nil))))
    ss_nil)
    (ss_one (ss_ret (se_ttuple Z.tuple (sa_cons (se_lc (own := [("_law_k", 3)]) rfl nd (si_rng1 (by rfl) Z.range (sa_cons (se_len Z.len (sa_cons (se_v 0) sa_nil)) sa_nil)) (by exact blkOk_by (N := N_l_behind) (sc := defScope s_l_behind) (own := [("_law_k", 3)]) (by decide +kernel)) semg_nm (by decide) (fun _ _ _ _ _ => (pg_name (i := 3) nd rfl (by first | exact .inl rfl | exact .inr rfl))) (fun _ _ _ _ _ => sts_nil) (fun _ _ _ _ _ => (se_if (st_cmp (op_neD hr.units) so_ne (se_v 3) (se_add (se_ix (se_v 1) se_int) se_int) (nomark _)) (se_ix (se_v 0) (se_v 3)) (se_v 2)))) sa_nil))))))
theorem ok_l_walked {f : Addr} {fd : FuncData} (F : Fun K "_law_walked" "_law_walked" s_l_walked f fd) (Z : Zs K mg) (C_l_behind : FnF P w K mg base "_law_behind" 3 1 f_l_behind) : FnOk P w K mg base CX0 2 f fd ["_law_many", "_law_steps", "_law_moves"] (spF K mg 3 f_l_walked) :=
  have nd := sc_l_walked.nd
  fn_ok F sc_l_walked (by decide) fun cdv A outer s H E hr =>
    (ss_cons (ss_set (i := 3) nd rfl (.inl rfl) se_int)
    (ss_cons (ss_set (i := 4) nd rfl (.inl rfl) (se_add (se_tup (sa_cons se_int sa_nil)) (se_mulT (se_tup (sa_cons se_int sa_nil)) (se_v 0))))
    (ss_cons (ss_set (i := 5) nd rfl (.inl rfl) (se_lst (sa_cons (se_tup (sa_cons (se_v 3) (sa_cons (se_v 4) sa_nil))) sa_nil)))
    (ss_cons (ss_forB (i := 2) PassesOwn.never rfl rfl (by first | exact Or.inl rfl | exact Or.inr (Or.inl rfl) | exact Or.inr (Or.inr rfl)) (pg_tup rfl (pgs_cons (pg_name (i := 6) nd rfl (.inl rfl)) (pgs_cons (pg_name (i := 7) nd rfl (.inl rfl)) pgs_nil))) (semg_tp (is := [6, 7]))
    (ss_cons (ss_set (i := 4) nd rfl (.inl rfl) (se_call C_l_behind (hr.mono (by decide)) (by rfl) (sa_cons (se_v 4) (sa_cons (se_ix (se_ix (se_v 1) (se_v 6)) se_int) (sa_cons (se_v 7) sa_nil))) (ar_cons (ar_cons (ar_cons ar_nil)))))
    (ss_cons (ss_set (i := 3) nd rfl (.inl rfl) (se_ix (se_ix (se_v 1) (se_v 6)) se_int))
    (ss_one (ss_expr (se_mut (i := 5) PySem.F.slot_list_append PySem.F.type_list_append mt_append sm_append rfl (by first | exact Or.inl rfl | exact Or.inr (Or.inl rfl) | exact Or.inr (Or.inr rfl)) (sa_cons (se_tup (sa_cons (se_v 3) (sa_cons (se_v 4) sa_nil))) sa_nil)))))))
    (ss_one (ss_ret (se_v 5)))))))
theorem ok_l_run {f : Addr} {fd : FuncData} (F : Fun K "_law_run" "_law_run" s_l_run f fd) (Z : Zs K mg) (C_l_cell : FnF P w K mg base "_law_cell" 2 1 f_l_cell) : FnOk P w K mg base CX0 2 f fd ["_law_script", "_law_at", "_law_steps", "_law_most"] (spF K mg 4 f_l_run) :=
  have nd := sc_l_run.nd
  fn_ok F sc_l_run (by decide) fun cdv A outer s H E hr =>
    (ss_cons (ss_set (i := 4) nd rfl (.inl rfl) (se_lst sa_nil))
    (ss_cons (ss_set (i := 5) nd rfl (.inr rfl) se_int)
    (ss_cons (ss_for PassesOwn.never rfl (si_rng1 (by rfl) Z.range (sa_cons (se_v 3) sa_nil)) (pg_name (i := 6) nd rfl (.inl rfl)) semg_nm
    (ss_cons (ss_set (i := 7) nd rfl (.inl rfl) (se_div (se_call C_l_cell (hr.mono (by decide)) (by rfl) (sa_cons (se_v 0) (sa_cons (se_add (se_v 1) (se_mod (se_v 6) se_int)) sa_nil)) (ar_cons (ar_cons ar_nil))) (se_add se_int (se_div (se_v 6) se_int))))
    (ss_cons (ss_setLc (own := [("_law_j", 11)]) (i := 8) rfl nd rfl rfl (sw_true rfl rfl rfl (by decide +kernel)) (si_rng1 (by rfl) Z.range (sa_cons (se_len Z.len (sa_cons (se_v 2) sa_nil)) sa_nil)) (by exact blkOk_by (N := N_l_run) (sc := defScope s_l_run) (own := [("_law_j", 11)]) (by decide +kernel)) semg_nm (by decide) (fun _ _ _ _ _ => (pg_name (i := 11) nd rfl (by first | exact .inl rfl | exact .inr rfl))) (fun _ _ _ _ _ => (sts_one (st_cmp (op_eqD hr.units) so_eq (se_ix (se_ix (se_v 2) (se_v 11)) se_int) (se_v 5) (nomark _)))) (fun _ _ _ _ _ => (se_v 11)))
    (ss_one (ss_if (st_cmp (op_neD hr.units) so_ne (se_v 8) (se_lst sa_nil) (nomark _))
    (ss_cons (ss_set (i := 9) nd rfl (.inl rfl) (se_ix (se_v 8) (se_mod (se_add (se_v 7) (se_mul (se_v 6) (se_v 6))) (se_len Z.len (sa_cons (se_v 8) sa_nil)))))
    (ss_cons (ss_set (i := 10) nd rfl (.inl rfl) se_non)
    (ss_cons (ss_if (st_cmp (op_eqD hr.units) so_eq (se_ix (se_ix (se_ix (se_v 2) (se_v 9)) se_int) se_int) se_str (nomark _))
    (ss_one (ss_set (i := 10) nd rfl (.inl rfl) (se_ix (se_lst (sa_cons se_int (sa_cons se_int (sa_cons (se_sub (se_mod (se_div (se_v 7) se_int) se_int) se_int) (sa_cons (se_sub (se_mod (se_div (se_v 7) se_int) se_int) se_int) sa_nil))))) (se_mod (se_div (se_v 7) se_int) se_int))))
    ss_nil)
    (ss_cons (ss_expr (se_mut (i := 4) PySem.F.slot_list_append PySem.F.type_list_append mt_append sm_append rfl (by first | exact Or.inl rfl | exact Or.inr (Or.inl rfl) | exact Or.inr (Or.inr rfl)) (sa_cons (se_tup (sa_cons (se_v 9) (sa_cons (se_v 10) sa_nil))) sa_nil)))
    (ss_one (ss_set (i := 5) nd rfl (.inr rfl) (se_ix (se_ix (se_v 2) (se_v 9)) se_int)))))))
    ss_nil)))))
    (ss_one (ss_ret (se_v 4))))))
theorem ok_l_lay {f : Addr} {fd : FuncData} (F : Fun K "_law_lay" "_law_lay" s_l_lay f fd) (Z : Zs K mg)  (hm : mg "_law_lay" = some (.ref f)) (hb : Binds K fd ["_law_rows", "_law_place", "_law_bodies", "_law_made"] []) : ∀ n : Nat, FnOk P w K mg base CX0 (1 + n) f fd ["_law_rows", "_law_place", "_law_bodies", "_law_made"] (spF K mg 4 (f_l_lay n))
  | 0 => fn_bad fun _ => rfl
  | n + 1 =>
    have C_l_lay : FnF P w K mg base "_law_lay" 4 (1 + n) (f_l_lay n) := fnF_mk F hm hb (ok_l_lay F Z  hm hb n)
    have nd := sc_l_lay.nd
    fn_ok F sc_l_lay (by decide) fun cdv A outer s H E hr =>
    (ss_cons (ss_forB (i := 0) PassesOwn.never rfl rfl (by first | exact Or.inl rfl | exact Or.inr (Or.inl rfl) | exact Or.inr (Or.inr rfl)) (pg_name (i := 4) nd rfl (.inl rfl)) semg_nm
    (ss_one (ss_if (st_cmp (op_eqD hr.units) so_eq (se_ix (se_v 4) se_int) se_str (nomark _))
    (ss_one (ss_set (i := 1) nd rfl (.inr rfl) (se_call C_l_lay (hr.mono (by first | exact Nat.le_refl _ | (refine Nat.le_trans ?_ (Nat.le_add_right _ _); decide))) (by rfl) (sa_cons (se_ix (se_v 2) (se_ix (se_v 4) se_int)) (sa_cons (se_v 1) (sa_cons (se_v 2) (sa_cons (se_v 3) sa_nil)))) (ar_cons (ar_cons (ar_cons (ar_cons ar_nil)))))))
    (ss_one (ss_if (st_cmp (op_eqD hr.units) so_eq (se_ix (se_v 4) se_int) se_str (nomark _))
    (ss_cons (ss_setLc (own := [("_law_some", 7)]) (i := 5) rfl nd rfl rfl (sw_true rfl rfl rfl (by decide +kernel)) (si_val (se_slice (se_v 4) (so_some se_int) so_none)) (by exact blkOk_by (N := N_l_lay) (sc := defScope s_l_lay) (own := [("_law_some", 7)]) (by decide +kernel)) semg_nm (by decide) (fun _ _ _ _ _ => (pg_name (i := 7) nd rfl (by first | exact .inl rfl | exact .inr rfl))) (fun _ _ _ _ _ => sts_nil) (fun _ _ _ _ _ => (se_call C_l_lay (hr.mono (by first | exact Nat.le_refl _ | (refine Nat.le_trans ?_ (Nat.le_add_right _ _); decide))) (by rfl) (sa_cons (se_v 7) (sa_cons (se_v 1) (sa_cons (se_v 2) (sa_cons (se_v 3) sa_nil)))) (ar_cons (ar_cons (ar_cons (ar_cons ar_nil)))))))
    (ss_cons (ss_set (i := 1) nd rfl (.inr rfl) (se_ix (se_v 3) se_int))
    (ss_cons (ss_store (i := 3) rfl (by first | exact Or.inl rfl | exact Or.inr (Or.inl rfl) | exact Or.inr (Or.inr rfl)) (se_add (se_ix (se_v 3) se_int) se_int) se_int)
    (ss_one (ss_expr (se_mut (i := 3) PySem.F.slot_list_extend PySem.F.type_list_extend mt_extend sm_extend rfl (by first | exact Or.inl rfl | exact Or.inr (Or.inl rfl) | exact Or.inr (Or.inr rfl)) (sa_cons (se_lcB (own := [("_law_one", 8)]) rfl nd (j := 5) rfl (by first | exact Or.inl rfl | exact Or.inr (Or.inl rfl) | exact Or.inr (Or.inr rfl)) (by exact blkOk_by (N := N_l_lay) (sc := defScope s_l_lay) (own := [("_law_one", 8)]) (by decide +kernel)) semg_nm (by decide) (fun _ _ _ _ _ => (pg_name (i := 8) nd rfl (by first | exact .inl rfl | exact .inr rfl))) (fun _ _ _ _ _ => sts_nil) (fun _ _ _ _ _ => (se_tup (sa_cons (se_v 8) (sa_cons (se_v 1) (sa_cons (se_tup (sa_cons se_str sa_nil)) sa_nil)))))) sa_nil)))))))
    (ss_cons (ss_set (i := 6) nd rfl (.inl rfl) (se_v 1))
    (ss_cons (ss_set (i := 1) nd rfl (.inr rfl) (se_ix (se_v 3) se_int))
    (ss_cons (ss_store (i := 3) rfl (by first | exact Or.inl rfl | exact Or.inr (Or.inl rfl) | exact Or.inr (Or.inr rfl)) (se_add (se_ix (se_v 3) se_int) se_int) se_int)
    (ss_one (ss_if (st_cmp (op_eqD hr.units) so_eq (se_ix (se_v 4) se_int) se_str (nomark _))
    (ss_cons (ss_expr (se_mut (i := 3) PySem.F.slot_list_append PySem.F.type_list_append mt_append sm_append rfl (by first | exact Or.inl rfl | exact Or.inr (Or.inl rfl) | exact Or.inr (Or.inr rfl)) (sa_cons (se_tup (sa_cons (se_v 6) (sa_cons (se_v 1) (sa_cons (se_tup (sa_cons se_str sa_nil)) sa_nil)))) sa_nil)))
    (ss_one (ss_expr (se_mut (i := 3) PySem.F.slot_list_append PySem.F.type_list_append mt_append sm_append rfl (by first | exact Or.inl rfl | exact Or.inr (Or.inl rfl) | exact Or.inr (Or.inr rfl)) (sa_cons (se_tup (sa_cons (se_call C_l_lay (hr.mono (by first | exact Nat.le_refl _ | (refine Nat.le_trans ?_ (Nat.le_add_right _ _); decide))) (by rfl) (sa_cons (se_ix (se_v 4) se_int) (sa_cons (se_v 1) (sa_cons (se_v 2) (sa_cons (se_v 3) sa_nil)))) (ar_cons (ar_cons (ar_cons (ar_cons ar_nil))))) (sa_cons (se_v 1) (sa_cons (se_tup (sa_cons se_str sa_nil)) sa_nil)))) sa_nil)))))
    (ss_one (ss_if (st_cmp (op_neD hr.units) so_ne (se_ix (se_v 4) se_int) se_str (nomark _))
    (ss_one (ss_expr (se_mut (i := 3) PySem.F.slot_list_append PySem.F.type_list_append mt_append sm_append rfl (by first | exact Or.inl rfl | exact Or.inr (Or.inl rfl) | exact Or.inr (Or.inr rfl)) (sa_cons (se_tup (sa_cons (se_v 6) (sa_cons (se_v 1) (sa_cons (se_v 4) sa_nil)))) sa_nil))))
    ss_nil))))))))))))
    (ss_one (ss_ret (se_v 1))))
theorem ok_l_line {f : Addr} {fd : FuncData} (F : Fun K "_law_line" "_law_line" s_l_line f fd) (Z : Zs K mg)  : FnOk P w K mg base CX0 1 f fd ["_law_cell_here", "_law_many"] (spF K mg 2 f_l_line) :=
  have nd := sc_l_line.nd
  fn_ok F sc_l_line (by decide) fun cdv A outer s H E hr =>
    (ss_cons (ss_set (i := 2) nd rfl (.inl rfl) (se_lst sa_nil))
    (ss_cons (ss_for PassesOwn.never rfl (si_rng1 (by rfl) Z.range (sa_cons (se_add (se_v 1) se_int) sa_nil)) (pg_name (i := 3) nd rfl (.inl rfl)) semg_nm
    (ss_cons (ss_set (i := 4) nd rfl (.inl rfl) (se_mod (se_add (se_mul (se_div (se_v 0) (se_add (se_mul (se_v 3) (se_v 3)) se_int)) se_int) (se_mul (se_v 3) se_int)) se_int))
    (ss_cons (ss_set (i := 5) nd rfl (.inl rfl) (se_ix (se_lst (sa_cons se_int (sa_cons se_int (sa_cons se_int (sa_cons (se_neg se_int) (sa_cons se_int (sa_cons se_int (sa_cons se_int (sa_cons se_int (sa_cons (se_neg se_int) sa_nil)))))))))) (se_mod (se_v 4) se_int)))
    (ss_cons (ss_if (st_cmp (op_eqD hr.units) so_eq (se_mod (se_div (se_v 4) se_int) se_int) se_int (nomark _))
    (ss_cons (ss_set (i := 5) nd rfl (.inl rfl) (se_sub (se_mod (se_div (se_v 4) se_int) se_int) se_int))
    (ss_one (ss_if (st_cmp op_gt so_cmp (se_v 3) se_int (nomark _))
    (ss_one (ss_set (i := 5) nd rfl (.inl rfl) (se_sub (se_mod (se_v 5) se_int) se_int)))
    ss_nil)))
    ss_nil)
    (ss_one (ss_expr (se_mut (i := 2) PySem.F.slot_list_append PySem.F.type_list_append mt_append sm_append rfl (by first | exact Or.inl rfl | exact Or.inr (Or.inl rfl) | exact Or.inr (Or.inr rfl)) (sa_cons (se_v 5) sa_nil))))))))
    (ss_one (ss_ret (se_ttuple Z.tuple (sa_cons (se_v 2) sa_nil))))))
theorem ok_l_deed {f : Addr} {fd : FuncData} (F : Fun K "_law_deed" "_law_deed" s_l_deed f fd) (Z : Zs K mg) (C_l_line : FnF P w K mg base "_law_line" 2 1 f_l_line) : FnOk P w K mg base CX0 2 f fd ["_law_cell_here", "_law_many", "_law_later_on"] (spF K mg 3 f_l_deed) :=
  have nd := sc_l_deed.nd
  fn_ok F sc_l_deed (by decide) fun cdv A outer s H E hr =>
    (ss_cons (ss_set (i := 3) nd rfl (.inl rfl) (se_mod (se_div (se_v 0) se_int) se_int))
    (ss_cons (ss_if (st_of (sw_and (st_cmp op_gt so_cmp (se_v 3) se_int (nomark _)) (sw_and1 (st_cmp (op_neD hr.units) so_ne (se_v 2) (se_lst sa_nil) (nomark _)))))
    (ss_one (ss_ret (se_ix (se_lcB (own := [("_law_pair", 5)]) rfl nd (j := 2) rfl (by first | exact Or.inl rfl | exact Or.inr (Or.inl rfl) | exact Or.inr (Or.inr rfl)) (by exact blkOk_by (N := N_l_deed) (sc := defScope s_l_deed) (own := [("_law_pair", 5)]) (by decide +kernel)) semg_nm (by decide) (fun _ _ _ _ _ => (pg_name (i := 5) nd rfl (by first | exact .inl rfl | exact .inr rfl))) (fun _ _ _ _ _ => sts_nil) (fun _ _ _ _ _ => (se_tup (sa_cons se_str (sa_cons (se_ix (se_v 5) se_int) sa_nil))))) (se_mod (se_div (se_v 0) se_int) (se_len Z.len (sa_cons (se_v 2) sa_nil))))))
    ss_nil)
    (ss_cons (ss_if (st_cmp (op_eqD hr.units) so_eq (se_v 3) se_int (nomark _))
    (ss_one (ss_ret se_ei))
    ss_nil)
    (ss_cons (ss_if (st_cmp (op_eqD hr.units) so_eq (se_v 3) se_int (nomark _))
    (ss_one (ss_ret se_lo))
    ss_nil)
    (ss_cons (ss_if (st_of (sw_and (st_cmp (op_eqD hr.units) so_eq (se_v 3) se_int (nomark _)) (sw_and1 (st_cmp (op_eqD hr.units) so_eq (se_mod (se_div (se_v 0) se_int) se_int) se_int (nomark _)))))
    (ss_one (ss_ret (se_tup (sa_cons se_str sa_nil))))
    ss_nil)
    (ss_cons (ss_if (st_of (sw_or (st_cmp (op_eqD hr.units) so_eq (se_v 3) se_int (nomark _)) (sw_or1 (st_cmp (op_eqD hr.units) so_eq (se_v 1) se_int (nomark _)))))
    (ss_one (ss_ret (se_tup (sa_cons se_str sa_nil))))
    ss_nil)
    (ss_cons (ss_set (i := 4) nd rfl (.inl rfl) (se_mod (se_div (se_v 0) se_int) (se_v 1)))
    (ss_cons (ss_if (st_of (sw_and (st_cmp op_gt so_cmp (se_v 3) se_int (nomark _)) (sw_and1 (st_cmp op_lt so_cmp (se_v 3) se_int (nomark _)))))
    (ss_one (ss_ret (se_tup (sa_cons se_str (sa_cons (se_v 4) sa_nil)))))
    ss_nil)
    (ss_one (ss_ret (se_tup (sa_cons se_str (sa_cons (se_v 4) (sa_cons (se_call C_l_line (hr.mono (by decide)) (by rfl) (sa_cons (se_div (se_v 0) se_int) (sa_cons (se_v 1) sa_nil)) (ar_cons (ar_cons ar_nil))) sa_nil))))))))))))))
theorem ok_l_body {f : Addr} {fd : FuncData} (F : Fun K "_law_body" "_law_body" s_l_body f fd) (Z : Zs K mg) (C_l_deed : FnF P w K mg base "_law_deed" 3 2 f_l_deed) : FnOk P w K mg base CX0 3 f fd ["_law_cells", "_law_many", "_law_later_on", "_law_deep", "_law_most"] (spF K mg 5 f_l_body) :=
  have nd := sc_l_body.nd
  fn_ok F sc_l_body (by decide) fun cdv A outer s H E hr =>
    (sss_new (ps_set (i := 5) nd rfl (.inl rfl) (pe_lst pa_nil)) (ps_set (i := 6) nd rfl (.inl rfl) (pe_lst (pa_cons (pe_lst (pa_cons (pv 5) pa_nil)) pa_nil)))
    (szs_cons (sb_lift (ss_set (i := 7) nd rfl (.inl rfl) se_int))
    (szs_cons (sb_for PassesOwn.never rfl (si_val (se_v 0)) (pg_name (i := 8) nd rfl (.inl rfl)) semg_nm (sbs_one (sb_deep (st_cmp (op_eqD hr.units) so_eq (se_mod (se_v 8) se_int) se_int (nomark _)) (pt_cmpR op_gt (pe_callB oc_len (by rfl) Z.len bt_len (pa_cons (pv 6) pa_nil) (by decide) (by decide)) pe_int (nomark _)) ⟨⟨_, pss_cons (ps_expr (pe_bm PySem.F.plainAttrs_list PySem.F.slot_list_pop PySem.F.type_list_pop mt_popAt (pe_ix ix_seq (pv 6) (pe_un un_neg pe_int) (fun _ _ => rfl)) (pa_cons pe_int pa_nil))) (pss_one (ps_if (pt_cmpR (op_eqD hr.units) (pe_ix ix_seq (pv 6) (pe_un un_neg pe_int) (fun _ _ => rfl)) (pe_lst pa_nil) (nomark _)) (pss_one (ps_expr (pe_bm0 PySem.F.plainAttrs_list PySem.F.slot_list_pop PySem.F.type_list_pop mt_pop (pv 6)))) pss_nil)), fun _ _ => semb_pop⟩⟩
    (sbs_cons (sb_lift (ss_set (i := 9) nd rfl (.inr rfl) (se_call C_l_deed (hr.mono (by decide)) (by rfl) (sa_cons (se_v 8) (sa_cons (se_v 1) (sa_cons (se_v 2) sa_nil))) (ar_cons (ar_cons (ar_cons ar_nil))))))
    (sbs_cons (sb_lift (ss_set (i := 10) nd rfl (.inl rfl) (se_sum rfl Z.sum (sa_cons (se_lcB (own := [("_law_pair", 11)]) rfl nd (j := 2) rfl (by first | exact Or.inl rfl | exact Or.inr (Or.inl rfl) | exact Or.inr (Or.inr rfl)) (by exact blkOk_by (N := N_l_body) (sc := defScope s_l_body) (own := [("_law_pair", 11)]) (by decide +kernel)) semg_nm (by decide) (fun _ _ _ _ _ => (pg_name (i := 11) nd rfl (by first | exact .inl rfl | exact .inr rfl))) (fun _ _ _ _ _ => (sts_one (st_of (sw_and (st_cmp (op_eqD hr.units) so_eq (se_row0 (r := 9) rfl (by first | exact Or.inl rfl | exact Or.inr (Or.inl rfl) | exact Or.inr (Or.inr rfl))) se_str (nomark _)) (sw_and1 (st_cmp (op_eqD hr.units) so_eq (se_ix (se_v 11) se_int) (se_ix (se_v 9) se_int) (nomark _))))))) (fun _ _ _ _ _ => (se_ix (se_v 11) se_int))) sa_nil))))
    (sbs_cons (sb_lift (ss_set (i := 10) nd rfl (.inl rfl) (se_add (se_v 10) (se_tint Z.int (sa_cons (se_cmp (op_neD hr.units) so_ne (se_row0 (r := 9) rfl (by first | exact Or.inl rfl | exact Or.inr (Or.inl rfl) | exact Or.inr (Or.inr rfl))) se_str (nomark _)) sa_nil)))))
    (sbs_one (sb_if (st_cmp op_le so_cmp (se_add (se_v 7) (se_v 10)) (se_v 4) (nomark _)) (sbs_cons (sb_lift (ss_set (i := 7) nd rfl (.inl rfl) (se_add (se_v 7) (se_v 10)))) ⟨⟨_, pss_cons (ps_expr (pe_bm PySem.F.plainAttrs_list PySem.F.slot_list_append PySem.F.type_list_append mt_append (pe_ix ix_seq (pe_ix ix_seq (pv 6) (pe_un un_neg pe_int) (fun _ _ => rfl)) pe_int (fun _ _ => rfl)) (pa_cons (pv 9) pa_nil))) (pss_one (ps_if (pw_and (pt_cmpR op_in_seq (pe_ix ix_seq (pv 9) pe_int (fun _ _ => rfl)) (pe_tup (pa_cons pe_str (pa_cons pe_str pa_nil))) (by rfl)) (pw_and1 (pt_cmpR op_lt (pe_callB oc_len (by rfl) Z.len bt_len (pa_cons (pv 6) pa_nil) (by decide) (by decide)) (pv 3) (nomark _)))).pt (pss_one (ps_expr (pe_bm PySem.F.plainAttrs_list PySem.F.slot_list_append PySem.F.type_list_append mt_append (pv 6) (pa_cons (pe_lc (own := [("_law_inner", 12)]) rfl nd (pi_seq (pe_slice (sl_list.or (sl_tupA.or sl_str)) (pv 9) (po_some pe_int) po_none)) (by exact blkOk_by (N := N_l_body) (sc := defScope s_l_body) (own := [("_law_inner", 12)]) (by decide +kernel)) (fun _ _ _ _ _ => pg_name (i := 12) nd rfl (by first | exact .inl rfl | exact .inr rfl)) (fun _ _ _ _ _ => pts_nil) (fun _ _ _ _ _ => pv 12)) pa_nil)))) pss_nil)), fun _ _ => semb_put (u := 12) (by decide) (by decide)⟩⟩) (sbs_lift ss_nil))))))))) (szs_ret (pe_tup (pa_cons (pv 5) (pa_cons (pv 7) pa_nil)))))))
theorem ok_l_program {f : Addr} {fd : FuncData} (F : Fun K "_law_program" "_law_program" s_l_program f fd) (Z : Zs K mg) (C_l_cell : FnF P w K mg base "_law_cell" 2 1 f_l_cell) (C_l_body : FnF P w K mg base "_law_body" 5 3 f_l_body) : FnOk P w K mg base CX0 4 f fd ["_law_script", "_law_at", "_law_many", "_law_most"] (spF K mg 4 f_l_program) :=
  have nd := sc_l_program.nd
  fn_ok F sc_l_program (by decide) fun cdv A outer s H E hr =>
    (ss_cons (ss_set (i := 4) nd rfl (.inl rfl) (se_lst sa_nil))
    (ss_cons (ss_set (i := 5) nd rfl (.inl rfl) (se_lst sa_nil))
    (ss_cons (ss_set (i := 6) nd rfl (.inl rfl) (se_add se_int (se_mod (se_call C_l_cell (hr.mono (by decide)) (by rfl) (sa_cons (se_v 0) (sa_cons (se_v 1) sa_nil)) (ar_cons (ar_cons ar_nil))) se_int)))
    (ss_cons (ss_for PassesOwn.never rfl (si_rng3 (by rfl) Z.range (sa_cons (se_sub (se_v 6) se_int) (sa_cons (se_neg se_int) (sa_cons (se_neg se_int) sa_nil)))) (pg_name (i := 7) nd rfl (.inl rfl)) semg_nm
    (ss_cons (ss_set (i := 8) nd rfl (.inl rfl) se_int)
    (ss_cons (ss_set (i := 9) nd rfl (.inl rfl) se_int)
    (ss_cons (ss_if (st_cmp (op_eqD hr.units) so_eq (se_v 7) se_int (nomark _))
    (ss_cons (ss_set (i := 8) nd rfl (.inl rfl) (se_add se_int (se_mod (se_div (se_call C_l_cell (hr.mono (by decide)) (by rfl) (sa_cons (se_v 0) (sa_cons (se_v 1) sa_nil)) (ar_cons (ar_cons ar_nil))) se_int) se_int)))
    (ss_one (ss_set (i := 9) nd rfl (.inl rfl) se_int)))
    ss_nil)
    (ss_cons (ss_set (i := 10) nd rfl (.inr rfl) (se_add (se_add (se_add (se_v 1) se_int) (se_mul se_int (se_tint Z.int (sa_cons (se_cmp op_gt so_cmp (se_v 7) se_int (nomark _)) sa_nil)))) (se_mul se_int (se_v 7))))
    (ss_cons (ss_setLc (own := [("_law_j", 14)]) (i := 11) rfl nd rfl rfl (sw_true rfl rfl rfl (by decide +kernel)) (si_rng1 (by rfl) Z.range (sa_cons (se_v 8) sa_nil)) (by exact blkOk_by (N := N_l_program) (sc := defScope s_l_program) (own := [("_law_j", 14)]) (by decide +kernel)) semg_nm (by decide) (fun _ _ _ _ _ => (pg_name (i := 14) nd rfl (by first | exact .inl rfl | exact .inr rfl))) (fun _ _ _ _ _ => sts_nil) (fun _ _ _ _ _ => (se_call C_l_cell (hr.mono (by decide)) (by rfl) (sa_cons (se_v 0) (sa_cons (se_add (se_v 10) (se_v 14)) sa_nil)) (ar_cons (ar_cons ar_nil)))))
    (ss_cons (ss_unp (is := [12, 13]) (se_call C_l_body (hr.mono (by decide)) (by rfl) (sa_cons (se_v 11) (sa_cons (se_v 2) (sa_cons (se_v 5) (sa_cons (se_v 9) (sa_cons (se_v 3) sa_nil))))) (ar_cons (ar_cons (ar_cons (ar_cons (ar_cons ar_nil)))))) (pg_tup rfl (pgs_cons (pg_name (i := 12) nd rfl (.inl rfl)) (pgs_cons (pg_name (i := 13) nd rfl (.inl rfl)) pgs_nil))) (semg_tp (is := [12, 13])))
    (ss_cons (ss_if (st_of (sw_and (st_cmp (op_eqD hr.units) so_eq (se_v 6) se_int (nomark _)) (sw_and1 (st_cmp (op_eqD hr.units) so_eq (se_mod (se_div (se_call C_l_cell (hr.mono (by decide)) (by rfl) (sa_cons (se_v 0) (sa_cons (se_v 1) sa_nil)) (ar_cons (ar_cons ar_nil))) se_int) se_int) se_int (nomark _)))))
    (ss_one (ss_set (i := 12) nd rfl (.inl rfl) (se_lst (sa_cons (se_tup (sa_cons se_str (sa_cons (se_lst sa_nil) (sa_cons (se_lst (sa_cons (se_tup (sa_cons se_str (sa_cons (se_lst (sa_cons (se_tup (sa_cons se_str (sa_cons (se_v 12) (sa_cons (se_lst sa_nil) sa_nil)))) sa_nil)) sa_nil))) sa_nil)) sa_nil)))) sa_nil))))
    ss_nil)
    (ss_cons (ss_set (i := 4) nd rfl (.inl rfl) (se_add (se_lst (sa_cons (se_v 12) sa_nil)) (se_v 4)))
    (ss_one (ss_set (i := 5) nd rfl (.inl rfl) (se_add (se_lst (sa_cons (se_tup (sa_cons (se_v 7) (sa_cons (se_v 13) sa_nil))) sa_nil)) (se_v 5)))))))))))))
    (ss_one (ss_ret (se_tup (sa_cons (se_v 2) (sa_cons (se_v 4) sa_nil)))))))))
theorem ok_law {f : Addr} {fd : FuncData} (F : Fun K "law" "law" s_law f fd) (Z : Zs K mg) (C_ran : FnX P w K mg base "ran" 2 75 f_ran) (C_is_run : FnF P w K mg base "is_run" 2 76 f_is_run) (C_l_refused : FnF P w K mg base "_law_refused" 2 76 f_l_refused) (C_l_bent : FnF P w K mg base "_law_bent" 3 1 f_l_bent) (C_l_cell : FnF P w K mg base "_law_cell" 2 1 f_l_cell) (C_l_walked : FnF P w K mg base "_law_walked" 3 2 f_l_walked) (C_l_run : FnF P w K mg base "_law_run" 4 2 f_l_run) (C_l_lay : FnF P w K mg base "_law_lay" 4 25 (f_l_lay 24)) (C_l_program : FnF P w K mg base "_law_program" 4 4 f_l_program) : FnOk P w K mg base CX0 77 f fd ["_law_script"] (spF K mg 1 f_law) :=
  have nd := sc_law.nd
  fn_ok F sc_law (by decide) fun cdv A outer s H E hr =>
    (ss_cons (ss_set (i := 1) nd rfl (.inl rfl) (se_mod (se_call C_l_cell (hr.mono (by decide)) (by rfl) (sa_cons (se_v 0) (sa_cons se_int sa_nil)) (ar_cons (ar_cons ar_nil))) se_int))
    (ss_cons (ss_set (i := 2) nd rfl (.inl rfl) (se_call C_l_program (hr.mono (by decide)) (by rfl) (sa_cons (se_v 0) (sa_cons se_int (sa_cons (se_v 1) (sa_cons se_int sa_nil)))) (ar_cons (ar_cons (ar_cons (ar_cons ar_nil))))))
    (ss_cons (ss_set (i := 3) nd rfl (.inl rfl) (se_lst (sa_cons se_int sa_nil)))
    (ss_cons (ss_expr (se_call C_l_lay (hr.mono (by decide)) (by rfl) (sa_cons (se_ix (se_ix (se_v 2) se_int) se_int) (sa_cons se_int (sa_cons (se_ix (se_v 2) se_int) (sa_cons (se_v 3) sa_nil)))) (ar_cons (ar_cons (ar_cons (ar_cons ar_nil))))))
    (ss_cons (ss_set (i := 4) nd rfl (.inl rfl) (se_slice (se_v 3) (so_some se_int) so_none))
    (ss_cons (ss_set (i := 5) nd rfl (.inl rfl) (se_call C_l_run (hr.mono (by decide)) (by rfl) (sa_cons (se_v 0) (sa_cons se_int (sa_cons (se_v 4) (sa_cons (se_mod (se_call C_l_cell (hr.mono (by decide)) (by rfl) (sa_cons (se_v 0) (sa_cons se_int sa_nil)) (ar_cons (ar_cons ar_nil))) se_int) sa_nil)))) (ar_cons (ar_cons (ar_cons (ar_cons ar_nil))))))
    (ss_cons (ss_set (i := 6) nd rfl (.inl rfl) (se_call C_l_walked (hr.mono (by decide)) (by rfl) (sa_cons (se_v 1) (sa_cons (se_v 4) (sa_cons (se_v 5) sa_nil))) (ar_cons (ar_cons (ar_cons ar_nil)))))
    (ss_cons (ss_for PassesOwn.never rfl (si_rng1 (by rfl) Z.range (sa_cons se_int sa_nil)) (pg_name (i := 7) nd rfl (.inl rfl)) semg_nm
    (ss_cons (ss_set (i := 8) nd rfl (.inl rfl) (se_call C_l_cell (hr.mono (by decide)) (by rfl) (sa_cons (se_v 0) (sa_cons (se_add se_int (se_v 7)) sa_nil)) (ar_cons (ar_cons ar_nil))))
    (ss_cons (ss_set (i := 9) nd rfl (.inl rfl) (se_mod (se_v 8) (se_add (se_len Z.len (sa_cons (se_v 5) sa_nil)) se_int)))
    (ss_cons (ss_set (i := 10) nd rfl (.inl rfl) (se_add (se_add (se_slice (se_v 5) so_none (so_some (se_v 9))) (se_lst (sa_cons (se_call C_l_bent (hr.mono (by decide)) (by rfl) (sa_cons (se_v 4) (sa_cons (se_ix (se_ix (se_v 6) (se_v 9)) se_int) (sa_cons (se_div (se_v 8) se_int) sa_nil))) (ar_cons (ar_cons (ar_cons ar_nil)))) sa_nil))) (se_slice (se_v 5) (so_some (se_add (se_v 9) (se_mod (se_div (se_v 8) se_int) se_int))) so_none)))
    (ss_cons (ss_set (i := 11) nd rfl (.inl rfl) (se_fz (se_tlist Z.list (sa_cons (se_v 10) sa_nil))))
    (ss_cons (ss_if (st_of (sw_or (st_cmp op_notB so_isB (se_call C_is_run (hr.mono (by decide)) (by rfl) (sa_cons (se_v 2) (sa_cons (se_v 11) sa_nil)) (ar_cons (ar_cons ar_nil))) se_bl (nomark _)) (sw_or (st_not (st_val (se_call C_l_refused (hr.mono (by decide)) (by rfl) (sa_cons (se_v 2) (sa_cons (se_v 11) sa_nil)) (ar_cons (ar_cons ar_nil))))) (sw_or1 (st_cmp (op_neD hr.units) so_ne (se_v 11) (se_v 10) (nomark _))))))
    (ss_one (ss_ret se_bl))
    ss_nil)
    (ss_one (ss_if (st_of (sw_or (st_cmp op_notB so_isB (se_call C_is_run (hr.mono (by decide)) (by rfl) (sa_cons (se_v 2) (sa_cons (se_slice (se_v 5) so_none (so_some (se_v 9))) sa_nil)) (ar_cons (ar_cons ar_nil))) se_bl (nomark _)) (sw_or1 (st_cmp (op_neD hr.units) so_ne (se_callX C_ran (hr.mono (by decide)) (by rfl) (sa_cons (se_v 2) (sa_cons (se_slice (se_v 5) so_none (so_some (se_v 9))) sa_nil)) (ar_cons (ar_cons ar_nil))) (se_slice (se_v 6) so_none (so_some (se_add (se_v 9) se_int))) (nomark _)))))
    (ss_one (ss_ret se_bl))
    ss_nil))))))))
    (ss_one (ss_ret (se_and (se_cmp op_isB so_isB (se_call C_is_run (hr.mono (by decide)) (by rfl) (sa_cons (se_v 2) (sa_cons (se_tlist Z.list (sa_cons (se_v 5) sa_nil)) sa_nil)) (ar_cons (ar_cons ar_nil))) se_bl (nomark _)) (se_one (se_cmp (op_eqD hr.units) so_eq (se_callX C_ran (hr.mono (by decide)) (by rfl) (sa_cons (se_v 2) (sa_cons (se_tlist Z.list (sa_cons (se_v 5) sa_nil)) sa_nil)) (ar_cons (ar_cons ar_nil))) (se_v 6) (nomark _))))))))))))))
end

theorem all_mk {l : PySem.W.OpenLaw} {w : World} {K : PySem.W.Frag} {h : Heap} {mg : Str → Option Value} {fa : Addr} {f0 f1 f2 f3 f4 f5 f6 f7 f8 f9 f10 f11 f12 f13 f14 f15 f16 f17 f18 : Addr} {od0 an0 od1 an1 od2 an2 od3 an3 od4 an4 od5 an5 od6 an6 od7 an7 od8 an8 od9 an9 od10 an10 od11 an11 od12 an12 od13 an13 od14 an14 od15 an15 od16 an16 od17 an17 od18 an18 : Option Addr} {sl0 sl1 sl2 sl3 sl4 sl5 sl6 sl7 sl8 sl9 sl10 sl11 sl12 sl13 sl14 sl15 sl16 sl17 sl18 : Array (Option Value)} {oc0 kV0 dc0 pm0 cd0 ct0 oc1 kV1 dc1 pm1 cd1 ct1 oc2 kV2 dc2 pm2 cd2 ct2 oc3 kV3 dc3 pm3 cd3 ct3 oc4 kV4 dc4 pm4 cd4 ct4 oc5 kV5 dc5 pm5 cd5 ct5 oc6 kV6 dc6 pm6 cd6 ct6 oc7 kV7 dc7 pm7 cd7 ct7 oc8 kV8 dc8 pm8 cd8 ct8 oc9 kV9 dc9 pm9 cd9 ct9 oc10 kV10 dc10 pm10 cd10 ct10 oc11 kV11 dc11 pm11 cd11 ct11 oc12 kV12 dc12 pm12 cd12 ct12 oc13 kV13 dc13 pm13 cd13 ct13 oc14 kV14 dc14 pm14 cd14 ct14 oc15 kV15 dc15 pm15 cd15 ct15 oc16 kV16 dc16 pm16 cd16 ct16 oc17 kV17 dc17 pm17 cd17 ct17 oc18 kV18 dc18 pm18 cd18 ct18 : Value} {yC yP yN : Addr} {yPd yNd : Option Addr} {yPn yNn : Nat} {yPs yNs : Array (Option Value)} {yt0 yt1 yt2 yt3 : Tok} {yf0 yf1 yf2 yf3 yf4 yf5 yf6 : Addr} {yod0 yan0 yod1 yan1 yod2 yan2 yod3 yan3 yod4 yan4 yod5 yan5 yod6 yan6 : Option Addr} {ysl0 ysl1 ysl2 ysl3 ysl4 ysl5 ysl6 : Array (Option Value)} {yoc0 ykV0 ydc0 ypm0 ycd0 yct0 yoc1 ykV1 ydc1 ypm1 ycd1 yct1 yoc2 ykV2 ydc2 ypm2 ycd2 yct2 yoc3 ykV3 ydc3 ypm3 ycd3 yct3 yoc4 ykV4 ydc4 ypm4 ycd4 yct4 yoc5 ykV5 ydc5 ypm5 ycd5 yct5 yoc6 ykV6 ydc6 ypm6 ycd6 yct6 : Value} {xC0 xB0 xO0_0 xO0_1 xO0_2 xO0_3 xO0_4 xO0_5 xO0_6 xO0_7 : Addr} (X : K.In h) (G : h.Ns mainGlobals mg) (hfa : mg "law" = some (.ref fa))
    (a0 : PySem.W.nsIn K mainGlobals "with_box" = some (some (.ref f0))) (l0 : K.lookup f0 = some ⟨oc0, od0, .func (PySem.W.fnOf "with_box" "with_box" (defArgs s_with_box) (defBody s_with_box) (defScope s_with_box) .none kV0 dc0 pm0 an0 cd0 ct0), sl0⟩) (c0 : PySem.W.codeIn K cd0 "with_box" = true) (k0 : PySem.W.keepIn K (.ref f0) = true)
    (a1 : PySem.W.nsIn K mainGlobals "behind" = some (some (.ref f1))) (l1 : K.lookup f1 = some ⟨oc1, od1, .func (PySem.W.fnOf "behind" "behind" (defArgs s_behind) (defBody s_behind) (defScope s_behind) .none kV1 dc1 pm1 an1 cd1 ct1), sl1⟩) (c1 : PySem.W.codeIn K cd1 "behind" = true) (k1 : PySem.W.keepIn K (.ref f1) = true)
    (a2 : PySem.W.nsIn K mainGlobals "fits" = some (some (.ref f2))) (l2 : K.lookup f2 = some ⟨oc2, od2, .func (PySem.W.fnOf "fits" "fits" (defArgs s_fits) (defBody s_fits) (defScope s_fits) .none kV2 dc2 pm2 an2 cd2 ct2), sl2⟩) (c2 : PySem.W.codeIn K cd2 "fits" = true) (k2 : PySem.W.keepIn K (.ref f2) = true)
    (a3 : PySem.W.nsIn K mainGlobals "first_stand" = some (some (.ref f3))) (l3 : K.lookup f3 = some ⟨oc3, od3, .func (PySem.W.fnOf "first_stand" "first_stand" (defArgs s_first_stand) (defBody s_first_stand) (defScope s_first_stand) .none kV3 dc3 pm3 an3 cd3 ct3), sl3⟩) (c3 : PySem.W.codeIn K cd3 "first_stand" = true) (k3 : PySem.W.keepIn K (.ref f3) = true)
    (a4 : PySem.W.nsIn K mainGlobals "laid" = some (some (.ref f4))) (l4 : K.lookup f4 = some ⟨oc4, od4, .func (PySem.W.fnOf "laid" "laid" (defArgs s_laid) (defBody s_laid) (defScope s_laid) .none kV4 dc4 pm4 an4 cd4 ct4), sl4⟩) (c4 : PySem.W.codeIn K cd4 "laid" = true) (k4 : PySem.W.keepIn K (.ref f4) = true)
    (a5 : PySem.W.nsIn K mainGlobals "ran" = some (some (.ref f5))) (l5 : K.lookup f5 = some ⟨oc5, od5, .func (PySem.W.fnOf "ran" "ran" (defArgs s_ran) (defBody s_ran) (defScope s_ran) .none kV5 dc5 pm5 an5 cd5 ct5), sl5⟩) (c5 : PySem.W.codeIn K cd5 "ran" = true) (k5 : PySem.W.keepIn K (.ref f5) = true)
    (a6 : PySem.W.nsIn K mainGlobals "is_run" = some (some (.ref f6))) (l6 : K.lookup f6 = some ⟨oc6, od6, .func (PySem.W.fnOf "is_run" "is_run" (defArgs s_is_run) (defBody s_is_run) (defScope s_is_run) .none kV6 dc6 pm6 an6 cd6 ct6), sl6⟩) (c6 : PySem.W.codeIn K cd6 "is_run" = true) (k6 : PySem.W.keepIn K (.ref f6) = true)
    (a7 : PySem.W.nsIn K mainGlobals "_law_refused" = some (some (.ref f7))) (l7 : K.lookup f7 = some ⟨oc7, od7, .func (PySem.W.fnOf "_law_refused" "_law_refused" (defArgs s_l_refused) (defBody s_l_refused) (defScope s_l_refused) .none kV7 dc7 pm7 an7 cd7 ct7), sl7⟩) (c7 : PySem.W.codeIn K cd7 "_law_refused" = true) (k7 : PySem.W.keepIn K (.ref f7) = true)
    (a8 : PySem.W.nsIn K mainGlobals "_law_bent" = some (some (.ref f8))) (l8 : K.lookup f8 = some ⟨oc8, od8, .func (PySem.W.fnOf "_law_bent" "_law_bent" (defArgs s_l_bent) (defBody s_l_bent) (defScope s_l_bent) .none kV8 dc8 pm8 an8 cd8 ct8), sl8⟩) (c8 : PySem.W.codeIn K cd8 "_law_bent" = true) (k8 : PySem.W.keepIn K (.ref f8) = true)
    (a9 : PySem.W.nsIn K mainGlobals "_law_cell" = some (some (.ref f9))) (l9 : K.lookup f9 = some ⟨oc9, od9, .func (PySem.W.fnOf "_law_cell" "_law_cell" (defArgs s_l_cell) (defBody s_l_cell) (defScope s_l_cell) .none kV9 dc9 pm9 an9 cd9 ct9), sl9⟩) (c9 : PySem.W.codeIn K cd9 "_law_cell" = true) (k9 : PySem.W.keepIn K (.ref f9) = true)
    (a10 : PySem.W.nsIn K mainGlobals "_law_behind" = some (some (.ref f10))) (l10 : K.lookup f10 = some ⟨oc10, od10, .func (PySem.W.fnOf "_law_behind" "_law_behind" (defArgs s_l_behind) (defBody s_l_behind) (defScope s_l_behind) .none kV10 dc10 pm10 an10 cd10 ct10), sl10⟩) (c10 : PySem.W.codeIn K cd10 "_law_behind" = true) (k10 : PySem.W.keepIn K (.ref f10) = true)
    (a11 : PySem.W.nsIn K mainGlobals "_law_walked" = some (some (.ref f11))) (l11 : K.lookup f11 = some ⟨oc11, od11, .func (PySem.W.fnOf "_law_walked" "_law_walked" (defArgs s_l_walked) (defBody s_l_walked) (defScope s_l_walked) .none kV11 dc11 pm11 an11 cd11 ct11), sl11⟩) (c11 : PySem.W.codeIn K cd11 "_law_walked" = true) (k11 : PySem.W.keepIn K (.ref f11) = true)
    (a12 : PySem.W.nsIn K mainGlobals "_law_run" = some (some (.ref f12))) (l12 : K.lookup f12 = some ⟨oc12, od12, .func (PySem.W.fnOf "_law_run" "_law_run" (defArgs s_l_run) (defBody s_l_run) (defScope s_l_run) .none kV12 dc12 pm12 an12 cd12 ct12), sl12⟩) (c12 : PySem.W.codeIn K cd12 "_law_run" = true) (k12 : PySem.W.keepIn K (.ref f12) = true)
    (a13 : PySem.W.nsIn K mainGlobals "_law_lay" = some (some (.ref f13))) (l13 : K.lookup f13 = some ⟨oc13, od13, .func (PySem.W.fnOf "_law_lay" "_law_lay" (defArgs s_l_lay) (defBody s_l_lay) (defScope s_l_lay) .none kV13 dc13 pm13 an13 cd13 ct13), sl13⟩) (c13 : PySem.W.codeIn K cd13 "_law_lay" = true) (k13 : PySem.W.keepIn K (.ref f13) = true)
    (a14 : PySem.W.nsIn K mainGlobals "_law_line" = some (some (.ref f14))) (l14 : K.lookup f14 = some ⟨oc14, od14, .func (PySem.W.fnOf "_law_line" "_law_line" (defArgs s_l_line) (defBody s_l_line) (defScope s_l_line) .none kV14 dc14 pm14 an14 cd14 ct14), sl14⟩) (c14 : PySem.W.codeIn K cd14 "_law_line" = true) (k14 : PySem.W.keepIn K (.ref f14) = true)
    (a15 : PySem.W.nsIn K mainGlobals "_law_deed" = some (some (.ref f15))) (l15 : K.lookup f15 = some ⟨oc15, od15, .func (PySem.W.fnOf "_law_deed" "_law_deed" (defArgs s_l_deed) (defBody s_l_deed) (defScope s_l_deed) .none kV15 dc15 pm15 an15 cd15 ct15), sl15⟩) (c15 : PySem.W.codeIn K cd15 "_law_deed" = true) (k15 : PySem.W.keepIn K (.ref f15) = true)
    (a16 : PySem.W.nsIn K mainGlobals "_law_body" = some (some (.ref f16))) (l16 : K.lookup f16 = some ⟨oc16, od16, .func (PySem.W.fnOf "_law_body" "_law_body" (defArgs s_l_body) (defBody s_l_body) (defScope s_l_body) .none kV16 dc16 pm16 an16 cd16 ct16), sl16⟩) (c16 : PySem.W.codeIn K cd16 "_law_body" = true) (k16 : PySem.W.keepIn K (.ref f16) = true)
    (a17 : PySem.W.nsIn K mainGlobals "_law_program" = some (some (.ref f17))) (l17 : K.lookup f17 = some ⟨oc17, od17, .func (PySem.W.fnOf "_law_program" "_law_program" (defArgs s_l_program) (defBody s_l_program) (defScope s_l_program) .none kV17 dc17 pm17 an17 cd17 ct17), sl17⟩) (c17 : PySem.W.codeIn K cd17 "_law_program" = true) (k17 : PySem.W.keepIn K (.ref f17) = true)
    (a18 : PySem.W.nsIn K mainGlobals "law" = some (some (.ref f18))) (l18 : K.lookup f18 = some ⟨oc18, od18, .func (PySem.W.fnOf "law" "law" (defArgs s_law) (defBody s_law) (defScope s_law) .none kV18 dc18 pm18 an18 cd18 ct18), sl18⟩) (c18 : PySem.W.codeIn K cd18 "law" = true) (k18 : PySem.W.keepIn K (.ref f18) = true)
    (z0 : PySem.W.nsIn K mainGlobals "list" = some none)
    (z1 : PySem.W.nsIn K mainGlobals "range" = some none)
    (z2 : PySem.W.nsIn K mainGlobals "len" = some none)
    (z3 : PySem.W.nsIn K mainGlobals "int" = some none)
    (z4 : PySem.W.nsIn K mainGlobals "sum" = some none)
    (z5 : PySem.W.nsIn K mainGlobals "tuple" = some none)
    (z6 : PySem.W.nsIn K mainGlobals "isinstance" = some none)
    (z7 : PySem.W.nsIn K mainGlobals "ValueError" = some none)
    (z8 : PySem.W.nsIn K mainGlobals "zip" = some none)
    (xg0 : PySem.W.nsIn K mainGlobals "NoRun" = some (some (.ref xC0)))
    (xb0 : PySem.W.nsIn K mainGlobals "NoteError" = some (some (.ref xB0)))
    (xo0_0 : PySem.W.nsIn K mainGlobals "Needed" = some (some (.ref xO0_0)))
    (xo0_1 : PySem.W.nsIn K mainGlobals "NoBox" = some (some (.ref xO0_1)))
    (xo0_2 : PySem.W.nsIn K mainGlobals "NoName" = some (some (.ref xO0_2)))
    (xo0_3 : PySem.W.nsIn K mainGlobals "NoRow" = some (some (.ref xO0_3)))
    (xo0_4 : PySem.W.nsIn K mainGlobals "NoText" = some (some (.ref xO0_4)))
    (xo0_5 : PySem.W.nsIn K mainGlobals "NotAlike" = some (some (.ref xO0_5)))
    (xo0_6 : PySem.W.nsIn K mainGlobals "NoNumber" = some (some (.ref xO0_6)))
    (xo0_7 : PySem.W.nsIn K mainGlobals "TooGreat" = some (some (.ref xO0_7)))
    (xq0 : PySem.W.excIn K xC0 PySem.HandSPX.veTail "ValueError.__new__" = true)
    (xk0 : PySem.W.keepIn K (.ref xC0) = true)
    (xs0 : PySem.W.subIn K (.ref xC0) (.type "BaseException") = some true)
    (xt0 : PySem.W.typeIn K (.ref xC0) = some (.type "type"))
    (xe1_0 : PySem.W.findIn K (.ref xC0) "__getattribute__" = some (some (.builtin "BaseException.__getattribute__")))
    (xe2_0 : PySem.W.findIn K (.ref xC0) "__getattr__" = some none)
    (xe4_0 : PySem.W.hasDictIn K xC0 = true)
    (xe5_0 : PySem.W.findIn K (.ref xC0) "__class__" = some (some (.builtin "object.__class__")))
    (xe6_0 : PySem.W.specialIn K (.builtin "object.__class__") "__get__" = some (some (.builtin "getset_descriptor.__get__")))
    (xe7_0 : PySem.W.takesIn K (.builtin "object.__class__") = some true)
    (xe8_0 : PySem.W.mroIn K xC0 (.type "object") = some true)
    (xm1_0 : PySem.W.subIn K (.ref xC0) (.ref xC0) = some true)
    (xm2_0 : PySem.W.subIn K (.ref xC0) (.ref xB0) = some true)
    (xn1_0 : PySem.W.subIn K (.ref xB0) (.type "BaseException") = some true)
    (xn2_0 : PySem.W.hasDictIn K xB0 = true)
    (xn3_0 : PySem.W.typeIn K (.ref xB0) = some (.type "type"))
    (xi1_0 : PySem.W.kitOne K (.ref xC0) (.ref xC0) = some true)
    (xi2_0 : PySem.W.kitOne K (.ref xC0) (.type "ValueError") = some true)
    (xi3_0 : PySem.W.kitAny K (.ref xC0) [.ref xO0_0, .ref xO0_1, .ref xO0_2, .ref xO0_3, .ref xO0_4, .ref xO0_5, .ref xO0_6, .ref xO0_7] = some false)
    (yaC : PySem.W.nsIn K mainGlobals "Layout" = some (some (.ref yC)))
    (ya0 : PySem.W.findIn K (.ref yC) "__init__" = some (some (.ref yf0)))
    (yi0 : PySem.W.isFn K (.ref yf0) = true)
    (yl0 : K.lookup yf0 = some ⟨yoc0, yod0, .func (PySem.W.fnOf "__init__" "Layout.__init__" (defArgs (sY 0)) (defBody (sY 0)) (defScope (sY 0)) .none ykV0 ydc0 ypm0 yan0 ycd0 yct0), ysl0⟩)
    (yc0 : PySem.W.codeIn K ycd0 "Layout.__init__" = true)
    (yk0 : PySem.W.keepIn K (.ref yf0) = true)
    (ya1 : PySem.W.findIn K (.ref yC) "new_place" = some (some (.ref yf1)))
    (yi1 : PySem.W.isFn K (.ref yf1) = true)
    (yl1 : K.lookup yf1 = some ⟨yoc1, yod1, .func (PySem.W.fnOf "new_place" "Layout.new_place" (defArgs (sY 1)) (defBody (sY 1)) (defScope (sY 1)) .none ykV1 ydc1 ypm1 yan1 ycd1 yct1), ysl1⟩)
    (yc1 : PySem.W.codeIn K ycd1 "Layout.new_place" = true)
    (yk1 : PySem.W.keepIn K (.ref yf1) = true)
    (ya2 : PySem.W.findIn K (.ref yC) "goes" = some (some (.ref yf2)))
    (yi2 : PySem.W.isFn K (.ref yf2) = true)
    (yl2 : K.lookup yf2 = some ⟨yoc2, yod2, .func (PySem.W.fnOf "goes" "Layout.goes" (defArgs (sY 2)) (defBody (sY 2)) (defScope (sY 2)) .none ykV2 ydc2 ypm2 yan2 ycd2 yct2), ysl2⟩)
    (yc2 : PySem.W.codeIn K ycd2 "Layout.goes" = true)
    (yk2 : PySem.W.keepIn K (.ref yf2) = true)
    (ya3 : PySem.W.findIn K (.ref yC) "lay_either" = some (some (.ref yf3)))
    (yi3 : PySem.W.isFn K (.ref yf3) = true)
    (yl3 : K.lookup yf3 = some ⟨yoc3, yod3, .func (PySem.W.fnOf "lay_either" "Layout.lay_either" (defArgs (sY 3)) (defBody (sY 3)) (defScope (sY 3)) .none ykV3 ydc3 ypm3 yan3 ycd3 yct3), ysl3⟩)
    (yc3 : PySem.W.codeIn K ycd3 "Layout.lay_either" = true)
    (yk3 : PySem.W.keepIn K (.ref yf3) = true)
    (ya4 : PySem.W.findIn K (.ref yC) "lay_loop" = some (some (.ref yf4)))
    (yi4 : PySem.W.isFn K (.ref yf4) = true)
    (yl4 : K.lookup yf4 = some ⟨yoc4, yod4, .func (PySem.W.fnOf "lay_loop" "Layout.lay_loop" (defArgs (sY 4)) (defBody (sY 4)) (defScope (sY 4)) .none ykV4 ydc4 ypm4 yan4 ycd4 yct4), ysl4⟩)
    (yc4 : PySem.W.codeIn K ycd4 "Layout.lay_loop" = true)
    (yk4 : PySem.W.keepIn K (.ref yf4) = true)
    (ya5 : PySem.W.findIn K (.ref yC) "lay_row" = some (some (.ref yf5)))
    (yi5 : PySem.W.isFn K (.ref yf5) = true)
    (yl5 : K.lookup yf5 = some ⟨yoc5, yod5, .func (PySem.W.fnOf "lay_row" "Layout.lay_row" (defArgs (sY 5)) (defBody (sY 5)) (defScope (sY 5)) .none ykV5 ydc5 ypm5 yan5 ycd5 yct5), ysl5⟩)
    (yc5 : PySem.W.codeIn K ycd5 "Layout.lay_row" = true)
    (yk5 : PySem.W.keepIn K (.ref yf5) = true)
    (ya6 : PySem.W.findIn K (.ref yC) "lay" = some (some (.ref yf6)))
    (yi6 : PySem.W.isFn K (.ref yf6) = true)
    (yl6 : K.lookup yf6 = some ⟨yoc6, yod6, .func (PySem.W.fnOf "lay" "Layout.lay" (defArgs (sY 6)) (defBody (sY 6)) (defScope (sY 6)) .none ykV6 ydc6 ypm6 yan6 ycd6 yct6), ysl6⟩)
    (yc6 : PySem.W.codeIn K ycd6 "Layout.lay" = true)
    (yk6 : PySem.W.keepIn K (.ref yf6) = true)
    (ypg : PySem.W.plainGet K yC Str.empty = true)
    (yhd : PySem.W.hasDictIn K yC = true)
    (ypo : PySem.W.plainOver K yC = true)
    (ysa : PySem.W.findIn K (.ref yC) "__setattr__" = some (some (.builtin "object.__setattr__")))
    (ymk : PySem.W.makesIn K yC = true)
    (ykc : PySem.W.keepIn K (.ref yC) = true)
    (yn_bodies : PySem.W.findIn K (.ref yC) "bodies" = some none)
    (yn_count : PySem.W.findIn K (.ref yC) "count" = some none)
    (yn_steps : PySem.W.findIn K (.ref yC) "steps" = some none)
    (ygP : PySem.W.nsIn K mainGlobals "PLAIN" = some (some (.ref yP)))
    (ygN : PySem.W.nsIn K mainGlobals "NOTHING" = some (some (.ref yN)))
    (ykP : K.lookup yP = some ⟨.type "tuple", yPd, .seq #[.str "set" yt0, .str "take" yt1, .str "skip" yt2] yPn, yPs⟩)
    (ykN : K.lookup yN = some ⟨.type "tuple", yNd, .seq #[.str "skip" yt3] yNn, yNs⟩) :
    ∃ fd : FuncData, (∀ (s : Shared) (v : Value), BindsTo s fd ⟨[v], []⟩ [("_law_script", v)]) ∧ ∀ base : Heap, K.In base → base.Ns mainGlobals mg → FnOk l.prog w K mg base CX0 77 fa fd ["_law_script"] (spLaw K) := by
  have e := hfa.symm.trans (PySem.W.mg_of X G a18)
  cases e
  have Z : Zs K mg := ⟨PySem.W.mg_none_of X G z0, PySem.W.mg_none_of X G z1, PySem.W.mg_none_of X G z2, PySem.W.mg_none_of X G z3, PySem.W.mg_none_of X G z4, PySem.W.mg_none_of X G z5, PySem.W.mg_none_of X G z6, PySem.W.mg_none_of X G z7, PySem.W.mg_none_of X G z8, ⟨_, _, [xO0_0, xO0_1, xO0_2, xO0_3, xO0_4, xO0_5, xO0_6, xO0_7], ⟨⟨PySem.W.mg_of X G xg0, xq0, xk0, xs0, xt0⟩, PySem.W.mg_of X G xb0, ⟨xe1_0, xe2_0, xs0, xe4_0, xe5_0, xe6_0, xe7_0, xe8_0⟩, PySem.W.exm_ref xs0 xe4_0 xt0 xm1_0, PySem.W.exm_ref xn1_0 xn2_0 xn3_0 xm2_0, xi1_0, xi2_0, xi3_0, rfl, (ogs_cons (PySem.W.mg_of X G xo0_0) (ogs_cons (PySem.W.mg_of X G xo0_1) (ogs_cons (PySem.W.mg_of X G xo0_2) (ogs_cons (PySem.W.mg_of X G xo0_3) (ogs_cons (PySem.W.mg_of X G xo0_4) (ogs_cons (PySem.W.mg_of X G xo0_5) (ogs_cons (PySem.W.mg_of X G xo0_6) (ogs_cons (PySem.W.mg_of X G xo0_7) ogs_nil))))))))⟩⟩⟩
  have T : LTxt K mg yC yP yN := ⟨⟨ypg, yhd, ypo, ysa⟩, yn_bodies, yn_count, yn_steps, PySem.W.mg_of X G yaC, PySem.W.mg_of X G ygP, PySem.W.mg_of X G ygN, ⟨_, _, _, ykP, rfl, rfl, by rw [sizeLine_eq]; show 3 ≤ _; omega, .cons ⟨_, rfl⟩ (.cons ⟨_, rfl⟩ (.cons ⟨_, rfl⟩ .nil))⟩, ⟨_, _, _, ykN, rfl, rfl, by rw [sizeLine_eq]; show 1 ≤ _; omega, .cons ⟨_, rfl⟩ .nil⟩, Z.list⟩
  have yF0 := fun_mk (st := sY 0) yl0 yc0 yk0
  have yb0 := yF0.binds (ps := ["self", "bodies"]) fun _ _ _ _ _ _ us hl => match us, hl with | [_, _], _ => rfl
  have yF1 := fun_mk (st := sY 1) yl1 yc1 yk1
  have yb1 := yF1.binds (ps := ["self"]) fun _ _ _ _ _ _ us hl => match us, hl with | [_], _ => rfl
  have yF2 := fun_mk (st := sY 2) yl2 yc2 yk2
  have yb2 := yF2.binds (ps := ["self", "place", "to", "deed"]) fun _ _ _ _ _ _ us hl => match us, hl with | [_, _, _, _], _ => rfl
  have yF3 := fun_mk (st := sY 3) yl3 yc3 yk3
  have yb3 := yF3.binds (ps := ["self", "row", "place"]) fun _ _ _ _ _ _ us hl => match us, hl with | [_, _, _], _ => rfl
  have yF4 := fun_mk (st := sY 4) yl4 yc4 yk4
  have yb4 := yF4.binds (ps := ["self", "row", "place"]) fun _ _ _ _ _ _ us hl => match us, hl with | [_, _, _], _ => rfl
  have yF5 := fun_mk (st := sY 5) yl5 yc5 yk5
  have yb5 := yF5.binds (ps := ["self", "row", "place"]) fun _ _ _ _ _ _ us hl => match us, hl with | [_, _, _], _ => rfl
  have yF6 := fun_mk (st := sY 6) yl6 yc6 yk6
  have yb6 := yF6.binds (ps := ["self", "rows", "place"]) fun _ _ _ _ _ _ us hl => match us, hl with | [_, _, _], _ => rfl
  have F0 := fun_mk (st := s_with_box) l0 c0 k0
  have b0 := F0.binds (ps := ["stand", "box", "number"]) fun _ _ _ _ _ _ us hl => match us, hl with | [_, _, _], _ => rfl
  have F1 := fun_mk (st := s_behind) l1 c1 k1
  have b1 := F1.binds (ps := ["stand", "deed", "number"]) fun _ _ _ _ _ _ us hl => match us, hl with | [_, _, _], _ => rfl
  have F2 := fun_mk (st := s_fits) l2 c2 k2
  have b2 := F2.binds (ps := ["steps", "place", "move"]) fun _ _ _ _ _ _ us hl => match us, hl with | [_, _, _], _ => rfl
  have F3 := fun_mk (st := s_first_stand) l3 c3 k3
  have b3 := F3.binds (ps := ["many"]) fun _ _ _ _ _ _ us hl => match us, hl with | [_], _ => rfl
  have F4 := fun_mk (st := s_laid) l4 c4 k4
  have b4 := F4.binds (ps := ["program"]) fun _ _ _ _ _ _ us hl => match us, hl with | [_], _ => rfl
  have F5 := fun_mk (st := s_ran) l5 c5 k5
  have b5 := F5.binds (ps := ["program", "moves"]) fun _ _ _ _ _ _ us hl => match us, hl with | [_, _], _ => rfl
  have F6 := fun_mk (st := s_is_run) l6 c6 k6
  have b6 := F6.binds (ps := ["program", "moves"]) fun _ _ _ _ _ _ us hl => match us, hl with | [_, _], _ => rfl
  have F7 := fun_mk (st := s_l_refused) l7 c7 k7
  have b7 := F7.binds (ps := ["_law_program_here", "_law_moves"]) fun _ _ _ _ _ _ us hl => match us, hl with | [_, _], _ => rfl
  have F8 := fun_mk (st := s_l_bent) l8 c8 k8
  have b8 := F8.binds (ps := ["_law_steps", "_law_place", "_law_cell_here"]) fun _ _ _ _ _ _ us hl => match us, hl with | [_, _, _], _ => rfl
  have F9 := fun_mk (st := s_l_cell) l9 c9 k9
  have b9 := F9.binds (ps := ["_law_script", "_law_k"]) fun _ _ _ _ _ _ us hl => match us, hl with | [_, _], _ => rfl
  have F10 := fun_mk (st := s_l_behind) l10 c10 k10
  have b10 := F10.binds (ps := ["_law_stand", "_law_deed_here", "_law_number"]) fun _ _ _ _ _ _ us hl => match us, hl with | [_, _, _], _ => rfl
  have F11 := fun_mk (st := s_l_walked) l11 c11 k11
  have b11 := F11.binds (ps := ["_law_many", "_law_steps", "_law_moves"]) fun _ _ _ _ _ _ us hl => match us, hl with | [_, _, _], _ => rfl
  have F12 := fun_mk (st := s_l_run) l12 c12 k12
  have b12 := F12.binds (ps := ["_law_script", "_law_at", "_law_steps", "_law_most"]) fun _ _ _ _ _ _ us hl => match us, hl with | [_, _, _, _], _ => rfl
  have F13 := fun_mk (st := s_l_lay) l13 c13 k13
  have b13 := F13.binds (ps := ["_law_rows", "_law_place", "_law_bodies", "_law_made"]) fun _ _ _ _ _ _ us hl => match us, hl with | [_, _, _, _], _ => rfl
  have F14 := fun_mk (st := s_l_line) l14 c14 k14
  have b14 := F14.binds (ps := ["_law_cell_here", "_law_many"]) fun _ _ _ _ _ _ us hl => match us, hl with | [_, _], _ => rfl
  have F15 := fun_mk (st := s_l_deed) l15 c15 k15
  have b15 := F15.binds (ps := ["_law_cell_here", "_law_many", "_law_later_on"]) fun _ _ _ _ _ _ us hl => match us, hl with | [_, _, _], _ => rfl
  have F16 := fun_mk (st := s_l_body) l16 c16 k16
  have b16 := F16.binds (ps := ["_law_cells", "_law_many", "_law_later_on", "_law_deep", "_law_most"]) fun _ _ _ _ _ _ us hl => match us, hl with | [_, _, _, _, _], _ => rfl
  have F17 := fun_mk (st := s_l_program) l17 c17 k17
  have b17 := F17.binds (ps := ["_law_script", "_law_at", "_law_many", "_law_most"]) fun _ _ _ _ _ _ us hl => match us, hl with | [_, _, _, _], _ => rfl
  have F18 := fun_mk (st := s_law) l18 c18 k18
  refine ⟨PySem.W.fnOf "law" "law" (defArgs s_law) (defBody s_law) (defScope s_law) .none kV18 dc18 pm18 an18 cd18 ct18, fun s v => .of_eq rfl, fun base _ _ => ?_⟩
  have C_with_box : FnF l.prog w K mg base "with_box" 3 1 f_with_box := fnF_mk F0 (PySem.W.mg_of X G a0) b0 (ok_with_box F0 Z )
  have C_behind : FnF l.prog w K mg base "behind" 3 2 f_behind := fnF_mk F1 (PySem.W.mg_of X G a1) b1 (ok_behind F1 Z C_with_box)
  have C_fits : FnF l.prog w K mg base "fits" 3 1 f_fits := fnF_mk F2 (PySem.W.mg_of X G a2) b2 (ok_fits F2 Z )
  have C_first_stand : FnF l.prog w K mg base "first_stand" 1 1 f_first_stand := fnF_mk F3 (PySem.W.mg_of X G a3) b3 (ok_first_stand F3 Z )
  have C_laid : FnF l.prog w K mg base "laid" 1 74 f_laid := fnF_mk F4 (PySem.W.mg_of X G a4) b4 (ok_laid F4 T ⟨ymk, ya0, yi0, ykc⟩ (okY0 yF0 T) yb0 (okYs T yF1 yb1 ⟨ya1, yi1, yk1⟩ yF2 yb2 ⟨ya2, yi2, yk2⟩ yF3 yb3 ⟨ya3, yi3, yk3⟩ yF4 yb4 ⟨ya4, yi4, yk4⟩ yF5 yb5 ⟨ya5, yi5, yk5⟩ yF6 yb6 ⟨ya6, yi6, yk6⟩ 24) yb6 ⟨ya6, yi6, yk6⟩)
  have C_ran : FnX l.prog w K mg base "ran" 2 75 f_ran := fnX_mk F5 (PySem.W.mg_of X G a5) b5 (ok_ran F5 Z C_behind C_fits C_first_stand C_laid)
  have C_is_run : FnF l.prog w K mg base "is_run" 2 76 f_is_run := fnF_mk F6 (PySem.W.mg_of X G a6) b6 (ok_is_run F6 Z C_ran)
  have C_l_refused : FnF l.prog w K mg base "_law_refused" 2 76 f_l_refused := fnF_mk F7 (PySem.W.mg_of X G a7) b7 (ok_l_refused F7 Z C_ran)
  have C_l_bent : FnF l.prog w K mg base "_law_bent" 3 1 f_l_bent := fnF_mk F8 (PySem.W.mg_of X G a8) b8 (ok_l_bent F8 Z )
  have C_l_cell : FnF l.prog w K mg base "_law_cell" 2 1 f_l_cell := fnF_mk F9 (PySem.W.mg_of X G a9) b9 (ok_l_cell F9 Z )
  have C_l_behind : FnF l.prog w K mg base "_law_behind" 3 1 f_l_behind := fnF_mk F10 (PySem.W.mg_of X G a10) b10 (ok_l_behind F10 Z )
  have C_l_walked : FnF l.prog w K mg base "_law_walked" 3 2 f_l_walked := fnF_mk F11 (PySem.W.mg_of X G a11) b11 (ok_l_walked F11 Z C_l_behind)
  have C_l_run : FnF l.prog w K mg base "_law_run" 4 2 f_l_run := fnF_mk F12 (PySem.W.mg_of X G a12) b12 (ok_l_run F12 Z C_l_cell)
  have C_l_lay : FnF l.prog w K mg base "_law_lay" 4 25 (f_l_lay 24) := fnF_mk F13 (PySem.W.mg_of X G a13) b13 (ok_l_lay F13 Z  (PySem.W.mg_of X G a13) b13 24)
  have C_l_line : FnF l.prog w K mg base "_law_line" 2 1 f_l_line := fnF_mk F14 (PySem.W.mg_of X G a14) b14 (ok_l_line F14 Z )
  have C_l_deed : FnF l.prog w K mg base "_law_deed" 3 2 f_l_deed := fnF_mk F15 (PySem.W.mg_of X G a15) b15 (ok_l_deed F15 Z C_l_line)
  have C_l_body : FnF l.prog w K mg base "_law_body" 5 3 f_l_body := fnF_mk F16 (PySem.W.mg_of X G a16) b16 (ok_l_body F16 Z C_l_deed)
  have C_l_program : FnF l.prog w K mg base "_law_program" 4 4 f_l_program := fnF_mk F17 (PySem.W.mg_of X G a17) b17 (ok_l_program F17 Z C_l_cell C_l_body)
  exact law_imp (ok_law F18 Z C_ran C_is_run C_l_refused C_l_bent C_l_cell C_l_walked C_l_run C_l_lay C_l_program) law_true

end EN
open PySem PySem.W PyProof.Rows
set_option maxRecDepth 100000 in
set_option maxHeartbeats 0 in
theorem PySem.Challenge.cw_evennotes_k18_no_runs_holds : PySem.Challenge.rw_evennotes_k18_no_runs.Holds := by
  w_on; o_law; k_head; (case hw => w_witness2)
  k_fill
  refine L2.walk_of (l := PySem.Challenge.rw_evennotes_k18_no_runs) (n := 63) (k := 77) (x := "_law_script") (CX := fun _ => L2.CX0) (sp := fun w => FL.spLaw _) rfl (by decide) rfl ⟨rfl, by decide, by decide⟩ (fun w h Y => PySem.W.kIn_of Y) ?F (fun _ _ a ns hl _ hS => ⟨a, ns, rfl, hS, hl, fun _ => rfl⟩) (fun _ _ _ _ _ h => h)
  case F =>
    intro w mg fa h KX G hmg
    refine' EN.all_mk KX G hmg ?a0 ?l0 ?c0 ?k0 ?a1 ?l1 ?c1 ?k1 ?a2 ?l2 ?c2 ?k2 ?a3 ?l3 ?c3 ?k3 ?a4 ?l4 ?c4 ?k4 ?a5 ?l5 ?c5 ?k5 ?a6 ?l6 ?c6 ?k6 ?a7 ?l7 ?c7 ?k7 ?a8 ?l8 ?c8 ?k8 ?a9 ?l9 ?c9 ?k9 ?a10 ?l10 ?c10 ?k10 ?a11 ?l11 ?c11 ?k11 ?a12 ?l12 ?c12 ?k12 ?a13 ?l13 ?c13 ?k13 ?a14 ?l14 ?c14 ?k14 ?a15 ?l15 ?c15 ?k15 ?a16 ?l16 ?c16 ?k16 ?a17 ?l17 ?c17 ?k17 ?a18 ?l18 ?c18 ?k18 ?z0 ?z1 ?z2 ?z3 ?z4 ?z5 ?z6 ?z7 ?z8 ?xg0 ?xb0 ?xo0_0 ?xo0_1 ?xo0_2 ?xo0_3 ?xo0_4 ?xo0_5 ?xo0_6 ?xo0_7 ?xq0 ?xk0 ?xs0 ?xt0 ?xe1_0 ?xe2_0 ?xe4_0 ?xe5_0 ?xe6_0 ?xe7_0 ?xe8_0 ?xm1_0 ?xm2_0 ?xn1_0 ?xn2_0 ?xn3_0 ?xi1_0 ?xi2_0 ?xi3_0 ?yaC ?ya0 ?yi0 ?yl0 ?yc0 ?yk0 ?ya1 ?yi1 ?yl1 ?yc1 ?yk1 ?ya2 ?yi2 ?yl2 ?yc2 ?yk2 ?ya3 ?yi3 ?yl3 ?yc3 ?yk3 ?ya4 ?yi4 ?yl4 ?yc4 ?yk4 ?ya5 ?yi5 ?yl5 ?yc5 ?yk5 ?ya6 ?yi6 ?yl6 ?yc6 ?yk6 ?ypg ?yhd ?ypo ?ysa ?ymk ?ykc ?yn_bodies ?yn_count ?yn_steps ?ygP ?ygN ?ykP ?ykN
    (case a0 => k_is)
    (case l0 => k_is)
    (case c0 => k_is)
    (case k0 => k_is)
    (case a1 => k_is)
    (case l1 => k_is)
    (case c1 => k_is)
    (case k1 => k_is)
    (case a2 => k_is)
    (case l2 => k_is)
    (case c2 => k_is)
    (case k2 => k_is)
    (case a3 => k_is)
    (case l3 => k_is)
    (case c3 => k_is)
    (case k3 => k_is)
    (case a4 => k_is)
    (case l4 => k_is)
    (case c4 => k_is)
    (case k4 => k_is)
    (case a5 => k_is)
    (case l5 => k_is)
    (case c5 => k_is)
    (case k5 => k_is)
    (case a6 => k_is)
    (case l6 => k_is)
    (case c6 => k_is)
    (case k6 => k_is)
    (case a7 => k_is)
    (case l7 => k_is)
    (case c7 => k_is)
    (case k7 => k_is)
    (case a8 => k_is)
    (case l8 => k_is)
    (case c8 => k_is)
    (case k8 => k_is)
    (case a9 => k_is)
    (case l9 => k_is)
    (case c9 => k_is)
    (case k9 => k_is)
    (case a10 => k_is)
    (case l10 => k_is)
    (case c10 => k_is)
    (case k10 => k_is)
    (case a11 => k_is)
    (case l11 => k_is)
    (case c11 => k_is)
    (case k11 => k_is)
    (case a12 => k_is)
    (case l12 => k_is)
    (case c12 => k_is)
    (case k12 => k_is)
    (case a13 => k_is)
    (case l13 => k_is)
    (case c13 => k_is)
    (case k13 => k_is)
    (case a14 => k_is)
    (case l14 => k_is)
    (case c14 => k_is)
    (case k14 => k_is)
    (case a15 => k_is)
    (case l15 => k_is)
    (case c15 => k_is)
    (case k15 => k_is)
    (case a16 => k_is)
    (case l16 => k_is)
    (case c16 => k_is)
    (case k16 => k_is)
    (case a17 => k_is)
    (case l17 => k_is)
    (case c17 => k_is)
    (case k17 => k_is)
    (case a18 => k_is)
    (case l18 => k_is)
    (case c18 => k_is)
    (case k18 => k_is)
    (case z0 => k_is)
    (case z1 => k_is)
    (case z2 => k_is)
    (case z3 => k_is)
    (case z4 => k_is)
    (case z5 => k_is)
    (case z6 => k_is)
    (case z7 => k_is)
    (case z8 => k_is)
    (case xg0 => k_is)
    (case xb0 => k_is)
    (case xo0_0 => k_is)
    (case xo0_1 => k_is)
    (case xo0_2 => k_is)
    (case xo0_3 => k_is)
    (case xo0_4 => k_is)
    (case xo0_5 => k_is)
    (case xo0_6 => k_is)
    (case xo0_7 => k_is)
    (case xq0 => k_exc)
    (case xk0 => k_is)
    (case xs0 => k_is)
    (case xt0 => k_is)
    (case xe1_0 => k_is)
    (case xe2_0 => k_is)
    (case xe4_0 => k_is)
    (case xe5_0 => k_is)
    (case xe6_0 => k_is)
    (case xe7_0 => k_is)
    (case xe8_0 => k_is)
    (case xm1_0 => k_is)
    (case xm2_0 => k_is)
    (case xn1_0 => k_is)
    (case xn2_0 => k_is)
    (case xn3_0 => k_is)
    (case xi1_0 => kit_is)
    (case xi2_0 => kit_is)
    (case xi3_0 => kit_is)
    (case yaC => k_is)
    (case ya0 => k_is)
    (case yi0 => k_is)
    (case yl0 => k_is)
    (case yc0 => k_is)
    (case yk0 => k_is)
    (case ya1 => k_is)
    (case yi1 => k_is)
    (case yl1 => k_is)
    (case yc1 => k_is)
    (case yk1 => k_is)
    (case ya2 => k_is)
    (case yi2 => k_is)
    (case yl2 => k_is)
    (case yc2 => k_is)
    (case yk2 => k_is)
    (case ya3 => k_is)
    (case yi3 => k_is)
    (case yl3 => k_is)
    (case yc3 => k_is)
    (case yk3 => k_is)
    (case ya4 => k_is)
    (case yi4 => k_is)
    (case yl4 => k_is)
    (case yc4 => k_is)
    (case yk4 => k_is)
    (case ya5 => k_is)
    (case yi5 => k_is)
    (case yl5 => k_is)
    (case yc5 => k_is)
    (case yk5 => k_is)
    (case ya6 => k_is)
    (case yi6 => k_is)
    (case yl6 => k_is)
    (case yc6 => k_is)
    (case yk6 => k_is)
    (case ypg => k_is)
    (case yhd => k_is)
    (case ypo => k_is)
    (case ysa => k_is)
    (case ymk => k_is)
    (case ykc => k_is)
    (case yn_bodies => k_is)
    (case yn_count => k_is)
    (case yn_steps => k_is)
    (case ygP => k_is)
    (case ygN => k_is)
    (case ykP => k_is)
    (case ykN => k_is)
#print axioms PySem.Challenge.cw_evennotes_k18_no_runs_holds

