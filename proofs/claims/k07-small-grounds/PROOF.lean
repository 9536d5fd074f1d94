import PyProof.Rows.All
import Wide.All
import OpenK.AllK
import Wide.FinOn
import HandS.ForMost
import HandS.Wide
import HandS.IsInst
import HandS.TupAny
import HandS.TupMul
import HandS.SortInts
import HandS.Zip
import HandS.NoneIn
import KE.GoesEnum
import HandS.Rev
import HandS.Conv
import HandS.More
import KE.KDictDisplayH
import HandS.TupLen
import PySem.Challenge.RW_evennotes_k07_whole_small_grounds
set_option Elab.async false
set_option linter.all false
set_option maxRecDepth 100000
set_option maxHeartbeats 4000000
/-! FL1: what a slot holds, and how the heap bears it -/
namespace FL
open PySem PySem.Spec PyProof.Rows L2

abbrev D := PyData

/-- what a slot holds: nothing, data that stands still, a list or a dict that this slot alone holds, an instance, a look at another slot -/
inductive Sl where
  | no
  | sh (d : D)
  | ol (ds : List D)
  | od (kvs : List (Key × D))
  | td (kvs : List (List Key × D))
  | oi (c : Str) (fs : List (Str × Sl))
  | vw (i : Nat)
  | sc (ns : List Int)

abbrev Lo := List Sl

/-- an outcome -/
inductive Res (α : Type) where
  | bad
  | ok (a : α)
  | ex (c : Str) (p : D)
namespace Res
def bind {α β : Type} : Res α → (α → Res β) → Res β
  | .bad, _ => .bad
  | .ok a, f => f a
  | .ex c p, _ => .ex c p
instance : Monad Res where
  pure := .ok
  bind := Res.bind
theorem bind_ok {α β : Type} {x : Res α} {f : α → Res β} {b : β} (h : (x >>= f) = .ok b) : ∃ a, x = .ok a ∧ f a = .ok b := by
  cases x with
  | bad => cases h
  | ok a => exact ⟨a, rfl, h⟩
  | ex c p => cases h
@[simp] theorem ok_bind {α β : Type} (a : α) (f : α → Res β) : ((Res.ok a) >>= f) = f a := rfl
@[simp] theorem bad_bind {α β : Type} (f : α → Res β) : ((Res.bad : Res α) >>= f) = .bad := rfl
@[simp] theorem ex_bind {α β : Type} (c : Str) (p : D) (f : α → Res β) : ((Res.ex c p : Res α) >>= f) = .ex c p := rfl
@[simp] theorem pure_eq {α : Type} (a : α) : (pure a : Res α) = .ok a := rfl
def ofO {α : Type} : Option α → Res α
  | some a => .ok a
  | none => .bad
@[simp] theorem ofO_some {α : Type} (a : α) : ofO (some a) = .ok a := rfl
@[simp] theorem ofO_none {α : Type} : ofO (none : Option α) = .bad := rfl
theorem ofO_ok {α : Type} {o : Option α} {a : α} (h : ofO o = .ok a) : o = some a := by
  cases o with
  | none => cases h
  | some b => cases h; rfl
end Res

mutual
inductive Dt (K : PySem.W.Frag) (H : Hp) : V → PyData → Prop
  | non : Dt K H .non .none
  | bl (b : Bool) : Dt K H (.bl b) (.bool b)
  | int (i : Int) : Dt K H (.int i) (.int i)
  | str (x : Str) : Dt K H (.str x) (.str x)
  | lst {a : Addr} {xs : List V} {ds : List PyData} : H a = some (.lst xs) → DtAll K H xs ds → Dt K H (.ref a) (.list ds)
  | tup {a : Addr} {xs : List V} {ds : List PyData} : H a = some (.tup xs) → DtAll K H xs ds → Dt K H (.ref a) (.tuple ds)
inductive DtAll (K : PySem.W.Frag) (H : Hp) : List V → List PyData → Prop
  | nil : DtAll K H [] []
  | cons {v : V} {vs : List V} {d : PyData} {ds : List PyData} : Dt K H v d → DtAll K H vs ds → DtAll K H (v :: vs) (d :: ds)
end
mutual
theorem Dt.deep {K : PySem.W.Frag} {H : Hp} : ∀ (d : PyData) (v : V), Dt K H v d → L2.Dp K H v d
  | .none, _, h => by cases h; exact .non
  | .bool b, _, h => by cases h; exact .bl b
  | .int i, _, h => by cases h; exact .int i
  | .str x, _, h => by cases h; exact .str x
  | .list ds, _, h => by
    cases h with
    | lst hs ha => exact .lst (.of hs) (DtAll.deep ds _ ha)
  | .tuple ds, _, h => by
    cases h with
    | tup hs ha => exact .tup (.of hs) (DtAll.deep ds _ ha)
  | .dict _, _, h => by cases h
theorem DtAll.deep {K : PySem.W.Frag} {H : Hp} : ∀ (ds : List PyData) (vs : List V), DtAll K H vs ds → L2.DpAll K H vs ds
  | [], _, h => by cases h; exact .nil
  | d :: ds, _, h => by
    cases h with
    | cons h1 h2 => exact .cons (Dt.deep d _ h1) (DtAll.deep ds _ h2)
end
section
variable {K : PySem.W.Frag} {H H' : Hp}
theorem sameRd {a : Addr} {u : HO} (e : Same H H') (h : Rd H a u) : Rd H' a u := by
  rcases h with h | ⟨o, h⟩
  · exact .inl (e _ _ h)
  · exact .inr ⟨o, e _ _ h⟩
theorem sameTup {a : Addr} {xs : List V} (e : Same H H') (h : SqT K H a xs) : SqT K H' a xs := by
  rcases h with h | h
  · exact .inl (sameRd e h)
  · exact .inr h
mutual
theorem Dt.mono (e : Same H H') : ∀ (d : PyData) (v : V), Dt K H v d → Dt K H' v d
  | .none, _, h => by cases h; exact .non
  | .bool b, _, h => by cases h; exact .bl b
  | .int i, _, h => by cases h; exact .int i
  | .str x, _, h => by cases h; exact .str x
  | .list ds, _, h => by
    cases h with
    | lst hs ha => exact .lst (e _ _ hs) (DtAll.mono e ds _ ha)
  | .tuple ds, _, h => by
    cases h with
    | tup hs ha => exact .tup (e _ _ hs) (DtAll.mono e ds _ ha)
  | .dict _, _, h => by cases h
theorem DtAll.mono (e : Same H H') : ∀ (ds : List PyData) (vs : List V), DtAll K H vs ds → DtAll K H' vs ds
  | [], _, h => by cases h; exact .nil
  | d :: ds, _, h => by
    cases h with
    | cons h1 h2 => exact .cons (Dt.mono e d _ h1) (DtAll.mono e ds _ h2)
end
theorem DtAll.length : ∀ {vs : List V} {ds : List PyData}, DtAll K H vs ds → vs.length = ds.length
  | _, _, .nil => rfl
  | _, _, .cons _ t => by rw [List.length_cons, List.length_cons, t.length]
theorem DtAll.get : ∀ {vs : List V} {ds : List PyData} {i : Nat} {d : PyData}, DtAll K H vs ds → ds[i]? = some d → ∃ v, vs[i]? = some v ∧ Dt K H v d
  | _, _, _, _, .nil, e => by simp at e
  | _, _, 0, _, .cons r _, e => by simp at e; subst e; exact ⟨_, rfl, r⟩
  | _, _, i + 1, d, .cons _ t, e => by
    obtain ⟨v, h1, h2⟩ := DtAll.get (i := i) (d := d) t (by simpa using e)
    exact ⟨v, by simpa using h1, h2⟩
theorem DtAll.get' : ∀ {vs : List V} {ds : List PyData} {i : Nat} {v : V}, DtAll K H vs ds → vs[i]? = some v → ∃ d, ds[i]? = some d ∧ Dt K H v d
  | _, _, _, _, .nil, e => by simp at e
  | _, _, 0, _, .cons r _, e => by simp at e; subst e; exact ⟨_, rfl, r⟩
  | _, _, i + 1, d, .cons _ t, e => by
    obtain ⟨v, h1, h2⟩ := DtAll.get' (i := i) (v := d) t (by simpa using e)
    exact ⟨v, by simpa using h1, h2⟩
theorem DtAll.append : ∀ {xs ys : List V} {ds es : List PyData}, DtAll K H xs ds → DtAll K H ys es → DtAll K H (xs ++ ys) (ds ++ es)
  | _, _, _, _, .nil, s => s
  | _, _, _, _, .cons r t, s => .cons r (DtAll.append t s)
theorem DtAll.take : ∀ {xs : List V} {ds : List PyData} (n : Nat), DtAll K H xs ds → DtAll K H (xs.take n) (ds.take n)
  | _, _, 0, _ => .nil
  | _, _, _ + 1, .nil => .nil
  | _, _, n + 1, .cons r t => .cons r (DtAll.take n t)
theorem DtAll.drop : ∀ {xs : List V} {ds : List PyData} (n : Nat), DtAll K H xs ds → DtAll K H (xs.drop n) (ds.drop n)
  | _, _, 0, r => r
  | _, _, _ + 1, .nil => .nil
  | _, _, n + 1, .cons _ t => DtAll.drop n t
theorem DtAll.set {x : V} {d : PyData} (r : Dt K H x d) : ∀ {xs : List V} {ds : List PyData} (i : Nat), DtAll K H xs ds → DtAll K H (xs.set i x) (ds.set i d)
  | _, _, _, .nil => .nil
  | _, _, 0, .cons _ t => .cons r t
  | _, _, i + 1, .cons q t => .cons q (DtAll.set r i t)
theorem DtAll.one {x : V} {d : PyData} (r : Dt K H x d) : DtAll K H [x] [d] := .cons r .nil
theorem DtAll.reverse : ∀ {xs : List V} {ds : List PyData}, DtAll K H xs ds → DtAll K H xs.reverse ds.reverse
  | _, _, .nil => .nil
  | _, _, .cons r t => by
    rw [List.reverse_cons, List.reverse_cons]
    exact (DtAll.reverse t).append (.one r)
theorem DtAll.eraseIdx : ∀ {xs : List V} {ds : List PyData} (i : Nat), DtAll K H xs ds → DtAll K H (xs.eraseIdx i) (ds.eraseIdx i)
  | _, _, _, .nil => .nil
  | _, _, 0, .cons _ t => t
  | _, _, i + 1, .cons q t => .cons q (DtAll.eraseIdx i t)
theorem DtAll.rep : ∀ {xs : List V} {ds : List PyData} (n : Nat), DtAll K H xs ds → DtAll K H (List.replicate n xs).flatten (List.replicate n ds).flatten
  | _, _, 0, _ => .nil
  | _, _, n + 1, r => by
    rw [List.replicate_succ, List.replicate_succ, List.flatten_cons, List.flatten_cons]
    exact r.append (DtAll.rep n r)
theorem DtAll.ints : ∀ (ns : List Int), DtAll K H (ns.map V.int) (ns.map PyData.int)
  | [] => .nil
  | n :: ns => .cons (.int n) (DtAll.ints ns)
theorem DtAll.strs : ∀ (ns : List Str), DtAll K H (ns.map V.str) (ns.map PyData.str)
  | [] => .nil
  | n :: ns => .cons (.str n) (DtAll.strs ns)
theorem DtAll.of_ints : ∀ {vs : List V} {ns : List Int}, DtAll K H vs (ns.map PyData.int) → vs = ns.map V.int
  | _, [], h => by cases h; rfl
  | _, n :: ns, h => by
    cases h with
    | cons r t => cases r; rw [DtAll.of_ints t]; rfl
theorem DtAll.of_strs : ∀ {vs : List V} {ns : List Str}, DtAll K H vs (ns.map PyData.str) → vs = ns.map V.str
  | _, [], h => by cases h; rfl
  | _, n :: ns, h => by
    cases h with
    | cons r t => cases r; rw [DtAll.of_strs t]; rfl

end
section
variable {K : PySem.W.Frag} {H H' : Hp}
/-- a dict's entries -/
inductive DpKV (K : PySem.W.Frag) (H : Hp) : List (Key × V) → List (Key × D) → Prop
  | nil : DpKV K H [] []
  | cons {k : Key} {v : V} {d : D} {ks : List (Key × V)} {es : List (Key × D)} : Dt K H v d → DpKV K H ks es → DpKV K H ((k, v) :: ks) ((k, d) :: es)
theorem DpKV.mono (e : Same H H') : ∀ {ks : List (Key × V)} {es : List (Key × D)}, DpKV K H ks es → DpKV K H' ks es
  | _, _, .nil => .nil
  | _, _, .cons r t => .cons (Dt.mono e _ _ r) (DpKV.mono e t)
theorem DpKV.length : ∀ {ks : List (Key × V)} {es : List (Key × D)}, DpKV K H ks es → ks.length = es.length
  | _, _, .nil => rfl
  | _, _, .cons _ t => by rw [List.length_cons, List.length_cons, t.length]
theorem DpKV.keys : ∀ {ks : List (Key × V)} {es : List (Key × D)}, DpKV K H ks es → ks.map (·.1) = es.map (·.1)
  | _, _, .nil => rfl
  | _, _, .cons _ t => by rw [List.map_cons, List.map_cons, t.keys]

/-- the entries of a dict whose keys are tuples -/
inductive DpKT (K : PySem.W.Frag) (H : Hp) : List (List Key × V) → List (List Key × D) → Prop
  | nil : DpKT K H [] []
  | cons {k : List Key} {v : V} {d : D} {ks : List (List Key × V)} {es : List (List Key × D)} : Dt K H v d → DpKT K H ks es → DpKT K H ((k, v) :: ks) ((k, d) :: es)
theorem DpKT.mono (e : Same H H') : ∀ {ks : List (List Key × V)} {es : List (List Key × D)}, DpKT K H ks es → DpKT K H' ks es
  | _, _, .nil => .nil
  | _, _, .cons r t => .cons (Dt.mono e _ _ r) (DpKT.mono e t)
theorem DpKT.length : ∀ {ks : List (List Key × V)} {es : List (List Key × D)}, DpKT K H ks es → ks.length = es.length
  | _, _, .nil => rfl
  | _, _, .cons _ t => by rw [List.length_cons, List.length_cons, t.length]

/-- a box: data that stands still (in G), a list or a dict of one's own (in H) -/
inductive RB (K : PySem.W.Frag) (G H : Hp) : V → Sl → List Addr → Prop
  | sh {v : V} {d : D} : Dt K G v d → RB K G H v (.sh d) []
  | ol {p : Addr} {vs : List V} {ds : List D} : H p = some (.lst vs) → DtAll K G vs ds → RB K G H (.ref p) (.ol ds) [p]
  | od {p : Addr} {ks : List (Key × V)} {es : List (Key × D)} : H p = some (.dK ks) → DpKV K G ks es → RB K G H (.ref p) (.od es) [p]
  | td {p : Addr} {ks : List (List Key × V)} {es : List (List Key × D)} : H p = some (.dT ks) → DpKT K G ks es → RB K G H (.ref p) (.td es) [p]
  | sc {p : Addr} {ns : List Int} : SqL K G p (ns.map V.int) → RB K G H (.ref p) (.sc ns) []
inductive RF (K : PySem.W.Frag) (G H : Hp) : List (Str × V) → List (Str × Sl) → List Addr → Prop
  | nil : RF K G H [] [] []
  | cons {f : Str} {v : V} {s : Sl} {o os : List Addr} {fs : List (Str × V)} {ss : List (Str × Sl)} : RB K G H v s o → RF K G H fs ss os → RF K G H ((f, v) :: fs) ((f, s) :: ss) (o ++ os)
inductive RI (K : PySem.W.Frag) (mg : Str → Option Value) (G H : Hp) : Option V → Sl → List Addr → Prop
  | no {ov : Option V} : RI K mg G H ov .no []
  | vw {v : V} {i : Nat} : RI K mg G H (some v) (.vw i) []
  | bx {v : V} {s : Sl} {o : List Addr} : RB K G H v s o → RI K mg G H (some v) s o
  | oi {c : Str} {C p dx : Addr} {fs : List (Str × V)} {ss : List (Str × Sl)} {o : List Addr} : mg c = some (.ref C) → H p = some (.ins C dx fs) → RF K G H fs ss o → RI K mg G H (some (.ref p)) (.oi c ss) (p :: o)
abbrev Item := Option V × Sl
inductive RL (K : PySem.W.Frag) (mg : Str → Option Value) (G H : Hp) : List Item → List Addr → Prop
  | nil : RL K mg G H [] []
  | cons {ov : Option V} {s : Sl} {o os : List Addr} {l : List Item} : RI K mg G H ov s o → RL K mg G H l os → RL K mg G H ((ov, s) :: l) (o ++ os)
/-- the heap bears the items: G what stands still -/
structure Rp (K : PySem.W.Frag) (mg : Str → Option Value) (G H : Hp) (l : List Item) (os : List Addr) : Prop where
  same : Same G H
  rl : RL K mg G H l os
  nd : os.Nodup
  off : ∀ a ∈ os, G a = none
def Rep (K : PySem.W.Frag) (mg : Str → Option Value) (H : Hp) (l : List Item) : Prop := ∃ G os, Rp K mg G H l os

variable {mg : Str → Option Value} {G G' : Hp} {l l' : List Item} {os : List Addr} {v : V} {s : Sl} {ov : Option V} {p : Addr}

theorem RB.mono (e : Same G G') (e' : ∀ a ∈ os, ∀ o, H a = some o → H' a = some o) (h : RB K G H v s os) : RB K G' H' v s os := by
  cases h with
  | sh d => exact .sh (Dt.mono e _ _ d)
  | ol hp ha => exact .ol (e' _ (by simp) _ hp) (DtAll.mono e _ _ ha)
  | od hp ha => exact .od (e' _ (by simp) _ hp) (ha.mono e)
  | td hp ha => exact .td (e' _ (by simp) _ hp) (ha.mono e)
  | sc hs => exact .sc (e.seq hs)
theorem RF.mono (e : Same G G') : ∀ {fs : List (Str × V)} {ss : List (Str × Sl)} {os : List Addr}, (∀ a ∈ os, ∀ o, H a = some o → H' a = some o) → RF K G H fs ss os → RF K G' H' fs ss os
  | _, _, _, _, .nil => .nil
  | _, _, _, e', .cons r t => .cons (r.mono e fun a ha => e' a (List.mem_append_left _ ha)) (RF.mono e (fun a ha => e' a (List.mem_append_right _ ha)) t)
theorem RI.mono (e : Same G G') (e' : ∀ a ∈ os, ∀ o, H a = some o → H' a = some o) (h : RI K mg G H ov s os) : RI K mg G' H' ov s os := by
  cases h with
  | no => exact .no
  | vw => exact .vw
  | bx b => exact .bx (b.mono e e')
  | oi hm hp hf => exact .oi hm (e' _ (by simp) _ hp) (hf.mono e fun a ha => e' a (List.mem_cons_of_mem _ ha))
theorem RL.mono (e : Same G G') : ∀ {l : List Item} {os : List Addr}, (∀ a ∈ os, ∀ o, H a = some o → H' a = some o) → RL K mg G H l os → RL K mg G' H' l os
  | _, _, _, .nil => .nil
  | _, _, e', .cons r t => .cons (r.mono e fun a ha => e' a (List.mem_append_left _ ha)) (RL.mono e (fun a ha => e' a (List.mem_append_right _ ha)) t)
/-- each address of one's own is known -/
theorem RB.there (h : RB K G H v s os) : ∀ a ∈ os, ∃ o, H a = some o := by
  cases h with
  | sh d => intro a ha; cases ha
  | ol hp ha => intro a ha; simp at ha; subst ha; exact ⟨_, hp⟩
  | od hp ha => intro a ha; simp at ha; subst ha; exact ⟨_, hp⟩
  | td hp ha => intro a ha; simp at ha; subst ha; exact ⟨_, hp⟩
  | sc _ => intro a ha; cases ha
theorem RF.there : ∀ {fs : List (Str × V)} {ss : List (Str × Sl)} {os : List Addr}, RF K G H fs ss os → ∀ a ∈ os, ∃ o, H a = some o
  | _, _, _, .nil, a, ha => by cases ha
  | _, _, _, .cons r t, a, ha => by
    rcases List.mem_append.mp ha with ha | ha
    · exact r.there a ha
    · exact RF.there t a ha
theorem RI.there (h : RI K mg G H ov s os) : ∀ a ∈ os, ∃ o, H a = some o := by
  cases h with
  | no => intro a ha; cases ha
  | vw => intro a ha; cases ha
  | bx b => exact b.there
  | oi hm hp hf =>
    intro a ha
    rcases List.mem_cons.mp ha with rfl | ha
    · exact ⟨_, hp⟩
    · exact hf.there a ha
theorem RL.there : ∀ {l : List Item} {os : List Addr}, RL K mg G H l os → ∀ a ∈ os, ∃ o, H a = some o
  | _, _, .nil, a, ha => by cases ha
  | _, _, .cons r t, a, ha => by
    rcases List.mem_append.mp ha with ha | ha
    · exact r.there a ha
    · exact RL.there t a ha
theorem RL.perm : ∀ {l l' : List Item}, l.Perm l' → ∀ {os : List Addr}, RL K mg G H l os → ∃ os', RL K mg G H l' os' ∧ os.Perm os' := by
  intro l l' hp
  induction hp with
  | nil => intro os h; exact ⟨os, h, .refl _⟩
  | cons x _ ih =>
    intro os h
    cases h with
    | cons r t =>
      obtain ⟨os', h', q⟩ := ih t
      exact ⟨_, .cons r h', q.append_left _⟩
  | swap x y l =>
    intro os h
    cases h with
    | cons r t =>
      cases t with
      | cons r2 t2 =>
        refine ⟨_, .cons r2 (.cons r t2), ?_⟩
        rw [← List.append_assoc, ← List.append_assoc]
        exact List.perm_append_comm.append_right _
  | trans _ _ ih1 ih2 =>
    intro os h
    obtain ⟨os1, h1, q1⟩ := ih1 h
    obtain ⟨os2, h2, q2⟩ := ih2 h1
    exact ⟨os2, h2, q1.trans q2⟩
theorem Rp.perm (h : Rp K mg G H l os) (hp : l.Perm l') : ∃ os', Rp K mg G H l' os' := by
  obtain ⟨os', r, q⟩ := h.rl.perm hp
  exact ⟨os', h.same, r, q.nodup_iff.mp h.nd, fun a ha => h.off a (q.mem_iff.mpr ha)⟩
theorem Rep.perm (h : Rep K mg H l) (hp : l.Perm l') : Rep K mg H l' := by
  obtain ⟨G, os, h⟩ := h
  obtain ⟨os', h'⟩ := h.perm hp
  exact ⟨G, os', h'⟩
/-- an item less -/
theorem Rp.tail {it : Item} (h : Rp K mg G H (it :: l) os) : ∃ os', Rp K mg G H l os' := by
  obtain ⟨s, r, n, f⟩ := h
  cases r with
  | cons r t => exact ⟨_, s, t, (List.nodup_append.mp n).2.1, fun a ha => f a (List.mem_append_right _ ha)⟩
theorem Rep.tail {it : Item} (h : Rep K mg H (it :: l)) : Rep K mg H l := by
  obtain ⟨G, os, h⟩ := h
  obtain ⟨os', h'⟩ := h.tail
  exact ⟨G, os', h'⟩
/-- an item that has nothing of its own -/
theorem Rp.push (h : Rp K mg G H l os) (r : RI K mg G H ov s []) : Rp K mg G H ((ov, s) :: l) os := by
  refine ⟨h.same, ?_, h.nd, h.off⟩
  have := RL.cons r h.rl
  simpa using this
theorem Rep.no (h : Rep K mg H l) (ov : Option V) : Rep K mg H ((ov, .no) :: l) := by
  obtain ⟨G, os, h⟩ := h
  exact ⟨G, os, h.push .no⟩
theorem Rp.sh (h : Rp K mg G H l os) {d : D} (r : Dt K G v d) : Rp K mg G H ((some v, .sh d) :: l) os := h.push (.bx (.sh r))
/-- a new object that stands still from now on -/
theorem Rp.still {o : HO} (h : Rp K mg G H l os) (hp : H p = none) : Rp K mg (upd G p o) (upd H p o) l os := by
  have gp : G p = none := h.same.free hp
  have hne : ∀ a ∈ os, a ≠ p := fun a ha e => by
    obtain ⟨u, hu⟩ := h.rl.there a ha
    rw [e, hp] at hu; cases hu
  have sG : Same G (upd G p o) := fun b x e => by rw [upd_ne (ne_of_none e gp)]; exact e
  refine ⟨fun b x e => ?_, h.rl.mono sG (fun a ha x e => by rw [upd_ne (hne a ha)]; exact e), h.nd, fun a ha => by rw [upd_ne (hne a ha)]; exact h.off a ha⟩
  by_cases hb : b = p
  · subst hb; rw [upd_same] at e ⊢; exact e
  · rw [upd_ne hb] at e ⊢; exact h.same b x e
theorem sameG {o : HO} (gp : G p = none) : Same G (upd G p o) := fun b x e => by rw [upd_ne (ne_of_none e gp)]; exact e
/-- a new object of one's own -/
theorem Rp.new {o : HO} (h : Rp K mg G H l os) (hp : H p = none) (r : ∀ H', H' p = some o → RI K mg G H' (some (.ref p)) s [p]) : Rp K mg G (upd H p o) ((some (.ref p), s) :: l) (p :: os) := by
  have gp : G p = none := h.same.free hp
  have hne : ∀ a ∈ os, a ≠ p := fun a ha e => by
    obtain ⟨u, hu⟩ := h.rl.there a ha
    rw [e, hp] at hu; cases hu
  refine ⟨fun b x e => by rw [upd_ne (ne_of_none e gp)]; exact h.same b x e, ?_, List.nodup_cons.mpr ⟨fun ha => hne p ha rfl, h.nd⟩, fun a ha => ?_⟩
  · exact RL.cons (r _ upd_same) (h.rl.mono (fun _ _ q => q) fun a ha x e => by rw [upd_ne (hne a ha)]; exact e)
  · rcases List.mem_cons.mp ha with rfl | ha
    · exact gp
    · exact h.off a ha
/-- an unknown object is written that no item holds (a list under making) -/
theorem Rp.newOl {vs : List V} {ds : List D} (h : Rp K mg G H l os) (hp : H p = none) (ha : DtAll K G vs ds) : Rp K mg G (upd H p (.lst vs)) ((some (.ref p), .ol ds) :: l) (p :: os) :=
  h.new hp fun H' e => .bx (.ol e ha)
/-- a list of one's own is changed -/
theorem Rp.mut {o : HO} {s' : Sl} (h : Rp K mg G H ((some (.ref p), s) :: l) os) (hs : ∀ q, RI K mg G H (some (.ref p)) s q → q = [p]) (r : ∀ H', H' p = some o → RI K mg G H' (some (.ref p)) s' [p]) :
    Rp K mg G (upd H p o) ((some (.ref p), s') :: l) os := by
  obtain ⟨sm, rl, n, f⟩ := h
  cases rl with
  | cons ri t =>
    have e := hs _ ri
    subst e
    have gp : G p = none := f p (by simp)
    have n2 : p ∉ _ ∧ _ := List.nodup_cons.mp (by simpa using n)
    refine ⟨fun b x e => by rw [upd_ne (ne_of_none e gp)]; exact sm b x e, ?_, n, f⟩
    exact RL.cons (r _ upd_same) (t.mono (fun _ _ q => q) fun a ha x e => by rw [upd_ne (fun z => n2.1 (by rw [← z]; exact ha))]; exact e)
theorem ol_own {ds : List D} : ∀ q, RI K mg G H (some (.ref p)) (.ol ds) q → q = [p] := fun q h => by
  cases h with
  | bx b => cases b with
    | ol _ _ => rfl
theorem od_own {ds : List (Key × D)} : ∀ q, RI K mg G H (some (.ref p)) (.od ds) q → q = [p] := fun q h => by
  cases h with
  | bx b => cases b with
    | od _ _ => rfl
theorem td_own {ds : List (List Key × D)} : ∀ q, RI K mg G H (some (.ref p)) (.td ds) q → q = [p] := fun q h => by
  cases h with
  | bx b => cases b with
    | td _ _ => rfl
/-- a list of one's own stands still from now on -/
theorem Rp.freeze {ds : List D} (h : Rp K mg G H ((ov, .ol ds) :: l) os) : ∃ G' v, ov = some v ∧ Same G G' ∧ Dt K G' v (.list ds) ∧ ∃ os', Rp K mg G' H ((ov, .sh (.list ds)) :: l) os' := by
  obtain ⟨sm, rl, n, f⟩ := h
  cases rl with
  | cons ri t =>
    cases ri with
    | bx b =>
      cases b with
      | @ol p vs ds hp ha =>
        have gp : G p = none := f p (by simp)
        have n2 : p ∉ _ ∧ _ := List.nodup_cons.mp (by simpa using n)
        have sG : Same G (upd G p (.lst vs)) := sameG gp
        have dd : Dt K (upd G p (.lst vs)) (.ref p) (.list ds) := Dt.lst upd_same (DtAll.mono sG _ _ ha)
        refine ⟨upd G p (.lst vs), .ref p, rfl, sG, dd, _, Rp.sh ⟨fun b x e => ?_, t.mono sG (fun a ha x e => e), n2.2, fun a ha => ?_⟩ dd⟩
        · by_cases hb : b = p
          · subst hb; rw [upd_same] at e; rw [hp]; exact e
          · rw [upd_ne hb] at e; exact sm b x e
        · rw [upd_ne (fun z => n2.1 (by rw [← z]; exact ha))]; exact f a (List.mem_append_right _ ha)
theorem Rep.freeze {ds : List D} (h : Rep K mg H ((ov, .ol ds) :: l)) : Rep K mg H ((ov, .sh (.list ds)) :: l) := by
  obtain ⟨G, os, h⟩ := h
  obtain ⟨G', _, _, _, _, os', h'⟩ := h.freeze
  exact ⟨G', os', h'⟩
theorem Rp.shOf {d : D} (h : Rp K mg G H l os) (hm : (ov, .sh d) ∈ l) : ∃ v, ov = some v ∧ Dt K G v d := by
  have key : ∀ {l : List Item} {os : List Addr}, RL K mg G H l os → (ov, Sl.sh d) ∈ l → ∃ v, ov = some v ∧ Dt K G v d := by
    intro l os r
    induction r with
    | nil => intro h; cases h
    | cons ri t ih =>
      intro h
      rcases List.mem_cons.mp h with e | h
      · cases e
        cases ri with
        | bx b => cases b with
          | sh d => exact ⟨_, rfl, d⟩
      · exact ih h
  exact key h.rl hm
theorem Rp.someOf (h : Rp K mg G H l os) (hm : (ov, s) ∈ l) (hn : s ≠ .no) : ∃ v, ov = some v := by
  have key : ∀ {l : List Item} {os : List Addr}, RL K mg G H l os → (ov, s) ∈ l → ∃ v, ov = some v := by
    intro l os r
    induction r with
    | nil => intro h; cases h
    | cons ri t ih =>
      intro h
      rcases List.mem_cons.mp h with e | h
      · cases e
        cases ri with
        | no => exact absurd rfl hn
        | vw => exact ⟨_, rfl⟩
        | bx b => exact ⟨_, rfl⟩
        | oi _ _ _ => exact ⟨_, rfl⟩
      · exact ih h
  exact key h.rl hm
end
end FL

/-! FL2: readings as functions: expressions -/
namespace FL
open PySem PySem.Spec PyProof.Rows L2

/-! ### the frame's items -/
theorem zip_perm : ∀ {σ : List (Option V)} {env : Lo} {i : Nat} {ov : Option V} {s : Sl}, σ[i]? = some ov → env[i]? = some s →
    ∃ R : List Item, (σ.zip env).Perm ((ov, s) :: R) ∧ (∀ ov' s', ((σ.set i ov').zip (env.set i s')).Perm ((ov', s') :: R)) ∧ ∀ s', (σ.zip (env.set i s')).Perm ((ov, s') :: R)
  | [], _, _, _, _, h, _ => by simp at h
  | _ :: _, [], _, _, _, _, h => by simp at h
  | a :: σ, b :: env, 0, ov, s, h1, h2 => by
    simp at h1 h2; subst h1; subst h2
    exact ⟨σ.zip env, .refl _, fun _ _ => .refl _, fun _ => .refl _⟩
  | a :: σ, b :: env, i + 1, ov, s, h1, h2 => by
    obtain ⟨R, p1, p2, p3⟩ := zip_perm (σ := σ) (env := env) (i := i) (ov := ov) (s := s) (by simpa using h1) (by simpa using h2)
    refine ⟨(a, b) :: R, ?_, fun ov' s' => ?_, fun s' => ?_⟩
    · exact (p1.cons _).trans (.swap _ _ _)
    · exact ((p2 ov' s').cons _).trans (.swap _ _ _)
    · exact ((p3 s').cons _).trans (.swap _ _ _)
theorem mem_zip : ∀ {σ : List (Option V)} {env : Lo} {i : Nat} {ov : Option V} {s : Sl}, σ[i]? = some ov → env[i]? = some s → (ov, s) ∈ σ.zip env
  | [], _, _, _, _, h, _ => by simp at h
  | _ :: _, [], _, _, _, _, h => by simp at h
  | a :: σ, b :: env, 0, ov, s, h1, h2 => by
    simp at h1 h2; subst h1; subst h2; simp
  | a :: σ, b :: env, i + 1, ov, s, h1, h2 => by
    rw [List.zip_cons_cons]
    exact List.mem_cons_of_mem _ (mem_zip (by simpa using h1) (by simpa using h2))

structure Hold (K : PySem.W.Frag) (mg : Str → Option Value) (H : Hp) (σ : L2.St) (env : Lo) (l : List Item) : Prop where
  len : σ.length = env.length
  rep : Rep K mg H (σ.zip env ++ l)
def VwOk (σ : L2.St) (v : V) (r : Sl) : Prop := ∀ i, r = .vw i → σ[i]? = some (some v)
structure HoldV (K : PySem.W.Frag) (mg : Str → Option Value) (H : Hp) (σ : L2.St) (env : Lo) (l : List Item) (v : V) (r : Sl) : Prop where
  len : σ.length = env.length
  rep : Rep K mg H ((some v, r) :: (σ.zip env ++ l))
  vw : VwOk σ v r

section
variable {K : PySem.W.Frag} {mg : Str → Option Value} {G H H' : Hp} {σ : L2.St} {env : Lo} {l L : List Item} {os : List Addr} {v : V} {r s : Sl} {i : Nat} {ov : Option V}
theorem slot_at (h : σ.length = env.length) (e : env[i]? = some s) : ∃ ov, σ[i]? = some ov := by
  have hi : i < env.length := (List.getElem?_eq_some_iff.mp e).1
  exact ⟨σ[i]'(by omega), List.getElem?_eq_getElem (by omega)⟩
/-- a slot's item is taken out -/
theorem Hold.take (h : Hold K mg H σ env l) (e : env[i]? = some s) : ∃ ov, σ[i]? = some ov ∧ Rep K mg H ((ov, s) :: (σ.zip (env.set i .no) ++ l)) := by
  obtain ⟨ov, e1⟩ := slot_at h.len e
  obtain ⟨R, p1, _, p3⟩ := zip_perm e1 e
  refine ⟨ov, e1, ?_⟩
  have q : Rep K mg H ((ov, s) :: (R ++ l)) := h.rep.perm (p1.append_right l)
  have q2 : Rep K mg H ((ov, .no) :: ((ov, s) :: (R ++ l))) := q.no ov
  refine q2.perm ?_
  refine (List.Perm.swap _ _ _).trans (List.Perm.cons _ ?_)
  exact ((p3 .no).append_right l).symm
/-- .. and put back -/
theorem Rep.put (h : Rep K mg H ((ov, s) :: (σ.zip env ++ l))) (hl : σ.length = env.length) (e : σ[i]? = some ov) : Rep K mg H (σ.zip (env.set i s) ++ l) := by
  have hi : i < σ.length := (List.getElem?_eq_some_iff.mp e).1
  have e2 : env[i]? = some (env[i]'(by omega)) := List.getElem?_eq_getElem (by omega)
  obtain ⟨R, p1, _, p3⟩ := zip_perm e e2
  have q : Rep K mg H ((ov, env[i]'(by omega)) :: ((ov, s) :: (R ++ l))) := h.perm (((p1.append_right l).cons _).trans (.swap _ _ _))
  exact q.tail.perm ((p3 s).append_right l).symm
/-- a slot gets a value -/
theorem Rep.asg (h : Rep K mg H ((some v, r) :: (σ.zip env ++ l))) (hl : σ.length = env.length) (hi : i < env.length) : Rep K mg H ((σ.set i (some v)).zip (env.set i r) ++ l) := by
  have e1 : σ[i]? = some (σ[i]'(by omega)) := List.getElem?_eq_getElem (by omega)
  have e2 : env[i]? = some (env[i]'(by omega)) := List.getElem?_eq_getElem (by omega)
  obtain ⟨R, p1, p2, _⟩ := zip_perm e1 e2
  have q : Rep K mg H ((σ[i]'(by omega), env[i]'(by omega)) :: ((some v, r) :: (R ++ l))) := h.perm (((p1.append_right l).cons _).trans (.swap _ _ _))
  exact q.tail.perm ((p2 _ r).append_right l).symm
theorem Hold.more {it : Item} (h : Hold K mg H σ env (it :: l)) : Hold K mg H σ env l := ⟨h.len, by
  have : Rep K mg H (it :: (σ.zip env ++ l)) := h.rep.perm List.perm_middle
  exact this.tail⟩
theorem HoldV.hold (h : HoldV K mg H σ env l v r) : Hold K mg H σ env ((some v, r) :: l) := ⟨h.len, h.rep.perm List.perm_middle.symm⟩
theorem HoldV.drop (h : HoldV K mg H σ env l v r) : Hold K mg H σ env l := ⟨h.len, h.rep.tail⟩
theorem Hold.toV (h : Hold K mg H σ env ((some v, r) :: l)) (hv : VwOk σ v r) : HoldV K mg H σ env l v r := ⟨h.len, h.rep.perm List.perm_middle, hv⟩

/-! ### what a value is worth now -/
def view (env : Lo) : Sl → Option D
  | .sh d => some d
  | .ol ds => some (.list ds)
  | .vw i => match env[i]? with
    | some (.ol ds) => some (.list ds)
    | _ => none
  | _ => none
/-- data; a list of one's own above data -/
def DpT (K : PySem.W.Frag) (G H : Hp) (v : V) (d : D) : Prop := Dt K G v d ∨ ∃ p vs ds, v = .ref p ∧ d = .list ds ∧ H p = some (.lst vs) ∧ DtAll K G vs ds
theorem DpT.list {ds : List D} (sm : Same G H) (h : DpT K G H v (.list ds)) : ∃ p vs, v = .ref p ∧ H p = some (.lst vs) ∧ DtAll K G vs ds := by
  rcases h with h | ⟨p, vs, ds', rfl, e, hp, ha⟩
  · cases h with
    | lst hs ha => exact ⟨_, _, rfl, sm _ _ hs, ha⟩
  · cases e
    exact ⟨p, vs, rfl, hp, ha⟩
theorem DpT.tuple {ds : List D} (sm : Same G H) (h : DpT K G H v (.tuple ds)) : ∃ p vs, v = .ref p ∧ SqT K H p vs ∧ DtAll K G vs ds := by
  rcases h with h | ⟨p, vs, ds', rfl, e, hp, ha⟩
  · cases h with
    | tup hs ha => exact ⟨_, _, rfl, .of (sm _ _ hs), ha⟩
  · cases e
theorem DpT.int {n : Int} (h : DpT K G H v (.int n)) : v = .int n := by
  rcases h with h | ⟨p, vs, ds', rfl, e, hp, ha⟩
  · cases h; rfl
  · cases e
theorem DpT.str {x : Str} (h : DpT K G H v (.str x)) : v = .str x := by
  rcases h with h | ⟨p, vs, ds', rfl, e, hp, ha⟩
  · cases h; rfl
  · cases e
theorem DpT.bool {b : Bool} (h : DpT K G H v (.bool b)) : v = .bl b := by
  rcases h with h | ⟨p, vs, ds', rfl, e, hp, ha⟩
  · cases h; rfl
  · cases e
theorem DpT.none (h : DpT K G H v .none) : v = .non := by
  rcases h with h | ⟨p, vs, ds', rfl, e, hp, ha⟩
  · cases h; rfl
  · cases e
theorem DpT.dp {d : D} (sm : Same G H) (h : DpT K G H v d) : Dt K H v d := by
  rcases h with h | ⟨p, vs, ds', rfl, rfl, hp, ha⟩
  · exact Dt.mono sm _ _ h
  · exact .lst hp (DtAll.mono sm _ _ ha)
theorem RI.ol_inv {ds : List D} (h : RI K mg G H ov (.ol ds) os) : ∃ p vs, ov = some (.ref p) ∧ os = [p] ∧ H p = some (.lst vs) ∧ DtAll K G vs ds := by
  cases h with
  | bx b => cases b with
    | ol hp ha => exact ⟨_, _, rfl, rfl, hp, ha⟩
theorem RL.mem (h : RL K mg G H L os) (hm : (ov, s) ∈ L) : ∃ o, RI K mg G H ov s o := by
  induction h with
  | nil => cases hm
  | cons ri t ih =>
    rcases List.mem_cons.mp hm with e | hm
    · cases e; exact ⟨_, ri⟩
    · exact ih hm
theorem Rp.view (h : Rp K mg G H L os) (hm : (some v, r) ∈ L) (hz : ∀ it ∈ σ.zip env, it ∈ L) (hv : VwOk σ v r) {d : D} (e : view env r = some d) : DpT K G H v d := by
  cases r with
  | no => cases e
  | sh d' =>
    cases e
    obtain ⟨v', e', q⟩ := h.shOf hm
    cases e'
    exact .inl q
  | ol ds =>
    cases e
    obtain ⟨o, q⟩ := h.rl.mem hm
    obtain ⟨p, vs, e', _, hp, ha⟩ := q.ol_inv
    cases e'
    exact .inr ⟨p, vs, ds, rfl, rfl, hp, ha⟩
  | od _ => cases e
  | td _ => cases e
  | oi _ _ => cases e
  | sc _ => cases e
  | vw i =>
    have e1 := hv i rfl
    have e : (match env[i]? with | some (Sl.ol ds) => some (PyData.list ds) | _ => Option.none) = some d := e
    split at e
    · rename_i ds e2
      cases e
      obtain ⟨o, q⟩ := h.rl.mem (hz _ (mem_zip e1 e2))
      obtain ⟨p, vs, e', _, hp, ha⟩ := q.ol_inv
      cases e'
      exact .inr ⟨p, vs, ds, rfl, rfl, hp, ha⟩
    · cases e

/-! ### new objects -/
inductive Grow (G H : Hp) : Hp → Hp → Prop
  | refl : Grow G H G H
  | step {G1 H1 : Hp} {p : Addr} {o : HO} : Grow G H G1 H1 → H1 p = Option.none → Grow G H (upd G1 p o) (upd H1 p o)
theorem Grow.trans {G1 H1 G2 H2 : Hp} (a : Grow G H G1 H1) (b : Grow G1 H1 G2 H2) : Grow G H G2 H2 := by
  induction b with
  | refl => exact a
  | step _ hp ih => exact .step ih hp
theorem Rp.grow {G' : Hp} (h : Rp K mg G H L os) (g : Grow G H G' H') : Rp K mg G' H' L os := by
  induction g with
  | refl => exact h
  | step _ hp ih => exact ih.still hp
theorem Grow.same {G' : Hp} (sm : Same G H) (g : Grow G H G' H') : Same G G' ∧ Same H H' ∧ Same G' H' := by
  induction g with
  | refl => exact ⟨.refl _, .refl _, sm⟩
  | @step G1 H1 p o _ hp ih =>
    obtain ⟨a, b, c⟩ := ih
    have gp : G1 p = Option.none := c.free hp
    refine ⟨a.trans (sameG gp), b.trans (sameG hp), fun x y e => ?_⟩
    by_cases hx : x = p
    · subst hx; rw [upd_same] at e ⊢; exact e
    · rw [upd_ne hx] at e ⊢; exact c x y e
/-- a pure operation's answer -/
inductive Got (K : PySem.W.Frag) (G H : Hp) : V → Sl → Hp → Prop
  | sh {v : V} {d : D} {G' H' : Hp} : Grow G H G' H' → Dt K G' v d → Got K G H v (.sh d) H'
  | ol {p : Addr} {vs : List V} {ds : List D} {G1 H1 : Hp} : Grow G H G1 H1 → H1 p = Option.none → DtAll K G1 vs ds → Got K G H (.ref p) (.ol ds) (upd H1 p (.lst vs))
theorem Got.now {d : D} (h : Dt K G v d) : Got K G H v (.sh d) H := .sh .refl h
theorem Got.newL {p : Addr} {vs : List V} {ds : List D} (hp : H p = Option.none) (h : DtAll K G vs ds) : Got K G H (.ref p) (.ol ds) (upd H p (.lst vs)) := .ol .refl hp h
theorem Got.newT {p : Addr} {vs : List V} {ds : List D} (sm : Same G H) (hp : H p = Option.none) (h : DtAll K G vs ds) : Got K G H (.ref p) (.sh (.tuple ds)) (upd H p (.tup vs)) :=
  .sh (.step .refl hp) (Dt.tup upd_same (DtAll.mono (sameG (sm.free hp)) _ _ h))
theorem Rp.got (h : Rp K mg G H L os) (g : Got K G H v s H') : Rep K mg H' ((some v, s) :: L) := by
  cases g with
  | sh g d => exact ⟨_, _, (h.grow g).sh d⟩
  | ol g hp d => exact ⟨_, _, (h.grow g).newOl hp d⟩
theorem Got.novw (g : Got K G H v s H') : VwOk σ v s := by
  intro i e
  cases g with
  | sh _ _ => cases e
  | ol _ _ _ => cases e
end

/-! ### the judgements -/
abbrev EvF := Lo → Res (Sl × Lo)
abbrev EvT := Lo → Res (Bool × Lo)
abbrev EvA := Lo → Res (List Sl × Lo)
def SemE (K : PySem.W.Frag) (mg : Str → Option Value) (t : TE) (f : EvF) : Prop :=
  ∀ (σ : L2.St) (H : Hp) (env : Lo) (l : List Item) (r : Sl) (env' : Lo), Hold K mg H σ env l → f env = .ok (r, env') → ∀ Q : VK, (∀ v H', HoldV K mg H' σ env' l v r → Q v H') → t σ H Q
def SemT (K : PySem.W.Frag) (mg : Str → Option Value) (t : TT) (f : EvT) : Prop :=
  ∀ (σ : L2.St) (H : Hp) (env : Lo) (l : List Item) (b : Bool) (env' : Lo), Hold K mg H σ env l → f env = .ok (b, env') → ∀ Q : Bool → Hp → Prop, (∀ H', Hold K mg H' σ env' l → Q b H') → t σ H Q
/-- arguments, from the left -/
structure HoldA (K : PySem.W.Frag) (mg : Str → Option Value) (H : Hp) (σ : L2.St) (env : Lo) (l : List Item) (vs : List V) (rs : List Sl) : Prop where
  len : σ.length = env.length
  rep : Rep K mg H ((vs.map some).zip rs ++ (σ.zip env ++ l))
  alen : vs.length = rs.length
  vw : ∀ (k : Nat) (v : V) (r : Sl), vs[k]? = some v → rs[k]? = some r → VwOk σ v r
def SemA (K : PySem.W.Frag) (mg : Str → Option Value) (t : TA) (f : EvA) : Prop :=
  ∀ (σ : L2.St) (H : Hp) (env : Lo) (l : List Item) (rs : List Sl) (env' : Lo), Hold K mg H σ env l → f env = .ok (rs, env') → ∀ Q : List V → Hp → Prop, (∀ vs H', HoldA K mg H' σ env' l vs rs → Q vs H') → t σ H Q
structure SE (X : Cx) (e : Expr) (f : EvF) : Prop where
  ex : ∃ t, PE X e t ∧ SemE X.K X.mg t f
structure ST (X : Cx) (e : Expr) (f : EvT) : Prop where
  ex : ∃ t, PT X e t ∧ SemT X.K X.mg t f
structure SW (X : Cx) (e : Expr) (f : EvT) : Prop where
  ex : ∃ t, PW X e t ∧ SemT X.K X.mg t f
structure SA (X : Cx) (es : List Expr) (f : EvA) : Prop where
  ex : ∃ t, PA X es t ∧ SemA X.K X.mg t f

/-! ### names and constants -/
def fVar (i : Nat) : EvF := fun env => match env[i]? with
  | some (.sh d) => .ok (.sh d, env)
  | some (.ol _) => .ok (.vw i, env)
  | some (.od _) => .ok (.vw i, env)
  | some (.oi _ _) => .ok (.vw i, env)
  | some (.sc ns) => .ok (.sc ns, env)
  | _ => .bad
theorem sem_var {K : PySem.W.Frag} {mg : Str → Option Value} {i : Nat} : SemE K mg (tVar i) (fVar i) := by
  intro σ H env l r env' h e Q q
  have key : ∀ s, env[i]? = some s → s ≠ .no → ∃ v, σ[i]? = some (some v) ∧ (some v, s) ∈ σ.zip env := fun s e2 hn => by
    obtain ⟨ov, e1⟩ := slot_at h.len e2
    obtain ⟨G, os, rp⟩ := h.rep
    obtain ⟨v, hv⟩ := rp.someOf (List.mem_append_left _ (mem_zip e1 e2)) hn
    subst hv
    exact ⟨v, e1, mem_zip e1 e2⟩
  unfold fVar at e
  split at e
  · rename_i d e2
    cases e
    obtain ⟨v, e1, hm⟩ := key _ e2 (by intro z; cases z)
    refine ⟨v, e1, q v H ⟨h.len, ?_, fun _ z => by cases z⟩⟩
    obtain ⟨G, os, rp⟩ := h.rep
    obtain ⟨v', e', d'⟩ := rp.shOf (List.mem_append_left _ hm)
    cases e'
    exact ⟨G, os, rp.sh d'⟩
  case h_5 =>
    rename_i ns e2
    cases e
    obtain ⟨v, e1, hm⟩ := key _ e2 (by intro z; cases z)
    refine ⟨v, e1, q v H ⟨h.len, ?_, fun _ z => by cases z⟩⟩
    obtain ⟨G, os, rp⟩ := h.rep
    obtain ⟨o, ri⟩ := rp.rl.mem (List.mem_append_left _ hm)
    cases ri with
    | bx b => cases b with
      | sc hs => exact ⟨G, os, rp.push (.bx (.sc hs))⟩
  all_goals first
    | (rename_i e2
       cases e
       obtain ⟨v, e1, hm⟩ := key _ e2 (by intro z; cases z)
       refine ⟨v, e1, q v H ⟨h.len, ?_, fun j z => by cases z; exact e1⟩⟩
       obtain ⟨G, os, rp⟩ := h.rep
       exact ⟨G, os, rp.push .vw⟩)
    | (cases e)
def fC (d : D) : EvF := fun env => .ok (.sh d, env)
theorem sem_c {K : PySem.W.Frag} {mg : Str → Option Value} {v : V} {d : D} (hd : ∀ G, Dt K G v d) : SemE K mg (tC v) (fC d) := by
  intro σ H env l r env' h e Q q
  cases e
  obtain ⟨G, os, rp⟩ := h.rep
  exact q v H ⟨h.len, ⟨G, os, rp.sh (hd G)⟩, fun _ z => by cases z⟩
section
variable {X : Cx} {pos : Pos}
theorem se_v (i : Nat) {x : Str} (hN : X.N[i]? = some x := by rfl) (hv : Vis X.env.scope x := by first | exact Or.inl rfl | exact Or.inr (Or.inl rfl) | exact Or.inr (Or.inr rfl)) (hd : (x == ("__debug__" : Str)) = false := by decide)
    (hcd : (x == ("__classdict__" : Str)) = false := by decide) : SE X (.Name x pos) (fVar i) := ⟨_, pe_var hN hv hd hcd, sem_var⟩
theorem se_int {i j} : SE X (.Constant (.int i) j pos) (fC (.int i)) := ⟨_, pe_int, sem_c fun _ => .int i⟩
theorem se_bl {b j} : SE X (.Constant (.bool b) j pos) (fC (.bool b)) := ⟨_, pe_bl, sem_c fun _ => .bl b⟩
theorem se_non {j} : SE X (.Constant .none j pos) (fC .none) := ⟨_, pe_non, sem_c fun _ => .non⟩
theorem se_str {x j} : SE X (.Constant (.str x) j pos) (fC (.str x)) := ⟨_, pe_str, sem_c fun _ => .str x⟩
end

/-! ### operations by values -/
def SemOp (K : PySem.W.Frag) (r : R2) (op : D → D → Option Sl) : Prop :=
  ∀ (G H : Hp) (x y : V) (dx dy : D) (s : Sl) (Q : VK), Same G H → DpT K G H x dx → DpT K G H y dy → op dx dy = some s → (∀ v H', Got K G H v s H' → Q v H') → r x y H Q
def fOp (op : D → D → Option Sl) (fa fb : EvF) : EvF := fun env => do
  let (ra, e1) ← fa env
  let (rb, e2) ← fb e1
  let a ← Res.ofO (view e2 ra)
  let b ← Res.ofO (view e2 rb)
  let s ← Res.ofO (op a b)
  .ok (s, e2)
theorem sem_op {K : PySem.W.Frag} {mg : Str → Option Value} {r : R2} {op : D → D → Option Sl} {ta tb : TE} {fa fb : EvF} (ho : SemOp K r op) (ha : SemE K mg ta fa) (hb : SemE K mg tb fb) : SemE K mg (tOp r ta tb) (fOp op fa fb) := by
  intro σ H env l s env' h e Q q
  unfold fOp at e
  obtain ⟨⟨ra, e1⟩, ea, e⟩ := Res.bind_ok e
  obtain ⟨⟨rb, e2⟩, eb, e⟩ := Res.bind_ok e
  obtain ⟨a, va, e⟩ := Res.bind_ok e
  obtain ⟨b, vb, e⟩ := Res.bind_ok e
  obtain ⟨s', es, e⟩ := Res.bind_ok e
  cases e
  have va := Res.ofO_ok va
  have vb := Res.ofO_ok vb
  have es := Res.ofO_ok es
  refine ha σ H env l ra e1 h ea _ fun x H1 h1 => ?_
  refine hb σ H1 e1 _ rb _ h1.hold eb _ fun y H2 h2 => ?_
  obtain ⟨G, os, rp⟩ := h2.rep
  have dx : DpT K G H2 x a := rp.view (σ := σ) (List.mem_cons_of_mem _ (List.mem_append_right _ List.mem_cons_self)) (fun it hi => List.mem_cons_of_mem _ (List.mem_append_left _ hi)) h1.vw va
  have dy : DpT K G H2 y b := rp.view (σ := σ) List.mem_cons_self (fun it hi => List.mem_cons_of_mem _ (List.mem_append_left _ hi)) h2.vw vb
  refine ho G H2 x y a b s Q rp.same dx dy es fun v H3 g => q v H3 ⟨h2.len, ?_, g.novw⟩
  have h3 := h2.drop.more
  have : Rep K mg H3 ((some v, s) :: ((some y, rb) :: (σ.zip env' ++ (some x, ra) :: l))) := rp.got g
  have p : ((some v, s) :: ((some y, rb) :: (σ.zip env' ++ (some x, ra) :: l))).Perm ((some y, rb) :: (some x, ra) :: (some v, s) :: (σ.zip env' ++ l)) := by
    refine (List.Perm.swap _ _ _).trans (List.Perm.cons _ ?_)
    exact ((List.perm_middle (l₁ := σ.zip env')).cons _).trans (.swap _ _ _)
  exact (this.perm p).tail.tail
theorem SemOp.or {K : PySem.W.Frag} {r r' : R2} {op op' : D → D → Option Sl} (h : SemOp K r op) (h' : SemOp K r' op') : SemOp K (fun x y H Q => r x y H Q ∨ r' x y H Q) (fun a b => (op a b).orElse fun _ => op' a b) := by
  intro G H x y dx dy s Q sm a b e q
  have e : ((op dx dy).orElse fun _ => op' dx dy) = some s := e
  cases e1 : op dx dy with
  | some s' =>
    rw [e1] at e; cases e
    exact .inl (h G H x y dx dy s Q sm a b e1 q)
  | none =>
    rw [e1] at e
    exact .inr (h' G H x y dx dy s Q sm a b e q)
/-- one operand -/
def fOp1 (op : D → Option Sl) (fa : EvF) : EvF := fun env => do
  let (ra, e1) ← fa env
  let a ← Res.ofO (view e1 ra)
  let s ← Res.ofO (op a)
  .ok (s, e1)
/-- by values, one operand -/
def SemU (K : PySem.W.Frag) (r : V → Hp → VK → Prop) (op : D → Option Sl) : Prop :=
  ∀ (G H : Hp) (x : V) (dx : D) (s : Sl) (Q : VK), Same G H → DpT K G H x dx → op dx = some s → (∀ v H', Got K G H v s H' → Q v H') → r x H Q
theorem sem_un {K : PySem.W.Frag} {mg : Str → Option Value} {r : V → Hp → VK → Prop} {op : D → Option Sl} {ta : TE} {fa : EvF} (ho : SemU K r op) (ha : SemE K mg ta fa) : SemE K mg (fun σ H Q => ta σ H fun x H1 => r x H1 Q) (fOp1 op fa) := by
  intro σ H env l s env' h e Q q
  unfold fOp1 at e
  obtain ⟨⟨ra, e1⟩, ea, e⟩ := Res.bind_ok e
  obtain ⟨a, va, e⟩ := Res.bind_ok e
  obtain ⟨s', es, e⟩ := Res.bind_ok e
  cases e
  have va := Res.ofO_ok va
  have es := Res.ofO_ok es
  refine ha σ H env l ra _ h ea _ fun x H1 h1 => ?_
  obtain ⟨G, os, rp⟩ := h1.rep
  refine ho G H1 x a s Q rp.same (rp.view (σ := σ) List.mem_cons_self (fun it hi => List.mem_cons_of_mem _ (List.mem_append_left _ hi)) h1.vw va) es fun v H3 g => q v H3 ⟨h1.len, ?_, g.novw⟩
  exact ((rp.got g).perm (.swap _ _ _)).tail

/-! ### arguments -/
def fNil : EvA := fun env => .ok ([], env)
def fCons (fa : EvF) (fr : EvA) : EvA := fun env => do
  let (r, e1) ← fa env
  let (rs, e2) ← fr e1
  .ok (r :: rs, e2)
theorem sem_nil {K : PySem.W.Frag} {mg : Str → Option Value} : SemA K mg tNil fNil := by
  intro σ H env l rs env' h e Q q
  cases e
  exact q [] H ⟨h.len, h.rep, rfl, fun k v r e => by simp at e⟩
theorem sem_cons {K : PySem.W.Frag} {mg : Str → Option Value} {ta : TE} {tr : TA} {fa : EvF} {fr : EvA} (ha : SemE K mg ta fa) (hr : SemA K mg tr fr) : SemA K mg (tCons ta tr) (fCons fa fr) := by
  intro σ H env l rs env' h e Q q
  unfold fCons at e
  obtain ⟨⟨ra, e1⟩, ea, e⟩ := Res.bind_ok e
  obtain ⟨⟨rb, e2⟩, eb, e⟩ := Res.bind_ok e
  cases e
  refine ha σ H env l ra e1 h ea _ fun x H1 h1 => ?_
  refine hr σ H1 e1 _ rb _ h1.hold eb _ fun ys H2 h2 => q (x :: ys) H2 ⟨h2.len, ?_, by simp [h2.alen], fun k v r e1 e2 => ?_⟩
  · rw [List.map_cons, List.zip_cons_cons, List.cons_append]
    refine h2.rep.perm ?_
    rw [← List.append_assoc, ← List.append_assoc]
    exact List.perm_middle
  · cases k with
    | zero => simp at e1 e2; subst e1; subst e2; exact h1.vw
    | succ k => exact h2.vw k v r (by simpa using e1) (by simpa using e2)
section
variable {X : Cx}
theorem sa_nil : SA X [] fNil := ⟨_, pa_nil, sem_nil⟩
theorem sa_cons {e : Expr} {es : List Expr} {fa : EvF} {fr : EvA} (ha : SE X e fa) (hr : SA X es fr) (hs : starEach (e :: es) X.env = (false, eval e X.env) :: starEach es X.env := by rfl) : SA X (e :: es) (fCons fa fr) := by
  obtain ⟨t, p, s⟩ := ha.ex
  obtain ⟨t', p', s'⟩ := hr.ex
  exact ⟨_, pa_cons p p' hs, sem_cons s s'⟩
end
end FL

/-! FL3: operators, comparisons, tests, subscripts, displays, calls of built-ins -/
namespace FL
open PySem PySem.Spec PyProof.Rows L2

theorem sizeL {n : Nat} (h : n ≤ 16777216) : n ≤ sizeLine := by rw [sizeLine_eq]; exact h
theorem sizeL' {n : Nat} (h : n < 16777216) : n < sizeLine := by rw [sizeLine_eq]; exact h
section
variable {K : PySem.W.Frag} {G H : Hp}
theorem Got.int {i : Int} : Got K G H (.int i) (.sh (.int i)) H := .now (.int i)
theorem Got.bl {b : Bool} : Got K G H (.bl b) (.sh (.bool b)) H := .now (.bl b)
theorem Got.str {x : Str} : Got K G H (.str x) (.sh (.str x)) H := .now (.str x)
end

/-! ### + - * // % ** -/
def addD : D → D → Option Sl
  | .int i, .int j => some (.sh (.int (i + j)))
  | .str x, .str y => if x.length + y.length ≤ 16777216 then some (.sh (.str (x ++ y))) else none
  | .list a, .list b => if a.length + b.length ≤ 16777216 then some (.ol (a ++ b)) else none
  | .tuple a, .tuple b => if a.length + b.length ≤ 16777216 then some (.sh (.tuple (a ++ b))) else none
  | _, _ => none
def subD : D → D → Option Sl
  | .int i, .int j => some (.sh (.int (i - j)))
  | _, _ => none
def mulOk (i j : Int) : Bool := !(decide (Builtin.Int.intBits i > shortFactorBits) && decide (Builtin.Int.intBits j > shortFactorBits) && Builtin.Int.intTooBig (Builtin.Int.intBits i + Builtin.Int.intBits j))
theorem mulOk_iff {i j : Int} : mulOk i j = true ↔ IntMulOk i j := by
  unfold mulOk IntMulOk
  cases (decide (Builtin.Int.intBits i > shortFactorBits) && decide (Builtin.Int.intBits j > shortFactorBits) && Builtin.Int.intTooBig (Builtin.Int.intBits i + Builtin.Int.intBits j)) <;> simp
theorem mulOk_log {i j : Int} (h : i.natAbs.log2 + j.natAbs.log2 < 1000000) : mulOk i j = true := mulOk_iff.mpr (CMulW.ok h)
theorem mulOk_left {i j : Int} (h1 : -(2 ^ 64) < i) (h2 : i < 2 ^ 64) : mulOk i j = true := mulOk_iff.mpr (.of_left (intBits_le_64 h1 h2))
theorem mulOk_right {i j : Int} (h1 : -(2 ^ 64) < j) (h2 : j < 2 ^ 64) : mulOk i j = true := mulOk_iff.mpr (.of_right (intBits_le_64 h1 h2))
def mulD : D → D → Option Sl
  | .int i, .int j => if mulOk i j = true then some (.sh (.int (i * j))) else none
  | .list a, .int k => if -(2 ^ 63) ≤ k ∧ k < 2 ^ 63 ∧ a.length * k.toNat ≤ 16777216 then some (.ol (List.replicate k.toNat a).flatten) else none
  | .tuple a, .int k => if a ≠ [] ∧ 2 ≤ k ∧ k ≤ 1000 ∧ a.length ≤ 1000 then some (.sh (.tuple (List.replicate k.toNat a).flatten)) else none
  | _, _ => none
def divOk (i j : Int) : Bool := decide (j ≠ 0) && !(Builtin.divisionGoesByPylong i j)
def divD : D → D → Option Sl
  | .int i, .int j => if divOk i j = true then some (.sh (.int (i.fdiv j))) else none
  | _, _ => none
def modD : D → D → Option Sl
  | .int i, .int j => if 0 < j then some (.sh (.int (i % j))) else none
  | _, _ => none
def powD : D → D → Option Sl
  | .int i, .int j => if 0 ≤ j ∧ j ≤ 1000000 ∧ i.natAbs < 2 ^ 64 then some (.sh (.int (i ^ j.toNat))) else none
  | _, _ => none
def rAddAll (K : PySem.W.Frag) : R2 := fun x y H Q => (∃ i j, x = .int i ∧ y = .int j ∧ Q (.int (i + j)) H) ∨
  (∃ i j, x = .str i ∧ y = .str j ∧ i.length + j.length ≤ sizeLine ∧ Q (.str (i ++ j)) H) ∨ rCat x y H Q ∨ rCatA K x y H Q
theorem or_add {X : Cx} : OpR X (binaryOp .Add) (rAddAll X.K) := op_add.or (op_add_str.or (op_cat.or op_catA))
theorem so_add {K : PySem.W.Frag} : SemOp K (rAddAll K) addD := by
  intro G H x y dx dy s Q sm a b e q
  cases dx <;> cases dy <;> first | (cases e; done) | skip
  case int.int i j =>
    cases e
    exact .inl ⟨i, j, a.int, b.int, q _ _ .int⟩
  case str.str i j =>
    by_cases h : i.length + j.length ≤ 16777216
    · rw [show addD (.str i) (.str j) = if i.length + j.length ≤ 16777216 then some (.sh (.str (i ++ j))) else none from rfl, if_pos h] at e
      cases e
      exact .inr (.inl ⟨i, j, a.str, b.str, sizeL h, q _ _ .str⟩)
    · rw [show addD (.str i) (.str j) = if i.length + j.length ≤ 16777216 then some (.sh (.str (i ++ j))) else none from rfl, if_neg h] at e
      cases e
  case list.list i j =>
    by_cases h : i.length + j.length ≤ 16777216
    · rw [show addD (.list i) (.list j) = if i.length + j.length ≤ 16777216 then some (.ol (i ++ j)) else none from rfl, if_pos h] at e
      cases e
      obtain ⟨p, vs, rfl, hp, hv⟩ := a.list sm
      obtain ⟨p', vs', rfl, hp', hv'⟩ := b.list sm
      exact .inr (.inr (.inl ⟨p, p', vs, vs', rfl, rfl, hp, hp', sizeL (by rw [hv.length, hv'.length]; exact h), fun l hl => q _ _ (.newL hl (hv.append hv'))⟩))
    · rw [show addD (.list i) (.list j) = if i.length + j.length ≤ 16777216 then some (.ol (i ++ j)) else none from rfl, if_neg h] at e
      cases e
  case tuple.tuple i j =>
    by_cases h : i.length + j.length ≤ 16777216
    · rw [show addD (.tuple i) (.tuple j) = if i.length + j.length ≤ 16777216 then some (.sh (.tuple (i ++ j))) else none from rfl, if_pos h] at e
      cases e
      have a0 := a
      have b0 := b
      obtain ⟨p, vs, rfl, hp, hv⟩ := a.tuple sm
      obtain ⟨p', vs', rfl, hp', hv'⟩ := b.tuple sm
      refine .inr (.inr (.inr ⟨p, p', vs, vs', rfl, rfl, hp, hp', sizeL (by rw [hv.length, hv'.length]; exact h), fun z => ?_, fun _ z => ?_, fun _ _ l hl => q _ _ (.newT sm hl (hv.append hv'))⟩))
      · subst z; cases hv
        rcases b0 with b0 | ⟨_, _, _, _, z, _⟩
        · exact q _ _ (.now (by simpa using b0))
        · cases z
      · subst z; cases hv'
        rcases a0 with a0 | ⟨_, _, _, _, z, _⟩
        · exact q _ _ (.now (by simpa using a0))
        · cases z
    · rw [show addD (.tuple i) (.tuple j) = if i.length + j.length ≤ 16777216 then some (.sh (.tuple (i ++ j))) else none from rfl, if_neg h] at e
      cases e
def rSubI : R2 := rI0 fun i j => .int (i - j)
theorem so_sub {K : PySem.W.Frag} : SemOp K rSubI subD := by
  intro G H x y dx dy s Q sm a b e q
  cases dx <;> cases dy <;> first | (cases e; done) | skip
  cases e
  exact ⟨_, _, a.int, b.int, q _ _ .int⟩
def rMulAll (K : PySem.W.Frag) : R2 := fun x y H Q => rI (fun i j => mulOk i j = true) (fun i j => .int (i * j)) x y H Q ∨ rRep x y H Q ∨ rRepT K x y H Q
theorem op_mulM {X : Cx} : OpR X (binaryOp .Mult) (rI (fun i j => mulOk i j = true) fun i j => .int (i * j)) := opI fun _ _ _ _ _ _ _ hc q => mul_int q (mulOk_iff.mp hc)
theorem or_mul {X : Cx} : OpR X (binaryOp .Mult) (rMulAll X.K) := op_mulM.or (op_rep.or op_repT)
theorem so_mul {K : PySem.W.Frag} : SemOp K (rMulAll K) mulD := by
  intro G H x y dx dy s Q sm a b e q
  cases dx <;> cases dy <;> first | (cases e; done) | skip
  case int.int i j =>
    by_cases h : mulOk i j = true
    · rw [show mulD (.int i) (.int j) = if mulOk i j = true then some (.sh (.int (i * j))) else none from rfl, if_pos h] at e
      cases e
      exact .inl ⟨i, j, a.int, b.int, h, q _ _ .int⟩
    · rw [show mulD (.int i) (.int j) = if mulOk i j = true then some (.sh (.int (i * j))) else none from rfl, if_neg h] at e
      cases e
  case list.int i k =>
    by_cases h : -(2 ^ 63) ≤ k ∧ k < 2 ^ 63 ∧ i.length * k.toNat ≤ 16777216
    · rw [show mulD (.list i) (.int k) = if -(2 ^ 63) ≤ k ∧ k < 2 ^ 63 ∧ i.length * k.toNat ≤ 16777216 then some (.ol (List.replicate k.toNat i).flatten) else none from rfl, if_pos h] at e
      cases e
      obtain ⟨p, vs, rfl, hp, hv⟩ := a.list sm
      exact .inr (.inl ⟨p, k, vs, rfl, b.int, hp, h.1, h.2.1, sizeL (by rw [hv.length]; exact h.2.2), fun l hl => q _ _ (.newL hl (hv.rep _))⟩)
    · rw [show mulD (.list i) (.int k) = if -(2 ^ 63) ≤ k ∧ k < 2 ^ 63 ∧ i.length * k.toNat ≤ 16777216 then some (.ol (List.replicate k.toNat i).flatten) else none from rfl, if_neg h] at e
      cases e
  case tuple.int i k =>
    by_cases h : i ≠ [] ∧ 2 ≤ k ∧ k ≤ 1000 ∧ i.length ≤ 1000
    · rw [show mulD (.tuple i) (.int k) = if i ≠ [] ∧ 2 ≤ k ∧ k ≤ 1000 ∧ i.length ≤ 1000 then some (.sh (.tuple (List.replicate k.toNat i).flatten)) else none from rfl, if_pos h] at e
      cases e
      obtain ⟨p, vs, rfl, hp, hv⟩ := a.tuple sm
      refine .inr (.inr ⟨p, k, vs, rfl, b.int, hp, fun z => ?_, h.2.1, h.2.2.1, by rw [hv.length]; exact h.2.2.2, fun l hl => q _ _ (.newT sm hl (hv.rep _))⟩)
      subst z; cases hv; exact h.1 rfl
    · rw [show mulD (.tuple i) (.int k) = if i ≠ [] ∧ 2 ≤ k ∧ k ≤ 1000 ∧ i.length ≤ 1000 then some (.sh (.tuple (List.replicate k.toNat i).flatten)) else none from rfl, if_neg h] at e
      cases e
def rDivI : R2 := rI (fun i j => divOk i j = true) fun i j => .int (i.fdiv j)
theorem or_div {X : Cx} : OpR X (binaryOp .FloorDiv) rDivI := opI fun i j _ _ _ _ _ hc q => by
  have h : decide (j ≠ 0) = true ∧ (!(Builtin.divisionGoesByPylong i j)) = true := (Bool.and_eq_true_iff.mp hc)
  exact floordiv_int (of_decide_eq_true h.1) q (.inl (by simpa using h.2))
theorem so_div {K : PySem.W.Frag} : SemOp K rDivI divD := by
  intro G H x y dx dy s Q sm a b e q
  cases dx <;> cases dy <;> first | (cases e; done) | skip
  case int.int i j =>
    by_cases h : divOk i j = true
    · rw [show divD (.int i) (.int j) = if divOk i j = true then some (.sh (.int (i.fdiv j))) else none from rfl, if_pos h] at e
      cases e
      exact ⟨i, j, a.int, b.int, h, q _ _ .int⟩
    · rw [show divD (.int i) (.int j) = if divOk i j = true then some (.sh (.int (i.fdiv j))) else none from rfl, if_neg h] at e
      cases e
def rModI : R2 := rI (fun _ j => 0 < j) fun i j => .int (i % j)
theorem so_mod {K : PySem.W.Frag} : SemOp K rModI modD := by
  intro G H x y dx dy s Q sm a b e q
  cases dx <;> cases dy <;> first | (cases e; done) | skip
  case int.int i j =>
    by_cases h : 0 < j
    · rw [show modD (.int i) (.int j) = if 0 < j then some (.sh (.int (i % j))) else none from rfl, if_pos h] at e
      cases e
      exact ⟨i, j, a.int, b.int, h, q _ _ .int⟩
    · rw [show modD (.int i) (.int j) = if 0 < j then some (.sh (.int (i % j))) else none from rfl, if_neg h] at e
      cases e
def rPowI : R2 := rI CPow fun i j => .int (i ^ j.toNat)
theorem so_pow {K : PySem.W.Frag} : SemOp K rPowI powD := by
  intro G H x y dx dy s Q sm a b e q
  cases dx <;> cases dy <;> first | (cases e; done) | skip
  case int.int i j =>
    by_cases h : 0 ≤ j ∧ j ≤ 1000000 ∧ i.natAbs < 2 ^ 64
    · rw [show powD (.int i) (.int j) = if 0 ≤ j ∧ j ≤ 1000000 ∧ i.natAbs < 2 ^ 64 then some (.sh (.int (i ^ j.toNat))) else none from rfl, if_pos h] at e
      cases e
      exact ⟨i, j, a.int, b.int, h, q _ _ .int⟩
    · rw [show powD (.int i) (.int j) = if 0 ≤ j ∧ j ≤ 1000000 ∧ i.natAbs < 2 ^ 64 then some (.sh (.int (i ^ j.toNat))) else none from rfl, if_neg h] at e
      cases e
section
variable {X : Cx} {a b c : Expr} {fa fb fc : EvF} {pos : Pos}
theorem se_bin {op : Operator} {r : R2} {o : D → D → Option Sl} (ho : OpR X (binaryOp op) r) (so : SemOp X.K r o) (ha : SE X a fa) (hb : SE X b fb) : SE X (.BinOp a op b pos) (fOp o fa fb) := by
  obtain ⟨t, p, s⟩ := ha.ex
  obtain ⟨t', p', s'⟩ := hb.ex
  exact ⟨_, pe_op ho p p', sem_op so s s'⟩
theorem se_add (ha : SE X a fa) (hb : SE X b fb) : SE X (.BinOp a .Add b pos) (fOp addD fa fb) := se_bin or_add so_add ha hb
theorem se_sub (ha : SE X a fa) (hb : SE X b fb) : SE X (.BinOp a .Sub b pos) (fOp subD fa fb) := se_bin op_sub so_sub ha hb
theorem se_mul (ha : SE X a fa) (hb : SE X b fb) : SE X (.BinOp a .Mult b pos) (fOp mulD fa fb) := se_bin or_mul so_mul ha hb
theorem se_div (ha : SE X a fa) (hb : SE X b fb) : SE X (.BinOp a .FloorDiv b pos) (fOp divD fa fb) := se_bin or_div so_div ha hb
theorem se_mod (ha : SE X a fa) (hb : SE X b fb) : SE X (.BinOp a .Mod b pos) (fOp modD fa fb) := se_bin op_mod so_mod ha hb
theorem se_pow (ha : SE X a fa) (hb : SE X b fb) : SE X (.BinOp a .Pow b pos) (fOp powD fa fb) := se_bin op_pow so_pow ha hb
def negD : D → Option Sl
  | .int i => some (.sh (.int (-i)))
  | _ => none
theorem se_neg (ha : SE X a fa) : SE X (.UnaryOp .USub a pos) (fOp1 negD fa) := by
  obtain ⟨t, p, s⟩ := ha.ex
  refine ⟨_, pe_un un_neg p, sem_un (r := rU fun i => .int (-i)) (fun G H x dx s Q sm d e q => ?_) s⟩
  cases dx <;> first | (cases e; done) | skip
  cases e
  exact ⟨_, d.int, q _ _ .int⟩

/-! ### comparisons -/
def shapedD (d : D) : Bool := SeqAt.shaped d
def eqD (a b : D) : Option Sl := if shapedD a = true ∧ shapedD b = true then some (.sh (.bool (PyData.eqv a b))) else none
def neD (a b : D) : Option Sl := if shapedD a = true ∧ shapedD b = true then some (.sh (.bool (!PyData.eqv a b))) else none
def cmpD (p : Int → Int → Bool) : D → D → Option Sl
  | .int i, .int j => some (.sh (.bool (p i j)))
  | _, _ => none
abbrev ltD := cmpD fun i j => decide (i < j)
abbrev leD := cmpD fun i j => decide (i ≤ j)
abbrev gtD := cmpD fun i j => decide (j < i)
abbrev geD := cmpD fun i j => decide (j ≤ i)
def isNone : D → Bool
  | .none => true
  | _ => false
def isND (a b : D) : Option Sl := if isNone b = true then some (.sh (.bool (isNone a))) else none
def notND (a b : D) : Option Sl := if isNone b = true then some (.sh (.bool (!isNone a))) else none
theorem so_eq {K : PySem.W.Frag} : SemOp K (rEqD K) eqD := by
  intro G H x y dx dy s Q sm a b e q
  unfold eqD at e
  split at e
  · rename_i h
    cases e
    exact ⟨dx, dy, Dt.deep _ _ (a.dp sm), Dt.deep _ _ (b.dp sm), h.1, h.2, q _ _ .bl⟩
  · cases e
theorem so_ne {K : PySem.W.Frag} : SemOp K (rNeD K) neD := by
  intro G H x y dx dy s Q sm a b e q
  unfold neD at e
  split at e
  · rename_i h
    cases e
    exact ⟨dx, dy, Dt.deep _ _ (a.dp sm), Dt.deep _ _ (b.dp sm), h.1, h.2, q _ _ .bl⟩
  · cases e
theorem so_cmp {K : PySem.W.Frag} {p : Int → Int → Bool} : SemOp K (rI0 fun i j => .bl (p i j)) (cmpD p) := by
  intro G H x y dx dy s Q sm a b e q
  cases dx <;> cases dy <;> first | (cases e; done) | skip
  cases e
  exact ⟨_, _, a.int, b.int, q _ _ .bl⟩
theorem isNone_eq {K : PySem.W.Frag} {G H : Hp} {x : V} {d : D} (h : DpT K G H x d) : decide (x = .non) = isNone d := by
  rcases h with h | ⟨_, _, _, rfl, rfl, _⟩
  · cases h <;> rfl
  · rfl
theorem so_isN {K : PySem.W.Frag} : SemOp K (fun x y H Q => y = .non ∧ Q (.bl (decide (x = .non))) H) isND := by
  intro G H x y dx dy s Q sm a b e q
  cases dy <;> first | (cases e; done) | skip
  cases e
  exact ⟨b.none, by rw [isNone_eq a]; exact q _ _ .bl⟩
theorem so_notN {K : PySem.W.Frag} : SemOp K (fun x y H Q => y = .non ∧ Q (.bl (!decide (x = .non))) H) notND := by
  intro G H x y dx dy s Q sm a b e q
  cases dy <;> first | (cases e; done) | skip
  cases e
  exact ⟨b.none, by rw [isNone_eq a]; exact q _ _ .bl⟩
/-- in a list or tuple of flat things -/
def flatD : D → Bool
  | .none => true
  | .bool _ => true
  | .int _ => true
  | .str _ => true
  | _ => false
def inL (a : D) (ds : List D) : Bool := ds.any fun z => PyData.eqv z a
def inD (neg : Bool) (a : D) : D → Option Sl
  | .list ds => if flatD a = true ∧ ds.all flatD = true then some (.sh (.bool (if neg then !inL a ds else inL a ds))) else none
  | .tuple ds => if flatD a = true ∧ ds.all flatD = true then some (.sh (.bool (if neg then !inL a ds else inL a ds))) else none
  | _ => none
theorem flat_V {K : PySem.W.Frag} {G : Hp} {x : V} {d : D} (h : Dt K G x d) (f : flatD d = true) : flatV x = true := by
  cases h <;> first | rfl | (cases f)
theorem eq_V {K : PySem.W.Frag} {G : Hp} {x y : V} {d e : D} (h : Dt K G x d) (h' : Dt K G y e) (f : flatD d = true) (f' : flatD e = true) : eqV y x = PyData.eqv e d := by
  cases h <;> first | (cases f; done) | skip
  all_goals (cases h' <;> first | (cases f'; done) | rfl | (simp [eqV, PyData.eqv]; done) | skip)
theorem all_flat {K : PySem.W.Frag} {G : Hp} : ∀ {vs : List V} {ds : List D}, DtAll K G vs ds → ds.all flatD = true → vs.all flatV = true
  | _, _, .nil, _ => rfl
  | _, _, .cons r t, h => by
    rw [List.all_cons, Bool.and_eq_true] at h ⊢
    exact ⟨flat_V r h.1, all_flat t h.2⟩
theorem in_eq {K : PySem.W.Frag} {G : Hp} {x : V} {d : D} (h : Dt K G x d) (f : flatD d = true) : ∀ {vs : List V} {ds : List D}, DtAll K G vs ds → ds.all flatD = true → inV x vs = inL d ds
  | _, _, .nil, _ => rfl
  | _, _, .cons r t, h' => by
    rw [List.all_cons, Bool.and_eq_true] at h'
    unfold inV inL
    rw [List.any_cons, List.any_cons, eq_V h r f h'.1]
    have := in_eq h f t h'.2
    unfold inV inL at this
    rw [this]
theorem flat_sh {K : PySem.W.Frag} {G H : Hp} {x : V} {d : D} (h : DpT K G H x d) (f : flatD d = true) : Dt K G x d := by
  rcases h with h | ⟨_, _, _, _, rfl, _⟩
  · exact h
  · cases f
theorem so_in {K : PySem.W.Frag} {neg : Bool} : SemOp K (rIn K neg) (inD neg) := by
  intro G H x y dx dy s Q sm a b e q
  cases dy <;> first | (cases e; done) | skip
  case list ds =>
    rw [show inD neg dx (.list ds) = if flatD dx = true ∧ ds.all flatD = true then some (.sh (.bool (if neg then !inL dx ds else inL dx ds))) else none from rfl] at e
    split at e
    · rename_i h
      cases e
      obtain ⟨p, vs, rfl, hp, hv⟩ := b.list sm
      have ad := flat_sh a h.1
      refine ⟨p, vs, rfl, .inl (.of hp), flat_V ad h.1, all_flat hv h.2, ?_⟩
      rw [in_eq ad h.1 hv h.2]
      exact q _ _ .bl
    · cases e
  case tuple ds =>
    rw [show inD neg dx (.tuple ds) = if flatD dx = true ∧ ds.all flatD = true then some (.sh (.bool (if neg then !inL dx ds else inL dx ds))) else none from rfl] at e
    split at e
    · rename_i h
      cases e
      obtain ⟨p, vs, rfl, hp, hv⟩ := b.tuple sm
      have ad := flat_sh a h.1
      refine ⟨p, vs, rfl, .inr hp, flat_V ad h.1, all_flat hv h.2, ?_⟩
      rw [in_eq ad h.1 hv h.2]
      exact q _ _ .bl
    · cases e
theorem se_cmp {op : CmpOp} {r : R2} {o : D → D → Option Sl} (ho : OpR X (compareOp op) r) (so : SemOp X.K r o) (ha : SE X a fa) (hb : SE X b fb) (hm : behindInMarks op b = false) : SE X (.Compare a [op] [b] pos) (fOp o fa fb) := by
  obtain ⟨t, p, s⟩ := ha.ex
  obtain ⟨t', p', s'⟩ := hb.ex
  exact ⟨_, pe_cmpR ho p p' hm, sem_op so s s'⟩

/-! ### tests -/
def fTst (f : EvF) : EvT := fun env => do
  let (r, e1) ← f env
  match r with
  | .sh (.bool b) => .ok (b, e1)
  | _ => .bad
theorem sem_tst {K : PySem.W.Frag} {mg : Str → Option Value} {t : TE} {f : EvF} (h : SemE K mg t f) : SemT K mg (tTest t) (fTst f) := by
  intro σ H env l b env' h1 e Q q
  unfold fTst at e
  obtain ⟨⟨r, e1⟩, ea, e⟩ := Res.bind_ok e
  refine h σ H env l r e1 h1 ea _ fun v H1 h2 => ?_
  dsimp only at e
  split at e
  · rename_i b'
    cases e
    obtain ⟨G, os, rp⟩ := h2.rep
    obtain ⟨v', e', d⟩ := rp.shOf List.mem_cons_self
    cases e'
    cases d
    exact ⟨_, rfl, q H1 h2.drop⟩
  · cases e
theorem st_cmp {op : CmpOp} {r : R2} {o : D → D → Option Sl} (ho : OpR X (compareOp op) r) (so : SemOp X.K r o) (ha : SE X a fa) (hb : SE X b fb) (hm : behindInMarks op b = false) : ST X (.Compare a [op] [b] pos) (fTst (fOp o fa fb)) := by
  obtain ⟨t, p, s⟩ := ha.ex
  obtain ⟨t', p', s'⟩ := hb.ex
  exact ⟨_, pt_cmpR ho p p' hm, sem_tst (sem_op so s s')⟩
/-- an expression whose value is a truth -/
theorem st_val (h : SE X a fa) (he : ∀ whole, isTrue a X.env whole = (do let v ← whole; standAt a.pos; holding [v] (truthy v)) := by intro _; rfl) : ST X a (fTst fa) := by
  obtain ⟨t, p, s⟩ := h.ex
  exact ⟨_, pt_val p he, sem_tst s⟩
def fNotT (f : EvT) : EvT := fun env => do
  let (b, e1) ← f env
  .ok (!b, e1)
def fAndT (f g : EvT) : EvT := fun env => do
  let (b, e1) ← f env
  if b = true then g e1 else .ok (false, e1)
def fOrT (f g : EvT) : EvT := fun env => do
  let (b, e1) ← f env
  if b = true then .ok (true, e1) else g e1
variable {tA tB' : EvT} {rest : List Expr}
theorem st_not (h : ST X a tA) : ST X (.UnaryOp .Not a pos) (fNotT tA) := by
  obtain ⟨t, p, s⟩ := h.ex
  refine ⟨_, pt_not p, ?_⟩
  intro σ H env l b env' h1 e Q q
  obtain ⟨⟨r, e1⟩, ea, e⟩ := Res.bind_ok e
  cases e
  exact s σ H env l r _ h1 ea _ fun H1 h2 => q H1 h2
theorem st_of (h : SW X a tA) : ST X a tA := by
  obtain ⟨t, p, s⟩ := h.ex
  exact ⟨_, p.pt, s⟩
theorem sw_and1 (h : ST X a tA) : SW X (.BoolOp .And [a] pos) tA := by
  obtain ⟨t, p, s⟩ := h.ex
  exact ⟨_, pw_and1 p, s⟩
theorem sw_or1 (h : ST X a tA) : SW X (.BoolOp .Or [a] pos) tA := by
  obtain ⟨t, p, s⟩ := h.ex
  exact ⟨_, pw_or1 p, s⟩
theorem sw_and (h : ST X a tA) (h2 : SW X (.BoolOp .And (b :: rest) pos) tB') : SW X (.BoolOp .And (a :: b :: rest) pos) (fAndT tA tB') := by
  obtain ⟨t, p, s⟩ := h.ex
  obtain ⟨t', p', s'⟩ := h2.ex
  refine ⟨_, pw_and p p', ?_⟩
  intro σ H env l b env' h1 e Q q
  obtain ⟨⟨r, e1⟩, ea, e⟩ := Res.bind_ok e
  refine s σ H env l r _ h1 ea _ fun H1 h2 => ?_
  cases r with
  | true => exact iteT (s' σ H1 e1 l b env' h2 e Q q)
  | false => cases e; exact iteF (q H1 h2)
theorem sw_or (h : ST X a tA) (h2 : SW X (.BoolOp .Or (b :: rest) pos) tB') : SW X (.BoolOp .Or (a :: b :: rest) pos) (fOrT tA tB') := by
  obtain ⟨t, p, s⟩ := h.ex
  obtain ⟨t', p', s'⟩ := h2.ex
  refine ⟨_, pw_or p p', ?_⟩
  intro σ H env l b env' h1 e Q q
  obtain ⟨⟨r, e1⟩, ea, e⟩ := Res.bind_ok e
  refine s σ H env l r _ h1 ea _ fun H1 h2 => ?_
  cases r with
  | true => cases e; exact iteT (q H1 h2)
  | false => exact iteF (s' σ H1 e1 l b env' h2 e Q q)
/-! ### .. as values -/
def fAndV (f g : EvF) : EvF := fun env => do
  let (b, e1) ← fTst f env
  if b = true then g e1 else .ok (.sh (.bool false), e1)
def fOrV (f g : EvF) : EvF := fun env => do
  let (b, e1) ← fTst f env
  if b = true then .ok (.sh (.bool true), e1) else g e1
def fNotV (f : EvF) : EvF := fun env => do
  let (b, e1) ← fTst f env
  .ok (.sh (.bool (!b)), e1)
theorem Hold.shV {K : PySem.W.Frag} {mg : Str → Option Value} {H : Hp} {σ : L2.St} {env : Lo} {l : List Item} {v : V} {d : D} (h : Hold K mg H σ env l) (hd : ∀ G, Dt K G v d) : HoldV K mg H σ env l v (.sh d) := by
  obtain ⟨G, os, rp⟩ := h.rep
  exact ⟨h.len, ⟨G, os, rp.sh (hd G)⟩, fun _ z => by cases z⟩
theorem se_one {op} (h : SE X a fa) : SE X (.BoolOp op [a] pos) fa := by
  obtain ⟨t, p, s⟩ := h.ex
  exact ⟨_, pe_one p, s⟩
theorem se_and (h : SE X a fa) (h2 : SE X (.BoolOp .And (b :: rest) pos) fb) : SE X (.BoolOp .And (a :: b :: rest) pos) (fAndV fa fb) := by
  obtain ⟨t, p, s⟩ := h.ex
  obtain ⟨t', p', s'⟩ := h2.ex
  refine ⟨_, pe_and p p', ?_⟩
  intro σ H env l r env' h1 e Q q
  obtain ⟨⟨c, e1⟩, ea, e⟩ := Res.bind_ok e
  refine sem_tst s σ H env l c _ h1 ea (fun c H1 => if c = true then t' σ H1 Q else Q (.bl false) H1) fun H1 h2 => ?_
  cases c with
  | true => exact iteT (s' σ H1 e1 l r env' h2 e Q q)
  | false => cases e; exact iteF (q _ H1 (h2.shV fun _ => .bl _))
theorem se_or (h : SE X a fa) (h2 : SE X (.BoolOp .Or (b :: rest) pos) fb) : SE X (.BoolOp .Or (a :: b :: rest) pos) (fOrV fa fb) := by
  obtain ⟨t, p, s⟩ := h.ex
  obtain ⟨t', p', s'⟩ := h2.ex
  refine ⟨_, pe_or p p', ?_⟩
  intro σ H env l r env' h1 e Q q
  obtain ⟨⟨c, e1⟩, ea, e⟩ := Res.bind_ok e
  refine sem_tst s σ H env l c _ h1 ea (fun c H1 => if c = true then Q (.bl true) H1 else t' σ H1 Q) fun H1 h2 => ?_
  cases c with
  | true => cases e; exact iteT (q _ H1 (h2.shV fun _ => .bl _))
  | false => exact iteF (s' σ H1 e1 l r env' h2 e Q q)
theorem se_not (h : SE X a fa) : SE X (.UnaryOp .Not a pos) (fNotV fa) := by
  obtain ⟨t, p, s⟩ := h.ex
  refine ⟨_, pe_not p, ?_⟩
  intro σ H env l r env' h1 e Q q
  obtain ⟨⟨c, e1⟩, ea, e⟩ := Res.bind_ok e
  cases e
  exact sem_tst s σ H env l c _ h1 ea (fun c H1 => Q (.bl (!c)) H1) fun H1 h2 => q _ H1 (h2.shV fun _ => .bl _)
def fIf (ft : EvT) (fa fb : EvF) : EvF := fun env => do
  let (b, e1) ← ft env
  if b = true then fa e1 else fb e1
theorem se_if (hc : ST X c tA) (h : SE X a fa) (h2 : SE X b fb) : SE X (.IfExp c a b pos) (fIf tA fa fb) := by
  obtain ⟨t0, p0, s0⟩ := hc.ex
  obtain ⟨t, p, s⟩ := h.ex
  obtain ⟨t', p', s'⟩ := h2.ex
  refine ⟨_, pe_ifExp p0 p p', ?_⟩
  intro σ H env l r env' h1 e Q q
  obtain ⟨⟨k, e1⟩, ea, e⟩ := Res.bind_ok e
  refine s0 σ H env l k _ h1 ea _ fun H1 h2 => ?_
  cases k with
  | true => exact iteT (s σ H1 e1 l r env' h2 e Q q)
  | false => exact iteF (s' σ H1 e1 l r env' h2 e Q q)
end
end FL

/-! FL4: subscripts, slices, displays, calls -/
namespace FL
open PySem PySem.Spec PyProof.Rows L2

/-! ### subscripts -/
def ixD : D → D → Option Sl
  | .list ds, .int i => (atI ds i).map .sh
  | .tuple ds, .int i => (atI ds i).map .sh
  | .str x, .int i => if x.length ≤ 16777216 then (atI x.cps.toList i).map fun c => .sh (.str ⟨#[c]⟩) else none
  | _, _ => none
theorem at_all {K : PySem.W.Frag} {G : Hp} {vs : List V} {ds : List D} {i : Int} {d : D} (h : DtAll K G vs ds) (e : atI ds i = some d) : ∃ v, atI vs i = some v ∧ Dt K G v d := by
  unfold atI at e ⊢
  rw [h.length]
  cases q : ixN ds.length i with
  | none => rw [q] at e; cases e
  | some j =>
    rw [q] at e
    obtain ⟨v, e1, e2⟩ := h.get (show ds[j]? = some d from e)
    exact ⟨v, e1, e2⟩
theorem so_ix {K : PySem.W.Frag} : SemOp K (rIx K) ixD := by
  intro G H x y dx dy s Q sm a b e q
  cases dx <;> cases dy <;> first | (cases e; done) | skip
  case list.int ds i =>
    rw [show ixD (.list ds) (.int i) = (atI ds i).map .sh from rfl] at e
    cases ea : atI ds i with
    | none => rw [ea] at e; cases e
    | some d =>
      rw [ea] at e; cases e
      obtain ⟨p, vs, rfl, hp, hv⟩ := a.list sm
      obtain ⟨v, e1, e2⟩ := at_all hv ea
      exact .inl ⟨p, vs, i, v, rfl, b.int, .of hp, e1, q _ _ (.now e2)⟩
  case tuple.int ds i =>
    rw [show ixD (.tuple ds) (.int i) = (atI ds i).map .sh from rfl] at e
    cases ea : atI ds i with
    | none => rw [ea] at e; cases e
    | some d =>
      rw [ea] at e; cases e
      obtain ⟨p, vs, rfl, hp, hv⟩ := a.tuple sm
      obtain ⟨v, e1, e2⟩ := at_all hv ea
      exact .inr (.inl ⟨p, vs, i, v, rfl, b.int, hp, e1, q _ _ (.now e2)⟩)
  case str.int z i =>
    rw [show ixD (.str z) (.int i) = if z.length ≤ 16777216 then (atI z.cps.toList i).map fun c => Sl.sh (.str ⟨#[c]⟩) else none from rfl] at e
    split at e
    · rename_i h
      cases ea : atI z.cps.toList i with
      | none => rw [ea] at e; cases e
      | some c =>
        rw [ea] at e; cases e
        exact .inr (.inr ⟨z, i, c, a.str, b.int, sizeL h, ea, q _ _ .str⟩)
    · cases e
section
variable {X : Cx} {a b c : Expr} {fa fb fc : EvF} {pos : Pos}
theorem se_ix (ha : SE X a fa) (hb : SE X b fb) (hs : PlainIx b := by exact fun _ _ => rfl) : SE X (.Subscript a b pos) (fOp ixD fa fb) := by
  obtain ⟨t, p, s⟩ := ha.ex
  obtain ⟨t', p', s'⟩ := hb.ex
  exact ⟨_, pe_ix ix_seq p p' hs, sem_op so_ix s s'⟩
end

/-! ### slices -/
def cutG {α : Type} (xs : List α) (lo hi : Option Int) : List α := (xs.drop (HT.sIx xs.length 0 lo)).take (HT.sIx xs.length xs.length hi - HT.sIx xs.length 0 lo)
def sliceD : D → Option Int → Option Int → Option Sl
  | .list ds, lo, hi => some (.ol (cutG ds lo hi))
  | .tuple ds, lo, hi => some (.sh (.tuple (cutG ds lo hi)))
  | .str x, lo, hi => if x.length ≤ 16777216 then some (.sh (.str (cutS x lo hi))) else none
  | _, _, _ => none
abbrev EvO := Lo → Res (Option Int × Lo)
def SemO (K : PySem.W.Frag) (mg : Str → Option Value) (t : TO) (f : EvO) : Prop :=
  ∀ (σ : L2.St) (H : Hp) (env : Lo) (l : List Item) (o : Option Int) (env' : Lo), Hold K mg H σ env l → f env = .ok (o, env') → ∀ Q : Option Int → Hp → Prop, (∀ H', Hold K mg H' σ env' l → Q o H') → t σ H Q
structure SO (X : Cx) (e : Option Expr) (f : EvO) : Prop where
  ex : ∃ t, PO X e t ∧ SemO X.K X.mg t f
def fNoPart : EvO := fun env => .ok (none, env)
def fPart (fa : EvF) : EvO := fun env => do
  let (r, e1) ← fa env
  match r with
  | .sh (.int i) => .ok (some i, e1)
  | _ => .bad
section
variable {X : Cx} {a b c : Expr} {fa fb fc : EvF} {pos p2 : Pos} {lo hi : Option Expr} {fl fh : EvO}
theorem so_none : SO X none fNoPart := ⟨_, po_none, fun σ H env l o env' h e Q q => by cases e; exact q H h⟩
theorem so_some (ha : SE X a fa) : SO X (some a) (fPart fa) := by
  obtain ⟨t, p, s⟩ := ha.ex
  refine ⟨_, po_some p, ?_⟩
  intro σ H env l o env' h e Q q
  unfold fPart at e
  obtain ⟨⟨r, e1⟩, ea, e⟩ := Res.bind_ok e
  refine s σ H env l r e1 h ea _ fun v H1 h2 => ?_
  dsimp only at e
  split at e
  · rename_i i
    cases e
    obtain ⟨G, os, rp⟩ := h2.rep
    obtain ⟨v', e', d⟩ := rp.shOf List.mem_cons_self
    cases e'
    cases d
    exact ⟨i, rfl, q H1 h2.drop⟩
  · cases e
def fSlice (fa : EvF) (fl fh : EvO) : EvF := fun env => do
  let (ra, e1) ← fa env
  let (lo, e2) ← fl e1
  let (hi, e3) ← fh e2
  let a ← Res.ofO (view e3 ra)
  let s ← Res.ofO (sliceD a lo hi)
  .ok (s, e3)
def rSlAll (K : PySem.W.Frag) : V → Option Int → Option Int → Hp → VK → Prop := fun x lo hi H Q => rSlL K x lo hi H Q ∨ rSlA K x lo hi H Q ∨ rSlS x lo hi H Q
theorem DtAll.cut {K : PySem.W.Frag} {G : Hp} {vs : List V} {ds : List D} (h : DtAll K G vs ds) (lo hi : Option Int) : DtAll K G (cutV vs lo hi) (cutG ds lo hi) := by
  unfold cutV cutG
  rw [h.length]
  exact (h.drop _).take _
theorem sem_slice {K : PySem.W.Frag} {mg : Str → Option Value} {ta : TE} {tl th : TO} (ha : SemE K mg ta fa) (hl : SemO K mg tl fl) (hh : SemO K mg th fh) : SemE K mg (tSl (rSlAll K) ta tl th) (fSlice fa fl fh) := by
  intro σ H env l s env' h e Q q
  unfold fSlice at e
  obtain ⟨⟨ra, e1⟩, ea, e⟩ := Res.bind_ok e
  obtain ⟨⟨lo, e2⟩, el, e⟩ := Res.bind_ok e
  obtain ⟨⟨hi, e3⟩, eh, e⟩ := Res.bind_ok e
  obtain ⟨a, va, e⟩ := Res.bind_ok e
  obtain ⟨s', es, e⟩ := Res.bind_ok e
  cases e
  replace va := Res.ofO_ok va
  replace es := Res.ofO_ok es
  refine ha σ H env l ra e1 h ea _ fun x H1 h1 => ?_
  refine hl σ H1 e1 _ lo e2 h1.hold el _ fun H2 h2 => ?_
  refine hh σ H2 e2 _ hi _ h2 eh _ fun H3 h3 => ?_
  have h3 := h3.toV h1.vw
  obtain ⟨G, os, rp⟩ := h3.rep
  have dx : DpT K G H3 x a := rp.view (σ := σ) List.mem_cons_self (fun it hi => List.mem_cons_of_mem _ (List.mem_append_left _ hi)) h3.vw va
  have fin : ∀ v H4, Got K G H3 v s H4 → Q v H4 := fun v H4 g => q v H4 ⟨h3.len, ((rp.got g).perm (.swap _ _ _)).tail, g.novw⟩
  cases a <;> first | (cases es; done) | skip
  case list ds =>
    cases es
    obtain ⟨p, vs, rfl, hp, hv⟩ := dx.list rp.same
    exact .inl ⟨p, vs, rfl, .of hp, fun l' hl' => fin _ _ (.newL hl' (hv.cut _ _))⟩
  case tuple ds =>
    cases es
    have dx0 := dx
    obtain ⟨p, vs, rfl, hp, hv⟩ := dx.tuple rp.same
    refine .inr (.inl ⟨p, vs, rfl, hp, fun z => ?_, fun _ l' hl' => fin _ _ (.newT rp.same hl' (hv.cut _ _))⟩)
    refine fin _ _ (.now ?_)
    have e : cutG ds lo hi = ds := by
      unfold cutG
      rw [← hv.length, z.1, z.2]
      rw [List.drop_zero, Nat.sub_zero, List.take_of_length_le (Nat.le_of_eq hv.length.symm)]
    rw [e]
    rcases dx0 with dx0 | ⟨_, _, _, _, z, _⟩
    · exact dx0
    · cases z
  case str z =>
    rw [show sliceD (.str z) lo hi = if z.length ≤ 16777216 then some (Sl.sh (.str (cutS z lo hi))) else none from rfl] at es
    split at es
    · rename_i hz
      cases es
      exact .inr (.inr ⟨z, dx.str, sizeL hz, fin _ _ .str⟩)
    · cases es
theorem se_slice (ha : SE X a fa) (hl : SO X lo fl) (hh : SO X hi fh) : SE X (.Subscript a (.Slice lo hi none p2) pos) (fSlice fa fl fh) := by
  obtain ⟨t, p, s⟩ := ha.ex
  obtain ⟨t1, p1, s1⟩ := hl.ex
  obtain ⟨t2, p2, s2⟩ := hh.ex
  exact ⟨_, pe_slice (sl_list.or (sl_tupA.or sl_str)) p p1 p2, sem_slice s s1 s2⟩
end

/-! ### what is shared from now on -/
def freezeR (env : Lo) : Sl → Option (D × Lo)
  | .sh d => some (d, env)
  | .ol ds => some (.list ds, env)
  | .vw i => match env[i]? with
    | some (.ol ds) => some (.list ds, env.set i (.sh (.list ds)))
    | _ => none
  | _ => none
section
variable {K : PySem.W.Frag} {mg : Str → Option Value} {H : Hp} {σ : L2.St} {env env' : Lo} {l : List Item} {v : V} {r : Sl} {d : D}
theorem HoldV.freeze (h : HoldV K mg H σ env l v r) (e : freezeR env r = some (d, env')) : HoldV K mg H σ env' l v (.sh d) := by
  cases r with
  | no => cases e
  | sh d' => cases e; exact h
  | ol ds => cases e; exact ⟨h.len, h.rep.freeze, fun _ z => by cases z⟩
  | od _ => cases e
  | td _ => cases e
  | oi _ _ => cases e
  | sc _ => cases e
  | vw i =>
    have e1 := h.vw i rfl
    have e : (match env[i]? with | some (Sl.ol ds) => some (PyData.list ds, env.set i (.sh (.list ds))) | _ => Option.none) = some (d, env') := e
    split at e
    · rename_i ds e2
      cases e
      obtain ⟨ov, e3, rp⟩ := Hold.take h.drop e2
      rw [e1] at e3; cases e3
      obtain ⟨G, os, rp⟩ := rp
      obtain ⟨G', v', ev, _, dd, os', rp'⟩ := rp.freeze
      cases ev
      have q := rp'.sh dd
      have q2 : Rep K mg H ((some v, Sl.sh (.list ds)) :: (σ.zip (env.set i .no) ++ ((some v, Sl.sh (.list ds)) :: l))) :=
        Rep.perm ⟨_, _, q⟩ ((List.perm_middle (l₁ := σ.zip (env.set i .no))).symm.cons _)
      have q3 := Rep.put q2 (by rw [List.length_set]; exact h.len) e1
      rw [List.set_set] at q3
      exact ⟨by rw [List.length_set]; exact h.len, q3.perm List.perm_middle, fun _ z => by cases z⟩
    · cases e
def freezeAll (env : Lo) : List Sl → Option (List D × Lo)
  | [] => some ([], env)
  | r :: rs => do
    let (d, e1) ← freezeR env r
    let (ds, e2) ← freezeAll e1 rs
    some (d :: ds, e2)
theorem HoldA.freeze : ∀ {rs : List Sl} {vs : List V} {ds : List D} {env env' : Lo} {l : List Item}, HoldA K mg H σ env l vs rs → freezeAll env rs = some (ds, env') → HoldA K mg H σ env' l vs (ds.map .sh) := by
  intro rs
  induction rs with
  | nil =>
    intro vs ds env env' l h e
    cases e
    have : vs = [] := by have := h.alen; simpa using this
    subst this
    exact h
  | cons r rs ih =>
    intro vs ds env env' l h e
    cases vs with
    | nil => have := h.alen; simp at this
    | cons v vs =>
      simp only [freezeAll, Option.bind_eq_bind, Option.bind_eq_some_iff] at e
      obtain ⟨⟨d, e1⟩, ea, ⟨ds', e2⟩, eb, e⟩ := e
      cases e
      have hv : HoldV K mg H σ env ((vs.map some).zip rs ++ l) v r := ⟨h.len, by
        have := h.rep
        rw [List.map_cons, List.zip_cons_cons, List.cons_append] at this
        refine this.perm (List.Perm.cons _ ?_)
        rw [← List.append_assoc, ← List.append_assoc]
        exact List.perm_append_comm.append_right l, h.vw 0 v r rfl rfl⟩
      have hv2 := hv.freeze ea
      have ha : HoldA K mg H σ e1 ((some v, .sh d) :: l) vs rs := ⟨hv2.len, by
        have := hv2.rep
        refine this.perm ?_
        have : ((vs.map some).zip rs ++ (σ.zip e1 ++ (some v, Sl.sh d) :: l)).Perm ((some v, Sl.sh d) :: ((vs.map some).zip rs ++ (σ.zip e1 ++ l))) := by
          rw [← List.append_assoc, ← List.append_assoc]
          exact List.perm_middle
        refine (List.Perm.cons _ ?_).trans this.symm
        rw [← List.append_assoc, ← List.append_assoc]
        exact List.perm_append_comm.append_right l, by simpa using h.alen, fun k v' r' e1 e2 => h.vw (k + 1) v' r' (by simpa using e1) (by simpa using e2)⟩
      have hb := ih ha eb
      refine ⟨hb.len, ?_, by simpa using hb.alen, fun k v' r' e1 e2 => ?_⟩
      · rw [List.map_cons, List.map_cons, List.zip_cons_cons, List.cons_append]
        refine hb.rep.perm ?_
        rw [← List.append_assoc, ← List.append_assoc]
        exact List.perm_middle
      · cases k with
        | zero => simp at e1 e2; subst e2; intro _ z; cases z
        | succ k => exact hb.vw k v' r' (by simpa using e1) (by simpa using e2)
theorem Rp.all {G : Hp} {L : List Item} {os : List Addr} (h : Rp K mg G H L os) : ∀ {vs : List V} {ds : List D}, vs.length = ds.length → (∀ it ∈ (vs.map some).zip (ds.map Sl.sh), it ∈ L) → DtAll K G vs ds
  | [], [], _, _ => .nil
  | [], _ :: _, e, _ => by simp at e
  | _ :: _, [], e, _ => by simp at e
  | v :: vs, d :: ds, e, hm => by
    obtain ⟨v', e', dd⟩ := h.shOf (hm (some v, .sh d) (by simp))
    cases e'
    exact .cons dd (h.all (by simpa using e) fun it hi => hm it (by
      rw [List.map_cons, List.map_cons, List.zip_cons_cons]
      exact List.mem_cons_of_mem _ hi))
theorem Rep.dropA {L : List Item} : ∀ (M : List Item), Rep K mg H (M ++ L) → Rep K mg H L
  | [], h => h
  | _ :: M, h => Rep.dropA M h.tail
end
/-! ### displays -/
def fTup (fs : EvA) : EvF := fun env => do
  let (rs, e1) ← fs env
  let (ds, e2) ← Res.ofO (freezeAll e1 rs)
  if ds.length ≤ 16777216 then .ok (.sh (.tuple ds), e2) else .bad
def fLst (fs : EvA) : EvF := fun env => do
  let (rs, e1) ← fs env
  let (ds, e2) ← Res.ofO (freezeAll e1 rs)
  if ds.length ≤ 16777216 then .ok (.ol ds, e2) else .bad
section
variable {X : Cx} {es : List Expr} {fs : EvA} {pos : Pos}
theorem se_tup {x1} (h : SA X es fs) : SE X (.Tuple es x1 pos) (fTup fs) := by
  obtain ⟨t, p, s⟩ := h.ex
  refine ⟨_, pe_tup p, ?_⟩
  intro σ H env l r env' h e Q q
  unfold fTup at e
  obtain ⟨⟨rs, e1⟩, ea, e⟩ := Res.bind_ok e
  obtain ⟨⟨ds, e2⟩, eb, e⟩ := Res.bind_ok e
  have eb := Res.ofO_ok eb
  dsimp only at e
  split at e
  · rename_i hz
    cases e
    refine s σ H env l rs e1 h ea _ fun vs H1 h1 => ?_
    have h2 := h1.freeze eb
    have hl : vs.length = ds.length := by simpa using h2.alen
    refine ⟨sizeL (by rw [hl]; exact hz), fun x hx => q _ _ ⟨h2.len, ?_, fun _ z => by cases z⟩⟩
    obtain ⟨G, os, rp⟩ := h2.rep
    have g := Got.newT rp.same hx (rp.all hl fun it hi => List.mem_append_left _ hi)
    have := rp.got g
    have := this.perm (l' := ((vs.map some).zip (ds.map Sl.sh)) ++ ((some (V.ref x), Sl.sh (.tuple ds)) :: (σ.zip env' ++ l))) List.perm_middle.symm
    exact Rep.dropA _ this
  · cases e
theorem se_lst (h : SA X es fs) : SE X (.List es pos) (fLst fs) := by
  obtain ⟨t, p, s⟩ := h.ex
  refine ⟨_, pe_lst p, ?_⟩
  intro σ H env l r env' h e Q q
  unfold fLst at e
  obtain ⟨⟨rs, e1⟩, ea, e⟩ := Res.bind_ok e
  obtain ⟨⟨ds, e2⟩, eb, e⟩ := Res.bind_ok e
  have eb := Res.ofO_ok eb
  dsimp only at e
  split at e
  · rename_i hz
    cases e
    refine s σ H env l rs e1 h ea _ fun vs H1 h1 => ?_
    have h2 := h1.freeze eb
    have hl : vs.length = ds.length := by simpa using h2.alen
    refine ⟨sizeL (by rw [hl]; exact hz), fun x hx => q _ _ ⟨h2.len, ?_, fun _ z => by cases z⟩⟩
    obtain ⟨G, os, rp⟩ := h2.rep
    have g := Got.newL (H := H1) (G := G) hx (rp.all hl fun it hi => List.mem_append_left _ hi)
    have := rp.got g
    have := this.perm (l' := ((vs.map some).zip (ds.map Sl.sh)) ++ ((some (V.ref x), Sl.ol ds) :: (σ.zip env' ++ l))) List.perm_middle.symm
    exact Rep.dropA _ this
  · cases e
end

/-! ### built-ins by their name -/
inductive DTs (K : PySem.W.Frag) (G H : Hp) : List V → List D → Prop
  | nil : DTs K G H [] []
  | cons {v : V} {d : D} {vs : List V} {ds : List D} : DpT K G H v d → DTs K G H vs ds → DTs K G H (v :: vs) (d :: ds)
def SemC (K : PySem.W.Frag) (r : List V → Hp → VK → Prop) (op : List D → Option Sl) : Prop :=
  ∀ (G H : Hp) (vs : List V) (ds : List D) (s : Sl) (Q : VK), Same G H → DTs K G H vs ds → op ds = some s → (∀ v H', Got K G H v s H' → Q v H') → r vs H Q
def views (env : Lo) : List Sl → Option (List D)
  | [] => some []
  | r :: rs => do
    let d ← view env r
    let ds ← views env rs
    some (d :: ds)
def fCB (op : List D → Option Sl) (fs : EvA) : EvF := fun env => do
  let (rs, e1) ← fs env
  let ds ← Res.ofO (views e1 rs)
  let s ← Res.ofO (op ds)
  .ok (s, e1)
theorem views_ok {K : PySem.W.Frag} {mg : Str → Option Value} {G H : Hp} {σ : L2.St} {env : Lo} {L : List Item} {os : List Addr} (rp : Rp K mg G H L os) (hz : ∀ it ∈ σ.zip env, it ∈ L) :
    ∀ {vs : List V} {rs : List Sl} {ds : List D}, vs.length = rs.length → (∀ it ∈ (vs.map some).zip rs, it ∈ L) → (∀ (k : Nat) (v : V) (r : Sl), vs[k]? = some v → rs[k]? = some r → VwOk σ v r) → views env rs = some ds → DTs K G H vs ds
  | [], [], ds, _, _, _, e => by cases e; exact .nil
  | [], _ :: _, _, h, _, _, _ => by simp at h
  | _ :: _, [], _, h, _, _, _ => by simp at h
  | v :: vs, r :: rs, ds, h, hm, hv, e => by
    simp only [views, Option.bind_eq_bind, Option.bind_eq_some_iff] at e
    obtain ⟨d, ed, ds', eds, e⟩ := e
    cases e
    refine .cons (rp.view (σ := σ) (hm _ (by simp)) hz (hv 0 v r rfl rfl) ed) (views_ok rp hz (by simpa using h) (fun it hi => hm it ?_) (fun k v r e1 e2 => hv (k + 1) v r (by simpa using e1) (by simpa using e2)) eds)
    rw [List.map_cons, List.zip_cons_cons]
    exact List.mem_cons_of_mem _ hi
theorem sem_cb {K : PySem.W.Frag} {mg : Str → Option Value} {r : List V → Hp → VK → Prop} {op : List D → Option Sl} {t : TA} {fs : EvA} (ho : SemC K r op) (hs : SemA K mg t fs) : SemE K mg (tCB r t) (fCB op fs) := by
  intro σ H env l s env' h e Q q
  unfold fCB at e
  obtain ⟨⟨rs, e1⟩, ea, e⟩ := Res.bind_ok e
  obtain ⟨ds, ev, e⟩ := Res.bind_ok e
  obtain ⟨s', es, e⟩ := Res.bind_ok e
  cases e
  have ev := Res.ofO_ok ev
  have es := Res.ofO_ok es
  refine hs σ H env l rs _ h ea _ fun vs H1 h1 => ?_
  obtain ⟨G, os, rp⟩ := h1.rep
  refine ho G H1 vs ds s Q rp.same (views_ok rp (fun it hi => List.mem_append_right _ (List.mem_append_left _ hi)) h1.alen (fun it hi => List.mem_append_left _ hi) h1.vw ev) es fun v H2 g => q v H2 ⟨h1.len, ?_, g.novw⟩
  have := rp.got g
  have := this.perm (l' := ((vs.map some).zip rs) ++ ((some v, s) :: (σ.zip env' ++ l))) List.perm_middle.symm
  exact Rep.dropA _ this
section
variable {X : Cx} {x : Str} {p pos : Pos} {e : Expr} {es : List Expr} {fs : EvA} {id T : String} {r : List V → Hp → VK → Prop} {op : List D → Option Sl}
theorem se_cB (hc : CallR X (.builtin id) r) (so : SemC X.K r op) (hg : Gl X x) (hm : X.mg x = none) (hv : bootBuiltins x = some (.builtin id)) (ha : SA X (e :: es) fs) (hn : x ≠ "__name__" := by decide) (hdb : (x == ("__debug__" : Str)) = false := by decide)
    (he : starEach (e :: es) X.env = (false, eval e X.env) :: starEach es X.env := by rfl) (hpl : (backTo pos (starEach es X.env)).any (·.1) = false := by rfl) : SE X (.Call (.Name x p) (e :: es) [] pos) (fCB op fs) := by
  obtain ⟨t, p', s⟩ := ha.ex
  exact ⟨_, pe_callB hc hg hm hv p' hn hdb he hpl, sem_cb so s⟩
theorem se_cTy (hc : CallR X (.type T) r) (so : SemC X.K r op) (hg : Gl X x) (hm : X.mg x = none) (hv : bootBuiltins x = some (.type T)) (ha : SA X (e :: es) fs) (hn : x ≠ "__name__" := by decide) (hdb : (x == ("__debug__" : Str)) = false := by decide)
    (he : starEach (e :: es) X.env = (false, eval e X.env) :: starEach es X.env := by rfl) (hpl : (backTo pos (starEach es X.env)).any (·.1) = false := by rfl) : SE X (.Call (.Name x p) (e :: es) [] pos) (fCB op fs) := by
  obtain ⟨t, p', s⟩ := ha.ex
  exact ⟨_, pe_callTy hc hg hm hv p' hn hdb he hpl, sem_cb so s⟩
end
theorem DTs.one {K : PySem.W.Frag} {G H : Hp} {vs : List V} {d : D} (h : DTs K G H vs [d]) : ∃ v, vs = [v] ∧ DpT K G H v d := by
  cases h with
  | cons a b => cases b; exact ⟨_, rfl, a⟩
theorem DTs.two {K : PySem.W.Frag} {G H : Hp} {vs : List V} {d d' : D} (h : DTs K G H vs [d, d']) : ∃ v v', vs = [v, v'] ∧ DpT K G H v d ∧ DpT K G H v' d' := by
  cases h with
  | cons a b => cases b with
    | cons b c => cases c; exact ⟨_, _, rfl, a, b⟩
def lenD : List D → Option Sl
  | [.list ds] => some (.sh (.int ds.length))
  | [.tuple ds] => some (.sh (.int ds.length))
  | [.str x] => if x.length ≤ 16777216 then some (.sh (.int x.length)) else none
  | _ => none
def rLenAll (K : PySem.W.Frag) : List V → Hp → VK → Prop := fun xs H Q => (∃ p ys, xs = [.ref p] ∧ (SqL K H p ys ∨ SqT K H p ys) ∧ Q (.int ys.length) H) ∨ ∃ z, xs = [.str z] ∧ z.length ≤ sizeLine ∧ Q (.int z.length) H
theorem CallR.or {X : Cx} {f : Value} {r r' : List V → Hp → VK → Prop} (h : CallR X f r) (h' : CallR X f r') : CallR X f (fun xs H Q => r xs H Q ∨ r' xs H Q) := by
  intro pins s σ H xs us Q I rx q
  rcases q with q | q
  · exact h pins s σ H xs us Q I rx q
  · exact h' pins s σ H xs us Q I rx q
theorem oc_len {X : Cx} : CallR X (.builtin "len") (rLenAll X.K) := call_len_seq.or call_len_str
theorem sc_len {K : PySem.W.Frag} : SemC K (rLenAll K) lenD := by
  intro G H vs ds s Q sm h e q
  unfold lenD at e
  split at e
  · cases e
    obtain ⟨v, rfl, d⟩ := h.one
    obtain ⟨p, ws, rfl, hp, hv⟩ := d.list sm
    exact .inl ⟨p, ws, rfl, .inl (.of hp), by rw [hv.length]; exact q _ _ .int⟩
  · cases e
    obtain ⟨v, rfl, d⟩ := h.one
    obtain ⟨p, ws, rfl, hp, hv⟩ := d.tuple sm
    exact .inl ⟨p, ws, rfl, .inr hp, by rw [hv.length]; exact q _ _ .int⟩
  · split at e
    · rename_i hz
      cases e
      obtain ⟨v, rfl, d⟩ := h.one
      exact .inr ⟨_, by rw [d.str], sizeL hz, q _ _ .int⟩
    · cases e
  · cases e
def intsOf : List D → Option (List Int)
  | [] => some []
  | .int i :: ds => (intsOf ds).map (i :: ·)
  | _ => none
theorem intsOf_eq : ∀ {ds : List D} {ns : List Int}, intsOf ds = some ns → ds = ns.map PyData.int
  | [], ns, e => by cases e; rfl
  | .int i :: ds, ns, e => by
    simp only [intsOf, Option.map_eq_some_iff] at e
    obtain ⟨ms, e1, e2⟩ := e
    subst e2
    rw [intsOf_eq e1]; rfl
  | .none :: _, _, e => by cases e
  | .bool _ :: _, _, e => by cases e
  | .str _ :: _, _, e => by cases e
  | .list _ :: _, _, e => by cases e
  | .tuple _ :: _, _, e => by cases e
  | .dict _ :: _, _, e => by cases e
theorem intsOf_map : ∀ (ns : List Int), intsOf (ns.map PyData.int) = some ns
  | [] => rfl
  | n :: ns => by simp only [List.map_cons, intsOf, intsOf_map ns, Option.map_some]
def boolsOf : List D → Option (List Bool)
  | [] => some []
  | .bool i :: ds => (boolsOf ds).map (i :: ·)
  | _ => none
theorem boolsOf_eq : ∀ {ds : List D} {ns : List Bool}, boolsOf ds = some ns → ds = ns.map PyData.bool
  | [], ns, e => by cases e; rfl
  | .bool i :: ds, ns, e => by
    simp only [boolsOf, Option.map_eq_some_iff] at e
    obtain ⟨ms, e1, e2⟩ := e
    subst e2
    rw [boolsOf_eq e1]; rfl
  | .none :: _, _, e => by cases e
  | .int _ :: _, _, e => by cases e
  | .str _ :: _, _, e => by cases e
  | .list _ :: _, _, e => by cases e
  | .tuple _ :: _, _, e => by cases e
  | .dict _ :: _, _, e => by cases e
theorem boolsOf_map : ∀ (ns : List Bool), boolsOf (ns.map PyData.bool) = some ns
  | [] => rfl
  | n :: ns => by simp only [List.map_cons, boolsOf, boolsOf_map ns, Option.map_some]
theorem DtAll.of_bools {K : PySem.W.Frag} {G : Hp} : ∀ {vs : List V} {ns : List Bool}, DtAll K G vs (ns.map PyData.bool) → vs = ns.map V.bl
  | _, [], h => by cases h; rfl
  | _, n :: ns, h => by
    cases h with
    | cons r t => cases r; rw [DtAll.of_bools t]; rfl
def sumD : List D → Option Sl
  | [.list ds] => (intsOf ds).map fun ns => .sh (.int ns.sum)
  | _ => none
theorem sc_sum {K : PySem.W.Frag} : SemC K (rSum K) sumD := by
  intro G H vs ds s Q sm h e q
  unfold sumD at e
  split at e
  · rename_i ds
    simp only [Option.map_eq_some_iff] at e
    obtain ⟨ns, e1, e2⟩ := e
    subst e2
    have := intsOf_eq e1
    subst this
    obtain ⟨v, rfl, d⟩ := h.one
    obtain ⟨p, ws, rfl, hp, hv⟩ := d.list sm
    have := hv.of_ints
    subst this
    exact ⟨p, ns, rfl, .of hp, q _ _ .int⟩
  · cases e
def anyD : List D → Option Sl
  | [.list ds] => (boolsOf ds).map fun ns => .sh (.bool (ns.any id))
  | _ => none
def allD : List D → Option Sl
  | [.list ds] => (boolsOf ds).map fun ns => .sh (.bool (ns.all id))
  | _ => none
theorem sc_any {K : PySem.W.Frag} : SemC K (rAny K) anyD := by
  intro G H vs ds s Q sm h e q
  unfold anyD at e
  split at e
  · rename_i ds
    simp only [Option.map_eq_some_iff] at e
    obtain ⟨ns, e1, e2⟩ := e
    subst e2
    have := boolsOf_eq e1
    subst this
    obtain ⟨v, rfl, d⟩ := h.one
    obtain ⟨p, ws, rfl, hp, hv⟩ := d.list sm
    have := hv.of_bools
    subst this
    exact ⟨p, ns, rfl, .of hp, q _ _ .bl⟩
  · cases e
theorem sc_all {K : PySem.W.Frag} : SemC K (rAll K) allD := by
  intro G H vs ds s Q sm h e q
  unfold allD at e
  split at e
  · rename_i ds
    simp only [Option.map_eq_some_iff] at e
    obtain ⟨ns, e1, e2⟩ := e
    subst e2
    have := boolsOf_eq e1
    subst this
    obtain ⟨v, rfl, d⟩ := h.one
    obtain ⟨p, ws, rfl, hp, hv⟩ := d.list sm
    have := hv.of_bools
    subst this
    exact ⟨p, ns, rfl, .of hp, q _ _ .bl⟩
  · cases e
def absD : List D → Option Sl
  | [.int i] => some (.sh (.int (if i < 0 then -i else i)))
  | _ => none
theorem sc_abs {K : PySem.W.Frag} : SemC K (fun xs H Q => ∃ i, xs = [V.int i] ∧ Q (.int (if i < 0 then -i else i)) H) absD := by
  intro G H vs ds s Q sm h e q
  unfold absD at e
  split at e
  · cases e
    obtain ⟨v, rfl, d⟩ := h.one
    exact ⟨_, by rw [d.int], q _ _ .int⟩
  · cases e
def intD : List D → Option Sl
  | [.int i] => some (.sh (.int i))
  | [.bool b] => some (.sh (.int (if b then 1 else 0)))
  | _ => none
theorem sc_int {K : PySem.W.Frag} : SemC K (fun xs H Q => (∃ i, xs = [V.int i] ∧ Q (.int i) H) ∨ ∃ k, xs = [V.bl k] ∧ Q (.int (if k then 1 else 0)) H) intD := by
  intro G H vs ds s Q sm h e q
  unfold intD at e
  split at e
  · cases e
    obtain ⟨v, rfl, d⟩ := h.one
    exact .inl ⟨_, by rw [d.int], q _ _ .int⟩
  · cases e
    obtain ⟨v, rfl, d⟩ := h.one
    exact .inr ⟨_, by rw [d.bool], q _ _ .int⟩
  · cases e
def maxD : List D → Option Sl
  | [.int i, .int j] => some (.sh (.int (if j > i then j else i)))
  | _ => none
theorem sc_max {K : PySem.W.Frag} : SemC K (fun xs H Q => ∃ i j, xs = [V.int i, .int j] ∧ Q (.int (if j > i then j else i)) H) maxD := by
  intro G H vs ds s Q sm h e q
  unfold maxD at e
  split at e
  · cases e
    obtain ⟨v, v', rfl, d, d'⟩ := h.two
    exact ⟨_, _, by rw [d.int, d'.int], q _ _ .int⟩
  · cases e
def tupleD : List D → Option Sl
  | [.list ds] => some (.sh (.tuple ds))
  | [.tuple ds] => some (.sh (.tuple ds))
  | _ => none
theorem sc_tuple {K : PySem.W.Frag} : SemC K (fun xs H Q => ∃ p ys, xs = [V.ref p] ∧ ((SqL K H p ys ∧ ∀ l, H l = Option.none → Q (.ref l) (upd H l (.tup ys))) ∨ (SqT K H p ys ∧ Q (.ref p) H))) tupleD := by
  intro G H vs ds s Q sm h e q
  unfold tupleD at e
  split at e
  · cases e
    obtain ⟨v, rfl, d⟩ := h.one
    obtain ⟨p, ws, rfl, hp, hv⟩ := d.list sm
    exact ⟨p, ws, rfl, .inl ⟨.of hp, fun l hl => q _ _ (.newT sm hl hv)⟩⟩
  · cases e
    obtain ⟨v, rfl, d⟩ := h.one
    have d0 := d
    obtain ⟨p, ws, rfl, hp, hv⟩ := d.tuple sm
    refine ⟨p, ws, rfl, .inr ⟨hp, q _ _ (.now ?_)⟩⟩
    rcases d0 with d0 | ⟨_, _, _, _, z, _⟩
    · exact d0
    · cases z
  · cases e
def listD : List D → Option Sl
  | [.list ds] => some (.ol ds)
  | [.tuple ds] => some (.ol ds)
  | _ => none
theorem sc_list {K : PySem.W.Frag} : SemC K (fun xs H Q => ∃ p ys, xs = [V.ref p] ∧ (SqL K H p ys ∨ SqT K H p ys) ∧ ∀ l, H l = Option.none → Q (.ref l) (upd H l (.lst ys))) listD := by
  intro G H vs ds s Q sm h e q
  unfold listD at e
  split at e
  · cases e
    obtain ⟨v, rfl, d⟩ := h.one
    obtain ⟨p, ws, rfl, hp, hv⟩ := d.list sm
    exact ⟨p, ws, rfl, .inl (.of hp), fun l hl => q _ _ (.newL hl hv)⟩
  · cases e
    obtain ⟨v, rfl, d⟩ := h.one
    obtain ⟨p, ws, rfl, hp, hv⟩ := d.tuple sm
    exact ⟨p, ws, rfl, .inr hp, fun l hl => q _ _ (.newL hl hv)⟩
  · cases e
end FL

/-! FL5: calls of the text's own defs, statements, loops, comprehensions -/
namespace FL
open PySem PySem.Spec PyProof.Rows L2

/-! ### a def as a function of what its arguments hold -/
abbrev Fn := List Sl → Res (Sl × List Sl)
def isVw : Sl → Bool
  | .vw _ => true
  | _ => false
def spF (K : PySem.W.Frag) (mg : Str → Option Value) (n : Nat) (F : Fn) : Sp := fun vs H Q _ => vs.length = n ∧ ∃ (args : List Sl) (l : List Item) (r : Sl) (args' : List Sl), args.length = n ∧ Rep K mg H ((vs.map some).zip args ++ l) ∧ F args = .ok (r, args') ∧
  ∀ v H', Rep K mg H' ((some v, r) :: ((vs.map some).zip args' ++ l)) → isVw r = false → Q v H'
structure FnF (P : Program) (w : World) (K : PySem.W.Frag) (mg : Str → Option Value) (base : Heap) (x : Str) (n k : Nat) (F : Fn) : Prop where
  ex : ∃ (f : Addr) (fd : FuncData) (ps : List Str), mg x = some (.ref f) ∧ PySem.W.keepIn K (.ref f) = true ∧ Binds K fd ps [] ∧ FnOk P w K mg base CX0 k f fd ps (spF K mg n F)
def moveIn (env : Lo) : List Sl → List Sl × Lo
  | [] => ([], env)
  | r :: rs => match r with
    | .vw i => let p := moveIn (env.set i .no) rs; ((env[i]?.getD .no) :: p.1, p.2)
    | r => let p := moveIn env rs; (r :: p.1, p.2)
def moveBack (env : Lo) : List Sl → List Sl → Lo
  | r :: rs, a :: as => match r with
    | .vw i => moveBack (env.set i a) rs as
    | _ => moveBack env rs as
  | _, _ => env
def fCall (F : Fn) (fs : EvA) : EvF := fun env => do
  let (rs, e1) ← fs env
  let (r, as') ← F (moveIn e1 rs).1
  if isVw r = true then .bad else .ok (r, moveBack (moveIn e1 rs).2 rs as')
section
variable {K : PySem.W.Frag} {mg : Str → Option Value} {H : Hp} {σ : L2.St} {l : List Item}
theorem perm_mid {α : Type} {a : α} {A B : List α} : (a :: (A ++ B)).Perm (A ++ a :: B) := List.perm_middle.symm
theorem moveIn_ok : ∀ {rs : List Sl} {vs : List V} {env : Lo} {l : List Item}, HoldA K mg H σ env l vs rs → σ.length = (moveIn env rs).2.length ∧ (moveIn env rs).1.length = rs.length ∧ Rep K mg H ((vs.map some).zip (moveIn env rs).1 ++ (σ.zip (moveIn env rs).2 ++ l)) := by
  intro rs
  induction rs with
  | nil => intro vs env l h; exact ⟨h.len, rfl, h.rep⟩
  | cons r rs ih =>
    intro vs env l h
    cases vs with
    | nil => have := h.alen; simp at this
    | cons v vs =>
      have h0 : Rep K mg H ((some v, r) :: ((vs.map some).zip rs ++ (σ.zip env ++ l))) := by
        have := h.rep
        rw [List.map_cons, List.zip_cons_cons, List.cons_append] at this
        exact this
      have hw : ∀ (k : Nat) (v' : V) (r' : Sl), vs[k]? = some v' → rs[k]? = some r' → VwOk σ v' r' := fun k v' r' e1 e2 => h.vw (k + 1) v' r' (by simpa using e1) (by simpa using e2)
      by_cases hr : ∃ i, r = .vw i
      · obtain ⟨i, rfl⟩ := hr
        have e1 : σ[i]? = some (some v) := h.vw 0 v _ rfl rfl i rfl
        have hi : i < env.length := by have := (List.getElem?_eq_some_iff.mp e1).1; have := h.len; omega
        have e2 : env[i]? = some env[i] := List.getElem?_eq_getElem hi
        have hh : Hold K mg H σ env ((vs.map some).zip rs ++ l) := ⟨h.len, by
          refine h0.tail.perm ?_
          rw [← List.append_assoc, ← List.append_assoc]
          exact List.perm_append_comm.append_right l⟩
        obtain ⟨ov, e3, rp⟩ := hh.take e2
        rw [e1] at e3; cases e3
        have ha : HoldA K mg H σ (env.set i .no) ((some v, env[i]) :: l) vs rs := ⟨by rw [List.length_set]; exact h.len, by
          refine rp.perm ?_
          refine List.Perm.trans (List.Perm.cons _ ?_) (l₂ := (some v, env[i]) :: ((vs.map some).zip rs ++ (σ.zip (env.set i .no) ++ l))) ?_
          · rw [← List.append_assoc, ← List.append_assoc]
            exact List.perm_append_comm.append_right l
          · rw [← List.append_assoc, ← List.append_assoc]
            exact perm_mid, by have := h.alen; simpa using this, hw⟩
        obtain ⟨a, b, c⟩ := ih ha
        have es : moveIn env (Sl.vw i :: rs) = (env[i] :: (moveIn (env.set i .no) rs).1, (moveIn (env.set i .no) rs).2) := by
          show ((env[i]?.getD .no) :: _, _) = _
          rw [e2]; rfl
        rw [es]
        refine ⟨a, by simp [b], ?_⟩
        rw [List.map_cons, List.zip_cons_cons, List.cons_append]
        refine c.perm ?_
        rw [← List.append_assoc, ← List.append_assoc]
        exact perm_mid.symm
      · have es : moveIn env (r :: rs) = (r :: (moveIn env rs).1, (moveIn env rs).2) := by
          cases r <;> first | rfl | exact absurd ⟨_, rfl⟩ hr
        have ha : HoldA K mg H σ env ((some v, r) :: l) vs rs := ⟨h.len, by
          refine h0.perm ?_
          rw [← List.append_assoc, ← List.append_assoc]
          exact perm_mid, by have := h.alen; simpa using this, hw⟩
        obtain ⟨a, b, c⟩ := ih ha
        rw [es]
        refine ⟨a, by simp [b], ?_⟩
        rw [List.map_cons, List.zip_cons_cons, List.cons_append]
        refine c.perm ?_
        rw [← List.append_assoc, ← List.append_assoc]
        exact perm_mid.symm
theorem moveBack_ok : ∀ {rs as : List Sl} {vs : List V} {env : Lo} {l : List Item}, σ.length = env.length → vs.length = rs.length → Rep K mg H ((vs.map some).zip as ++ (σ.zip env ++ l)) →
    (∀ (k : Nat) (v : V) (r : Sl), vs[k]? = some v → rs[k]? = some r → VwOk σ v r) → σ.length = (moveBack env rs as).length ∧ Rep K mg H (σ.zip (moveBack env rs as) ++ l) := by
  intro rs
  induction rs with
  | nil => intro as vs env l h1 h2 h3 h4; exact ⟨h1, Rep.dropA _ h3⟩
  | cons r rs ih =>
    intro as vs env l h1 h2 h3 h4
    cases as with
    | nil => exact ⟨h1, Rep.dropA _ h3⟩
    | cons a as =>
      cases vs with
      | nil => simp at h2
      | cons v vs =>
        have h0 : Rep K mg H ((some v, a) :: ((vs.map some).zip as ++ (σ.zip env ++ l))) := by
          rw [List.map_cons, List.zip_cons_cons, List.cons_append] at h3
          exact h3
        have hw : ∀ (k : Nat) (v' : V) (r' : Sl), vs[k]? = some v' → rs[k]? = some r' → VwOk σ v' r' := fun k v' r' e1 e2 => h4 (k + 1) v' r' (by simpa using e1) (by simpa using e2)
        by_cases hr : ∃ i, r = .vw i
        · obtain ⟨i, rfl⟩ := hr
          have e1 : σ[i]? = some (some v) := h4 0 v _ rfl rfl i rfl
          have hp : Rep K mg H ((some v, a) :: (σ.zip env ++ ((vs.map some).zip as ++ l))) := by
            refine h0.perm (List.Perm.cons _ ?_)
            rw [← List.append_assoc, ← List.append_assoc]
            exact List.perm_append_comm.append_right l
          have q := Rep.put hp h1 e1
          show σ.length = (moveBack (env.set i a) rs as).length ∧ _
          refine ih (by rw [List.length_set]; exact h1) (by simpa using h2) (q.perm ?_) hw
          rw [← List.append_assoc, ← List.append_assoc]
          exact List.perm_append_comm.append_right l
        · have es : moveBack env (r :: rs) (a :: as) = moveBack env rs as := by
            cases r <;> first | rfl | exact absurd ⟨_, rfl⟩ hr
          rw [es]
          exact ih h1 (by simpa using h2) h0.tail hw
theorem sem_call {n : Nat} {F : Fn} {t : TA} {fs : EvA} {na : Nat} (hn : na = n) (hs : SemA K mg t fs) (hl : ∀ env rs env', fs env = .ok (rs, env') → rs.length = na) : SemE K mg (tCall (spF K mg n F) [] E0 t) (fCall F fs) := by
  subst hn
  intro σ H env l r env' h e Q q
  unfold fCall at e
  obtain ⟨⟨rs, e1⟩, ea, e⟩ := Res.bind_ok e
  obtain ⟨⟨r', as'⟩, eF, e⟩ := Res.bind_ok e
  dsimp only at eF e
  split at e
  · cases e
  · rename_i hr
    cases e
    refine hs σ H env l rs e1 h ea _ fun vs H1 h1 => ?_
    obtain ⟨a, b, c⟩ := moveIn_ok h1
    show spF K mg na F (vs ++ []) H1 Q E0
    rw [List.append_nil]
    have hlen := hl _ _ _ ea
    refine ⟨by rw [h1.alen, hlen], _, _, r, as', by rw [b, hlen], c, eF, fun v H2 rp hv => q v H2 ?_⟩
    have rp2 : Rep K mg H2 ((vs.map some).zip as' ++ (σ.zip (moveIn e1 rs).2 ++ ((some v, r) :: l))) := by
      refine rp.perm ?_
      have p1 : ((some v, r) :: ((vs.map some).zip as' ++ (σ.zip (moveIn e1 rs).2 ++ l))).Perm ((vs.map some).zip as' ++ ((some v, r) :: (σ.zip (moveIn e1 rs).2 ++ l))) := perm_mid
      exact p1.trans (List.Perm.append_left _ perm_mid)
    obtain ⟨x, y⟩ := moveBack_ok a h1.alen rp2 h1.vw
    exact ⟨x, y.perm perm_mid.symm, fun i z => by subst z; simp [isVw] at hr⟩
end
/-- how many arguments -/
structure ArN (fs : EvA) (n : Nat) : Prop where
  eq : ∀ env rs env', fs env = .ok (rs, env') → rs.length = n
theorem ar_nil : ArN fNil 0 := ⟨fun _ _ _ e => by cases e; rfl⟩
theorem ar_cons {fa : EvF} {fr : EvA} {n : Nat} (h : ArN fr n) : ArN (fCons fa fr) (n + 1) := ⟨fun env rs env' e => by
  unfold fCons at e
  obtain ⟨⟨ra, e1⟩, ea, e⟩ := Res.bind_ok e
  obtain ⟨⟨rb, e2⟩, eb, e⟩ := Res.bind_ok e
  cases e
  simp [h.eq _ _ _ eb]⟩
section
variable {X : Cx} {x : Str} {n k : Nat} {F : Fn} {p pos : Pos} {e : Expr} {es : List Expr} {fs : EvA}
theorem se_call (hF : FnF X.prog X.w X.K X.mg X.base x n k F) (hr : Room k X.A) (hg : Gl X x) (ha : SA X (e :: es) fs) (hn : ArN fs n) (hdb : (x == ("__debug__" : Str)) = false := by decide)
    (he : starEach (e :: es) X.env = (false, eval e X.env) :: starEach es X.env := by rfl) (hpl : (backTo pos (starEach es X.env)).any (·.1) = false := by rfl) : SE X (.Call (.Name x p) (e :: es) [] pos) (fCall F fs) := by
  obtain ⟨f, fd, ps, hm, hk, hb, F⟩ := hF.ex
  obtain ⟨t, p', s⟩ := ha.ex
  exact ⟨_, pe_call F hr hg hm hk hb .nil pass0 p' hdb he hpl, sem_call rfl s hn.eq⟩
end

/-! ### statements -/
inductive Out where
  | nx (env : Lo)
  | rt (r : Sl) (env : Lo)
  | bk (env : Lo)
  | ct (env : Lo)
abbrev EvS := Lo → Res Out
def KeepEq (ks : List Nat) (σ σ' : L2.St) : Prop := ∀ k ∈ ks, σ'[k]? = σ[k]?
theorem KeepEq.refl {ks : List Nat} {σ : L2.St} : KeepEq ks σ σ := fun _ _ => rfl
theorem KeepEq.trans {ks : List Nat} {σ σ1 σ2 : L2.St} (a : KeepEq ks σ σ1) (b : KeepEq ks σ1 σ2) : KeepEq ks σ σ2 := fun k h => (b k h).trans (a k h)
def PostS (K : PySem.W.Frag) (mg : Str → Option Value) (D : Ends) (ks : List Nat) (σ : L2.St) (l : List Item) : Out → Prop
  | .nx env' => ∀ σ' H', Hold K mg H' σ' env' l → KeepEq ks σ σ' → D.nx σ' H'
  | .bk env' => ∀ σ' H', Hold K mg H' σ' env' l → KeepEq ks σ σ' → D.bk σ' H'
  | .ct env' => ∀ σ' H', Hold K mg H' σ' env' l → KeepEq ks σ σ' → D.ct σ' H'
  | .rt r env' => ∀ v σ' H', HoldV K mg H' σ' env' l v r → isVw r = false → KeepEq ks σ σ' → D.rt v H'
def SemS (K : PySem.W.Frag) (mg : Str → Option Value) (ks : List Nat) (t : TS) (f : EvS) : Prop :=
  ∀ (σ : L2.St) (H : Hp) (env : Lo) (l : List Item) (o : Out), Hold K mg H σ env l → f env = .ok o → ∀ D : Ends, PostS K mg D ks σ l o → t D σ H
structure SS (X : Cx) (ks : List Nat) (st : Stmt) (f : EvS) : Prop where
  ex : ∃ t, PS X st t ∧ SemS X.K X.mg ks t f
structure SSs (X : Cx) (ks : List Nat) (st : List Stmt) (f : EvS) : Prop where
  ex : ∃ t, PSs X st t ∧ SemS X.K X.mg ks t f
theorem PostS.keep {K : PySem.W.Frag} {mg : Str → Option Value} {D : Ends} {ks : List Nat} {σ σ1 : L2.St} {l : List Item} {o : Out} (k : KeepEq ks σ σ1) (p : PostS K mg D ks σ l o) : PostS K mg D ks σ1 l o := by
  cases o with
  | nx e => exact fun σ' H' h q => p σ' H' h (k.trans q)
  | bk e => exact fun σ' H' h q => p σ' H' h (k.trans q)
  | ct e => exact fun σ' H' h q => p σ' H' h (k.trans q)
  | rt r e => exact fun v σ' H' h n q => p v σ' H' h n (k.trans q)
def fNext : EvS := fun env => .ok (.nx env)
def fSeq (f g : EvS) : EvS := fun env => do
  match ← f env with
  | .nx e => g e
  | o => .ok o
theorem fSeq_eq {f g : EvS} {env : Lo} : fSeq f g env = (f env).bind fun o => match o with | .nx e => g e | o => .ok o := rfl
section
variable {X : Cx} {ks : List Nat} {st : Stmt} {rest body : List Stmt} {f g : EvS} {e : Expr} {fa : EvF} {pos : Pos} {i : Nat} {x : Str}
theorem ss_nil : SSs X ks [] fNext := ⟨_, pss_nil, fun σ H env l o h e D p => by cases e; exact p σ H h .refl⟩
theorem ss_one (h : SS X ks st f) : SSs X ks [st] f := by
  obtain ⟨t, p, s⟩ := h.ex
  exact ⟨_, pss_one p, s⟩
theorem ss_cons (h : SS X ks st f) (h2 : SSs X ks rest g) : SSs X ks (st :: rest) (fSeq f g) := by
  obtain ⟨t, p, s⟩ := h.ex
  obtain ⟨t', p', s'⟩ := h2.ex
  refine ⟨_, pss_cons p p', ?_⟩
  intro σ H env l o h e D post
  obtain ⟨o1, e1, e⟩ := Res.bind_ok e
  refine s σ H env l o1 h e1 _ ?_
  cases o1 with
  | nx e2 => exact fun σ' H' h' k => s' σ' H' e2 l o h' e D (post.keep k)
  | bk e2 => cases e; exact post
  | ct e2 => cases e; exact post
  | rt r e2 => cases e; exact post
theorem ss_pass : SS X ks (.Pass pos) fNext := ⟨_, ps_pass, fun σ H env l o h e D p => by cases e; exact p σ H h .refl⟩
def fBrk : EvS := fun env => .ok (.bk env)
def fCont : EvS := fun env => .ok (.ct env)
theorem ss_brk : SS X ks (.Break pos) fBrk := ⟨_, ps_break, fun σ H env l o h e D p => by cases e; exact p σ H h .refl⟩
theorem ss_cont : SS X ks (.Continue pos) fCont := ⟨_, ps_continue, fun σ H env l o h e D p => by cases e; exact p σ H h .refl⟩
/-- a value for a slot -/
def asgR (env : Lo) (r : Sl) : Option (Sl × Lo) := match r with
  | .vw i => (freezeR env (.vw i)).map fun p => (.sh p.1, p.2)
  | .no => none
  | r => some (r, env)
theorem HoldV.asg {K : PySem.W.Frag} {mg : Str → Option Value} {H : Hp} {σ : L2.St} {env env' : Lo} {l : List Item} {v : V} {r r' : Sl} (h : HoldV K mg H σ env l v r) (e : asgR env r = some (r', env')) : HoldV K mg H σ env' l v r' ∧ isVw r' = false := by
  cases r with
  | no => cases e
  | vw i =>
    simp only [asgR, Option.map_eq_some_iff] at e
    obtain ⟨⟨d, e1⟩, ea, eb⟩ := e
    cases eb
    exact ⟨h.freeze ea, rfl⟩
  | sh d => cases e; exact ⟨h, rfl⟩
  | ol ds => cases e; exact ⟨h, rfl⟩
  | od _ => cases e; exact ⟨h, rfl⟩
  | td _ => cases e; exact ⟨h, rfl⟩
  | oi _ _ => cases e; exact ⟨h, rfl⟩
  | sc _ => cases e; exact ⟨h, rfl⟩
def fAsg (i : Nat) (fa : EvF) : EvS := fun env => do
  let (r, e1) ← fa env
  let (r', e2) ← Res.ofO (asgR e1 r)
  if i < e2.length then .ok (.nx (e2.set i r')) else .bad
theorem keep_set {ks : List Nat} {σ : L2.St} {i : Nat} {ov : Option V} (h : i ∉ ks) : KeepEq ks σ (σ.set i ov) := fun k hk => List.getElem?_set_ne (fun e => h (by rw [e]; exact hk))
theorem sem_asg {K : PySem.W.Frag} {mg : Str → Option Value} {te : TE} (s : SemE K mg te fa) (hk : i ∉ ks) : SemS K mg ks (tAsg te (gName i)) (fAsg i fa) := by
  intro σ H env l o h e D post
  unfold fAsg at e
  obtain ⟨⟨r, e1⟩, ea, e⟩ := Res.bind_ok e
  obtain ⟨⟨r', e2⟩, eb, e⟩ := Res.bind_ok e
  have eb := Res.ofO_ok eb
  dsimp only at e
  split at e
  · rename_i hi
    cases e
    refine s σ H env l r e1 h ea _ fun v H1 h1 => ?_
    obtain ⟨h2, hv⟩ := h1.asg eb
    exact post _ H1 ⟨by rw [List.length_set, List.length_set]; exact h2.len, h2.rep.asg h2.len hi⟩ (keep_set hk)
  · cases e
theorem ss_set {pos' : Pos} (hN : X.N.Nodup) (hi : X.N[i]? = some x) (hx : Loc X.env.scope x) (he : SE X e fa) (hk : i ∉ ks := by decide) (hs : swapsWith e (some (.Name x pos')) pos.line X.env = pure false := by rfl) (hf : X.fn x = true ∨ X.env.scope.names.lookup x = some .local := by first | exact .inl rfl | exact .inr rfl | assumption) :
    SS X ks (.Assign [.Name x pos'] e pos) (fAsg i fa) := by
  obtain ⟨t, p, s⟩ := he.ex
  exact ⟨_, ps_set hN hi hx p hs hf, sem_asg s hk⟩
def fDrop (fa : EvF) : EvS := fun env => do
  let (_, e1) ← fa env
  .ok (.nx e1)
theorem ss_expr (he : SE X e fa) (hs : swapsWith e none pos.line X.env = pure false := by rfl) : SS X ks (.Expr e pos) (fDrop fa) := by
  obtain ⟨t, p, s⟩ := he.ex
  refine ⟨_, ps_expr p hs, ?_⟩
  intro σ H env l o h e D post
  obtain ⟨⟨r, e1⟩, ea, e⟩ := Res.bind_ok e
  cases e
  exact s σ H env l r e1 h ea _ fun v H1 h1 => post σ H1 h1.drop .refl
/-- a value to hand back: a slot's own goes along -/
def retR (env : Lo) : Sl → Option (Sl × Lo)
  | .vw i => match env[i]? with
    | some (.vw _) => none
    | some s => some (s, env.set i .no)
    | none => none
  | .no => none
  | r => some (r, env)
theorem HoldV.ret {K : PySem.W.Frag} {mg : Str → Option Value} {H : Hp} {σ : L2.St} {env env' : Lo} {l : List Item} {v : V} {r r' : Sl} (h : HoldV K mg H σ env l v r) (e : retR env r = some (r', env')) : HoldV K mg H σ env' l v r' ∧ isVw r' = false := by
  cases r with
  | no => cases e
  | vw i =>
    have e1 := h.vw i rfl
    unfold retR at e
    dsimp only at e
    cases hs : env[i]? with
    | none => rw [hs] at e; cases e
    | some s =>
      rw [hs] at e
      have hn : isVw s = false := by cases s <;> first | rfl | (cases e)
      have e : some (s, env.set i .no) = some (r', env') := by cases s <;> first | exact e | (cases e)
      cases e
      obtain ⟨ov, e3, rp⟩ := Hold.take h.drop hs
      rw [e1] at e3; cases e3
      exact ⟨⟨by rw [List.length_set]; exact h.len, rp, fun j z => by subst z; cases hn⟩, hn⟩
  | sh d => cases e; exact ⟨h, rfl⟩
  | ol ds => cases e; exact ⟨h, rfl⟩
  | od _ => cases e; exact ⟨h, rfl⟩
  | td _ => cases e; exact ⟨h, rfl⟩
  | oi _ _ => cases e; exact ⟨h, rfl⟩
  | sc _ => cases e; exact ⟨h, rfl⟩
def fRet (fa : EvF) : EvS := fun env => do
  let (r, e1) ← fa env
  let (r', e2) ← Res.ofO (retR e1 r)
  .ok (.rt r' e2)
theorem ss_ret (he : SE X e fa) : SS X ks (.Return (some e) pos) (fRet fa) := by
  obtain ⟨t, p, s⟩ := he.ex
  refine ⟨_, ps_ret p, ?_⟩
  intro σ H env l o h e D post
  obtain ⟨⟨r, e1⟩, ea, e⟩ := Res.bind_ok e
  obtain ⟨⟨r', e2⟩, eb, e⟩ := Res.bind_ok e
  have eb := Res.ofO_ok eb
  cases e
  refine s σ H env l r e1 h ea _ fun v H1 h1 => ?_
  obtain ⟨h2, hv⟩ := h1.ret eb
  exact post v σ H1 h2 hv .refl
def fRetN : EvS := fun env => .ok (.rt (.sh .none) env)
theorem ss_retN : SS X ks (.Return none pos) fRetN := ⟨_, ps_retN, fun σ H env l o h e D p => by cases e; exact p _ σ H (h.shV fun _ => .non) rfl .refl⟩
def fIfS (ft : EvT) (f g : EvS) : EvS := fun env => do
  let (b, e1) ← ft env
  if b = true then f e1 else g e1
theorem ss_if {c : Expr} {a b : List Stmt} {fc : EvT} (hc : ST X c fc) (ha : SSs X ks a f) (hb : SSs X ks b g) : SS X ks (.If c a b pos) (fIfS fc f g) := by
  obtain ⟨t0, p0, s0⟩ := hc.ex
  obtain ⟨t, p, s⟩ := ha.ex
  obtain ⟨t', p', s'⟩ := hb.ex
  refine ⟨_, ps_if p0 p p', ?_⟩
  intro σ H env l o h e D post
  obtain ⟨⟨k, e1⟩, ea, e⟩ := Res.bind_ok e
  refine s0 σ H env l k e1 h ea _ fun H1 h1 => ?_
  cases k with
  | true => exact iteT (s σ H1 e1 l o h1 e D post)
  | false => exact iteF (s' σ H1 e1 l o h1 e D post)

/-! ### while -/
def whileF (c : EvT) (b : EvS) : Nat → EvS
  | 0, _ => .bad
  | n + 1, env => do
    let (k, e1) ← c env
    if k = true then
      match ← b e1 with
      | .nx e2 => whileF c b n e2
      | .ct e2 => whileF c b n e2
      | .bk e2 => .ok (.nx e2)
      | .rt r e2 => .ok (.rt r e2)
    else .ok (.nx e1)
def fWhile (fuel : Lo → Nat) (c : EvT) (b : EvS) : EvS := fun env => whileF c b (fuel env) env
theorem ss_while {c : Expr} {fc : EvT} (fuel : Lo → Nat) (hp : PassesOwn (model X.prog X.w) X.A X.env X.xe) (hc : ST X c fc) (hb : SSs X ks body f) : SS X ks (.While c body [] pos) (fWhile fuel fc f) := by
  obtain ⟨t0, p0, s0⟩ := hc.ex
  obtain ⟨t, p, s⟩ := hb.ex
  refine ⟨_, ps_while hp p0 p, ?_⟩
  intro σ H env l o h e D post
  refine ⟨fun m σ' H' => KeepEq ks σ σ' ∧ ∃ env', Hold X.K X.mg H' σ' env' l ∧ whileF fc f m env' = .ok o, ⟨fuel env, .refl, env, h, e⟩, ?_⟩
  rintro m σ1 H1 ⟨k1, env1, h1, e1⟩
  cases m with
  | zero => cases e1
  | succ m =>
    unfold whileF at e1
    obtain ⟨⟨k, e2⟩, ea, e1⟩ := Res.bind_ok e1
    refine s0 σ1 H1 env1 l k e2 h1 ea _ fun H2 h2 => ?_
    cases k with
    | false => cases e1; exact iteF (post σ1 H2 h2 k1)
    | true =>
      refine iteT ⟨fun σ' H' => KeepEq ks σ σ' ∧ ∃ env', Hold X.K X.mg H' σ' env' l ∧ whileF fc f m env' = .ok o, fun σ' H' q => ⟨m, Nat.lt_succ_self m, q⟩, ?_⟩
      simp only [if_true] at e1
      obtain ⟨ob, eb, e1⟩ := Res.bind_ok e1
      refine s σ1 H2 e2 l ob h2 eb _ ?_
      cases ob with
      | nx e3 => exact fun σ' H' h' k' => ⟨k1.trans k', e3, h', e1⟩
      | ct e3 => exact fun σ' H' h' k' => ⟨k1.trans k', e3, h', e1⟩
      | bk e3 => cases e1; exact fun σ' H' h' k' => post σ' H' h' (k1.trans k')
      | rt r e3 => cases e1; exact fun v σ' H' h' n k' => post v σ' H' h' n (k1.trans k')
end
end FL

/-! FL6: targets, what is walked, for, comprehensions -/
namespace FL
open PySem PySem.Spec PyProof.Rows L2

/-! ### targets -/
inductive Tgt where
  | nm (i : Nat)
  | tp (is : List Nat)
def Tgt.slots : Tgt → List Nat
  | .nm i => [i]
  | .tp is => is
def setAll (env : Lo) : List Nat → List D → Option Lo
  | [], [] => some env
  | i :: is, d :: ds => if i < env.length then setAll (env.set i (.sh d)) is ds else none
  | _, _ => none
def bindT : Tgt → D → Lo → Option Lo
  | .nm i, d, env => if i < env.length then some (env.set i (.sh d)) else none
  | .tp is, .tuple ds, env => setAll env is ds
  | _, _, _ => none
def OffEq (is : List Nat) (σ σ' : L2.St) : Prop := σ'.length = σ.length ∧ ∀ k, k ∉ is → σ'[k]? = σ[k]?
def SemG (K : PySem.W.Frag) (mg : Str → Option Value) (g : TG) (tg : Tgt) : Prop :=
  ∀ (σ : L2.St) (H : Hp) (env env' : Lo) (l : List Item) (v : V) (d : D), Hold K mg H σ env ((some v, .sh d) :: l) → bindT tg d env = some env' → ∀ Q : L2.St → Hp → Prop, (∀ σ', Hold K mg H σ' env' l → OffEq tg.slots σ σ' → Q σ' H) → g v σ H Q
theorem semg_nm {K : PySem.W.Frag} {mg : Str → Option Value} {i : Nat} : SemG K mg (gName i) (.nm i) := by
  intro σ H env env' l v d h e Q q
  have e : (if i < env.length then some (env.set i (.sh d)) else none) = some env' := e
  split at e
  · rename_i hi
    cases e
    refine q _ ⟨by rw [List.length_set, List.length_set]; exact h.len, Rep.asg (h.rep.perm perm_mid.symm) h.len hi⟩ ⟨by rw [List.length_set], fun k hk => List.getElem?_set_ne (fun z => hk (by simp [Tgt.slots, z]))⟩
  · cases e
def gNames : List Nat → TGs
  | [] => gNil
  | i :: is => gCons (gName i) (gNames is)
theorem setAll_ok {K : PySem.W.Frag} {mg : Str → Option Value} {H : Hp} {l : List Item} : ∀ {is : List Nat} {ds : List D} {σ : L2.St} {env env' : Lo} {vs : List V} {Q : L2.St → Hp → Prop}, vs.length = ds.length → Hold K mg H σ env ((vs.map some).zip (ds.map Sl.sh) ++ l) → setAll env is ds = some env' →
    (∀ σ', Hold K mg H σ' env' l → OffEq is σ σ' → Q σ' H) → gNames is vs σ H Q
  | [], [], σ, env, env', vs, Q, hl, h, e, q => by
    cases e
    have : vs = [] := by simpa using hl
    subst this
    exact ⟨rfl, q σ h ⟨rfl, fun _ _ => rfl⟩⟩
  | [], _ :: _, _, _, _, _, _, _, _, e, _ => by cases e
  | _ :: _, [], _, _, _, _, _, _, _, e, _ => by cases e
  | i :: is, d :: ds, σ, env, env', vs, Q, hl, h, e, q => by
    cases vs with
    | nil => simp at hl
    | cons v vs =>
      unfold setAll at e
      split at e
      · rename_i hi
        have h0 : Rep K mg H ((some v, Sl.sh d) :: (σ.zip env ++ ((vs.map some).zip (ds.map Sl.sh) ++ l))) := h.rep.perm perm_mid.symm
        refine ⟨v, vs, rfl, setAll_ok (σ := σ.set i (some v)) (env := env.set i (.sh d)) (by simpa using hl) ⟨by rw [List.length_set, List.length_set]; exact h.len, h0.asg h.len hi⟩ e fun σ' h' o => q σ' h' ⟨by rw [o.1, List.length_set], fun k hk => ?_⟩⟩
        rw [List.mem_cons, not_or] at hk
        rw [o.2 k hk.2, List.getElem?_set_ne (fun z => hk.1 z.symm)]
      · cases e
theorem dtAll_items {K : PySem.W.Frag} {mg : Str → Option Value} {G H : Hp} {L : List Item} {os : List Addr} (h : Rp K mg G H L os) : ∀ {vs : List V} {ds : List D}, DtAll K G vs ds → Rp K mg G H ((vs.map some).zip (ds.map Sl.sh) ++ L) os
  | _, _, .nil => h
  | _, _, .cons r t => (dtAll_items h t).sh r
theorem semg_tp {K : PySem.W.Frag} {mg : Str → Option Value} {is : List Nat} : SemG K mg (gTup K is.length (gNames is)) (.tp is) := by
  intro σ H env env' l v d h e Q q
  cases d <;> first | (cases e; done) | skip
  rename_i ds
  obtain ⟨G, os, rp⟩ := h.rep
  obtain ⟨v', ev, dd⟩ := rp.shOf (List.mem_append_right _ List.mem_cons_self)
  cases ev
  cases dd with
  | @tup a xs _ hs ha =>
    have e : setAll env is ds = some env' := e
    have hlen : ∀ {is : List Nat} {ds : List D} {env env' : Lo}, setAll env is ds = some env' → ds.length = is.length := by
      intro is
      induction is with
      | nil => intro ds env env' e; cases ds <;> first | rfl | cases e
      | cons i is ih =>
        intro ds env env' e
        cases ds with
        | nil => cases e
        | cons d ds =>
          unfold setAll at e
          split at e
          · simp [ih e]
          · cases e
    refine ⟨a, xs, rfl, .of (rp.same _ _ hs), by rw [ha.length, hlen e], ?_⟩
    refine setAll_ok (by rw [ha.length]) ⟨h.len, ?_⟩ e q
    have := dtAll_items rp ha
    refine Rep.perm (Rep.tail (Rep.perm ⟨_, _, this⟩ (l' := (some (V.ref a), Sl.sh (.tuple ds)) :: ((xs.map some).zip (ds.map Sl.sh) ++ (σ.zip env ++ l))) ?_)) ?_
    · exact (List.Perm.append_left _ perm_mid.symm).trans perm_mid.symm
    · rw [← List.append_assoc, ← List.append_assoc]
      exact List.perm_append_comm.append_right l

/-! ### what is walked -/
abbrev EvI := Lo → Res (List Sl × List D × Lo)
def ItOk (K : PySem.W.Frag) (mg : Str → Option Value) (J : It) (its : List Item) (ds : List D) : Prop :=
  ∀ (i : Nat) (G H : Hp) (os : List Addr) (L : List Item), Rp K mg G H L os → (∀ it ∈ its, it ∈ L) →
    (∀ d, ds[i]? = some d → J.go i H ∧ ∀ x H', J.yld i H x H' → ∃ G', Grow G H G' H' ∧ Dt K G' x d) ∧ (i = ds.length → J.stop i H)
def SemI (K : PySem.W.Frag) (mg : Str → Option Value) (w : TI) (f : EvI) : Prop :=
  ∀ (σ : L2.St) (H : Hp) (env : Lo) (l : List Item) (ks : List Sl) (ds : List D) (env' : Lo), Hold K mg H σ env l → f env = .ok (ks, ds, env') → ∀ R : It → Hp → Prop,
    (∀ J vs H', HoldA K mg H' σ env' l vs ks → ItOk K mg J ((vs.map some).zip ks) ds → R J H') → w σ H R
structure SI (X : Cx) (tg e : Expr) (f : EvI) : Prop where
  ex : ∃ w, PI X tg e w ∧ SemI X.K X.mg w f
theorem HoldV.toA {K : PySem.W.Frag} {mg : Str → Option Value} {H : Hp} {σ : L2.St} {env : Lo} {l : List Item} {v : V} {r : Sl} (h : HoldV K mg H σ env l v r) : HoldA K mg H σ env l [v] [r] :=
  ⟨h.len, h.rep, rfl, fun k v' r' e1 e2 => by
    cases k with
    | zero => simp at e1 e2; subst e1; subst e2; exact h.vw
    | succ k => simp at e1⟩
theorem itok_list {K : PySem.W.Frag} {mg : Str → Option Value} {v : V} {ds : List D} {a : Addr} (hv : v = .ref a) {s : Sl} (hs : s = .sh (.list ds) ∨ s = .ol ds) : ItOk K mg (Itl K a) [(some v, s)] ds := by
  intro i G H os L rp hm
  have hm1 : (some v, s) ∈ L := hm _ (by simp)
  have key : ∃ vs, SqL K H a vs ∧ DtAll K G vs ds := by
    subst hv
    rcases hs with rfl | rfl
    · obtain ⟨v', e, d⟩ := rp.shOf hm1
      cases e
      cases d with
      | lst h1 h2 => exact ⟨_, .of (rp.same _ _ h1), h2⟩
    · obtain ⟨o, ri⟩ := rp.rl.mem hm1
      obtain ⟨p, vs, e, _, hp, ha⟩ := ri.ol_inv
      cases e
      exact ⟨vs, .of hp, ha⟩
  obtain ⟨vs, h1, h2⟩ := key
  refine ⟨fun d hd => ?_, fun hi => ⟨vs, h1, by rw [h2.length]; omega⟩⟩
  obtain ⟨x, e1, e2⟩ := h2.get hd
  refine ⟨⟨vs, x, h1, e1⟩, fun y H' hy => ?_⟩
  obtain ⟨rfl, hy⟩ := hy
  have := hy vs h1
  rw [e1] at this; cases this
  exact ⟨G, .refl, e2⟩
theorem itok_tup {K : PySem.W.Frag} {mg : Str → Option Value} {v : V} {ds : List D} {a : Addr} (hv : v = .ref a) : ItOk K mg (Itt K a) [(some v, .sh (.tuple ds))] ds := by
  intro i G H os L rp hm
  have hm1 : (some v, Sl.sh (.tuple ds)) ∈ L := hm _ (by simp)
  have key : ∃ vs, SqT K H a vs ∧ DtAll K G vs ds := by
    subst hv
    obtain ⟨v', e, d⟩ := rp.shOf hm1
    cases e
    cases d with
    | tup h1 h2 => exact ⟨_, .of (rp.same _ _ h1), h2⟩
  obtain ⟨vs, h1, h2⟩ := key
  refine ⟨fun d hd => ?_, fun hi => ⟨vs, h1, by rw [h2.length]; omega⟩⟩
  obtain ⟨x, e1, e2⟩ := h2.get hd
  refine ⟨⟨vs, x, h1, e1⟩, fun y H' hy => ?_⟩
  obtain ⟨rfl, hy⟩ := hy
  have := hy vs h1
  rw [e1] at this; cases this
  exact ⟨G, .refl, e2⟩
/-- a list or a tuple by its value -/
def fIter (fa : EvF) : EvI := fun env => do
  let (r, e1) ← fa env
  let (d, e2) ← Res.ofO (freezeR e1 r)
  match d with
  | .list ds => .ok ([.sh (.list ds)], ds, e2)
  | .tuple ds => .ok ([.sh (.tuple ds)], ds, e2)
  | _ => .bad
def iSeq (K : PySem.W.Frag) (te : TE) : TI := fun σ H R => te σ H fun x H1 => (∃ a, x = .ref a ∧ (∃ xs, SqL K H1 a xs) ∧ R (Itl K a) H1) ∨ ∃ a, x = .ref a ∧ (∃ xs, SqT K H1 a xs) ∧ R (Itt K a) H1
section
variable {X : Cx} {tg e : Expr} {fa fb : EvF} {te : TE}
theorem pi_seq (he : PE X e te) : PI X tg e (iSeq X.K te) := by
  refine ⟨fun pins s σ H R I h => thn (he.run pins s σ H _ I h) fun v s1 ⟨x, H1, I1, rx, q1⟩ => ?_⟩
  have fr : ∀ b ∈ [s1.heap.objs.size], FpOk X pins H1 b := fun b hb => by
    rw [List.mem_singleton] at hb
    rw [hb]
    exact I1.fpOk (Nat.le_refl _) (I1.hok.fresh (Nat.le_refl _))
  rcases q1 with ⟨a, rfl, ⟨xs, hq⟩, q⟩ | ⟨a, rfl, ⟨xs, hq⟩, q⟩
  · cases rx
    obtain ⟨its, _, pl, _⟩ := I1.list hq
    exact wpAny_pyIter_list pl.isList ⟨_, [s1.heap.objs.size], _, Itl X.K a, H1, rfl, I1.kept (t' := s1.toks) fun b o eb => Heap.get?_push_of_some _ eb, turn_list a _, ⟨_, Heap.get?_push_size _ rfl, rfl, rfl⟩, fr, q⟩
  · cases rx
    obtain ⟨its, _, pt, _⟩ := I1.tuple hq
    exact wpAny_pyIter_tuple (show s1.heap.IsTuple a its.toArray from pt) ⟨_, [s1.heap.objs.size], _, Itt X.K a, H1, rfl, I1.kept (t' := s1.toks) fun b o eb => Heap.get?_push_of_some _ eb, turn_tuple a _, ⟨_, Heap.get?_push_size _ rfl, rfl, rfl⟩, fr, q⟩
theorem si_val (he : SE X e fa) : SI X tg e (fIter fa) := by
  obtain ⟨t, p, s⟩ := he.ex
  refine ⟨_, pi_seq p, ?_⟩
  intro σ H env l ks ds env' h e R q
  unfold fIter at e
  obtain ⟨⟨r, e1⟩, ea, e⟩ := Res.bind_ok e
  obtain ⟨⟨d, e2⟩, eb, e⟩ := Res.bind_ok e
  replace eb := Res.ofO_ok eb
  refine s σ H env l r e1 h ea _ fun v H1 h1 => ?_
  have h2 := h1.freeze eb
  obtain ⟨G, os, rp⟩ := h2.rep
  obtain ⟨v', ev, dd⟩ := rp.shOf List.mem_cons_self
  cases ev
  cases dd <;> first | (cases e; done) | skip
  case lst a xs ds' hs ha =>
    cases e
    exact .inl ⟨a, rfl, ⟨xs, .of (rp.same _ _ hs)⟩, q _ [_] H1 h2.toA (itok_list rfl (.inl rfl))⟩
  case tup a xs ds' hs ha =>
    cases e
    exact .inr ⟨a, rfl, ⟨xs, .of (rp.same _ _ hs)⟩, q _ [_] H1 h2.toA (itok_tup rfl)⟩
/-- range(n), range(a, b) -/
def rngD (lo : Int) (n : Nat) : List D := (List.range n).map fun (i : Nat) => PyData.int (lo + i)
theorem itok_rng {K : PySem.W.Frag} {mg : Str → Option Value} {lo : Int} {n : Nat} : ItOk K mg (Itr lo n) [] (rngD lo n) := by
  intro i G H os L rp _
  have hl : (rngD lo n).length = n := by simp [rngD]
  refine ⟨fun d hd => ?_, fun hi => by rw [hl] at hi; show n ≤ i; omega⟩
  have hi : i < n := by
    have := (List.getElem?_eq_some_iff.mp hd).1
    rw [hl] at this; exact this
  refine ⟨hi, fun y H' hy => ?_⟩
  obtain ⟨rfl, rfl⟩ := hy
  have : d = .int (lo + i) := by
    unfold rngD at hd
    rw [List.getElem?_map, List.getElem?_range hi] at hd
    cases hd; rfl
  subst this
  exact ⟨G, .refl, .int _⟩
def fRng (fs : EvA) : EvI := fun env => do
  let (rs, e1) ← fs env
  match rs with
  | [.sh (.int j)] => if -(2 ^ 62) ≤ j ∧ j < 2 ^ 62 then .ok ([], rngD 0 j.toNat, e1) else .bad
  | [.sh (.int i), .sh (.int j)] => if -(2 ^ 62) ≤ i ∧ i < 2 ^ 62 ∧ -(2 ^ 62) ≤ j ∧ j < 2 ^ 62 then .ok ([], rngD i (j - i).toNat, e1) else .bad
  | _ => .bad
theorem HoldA.none {K : PySem.W.Frag} {mg : Str → Option Value} {H : Hp} {σ : L2.St} {env : Lo} {l : List Item} {vs : List V} {rs : List Sl} (h : HoldA K mg H σ env l vs rs) : HoldA K mg H σ env l [] [] :=
  ⟨h.len, Rep.dropA _ h.rep, rfl, fun k v r e => by simp at e⟩
theorem HoldA.int1 {K : PySem.W.Frag} {mg : Str → Option Value} {H : Hp} {σ : L2.St} {env : Lo} {l : List Item} {vs : List V} {ns : List Int} (h : HoldA K mg H σ env l vs (ns.map fun i => Sl.sh (.int i))) : vs = ns.map V.int := by
  obtain ⟨G, os, rp⟩ := h.rep
  have e : (ns.map fun i => Sl.sh (.int i)) = (ns.map PyData.int).map Sl.sh := by simp
  have hl : vs.length = (ns.map PyData.int).length := by have := h.alen; simpa using this
  rw [e] at rp
  exact (rp.all hl fun it hi => List.mem_append_left _ hi).of_ints
theorem si_rng1 {a : Expr} {fs : EvA} {p pos : Pos} (hg : Gl X "range") (hm : X.mg "range" = none) (ha : SA X [a] fs) (hs : starEach [a] X.env = [(false, eval a X.env)] := by rfl) (hn : ArN fs 1 := by exact ar_cons ar_nil) : SI X tg (.Call (.Name "range" p) [a] [] pos) (fRng fs) := by
  obtain ⟨t, p', s⟩ := ha.ex
  refine ⟨_, pi_range1 hg hm p' hs, ?_⟩
  intro σ H env l ks ds env' h e R q
  unfold fRng at e
  obtain ⟨⟨rs, e1⟩, ea, e⟩ := Res.bind_ok e
  have har := hn.eq _ _ _ ea
  refine s σ H env l rs e1 h ea _ fun vs H1 h1 => ?_
  dsimp only at e
  split at e
  · rename_i j
    split at e
    · rename_i hj
      cases e
      have : vs = [V.int j] := HoldA.int1 (ns := [j]) h1
      subst this
      exact ⟨j, rfl, hj.1, hj.2, q _ [] H1 h1.none itok_rng⟩
    · cases e
  · simp at har
  · cases e
theorem si_rng2 {a b : Expr} {fs : EvA} {p pos : Pos} (hg : Gl X "range") (hm : X.mg "range" = none) (ha : SA X [a, b] fs) (hs : starEach [a, b] X.env = [(false, eval a X.env), (false, eval b X.env)] := by rfl) (hs2 : starEach [b] X.env = [(false, eval b X.env)] := by rfl) (hn : ArN fs 2 := by exact ar_cons (ar_cons ar_nil)) :
    SI X tg (.Call (.Name "range" p) [a, b] [] pos) (fRng fs) := by
  obtain ⟨t, p', s⟩ := ha.ex
  refine ⟨_, pi_range2 hg hm p' hs hs2, ?_⟩
  intro σ H env l ks ds env' h e R q
  unfold fRng at e
  obtain ⟨⟨rs, e1⟩, ea, e⟩ := Res.bind_ok e
  have har := hn.eq _ _ _ ea
  refine s σ H env l rs e1 h ea _ fun vs H1 h1 => ?_
  dsimp only at e
  split at e
  · simp at har
  · rename_i i j
    split at e
    · rename_i hj
      cases e
      have : vs = [V.int i, V.int j] := HoldA.int1 (ns := [i, j]) h1
      subst this
      exact ⟨i, j, rfl, hj, q _ [] H1 h1.none itok_rng⟩
    · cases e
  · cases e
end

/-! ### for -/
def loopF (tg : Tgt) (b : EvS) : List D → EvS
  | [], env => .ok (.nx env)
  | d :: ds, env => do
    let e1 ← Res.ofO (bindT tg d env)
    match ← b e1 with
    | .nx e2 => loopF tg b ds e2
    | .ct e2 => loopF tg b ds e2
    | .bk e2 => .ok (.nx e2)
    | .rt r e2 => .ok (.rt r e2)
def fFor (fi : EvI) (tg : Tgt) (b : EvS) : EvS := fun env => do
  let (_, ds, e1) ← fi env
  loopF tg b ds e1
theorem keep_off {ks is : List Nat} {σ σ' : L2.St} (h : ∀ k ∈ ks, k ∉ is) (o : OffEq is σ σ') : KeepEq ks σ σ' := fun k hk => o.2 k (h k hk)
theorem Rep.dropM {K : PySem.W.Frag} {mg : Str → Option Value} {H : Hp} {A M L : List Item} (h : Rep K mg H (A ++ (M ++ L))) : Rep K mg H (A ++ L) := by
  refine Rep.dropA M (h.perm ?_)
  rw [← List.append_assoc, ← List.append_assoc]
  exact List.perm_append_comm.append_right L
theorem sem_loop {K : PySem.W.Frag} {mg : Str → Option Value} {ks : List Nat} {g : TG} {tg : Tgt} {tb : TS} {b : EvS} (sg : SemG K mg g tg) (sb : SemS K mg ks tb b) (hk : ∀ k ∈ ks, k ∉ tg.slots) {J : It} {its : List Item} {ds : List D} (ok : ItOk K mg J its ds)
    {σ : L2.St} {H : Hp} {env : Lo} {l : List Item} {o : Out} (h : Hold K mg H σ env (its ++ l)) (e : loopF tg b ds env = .ok o) {D : Ends} (post : PostS K mg D ks σ (its ++ l) o) :
    ∃ W : Nat → Nat → L2.St → Hp → Prop, (∃ m, W 0 m σ H) ∧ ∀ i m σ H, W i m σ H →
      (J.stop i H ∧ D.nx σ H) ∨ (J.go i H ∧ ∃ N : L2.St → Hp → Prop, (∀ σ' H', N σ' H' → ∃ m', m' < m ∧ W (i + 1) m' σ' H') ∧ ∀ x H', J.yld i H x H' → g x σ H' fun σ2 H2 => tb { D with nx := N, ct := N, bk := D.nx } σ2 H2) := by
  refine ⟨fun i m σ' H' => m + i = ds.length ∧ KeepEq ks σ σ' ∧ ∃ env', Hold K mg H' σ' env' (its ++ l) ∧ loopF tg b (ds.drop i) env' = .ok o, ⟨ds.length, rfl, .refl, env, h, e⟩, ?_⟩
  rintro i m σ1 H1 ⟨hm, k1, env1, h1, e1⟩
  obtain ⟨G, os, rp⟩ := h1.rep
  obtain ⟨okg, oks⟩ := ok i G H1 os _ rp fun it hi => List.mem_append_right _ (List.mem_append_left _ hi)
  by_cases hi : i < ds.length
  · have hd : ds[i]? = some ds[i] := List.getElem?_eq_getElem hi
    obtain ⟨go, yl⟩ := okg _ hd
    rw [List.drop_eq_getElem_cons hi] at e1
    unfold loopF at e1
    obtain ⟨e2, eb, e1⟩ := Res.bind_ok e1
    replace eb := Res.ofO_ok eb
    obtain ⟨ob, ec, e1⟩ := Res.bind_ok e1
    refine .inr ⟨go, fun σ' H' => KeepEq ks σ σ' ∧ ∃ env', Hold K mg H' σ' env' (its ++ l) ∧ loopF tg b (ds.drop (i + 1)) env' = .ok o, fun σ' H' q => ⟨m - 1, by omega, by omega, q⟩, fun x H2 hy => ?_⟩
    obtain ⟨G', gr, dd⟩ := yl x H2 hy
    have h2 : Hold K mg H2 σ1 env1 ((some x, .sh ds[i]) :: (its ++ l)) := ⟨h1.len, Rep.perm ⟨_, _, (rp.grow gr).sh dd⟩ perm_mid⟩
    refine sg σ1 H2 env1 e2 _ x _ h2 eb _ fun σ2 h3 off => ?_
    have k2 : KeepEq ks σ σ2 := k1.trans (keep_off hk off)
    refine sb σ2 H2 e2 _ ob h3 ec _ ?_
    cases ob with
    | nx e3 => exact fun σ' H' h' k' => ⟨k2.trans k', e3, h', e1⟩
    | ct e3 => exact fun σ' H' h' k' => ⟨k2.trans k', e3, h', e1⟩
    | bk e3 => cases e1; exact fun σ' H' h' k' => post σ' H' h' (k2.trans k')
    | rt r e3 => cases e1; exact fun v σ' H' h' n k' => post v σ' H' h' n (k2.trans k')
  · rw [List.drop_eq_nil_of_le (by omega)] at e1
    cases e1
    exact .inl ⟨oks (by omega), post σ1 H1 h1 k1⟩
theorem PostS.more {K : PySem.W.Frag} {mg : Str → Option Value} {D : Ends} {ks : List Nat} {σ : L2.St} {M l : List Item} {o : Out} (p : PostS K mg D ks σ l o) : PostS K mg D ks σ (M ++ l) o := by
  have hh : ∀ {H' : Hp} {σ' : L2.St} {e : Lo}, Hold K mg H' σ' e (M ++ l) → Hold K mg H' σ' e l := fun h => ⟨h.len, h.rep.dropM⟩
  cases o with
  | nx e => exact fun σ' H' h q => p σ' H' (hh h) q
  | bk e => exact fun σ' H' h q => p σ' H' (hh h) q
  | ct e => exact fun σ' H' h q => p σ' H' (hh h) q
  | rt r e => exact fun v σ' H' h n q => p v σ' H' ⟨h.len, by
      have := h.rep
      rw [← List.cons_append] at this
      have q := this.dropM
      rw [List.cons_append] at q
      exact q, h.vw⟩ n q
section
variable {X : Cx} {ks : List Nat} {tg iter : Expr} {body : List Stmt} {fi : EvI} {b : EvS} {pos : Pos} {g : TG} {tt : Tgt}
theorem ss_for (hp : PassesOwn (model X.prog X.w) X.A X.env X.xe) (hc : X.calm = true) (hi : SI X tg iter fi) (hg : PG X tg g) (sg : SemG X.K X.mg g tt) (hb : SSs X ks body b) (hk : ∀ k ∈ ks, k ∉ tt.slots := by decide)
    (hs : ∀ x, foldedSetIterable iter X.env x = pure x := by intro _; rfl) : SS X ks (.For tg iter body [] pos) (fFor fi tt b) := by
  obtain ⟨w, pi, si⟩ := hi.ex
  obtain ⟨t, p, s⟩ := hb.ex
  refine ⟨_, ps_for hp hc pi hg p hs, ?_⟩
  intro σ H env l o h e D post
  unfold fFor at e
  obtain ⟨⟨ksl, ds, e1⟩, ea, e⟩ := Res.bind_ok e
  refine si σ H env l ksl ds e1 h ea _ fun J vs H1 h1 ok => ?_
  refine sem_loop sg s hk ok ⟨h1.len, ?_⟩ e post.more
  refine h1.rep.perm ?_
  rw [← List.append_assoc, ← List.append_assoc]
  exact List.perm_append_comm.append_right l
end
end FL

/-! FL7: comprehensions, a def's promise, zip, changes of one's own -/
namespace FL
open PySem PySem.Spec PyProof.Rows L2

/-! ### the reading that a function makes by itself -/
def tCan (K : PySem.W.Frag) (mg : Str → Option Value) (f : EvF) : TE := fun σ H Q => ∃ (env : Lo) (l : List Item) (r : Sl) (env' : Lo), Hold K mg H σ env l ∧ f env = .ok (r, env') ∧ ∀ v H', HoldV K mg H' σ env' l v r → Q v H'
def tCanT (K : PySem.W.Frag) (mg : Str → Option Value) (f : EvT) : TT := fun σ H Q => ∃ (env : Lo) (l : List Item) (b : Bool) (env' : Lo), Hold K mg H σ env l ∧ f env = .ok (b, env') ∧ ∀ H', Hold K mg H' σ env' l → Q b H'
theorem SE.canon {X : Cx} {e : Expr} {f : EvF} (h : SE X e f) : PE X e (tCan X.K X.mg f) := by
  obtain ⟨t, p, s⟩ := h.ex
  exact ⟨fun pins s' σ H Q I ⟨env, l, r, env', h1, h2, h3⟩ => p.run pins s' σ H Q I (s σ H env l r env' h1 h2 Q h3)⟩
theorem ST.canon {X : Cx} {e : Expr} {f : EvT} (h : ST X e f) : PT X e (tCanT X.K X.mg f) := by
  obtain ⟨t, p, s⟩ := h.ex
  exact ⟨fun pins s' σ H Q I ⟨env, l, r, env', h1, h2, h3⟩ => p.run pins s' σ H Q I (s σ H env l r env' h1 h2 Q h3)⟩

/-! ### comprehensions -/
def wipeE (env : Lo) : List Nat → Lo
  | [] => env
  | v :: vs => (wipeE env vs).set v .no
def restoreE (env : Lo) : List Nat → Lo → Lo
  | [], e => e
  | j :: js, e => restoreE env js (e.set j ((wipeE env js)[j]?.getD .no))
theorem wipeE_length (env : Lo) : ∀ vs : List Nat, (wipeE env vs).length = env.length
  | [] => rfl
  | v :: vs => by unfold wipeE; rw [List.length_set, wipeE_length env vs]
section
variable {K : PySem.W.Frag} {mg : Str → Option Value} {H : Hp} {σ : L2.St} {env : Lo} {l : List Item}
/-- a slot's item given up -/
theorem Hold.give (h : Hold K mg H σ env l) (j : Nat) : Hold K mg H (σ.set j none) (env.set j .no) l := by
  refine ⟨by rw [List.length_set, List.length_set]; exact h.len, ?_⟩
  by_cases hj : j < env.length
  · have e1 : σ[j]? = some (σ[j]'(by have := h.len; omega)) := List.getElem?_eq_getElem _
    have e2 : env[j]? = some env[j] := List.getElem?_eq_getElem hj
    obtain ⟨R, p1, p2, _⟩ := zip_perm e1 e2
    have q : Rep K mg H ((σ[j]'(by have := h.len; omega), env[j]) :: (R ++ l)) := h.rep.perm (p1.append_right l)
    exact (q.tail.no none).perm ((p2 none .no).append_right l).symm
  · rw [List.set_eq_of_length_le (by have := h.len; omega), List.set_eq_of_length_le (by omega)]
    exact h.rep
theorem Hold.wipe (h : Hold K mg H σ env l) : ∀ vs : List Nat, Hold K mg H (L2.wipe σ vs) (wipeE env vs) l
  | [] => h
  | v :: vs => (h.wipe vs).give v
/-- the block's own slots: what they held is put aside -/
theorem Hold.aside (h : Hold K mg H σ env l) : ∀ vs : List Nat, (∀ j ∈ vs, j < env.length) → ∃ sv : List Item, Hold K mg H (L2.wipe σ vs) (wipeE env vs) (sv ++ l) ∧
    ∀ H' env' L, Hold K mg H' (L2.wipe σ vs) env' (sv ++ L) → Hold K mg H' σ (restoreE env vs env') L := by
  intro vs
  induction vs with
  | nil => intro _; exact ⟨[], h, fun H' env' L h' => h'⟩
  | cons j js ih =>
    intro hlt
    obtain ⟨sv, h1, h2⟩ := ih fun i hi => hlt i (List.mem_cons_of_mem _ hi)
    have hj : j < (wipeE env js).length := by rw [wipeE_length]; exact hlt j List.mem_cons_self
    have e2 : (wipeE env js)[j]? = some (wipeE env js)[j] := List.getElem?_eq_getElem hj
    obtain ⟨ov, e1, rp⟩ := h1.take e2
    refine ⟨(ov, (wipeE env js)[j]) :: sv, ?_, fun H' env' L h' => ?_⟩
    · have hh : Hold K mg H (L2.wipe σ js) ((wipeE env js).set j .no) ((ov, (wipeE env js)[j]) :: (sv ++ l)) := ⟨by rw [List.length_set]; exact h1.len, rp.perm perm_mid⟩
      have := hh.give j
      rw [List.set_set] at this
      exact this
    · refine h2 H' _ L ?_
      have hlen : ((L2.wipe σ js).set j none).length = env'.length := h'.len
      rw [List.length_set] at hlen
      have hj2 : j < env'.length := by rw [← hlen, h1.len]; exact hj
      have hr : Rep K mg H' ((ov, (wipeE env js)[j]) :: (((L2.wipe σ js).set j none).zip env' ++ (sv ++ L))) := h'.rep.perm perm_mid.symm
      have e3 : ((L2.wipe σ js).set j none)[j]? = some none := List.getElem?_set_self (by omega)
      have e4 : env'[j]? = some env'[j] := List.getElem?_eq_getElem hj2
      obtain ⟨R, p1, p2, _⟩ := zip_perm e3 e4
      refine ⟨by rw [List.length_set]; exact hlen, ?_⟩
      rw [e2]
      have q : Rep K mg H' ((none, env'[j]) :: ((ov, (wipeE env js)[j]) :: (R ++ (sv ++ L)))) := hr.perm (((p1.append_right _).cons _).trans (.swap _ _ _))
      have q2 := q.tail.perm ((p2 ov (wipeE env js)[j]).append_right (sv ++ L)).symm
      rw [List.set_set] at q2
      have e5 : (L2.wipe σ js).set j ov = L2.wipe σ js := by
        apply List.ext_getElem?
        intro k
        by_cases hk : j = k
        · subst hk
          rw [List.getElem?_set_self (by rw [h1.len]; exact hj), e1]
        · rw [List.getElem?_set_ne hk]
      rw [e5] at q2
      exact q2
theorem wipe_get (σ : L2.St) (vs : List Nat) (k : Nat) : (L2.wipe σ vs)[k]? = if k ∈ vs then (if k < σ.length then some none else none) else σ[k]? := by
  induction vs with
  | nil => rfl
  | cons v vs ih =>
    show ((L2.wipe σ vs).set v none)[k]? = _
    by_cases h : v = k
    · subst h
      rw [if_pos List.mem_cons_self]
      split
      · rename_i hl
        exact List.getElem?_set_self (by rw [wipe_length]; exact hl)
      · rename_i hl
        rw [List.getElem?_eq_none (by rw [List.length_set, wipe_length]; omega)]
    · rw [List.getElem?_set_ne h, ih]
      have e : (k ∈ v :: vs) ↔ k ∈ vs := by simp [show ¬ k = v from fun z => h z.symm]
      simp only [e]
theorem wipe_off {σ2 : L2.St} {is vs : List Nat} (o : OffEq is (L2.wipe σ vs) σ2) (h : ∀ k ∈ is, k ∈ vs) : L2.wipe σ2 vs = L2.wipe σ vs := by
  apply List.ext_getElem?
  intro k
  have hl : σ2.length = σ.length := by rw [o.1, wipe_length]
  rw [wipe_get, wipe_get, hl]
  by_cases hk : k ∈ vs
  · rw [if_pos hk, if_pos hk]
  · rw [if_neg hk, if_neg hk, o.2 k (fun z => hk (h k z)), wipe_get, if_neg hk]
end
def compF (tg : Tgt) (ft : EvT) (fe : EvF) (own : List Nat) : List D → List D → Lo → Res (List D × Lo)
  | [], acc, env => .ok (acc, env)
  | d :: ds, acc, env => do
    let e1 ← Res.ofO (bindT tg d env)
    let (b, e2) ← ft e1
    if b = true then
      let (r, e3) ← fe e2
      let (d', e4) ← Res.ofO (freezeR e3 r)
      if acc.length < 16777216 then compF tg ft fe own ds (acc ++ [d']) (wipeE e4 own) else .bad
    else compF tg ft fe own ds acc (wipeE e2 own)
def fLc (fi : EvI) (tg : Tgt) (ft : EvT) (fe : EvF) (own : List Nat) : EvF := fun env => do
  let (_, ds, e1) ← fi env
  if ∀ j ∈ own, j < e1.length then
    let (acc, e2) ← compF tg ft fe own ds [] (wipeE e1 own)
    .ok (.ol acc, restoreE e1 own e2)
  else .bad
def fYes : EvT := fun env => .ok (true, env)
theorem semt_yes {K : PySem.W.Frag} {mg : Str → Option Value} : SemT K mg tYes fYes := fun σ H env l b env' h e Q q => by cases e; exact q H h
theorem semt_can {K : PySem.W.Frag} {mg : Str → Option Value} {f : EvT} : SemT K mg (tCanT K mg f) f := fun σ H env l b env' h e Q q => ⟨env, l, b, env', h, e, q⟩
theorem sem_lc {K : PySem.W.Frag} {mg : Str → Option Value} {w : TI} {fi : EvI} {g : TG} {tg : Tgt} {tt : TT} {ft : EvT} {fe : EvF} {own : List Nat} (si : SemI K mg w fi) (sg : SemG K mg g tg) (st : SemT K mg tt ft) (ho : ∀ k ∈ tg.slots, k ∈ own) :
    SemE K mg (tLc w g tt (tCan K mg fe) own) (fLc fi tg ft fe own) := by
  intro σ H env l r env' h e Q q
  unfold fLc at e
  obtain ⟨⟨ks, ds, e1⟩, ea, e⟩ := Res.bind_ok e
  dsimp only at e
  split at e
  · rename_i hown
    obtain ⟨⟨accF, e2⟩, eb, e⟩ := Res.bind_ok e
    cases e
    refine si σ H env l ks ds e1 h ea _ fun J vs H1 h1 ok => fun Dd hD => ?_
    -- the new list
    obtain ⟨G1, os1, rp1⟩ := h1.rep
    have h2 : Hold K mg (upd H1 Dd (.lst [])) σ e1 ((some (.ref Dd), .ol []) :: ((vs.map some).zip ks ++ l)) := ⟨h1.len, by
      have := Rp.newOl (K := K) (mg := mg) rp1 hD (.nil)
      refine Rep.perm ⟨_, _, this⟩ ?_
      refine List.Perm.trans (List.Perm.cons _ ?_) perm_mid
      rw [← List.append_assoc, ← List.append_assoc]
      exact List.perm_append_comm.append_right l⟩
    obtain ⟨sv, h3, back⟩ := h2.aside own hown
    refine ⟨fun i m H' => m + i = ds.length ∧ ∃ env3 acc, Hold K mg H' (L2.wipe σ own) env3 (sv ++ ((some (.ref Dd), .ol acc) :: ((vs.map some).zip ks ++ l))) ∧ compF tg ft fe own (ds.drop i) acc env3 = .ok (accF, e2), ⟨ds.length, rfl, _, [], h3, eb⟩, ?_⟩
    rintro i m H4 ⟨hm, env4, acc, h4, e4⟩
    obtain ⟨G4, os4, rp4⟩ := h4.rep
    obtain ⟨okg, oks⟩ := ok i G4 H4 os4 _ rp4 fun it hi => List.mem_append_right _ (List.mem_append_right _ (List.mem_cons_of_mem _ (List.mem_append_left _ hi)))
    by_cases hi : i < ds.length
    · have hd : ds[i]? = some ds[i] := List.getElem?_eq_getElem hi
      obtain ⟨go, yl⟩ := okg _ hd
      rw [List.drop_eq_getElem_cons hi] at e4
      unfold compF at e4
      obtain ⟨e5, ec, e4⟩ := Res.bind_ok e4
      replace ec := Res.ofO_ok ec
      obtain ⟨⟨b, e6⟩, et, e4⟩ := Res.bind_ok e4
      refine .inr ⟨go, fun H' => ∃ env3 acc, Hold K mg H' (L2.wipe σ own) env3 (sv ++ ((some (.ref Dd), .ol acc) :: ((vs.map some).zip ks ++ l))) ∧ compF tg ft fe own (ds.drop (i + 1)) acc env3 = .ok (accF, e2), fun H' q => ⟨m - 1, by omega, by omega, q⟩, fun x H5 hy => ?_⟩
      obtain ⟨G', gr, dd⟩ := yl x H5 hy
      have h5 : Hold K mg H5 (L2.wipe σ own) env4 ((some x, .sh ds[i]) :: (sv ++ ((some (.ref Dd), .ol acc) :: ((vs.map some).zip ks ++ l)))) := ⟨h4.len, Rep.perm ⟨_, _, (rp4.grow gr).sh dd⟩ perm_mid⟩
      refine sg _ H5 env4 e5 _ x _ h5 ec _ fun σ2 h6 off => ?_
      have hw : L2.wipe σ2 own = L2.wipe σ own := wipe_off off ho
      refine ⟨hw, ?_⟩
      refine st σ2 H5 e5 _ b e6 h6 et _ fun H6 h7 => ?_
      dsimp only at e4
      cases b with
      | false =>
        rw [if_neg Bool.false_ne_true] at e4
        refine iteF ⟨_, acc, ?_, e4⟩
        have := h7.wipe own
        rw [hw] at this
        exact this
      | true =>
        rw [if_pos rfl] at e4
        obtain ⟨⟨r, e7⟩, ef, e4⟩ := Res.bind_ok e4
        obtain ⟨⟨d', e8⟩, eg, e4⟩ := Res.bind_ok e4
        replace eg := Res.ofO_ok eg
        dsimp only at e4
        split at e4
        · rename_i hz
          refine iteT ⟨e6, _, r, e7, h7, ef, fun y H7 h8 => ?_⟩
          have h9 := h8.freeze eg
          -- the list at Dd
          have p1 : ((some y, Sl.sh d') :: (σ2.zip e8 ++ (sv ++ ((some (V.ref Dd), Sl.ol acc) :: ((vs.map some).zip ks ++ l))))).Perm ((some (V.ref Dd), Sl.ol acc) :: ((some y, Sl.sh d') :: (σ2.zip e8 ++ (sv ++ ((vs.map some).zip ks ++ l))))) := by
            refine List.Perm.trans (List.Perm.cons _ ?_) (.swap _ _ _)
            rw [← List.append_assoc, ← List.append_assoc]
            exact perm_mid.symm
          obtain ⟨G8, os8, rp8⟩ := h9.rep
          obtain ⟨os9, rp9⟩ := rp8.perm p1
          obtain ⟨o, ri⟩ := rp9.rl.mem List.mem_cons_self
          obtain ⟨p, ws, ev, _, hp, ha⟩ := ri.ol_inv
          cases ev
          obtain ⟨v', ev, dy⟩ := rp9.shOf (List.mem_cons_of_mem _ List.mem_cons_self)
          cases ev
          refine ⟨ws, hp, sizeL' (by rw [ha.length]; exact hz), wipeE e8 own, acc ++ [d'], ?_, e4⟩
          have rp10 := rp9.mut (s' := .ol (acc ++ [d'])) (o := .lst (ws ++ [y])) ol_own fun H' e => .bx (.ol e (ha.append (.one dy)))
          have h10 : Hold K mg (upd H7 Dd (.lst (ws ++ [y]))) σ2 e8 (sv ++ ((some (V.ref Dd), Sl.ol (acc ++ [d'])) :: ((vs.map some).zip ks ++ l))) := ⟨h9.len, by
            refine (Rep.tail (Rep.perm ⟨_, _, rp10⟩ (.swap _ _ _))).perm ?_
            exact perm_mid.trans (List.Perm.append_left _ perm_mid)⟩
          have := h10.wipe own
          rw [hw] at this
          exact this
        · cases e4
    · rw [List.drop_eq_nil_of_le (by omega)] at e4
      cases e4
      refine .inl ⟨oks (by omega), q _ H4 ?_⟩
      have hb := back H4 _ _ h4
      refine ⟨hb.len, ?_, fun _ z => by cases z⟩
      have : Rep K mg H4 ((some (V.ref Dd), Sl.ol accF) :: (σ.zip (restoreE e1 own e2) ++ ((vs.map some).zip ks ++ l))) := hb.rep.perm perm_mid.symm
      rw [← List.cons_append] at this
      have := this.dropM
      rw [List.cons_append] at this
      exact this
  · cases e
section
variable {X : Cx} {elt tg iter : Expr} {ifs : List Expr} {scope : Scope} {own : List (Str × Nat)} {pos spos py : Pos} {g : TG} {tt : Tgt} {fi : EvI} {ft : EvT} {fe : EvF} {i : Nat} {y : Str} {ks : List Nat}
/-- a clause's tests -/
structure STs (X : Cx) (ifs : List Expr) (f : EvT) : Prop where
  pts : PTs X ifs (tCanT X.K X.mg f)
theorem sts_nil : STs X [] fYes := ⟨⟨fun pins s σ H Q I ⟨env, l, b, env', h1, h2, h3⟩ => by cases h2; exact pts_nil.run pins s σ H Q I (h3 H h1)⟩⟩
theorem sts_one {c : Expr} (h : ST X c ft) : STs X [c] ft := ⟨pts_one h.canon⟩
theorem se_lc (hc : X.calm = true) (hN : X.N.Nodup) (hi : SI X tg iter fi) (ok : BlkOk X.N X.env.scope scope own) (sg : SemG X.K X.mg g tt) (ho : ∀ k ∈ tt.slots, k ∈ own.map (·.2))
    (hg : ∀ (s : Shared) (H : Hp) (C : Addr) (cl : List (Str × Addr)) (fp : List Addr), PG (X.blk s H scope (compEnvC scope cl C X.env) fp) tg g) (ht : ∀ (s : Shared) (H : Hp) (C : Addr) (cl : List (Str × Addr)) (fp : List Addr), STs (X.blk s H scope (compEnvC scope cl C X.env) fp) ifs ft)
    (he : ∀ (s : Shared) (H : Hp) (C : Addr) (cl : List (Str × Addr)) (fp : List Addr), SE (X.blk s H scope (compEnvC scope cl C X.env) fp) elt fe) (hs : ∀ x, foldedSetIterable iter X.env x = pure x := by intro _; rfl) :
    SE X (.ListComp elt [⟨tg, iter, ifs, 0⟩] scope pos) (fLc fi tt ft fe (own.map (·.2))) := by
  obtain ⟨w, p, s⟩ := hi.ex
  exact ⟨_, pe_lc hc hN p ok hg (fun s H C cl fp => (ht s H C cl fp).pts) (fun s H C cl fp => (he s H C cl fp).canon) hs, sem_lc s sg semt_can ho⟩
theorem ss_setLc (hc : X.calm = true) (hN : X.N.Nodup) (hy : X.N[i]? = some y) (hyl : X.env.scope.names.lookup y = some .local)
    (hsw : swapsWith (.ListComp elt [⟨tg, iter, ifs, 0⟩] scope pos) (some (.Name y py)) spos.line X.env = pure true) (hi : SI X tg iter fi) (ok : BlkOk X.N X.env.scope scope own) (sg : SemG X.K X.mg g tt) (ho : ∀ k ∈ tt.slots, k ∈ own.map (·.2))
    (hg : ∀ (s : Shared) (H : Hp) (C : Addr) (cl : List (Str × Addr)) (fp : List Addr), PG (X.blk s H scope (compEnvC scope cl C X.env) fp) tg g) (ht : ∀ (s : Shared) (H : Hp) (C : Addr) (cl : List (Str × Addr)) (fp : List Addr), STs (X.blk s H scope (compEnvC scope cl C X.env) fp) ifs ft)
    (he : ∀ (s : Shared) (H : Hp) (C : Addr) (cl : List (Str × Addr)) (fp : List Addr), SE (X.blk s H scope (compEnvC scope cl C X.env) fp) elt fe) (hk : i ∉ ks := by decide) (hs : ∀ x, foldedSetIterable iter X.env x = pure x := by intro _; rfl) :
    SS X ks (.Assign [.Name y py] (.ListComp elt [⟨tg, iter, ifs, 0⟩] scope pos) spos) (fAsg i (fLc fi tt ft fe (own.map (·.2)))) := by
  obtain ⟨w, p, s⟩ := hi.ex
  exact ⟨_, ps_setLc hc hN hy hyl hsw p ok hg (fun s H C cl fp => (ht s H C cl fp).pts) (fun s H C cl fp => (he s H C cl fp).canon) hs, sem_asg (sem_lc s sg semt_can ho) hk⟩
end

/-! ### a def's promise -/
def backArgs (io : List Nat) (n : Nat) (env : Lo) : List Sl := (List.range n).map fun k => if k ∈ io then env[k]?.getD .no else .no
/-- m slots, n parameters; io: the parameters that are never stored -/
def runFn (m n : Nat) (io : List Nat) (b : EvS) : Fn := fun args => do
  match ← b (args ++ List.replicate (m - n) .no) with
  | .nx env => if n ≤ env.length then .ok (.sh .none, backArgs io n env) else .bad
  | .rt r env => if n ≤ env.length then .ok (r, backArgs io n env) else .bad
  | _ => .bad
theorem zip_start {K : PySem.W.Frag} {mg : Str → Option Value} {H : Hp} : ∀ {vs : List V} {args : List Sl} {m : Nat} {l : List Item}, vs.length = args.length → Rep K mg H ((vs.map some).zip args ++ l) → Rep K mg H ((vs.map some ++ List.replicate m none).zip (args ++ List.replicate m Sl.no) ++ l) := by
  intro vs args m l hl h
  rw [List.zip_append (by simpa using hl), List.append_assoc]
  have key : ∀ (m : Nat) {M : List Item}, Rep K mg H M → Rep K mg H ((List.replicate m (none : Option V)).zip (List.replicate m Sl.no) ++ M) := by
    intro m
    induction m with
    | zero => intro M h; exact h
    | succ m ih => intro M h; rw [List.replicate_succ, List.replicate_succ, List.zip_cons_cons, List.cons_append]; exact (ih h).no none
  refine (key m h).perm ?_
  rw [← List.append_assoc, ← List.append_assoc]
  exact List.perm_append_comm.append_right l
theorem RL.sub {K : PySem.W.Frag} {mg : Str → Option Value} {G H : Hp} : ∀ {l l' : List Item}, l'.Sublist l → ∀ {os : List Addr}, RL K mg G H l os → ∃ os', RL K mg G H l' os' ∧ os'.Sublist os := by
  intro l l' h
  induction h with
  | slnil => intro os r; exact ⟨os, r, .refl _⟩
  | cons a _ ih =>
    intro os r
    cases r with
    | cons ri t =>
      obtain ⟨os', r', s⟩ := ih t
      exact ⟨os', r', s.trans (List.sublist_append_right _ _)⟩
  | cons_cons a _ ih =>
    intro os r
    cases r with
    | cons ri t =>
      obtain ⟨os', r', s⟩ := ih t
      exact ⟨_, .cons ri r', s.append_left _⟩
/-- back to the parameters -/
theorem back_items {K : PySem.W.Frag} {mg : Str → Option Value} {H : Hp} {vs : List V} {σ' : L2.St} {env' : Lo} {io : List Nat} {it : Item} {l : List Item} (n : Nat) (hv : vs.length = n) (hlen : σ'.length = env'.length) (hn : n ≤ env'.length)
    (hk : ∀ k ∈ io, k < n → σ'[k]? = some (vs[k]?)) (h : Rep K mg H (it :: (σ'.zip env' ++ l))) : Rep K mg H (it :: ((vs.map some).zip (backArgs io n env') ++ l)) := by
  -- prefix of the frame's items, each kept or given up
  have key : ∀ (vs : List V) (σ' : L2.St) (env' : Lo) (f : Nat → Bool) (M : List Item), vs.length ≤ env'.length → σ'.length = env'.length → (∀ k, f k = true → k < vs.length → σ'[k]? = some (vs[k]?)) → Rep K mg H (σ'.zip env' ++ M) →
      Rep K mg H ((vs.map some).zip ((List.range vs.length).map fun k => if f k = true then env'[k]?.getD .no else .no) ++ M) := by
    intro vs
    induction vs with
    | nil => intro σ' env' f M _ _ _ h; exact Rep.dropA _ h
    | cons v vs ih =>
      intro σ' env' f M h1 h2 h3 h4
      cases env' with
      | nil => simp at h1
      | cons e env' =>
        cases σ' with
        | nil => simp at h2
        | cons o σ' =>
          have h5 : Rep K mg H (σ'.zip env' ++ ((o, e) :: M)) := by
            rw [List.zip_cons_cons, List.cons_append] at h4
            exact h4.perm perm_mid
          have h6 := ih σ' env' (fun k => f (k + 1)) ((o, e) :: M) (by simpa using h1) (by simpa using h2) (fun k a b => by have := h3 (k + 1) a (by simpa using b); simpa using this) h5
          rw [List.length_cons, List.range_succ_eq_map, List.map_cons, List.map_cons, List.zip_cons_cons, List.cons_append, List.map_map]
          have e7 : (fun k => if f (k + 1) = true then env'[k]?.getD Sl.no else Sl.no) = ((fun k => if f k = true then (e :: env')[k]?.getD Sl.no else Sl.no) ∘ Nat.succ) := by
            funext k
            simp [Function.comp, Nat.succ_eq_add_one]
          rw [e7] at h6
          have h8 : Rep K mg H ((o, e) :: ((vs.map some).zip ((List.range vs.length).map ((fun k => if f k = true then (e :: env')[k]?.getD Sl.no else Sl.no) ∘ Nat.succ)) ++ M)) := h6.perm perm_mid.symm
          by_cases hf : f 0 = true
          · have eo := h3 0 hf (by simp)
            simp at eo
            subst eo
            rw [if_pos hf]
            exact h8
          · rw [if_neg hf]
            exact h8.tail.no _
  subst hv
  have h' : Rep K mg H (σ'.zip env' ++ (it :: l)) := h.perm perm_mid
  have := key vs σ' env' (fun k => decide (k ∈ io)) (it :: l) hn hlen (fun k a b => hk k (of_decide_eq_true a) b) h'
  have e : ((List.range vs.length).map fun k => if decide (k ∈ io) = true then env'[k]?.getD Sl.no else Sl.no) = backArgs io vs.length env' := by
    unfold backArgs
    congr 1
    funext k
    by_cases hk : k ∈ io
    · rw [if_pos hk, if_pos (decide_eq_true hk)]
    · rw [if_neg hk, if_neg (by simpa using hk)]
  rw [e] at this
  exact this.perm perm_mid.symm
theorem fn_ok {P : Program} {w : World} {K : PySem.W.Frag} {mg : Str → Option Value} {base : Heap} {x qual : Str} {st : Stmt} {f : Addr} {fd : FuncData} {N ps : List Str} {k : Nat} {io : List Nat} {b : EvS} (F : Fun K x qual st f fd) (S : FnScope N ps (defScope st)) (hio : ∀ k ∈ io, k < ps.length)
    (hb : ∀ (cdv : Value) (A : Around) (outer : List Env) (s : Shared) (H : Hp) (E : XK), Room k (A.deeper (envOfC qual (defScope st) s.heap.objs.size f cdv)) → SSs (cxOf CX0 P w K mg base N qual (defScope st) f cdv A outer s H E).nox io (defBody st) b) :
    FnOk P w K mg base CX0 (k + 1) f fd ps (spF K mg ps.length (runFn N.length ps.length io b)) := by
  refine F.ok S (fun vs H Q E h => h.1) fun cdv A outer s H vs Q E hr h => ?_
  obtain ⟨hl, args, l, r, args', ha, rp, e, q⟩ := h
  obtain ⟨t, p, sem⟩ := (hb cdv A outer s H E hr).ex
  refine ⟨t, p, ?_⟩
  unfold runFn at e
  obtain ⟨o, eo, e⟩ := Res.bind_ok e
  have hst : Hold K mg H (L2.start N vs) (args ++ List.replicate (N.length - ps.length) .no) l := by
    refine ⟨?_, ?_⟩
    · unfold L2.start
      rw [List.length_append, List.length_append, List.length_map, List.length_replicate, List.length_replicate, hl, ha]
    · unfold L2.start
      rw [hl]
      exact zip_start (by rw [hl, ha]) rp
  have kk : ∀ {σ' : L2.St}, KeepEq io (L2.start N vs) σ' → ∀ k ∈ io, k < ps.length → σ'[k]? = some (vs[k]?) := fun {σ'} kq k hk hlt => by
    rw [kq k hk]
    unfold L2.start
    rw [List.getElem?_append_left (by rw [List.length_map]; omega), List.getElem?_map]
    rw [List.getElem?_eq_getElem (by omega)]
    rfl
  refine sem (L2.start N vs) H _ l o hst eo _ ?_
  cases o with
  | nx env' =>
    dsimp only at e
    split at e
    · rename_i hn
      cases e
      intro σ' H' h' kq
      have hv := h'.shV (v := .non) (d := .none) fun _ => .non
      exact q .non H' (back_items ps.length hl h'.len hn (kk kq) hv.rep) rfl
    · cases e
  | rt r' env' =>
    dsimp only at e
    split at e
    · rename_i hn
      cases e
      intro v σ' H' h' hv kq
      exact q v H' (back_items ps.length hl h'.len hn (kk kq) h'.rep) hv
    · cases e
  | bk _ => cases e
  | ct _ => cases e
end FL

/-! FL8: zip of lists and tuples, enumerate, what a slot's own list becomes, unpacking, the script -/
namespace FL
open PySem PySem.Spec PyProof.Rows L2

/-! ### zip of lists and tuples in any mix -/
def sqS (K : PySem.W.Frag) (H : Hp) (tp : Bool) (a : Addr) (xs : List V) : Prop := match tp with
  | true => SqT K H a xs
  | false => SqL K H a xs
def itS (h : Heap) (it a : Addr) (i : Nat) (tp : Bool) : Prop := match tp with
  | true => h.IsTupleIter it a i
  | false => h.IsListIter it a i
def seS (h : Heap) (a : Addr) (items : Array Value) (tp : Bool) : Prop := match tp with
  | true => h.IsTuple a items
  | false => h.IsList a items
theorem seS_of {X : Cx} {pins : List (Addr × Obj)} {σ : L2.St} {H : Hp} {s : Shared} {a : Addr} {xs : List V} {tp : Bool} (I : Inv X pins σ H s) (h : sqS X.K H tp a xs) : ∃ its : List Value, Vals xs its ∧ seS s.heap a its.toArray tp ∧ a < s.heap.objs.size := by
  cases tp with
  | true =>
    obtain ⟨its, r, p, _⟩ := I.tuple h
    have p' : s.heap.IsTuple a its.toArray := p
    exact ⟨its, r, p', let ⟨_, e, _⟩ := p'; Heap.lt_size e⟩
  | false =>
    obtain ⟨its, r, p, _⟩ := I.list h
    exact ⟨its, r, p.isList, p.lt⟩
theorem sqS_inj {X : Cx} {pins : List (Addr × Obj)} {σ : L2.St} {H : Hp} {s : Shared} {a : Addr} {xs ys : List V} {tp : Bool} (I : Inv X pins σ H s) (h : sqS X.K H tp a xs) (h' : sqS X.K H tp a ys) : xs = ys := by
  cases tp with
  | true => exact I.tuple_inj h h'
  | false => exact I.list_inj h h'
theorem drS {prog : Program} {w : World} {A : Around} (hh : A.handled = none) (it l : Addr) (hne : l ≠ it) (items : Array Value) (tp : Bool) :
    Draws prog w A it [it, l] items.size (fun i v => items[i]? = some v) (fun i h => itS h it l i tp ∧ seS h l items tp) := by
  cases tp with
  | true => exact Draws.tuple hh it l hne items
  | false => exact Draws.list hh it l hne items
theorem itS.at' {h h' : Heap} {it a : Addr} {i : Nat} {tp : Bool} (x : itS h it a i tp) (k : ∀ o, h.get? it = some o → h'.get? it = some o) : itS h' it a i tp := by
  cases tp with
  | true => exact Heap.IsTupleIter.at x k
  | false => exact Heap.IsListIter.at x k
theorem itS.obj {h : Heap} {it a : Addr} {i : Nat} {tp : Bool} (x : itS h it a i tp) : ∃ o, h.get? it = some o ∧ ∀ v, o.data ≠ .cell v := by
  cases tp with
  | true => obtain ⟨o, e, _, d⟩ := x; exact ⟨o, e, fun v q => by rw [d] at q; cases q⟩
  | false => obtain ⟨o, e, _, d⟩ := x; exact ⟨o, e, fun v q => by rw [d] at q; cases q⟩
def ItzM (K : PySem.W.Frag) (ta tb : Bool) (a b : Addr) : It :=
  ⟨fun i H => ∃ (xs ys : List V) (x y : V), sqS K H ta a xs ∧ sqS K H tb b ys ∧ xs[i]? = some x ∧ ys[i]? = some y,
   fun i H v H' => ∃ T x y, v = .ref T ∧ H T = none ∧ H' = upd H T (.tup [x, y]) ∧ (∀ xs, sqS K H ta a xs → xs[i]? = some x) ∧ ∀ ys, sqS K H tb b ys → ys[i]? = some y,
   fun i H => ∃ xs ys : List V, sqS K H ta a xs ∧ sqS K H tb b ys ∧ (xs.length = i ∨ ys.length = i) ∧ i ≤ xs.length ∧ i ≤ ys.length⟩
theorem turn_zipM {P : Program} {w : World} {K : PySem.W.Frag} {elts : List Expr} {kk : Nat} {tpos : Pos} {ta tb : Bool} {a b z TI TO i1 i2 : Addr} (S : ZipSep2 z TI TO i1 i2 [i1, a] [i2, b]) :
    Turn P w K (.Tuple elts kk tpos) (ItzM K ta tb a b) [z, TI, TO, i1, i2] z (fun i h => IsZip h z TI TO .none ∧ IsTupOf2 h TI (.ref i1) (.ref i2) ∧ (∃ x y, IsTupOf2 h TO x y) ∧ itS h i1 a i ta ∧ itS h i2 b i tb) where
  mem := by simp
  obj := fun i h ⟨hz, hTI, ⟨x, y, hTO⟩, h1, h2⟩ c hc => by
    have e' : c = z ∨ c = TI ∨ c = TO ∨ c = i1 ∨ c = i2 := by simpa using hc
    rcases e' with rfl | rfl | rfl | rfl | rfl
    · exact ⟨_, hz, fun v q => nomatch q⟩
    · exact ⟨_, hTI, fun v q => nomatch q⟩
    · exact ⟨_, hTO, fun v q => nomatch q⟩
    · exact h1.obj
    · exact h2.obj
  keep := fun i h h' ⟨hz, hTI, ⟨x, y, hTO⟩, h1, h2⟩ k =>
    ⟨k z (by simp) _ hz, k TI (by simp) _ hTI, ⟨x, y, k TO (by simp) _ hTO⟩, h1.at' fun o q => k i1 (by simp) o q, h2.at' fun o q => k i2 (by simp) o q⟩
  item := by
    intro X hP hw hK hc i pins s σ H E I hf ⟨hz, hTI, ⟨x0, y0, hTO⟩, h1, h2⟩ ⟨xs, ys, x, y, hqx, hqy, hx, hy⟩
    subst hP hw hK
    obtain ⟨its, rv, p, la⟩ := seS_of I hqx
    obtain ⟨its2, rv2, p2, lb⟩ := seS_of I hqy
    obtain ⟨u, hu, ru⟩ := rv.get hx
    obtain ⟨u2, hu2, ru2⟩ := rv2.get hy
    have ha1 : a ≠ i1 := fun q => by
      subst q
      obtain ⟨o, e, d⟩ := h1.obj
      cases ta with
      | true => obtain ⟨o1, e1, c1, _⟩ := p; obtain ⟨o2, e2, c2, _⟩ := h1; rw [e1] at e2; cases e2; rw [c1] at c2; simp at c2
      | false => obtain ⟨o1, e1, c1, _⟩ := p; obtain ⟨o2, e2, c2, _⟩ := h1; rw [e1] at e2; cases e2; rw [c1] at c2; simp at c2
    have hb2 : b ≠ i2 := fun q => by
      subst q
      cases tb with
      | true => obtain ⟨o1, e1, c1, _⟩ := p2; obtain ⟨o2, e2, c2, _⟩ := h2; rw [e1] at e2; cases e2; rw [c1] at c2; simp at c2
      | false => obtain ⟨o1, e1, c1, _⟩ := p2; obtain ⟨o2, e2, c2, _⟩ := h2; rw [e1] at e2; cases e2; rw [c1] at c2; simp at c2
    have D1 := drS (prog := X.prog) (w := X.w) (A := X.A.in1) (I.ok.hd hc) i1 a ha1 its.toArray ta
    have D2 := drS (prog := X.prog) (w := X.w) (A := X.A.in1) (I.ok.hd hc) i2 b hb2 its2.toArray tb
    have hzl : z < s.heap.objs.size := Heap.lt_size hz
    have hi1 : i < its.toArray.size := by have := (List.getElem?_eq_some_iff.mp hu).1; simpa using this
    have hi2 : i < its2.toArray.size := by have := (List.getElem?_eq_some_iff.mp hu2).1; simpa using this
    refine wpAny_pyNext_zipD2_item S D1 D2 hz hTI hTO ⟨h1, p⟩ ⟨h2, p2⟩ hi1 hi2 fun x1 x2 h' tk q1 q2 z' TO' st1 st2 hT hsz hk => ?_
    have e1 : x1 = u := by
      have : its.toArray[i]? = some u := by simpa using hu
      rw [this] at q1; cases q1; rfl
    have e2 : x2 = u2 := by
      have : its2.toArray[i]? = some u2 := by simpa using hu2
      rw [this] at q2; cases q2; rfl
    subst e1 e2
    refine ⟨_, rfl, wpAny_letOwnedTupleGo_zip (s := { s with heap := h', toks := tk }) z' fun h'' z'' sb => ?_⟩
    have hT2 : h''.get? s.heap.objs.size = some { cls := .type "tuple", data := .seq #[x1, x2] } := (sb.2 _ (Nat.ne_of_gt hzl)).trans hT
    have new : ObjOk X.prog X.w (upd H s.heap.objs.size (.tup [x, y])) h'' s.heap.objs.size (.tup [x, y]) :=
      ⟨by show 2 ≤ sizeLine; decide, [x1, x2], .cons ru (.cons ru2 .nil), ⟨_, hT2, rfl, _, rfl⟩⟩
    have I1 : Inv X pins σ (upd H s.heap.objs.size (.tup [x, y])) { s with heap := h'', toks := tk } :=
      I.turnedNew (t' := tk) (ch := [z, TI, TO, i1, i2]) (fun c o hb q => (sb.2 c (fun q' => hb (by simp [q']))).trans (hk c o (fun q' => hb (by simp [q'])) (fun q' => hb (by simp [q'])) (fun q' => hb (by simp [q'])) (fun q' => hb (by simp [q'])) q)) hf (Nat.le_refl _) new
    refine ⟨.ref s.heap.objs.size, _, I1, rfl, ⟨_, x, y, rfl, I.hok.fresh (Nat.le_refl _), rfl, fun l hl => by rw [sqS_inj I hl hqx]; exact hx, fun l hl => by rw [sqS_inj I hl hqy]; exact hy⟩, ⟨z'', ?_, ⟨x1, x2, ?_⟩, ?_, ?_⟩, fun c hcm => ?_⟩
    · exact (sb.2 _ S.TIz).trans (hk _ _ S.TIz S.TITO S.TIi1 S.TIi2 hTI)
    · exact (sb.2 _ S.TOz).trans TO'
    · exact st1.1.at' fun o q => (sb.2 _ S.zi1.symm).trans q
    · exact st2.1.at' fun o q => (sb.2 _ S.zi2.symm).trans q
    · have hlt : c < s.heap.objs.size := by
        have e' : c = z ∨ c = TI ∨ c = TO ∨ c = i1 ∨ c = i2 := by simpa using hcm
        rcases e' with rfl | rfl | rfl | rfl | rfl
        · exact hzl
        · exact Heap.lt_size hTI
        · exact Heap.lt_size hTO
        · obtain ⟨_, q, _⟩ := h1.obj; exact Heap.lt_size q
        · obtain ⟨_, q, _⟩ := h2.obj; exact Heap.lt_size q
      rw [upd_ne (Nat.ne_of_lt hlt)]
      exact (hf c hcm).1
  done := by
    intro X hP hw hK hc i pins s σ H E I hf ⟨hz, hTI, ⟨x0, y0, hTO⟩, h1, h2⟩ ⟨xs, ys, hqx, hqy, hend, l1, l2⟩
    subst hP hw hK
    obtain ⟨its, rv, p, la⟩ := seS_of I hqx
    obtain ⟨its2, rv2, p2, lb⟩ := seS_of I hqy
    have ha1 : a ≠ i1 := fun q => by
      subst q
      cases ta with
      | true => obtain ⟨o1, e1, c1, _⟩ := p; obtain ⟨o2, e2, c2, _⟩ := h1; rw [e1] at e2; cases e2; rw [c1] at c2; simp at c2
      | false => obtain ⟨o1, e1, c1, _⟩ := p; obtain ⟨o2, e2, c2, _⟩ := h1; rw [e1] at e2; cases e2; rw [c1] at c2; simp at c2
    have hb2 : b ≠ i2 := fun q => by
      subst q
      cases tb with
      | true => obtain ⟨o1, e1, c1, _⟩ := p2; obtain ⟨o2, e2, c2, _⟩ := h2; rw [e1] at e2; cases e2; rw [c1] at c2; simp at c2
      | false => obtain ⟨o1, e1, c1, _⟩ := p2; obtain ⟨o2, e2, c2, _⟩ := h2; rw [e1] at e2; cases e2; rw [c1] at c2; simp at c2
    have D1 := drS (prog := X.prog) (w := X.w) (A := X.A.in1) (I.ok.hd hc) i1 a ha1 its.toArray ta
    have D2 := drS (prog := X.prog) (w := X.w) (A := X.A.in1) (I.ok.hd hc) i2 b hb2 its2.toArray tb
    have e1 : its.toArray.size = xs.length := by rw [List.size_toArray]; exact rv.length.symm
    have e2 : its2.toArray.size = ys.length := by rw [List.size_toArray]; exact rv2.length.symm
    refine wpAny_pyNext_zipD2_end S D1 D2 hz hTI hTO ⟨h1, p⟩ ⟨h2, p2⟩ (by omega) (by omega) (by omega) fun h' tk hk => ⟨rfl, I.turnedL (t' := tk) (ch := [z, TI, TO, i1, i2]) (fun c o hb q =>
      hk c o (fun q' => hb (by simp [q'])) (fun q' => hb (by simp [q'])) (fun q' => hb (by simp [q'])) (fun q' => hb (by simp [q'])) q) hf⟩
  self := fun A i s Q E st h => wpAny_pyIter_zip st.1 h
def iZipM (K : PySem.W.Frag) (t : TA) : TI := fun σ H R => t σ H fun vs H1 => ∃ ta tb a b xs ys, vs = [.ref a, .ref b] ∧ sqS K H1 ta a xs ∧ sqS K H1 tb b ys ∧ R (ItzM K ta tb a b) H1
def begO (a : Addr) (tp : Bool) : Obj := match tp with
  | true => { cls := .type "tuple_iterator", data := .fields #[.ref a, .int 0 0] }
  | false => { cls := .type "list_iterator", data := .fields #[.ref a, .int 0 0] }
theorem begS (a : Addr) (items : Array Value) (tp : Bool) : Begins (.ref a) (begO a tp) fun h => seS h a items tp := by
  cases tp with
  | true => exact begins_tuple a items
  | false => exact begins_list a items
theorem begO_it {h : Heap} {it a : Addr} {tp : Bool} (e : h.get? it = some (begO a tp)) : itS h it a 0 tp := by
  cases tp with
  | true => exact ⟨_, e, rfl, rfl⟩
  | false => exact ⟨_, e, rfl, rfl⟩
theorem pi_zipM {X : Cx} {e e2 : Expr} {t : TA} {p pos tpos : Pos} {elts : List Expr} {kk : Nat} (hg : Gl X "zip") (hm : X.mg "zip" = none) (ha : PA X [e, e2] t)
    (hs : starEach [e, e2] X.env = (false, eval e X.env) :: starEach [e2] X.env := by rfl) (hpl : (backTo pos (starEach [e2] X.env)).any (·.1) = false := by rfl) :
    PI X (.Tuple elts kk tpos) (.Call (.Name "zip" p) [e, e2] [] pos) (iZipM X.K t) := by
  refine ⟨fun pins s σ H R I h => Call_ (ld_blt I hg hm PyProof.Rows.boot_zip (PyProof.Rows.callWith_type1 (thn (ha.run pos pins s σ H _ I h) fun us s1 ⟨vs, H1, I1, r1, q1⟩ => ?_) hs hpl))⟩
  obtain ⟨ta, tb, a, b, xs, ys, ex, hqx, hqy, q⟩ := q1
  subst ex
  obtain ⟨u1, u2, rfl, ra, rb⟩ := Vals.two r1
  cases ra
  cases rb
  obtain ⟨its, rv, p1, la⟩ := seS_of I1 hqx
  obtain ⟨its2, rv2, p2, lb⟩ := seS_of I1 hqy
  refine zip_begins2 (begS a its.toArray ta) (begS b its2.toArray tb) p1 p2 fun h' hz hTI hTO h1 h2 hsz hk => wpAny_pyIter_zip hz ?_
  have I2 : Inv X pins σ H1 { s1 with heap := h' } := I1.kept (t' := s1.toks) hk
  refine ⟨s1.heap.objs.size + 4, [s1.heap.objs.size + 4, s1.heap.objs.size + 2, s1.heap.objs.size + 3, s1.heap.objs.size, s1.heap.objs.size + 1], _, _, H1, rfl, I2,
    turn_zipM (zip_sep2 (N := s1.heap.objs.size) (fp1 := [a]) (fp2 := [b]) (fun c hc => by rw [List.mem_singleton.mp hc]; exact la) fun c hc => by rw [List.mem_singleton.mp hc]; exact lb), ⟨hz, hTI, ⟨_, _, hTO⟩, begO_it h1, begO_it h2⟩, fun c hcm => ?_, q⟩
  have e' : c = s1.heap.objs.size + 4 ∨ c = s1.heap.objs.size + 2 ∨ c = s1.heap.objs.size + 3 ∨ c = s1.heap.objs.size ∨ c = s1.heap.objs.size + 1 := by simpa using hcm
  have hle : s1.heap.objs.size ≤ c := by
    rcases e' with z | z | z | z | z <;> rw [z] <;> first | exact Nat.le_add_right _ _ | exact Nat.le_refl _
  exact I1.fpOk hle (I1.hok.fresh hle)
def isTup : D → Bool
  | .tuple _ => true
  | _ => false
def seqOf : D → Option (List D)
  | .list ds => some ds
  | .tuple ds => some ds
  | _ => none
def zipD (a b : List D) : List D := List.zipWith (fun x y => PyData.tuple [x, y]) a b
def fZip (fs : EvA) : EvI := fun env => do
  let (rs, e1) ← fs env
  let (ds, e2) ← Res.ofO (freezeAll e1 rs)
  match ds with
  | [a, b] => do
    let xs ← Res.ofO (seqOf a)
    let ys ← Res.ofO (seqOf b)
    .ok ([.sh a, .sh b], zipD xs ys, e2)
  | _ => .bad
theorem seq_at {K : PySem.W.Frag} {G H : Hp} {v : V} {d : D} {xs : List D} (sm : Same G H) (h : Dt K G v d) (e : seqOf d = some xs) : ∃ (tp : Bool) (a : Addr) (vs : List V), v = .ref a ∧ sqS K H tp a vs ∧ DtAll K G vs xs := by
  cases h with
  | lst hs ha => cases e; exact ⟨false, _, _, rfl, .of (sm _ _ hs), ha⟩
  | tup hs ha => cases e; exact ⟨true, _, _, rfl, .of (sm _ _ hs), ha⟩
  | non => cases e
  | bl _ => cases e
  | int _ => cases e
  | str _ => cases e
theorem seq_again {K : PySem.W.Frag} {G H : Hp} {a : Addr} {d : D} {xs : List D} {tp : Bool} (sm : Same G H) (h : Dt K G (.ref a) d) (e : seqOf d = some xs) (ht : tp = isTup d) : ∃ vs : List V, sqS K H tp a vs ∧ DtAll K G vs xs := by
  subst ht
  cases h with
  | lst hs ha => cases e; exact ⟨_, .of (sm _ _ hs), ha⟩
  | tup hs ha => cases e; exact ⟨_, .of (sm _ _ hs), ha⟩
theorem setAll_len : ∀ {is : List Nat} {ds : List D} {env env' : Lo}, setAll env is ds = some env' → ds.length = is.length := by
  intro is
  induction is with
  | nil => intro ds env env' e; cases ds <;> first | rfl | cases e
  | cons i is ih =>
    intro ds env env' e
    cases ds with
    | nil => cases e
    | cons d ds =>
      unfold setAll at e
      split at e
      · simp [ih e]
      · cases e
theorem itok_zip {K : PySem.W.Frag} {mg : Str → Option Value} {a b : Addr} {da db : D} {xs ys : List D} (ea : seqOf da = some xs) (eb : seqOf db = some ys) :
    ItOk K mg (ItzM K (isTup da) (isTup db) a b) [(some (.ref a), .sh da), (some (.ref b), .sh db)] (zipD xs ys) := by
  intro i G H os L rp hm
  obtain ⟨va, e1, d1⟩ := rp.shOf (hm (some (.ref a), .sh da) (by simp))
  obtain ⟨vb, e2, d2⟩ := rp.shOf (hm (some (.ref b), .sh db) (by simp))
  cases e1
  cases e2
  obtain ⟨vs, q1, h1⟩ := seq_again rp.same d1 ea rfl
  obtain ⟨ws, q2, h2⟩ := seq_again rp.same d2 eb rfl
  have hlen : (zipD xs ys).length = min xs.length ys.length := by simp [zipD]
  constructor
  · intro d hd
    have hi := (List.getElem?_eq_some_iff.mp hd).1
    rw [hlen] at hi
    have ex : xs[i]? = some xs[i] := List.getElem?_eq_getElem (by omega)
    have ey : ys[i]? = some ys[i] := List.getElem?_eq_getElem (by omega)
    have ed : d = .tuple [xs[i], ys[i]] := by
      unfold zipD at hd
      rw [List.getElem?_zipWith, ex, ey] at hd
      cases hd; rfl
    obtain ⟨x, x1, x2⟩ := h1.get ex
    obtain ⟨y, y1, y2⟩ := h2.get ey
    refine ⟨⟨vs, ws, x, y, q1, q2, x1, y1⟩, fun v H' hy => ?_⟩
    obtain ⟨T, x', y', rfl, hT, rfl, f1, f2⟩ := hy
    have := f1 vs q1; rw [x1] at this; cases this
    have := f2 ws q2; rw [y1] at this; cases this
    refine ⟨_, .step .refl hT, ?_⟩
    rw [ed]
    have sG : Same G (upd G T (.tup [x, y])) := sameG (rp.same.free hT)
    exact .tup (upd_same) (.cons (Dt.mono sG _ _ x2) (.cons (Dt.mono sG _ _ y2) .nil))
  · intro hi
    rw [hlen] at hi
    have l1 := h1.length
    have l2 := h2.length
    exact ⟨vs, ws, q1, q2, by omega, by omega, by omega⟩
section
variable {X : Cx}
theorem si_zip {e e2 : Expr} {fs : EvA} {p pos tpos : Pos} {elts : List Expr} {kk : Nat} (hg : Gl X "zip") (hm : X.mg "zip" = none) (ha : SA X [e, e2] fs)
    (hs : starEach [e, e2] X.env = (false, eval e X.env) :: starEach [e2] X.env := by rfl) (hpl : (backTo pos (starEach [e2] X.env)).any (·.1) = false := by rfl) :
    SI X (.Tuple elts kk tpos) (.Call (.Name "zip" p) [e, e2] [] pos) (fZip fs) := by
  obtain ⟨t, p', s⟩ := ha.ex
  refine ⟨_, pi_zipM hg hm p' hs hpl, ?_⟩
  intro σ H env l ks ds env' h e R q
  unfold fZip at e
  obtain ⟨⟨rs, e1⟩, ea, e⟩ := Res.bind_ok e
  obtain ⟨⟨es, e2⟩, eb, e⟩ := Res.bind_ok e
  replace eb := Res.ofO_ok eb
  refine s σ H env l rs e1 h ea _ fun vs H1 h1 => ?_
  have h2 := h1.freeze eb
  dsimp only at e
  split at e
  · rename_i da db
    obtain ⟨xs, ex, e⟩ := Res.bind_ok e
    obtain ⟨ys, ey, e⟩ := Res.bind_ok e
    replace ex := Res.ofO_ok ex
    replace ey := Res.ofO_ok ey
    cases e
    obtain ⟨G, os, rp⟩ := h2.rep
    have hl := h2.alen
    match vs, hl with
    | [va, vb], _ =>
      obtain ⟨v1, q1, d1⟩ := rp.shOf (ov := some va) (d := da) (List.mem_append_left _ (by simp))
      cases q1
      obtain ⟨v2, q2, d2⟩ := rp.shOf (ov := some vb) (d := db) (List.mem_append_left _ (by simp))
      cases q2
      have a1 : ∃ a, va = .ref a := by cases d1 <;> first | exact ⟨_, rfl⟩ | cases ex
      have a2 : ∃ a, vb = .ref a := by cases d2 <;> first | exact ⟨_, rfl⟩ | cases ey
      obtain ⟨a, rfl⟩ := a1
      obtain ⟨b, rfl⟩ := a2
      obtain ⟨vs, q1, _⟩ := seq_again rp.same d1 ex rfl
      obtain ⟨ws, q2, _⟩ := seq_again rp.same d2 ey rfl
      exact ⟨_, _, a, b, vs, ws, rfl, q1, q2, q _ [.ref a, .ref b] H1 h2 (itok_zip ex ey)⟩
  · cases e
end

/-! ### a slot's own list, changed by a method -/
def SemM (r : V → List V → Hp → VK → Prop) (K : PySem.W.Frag) (op : List D → List D → Option (List D × D)) : Prop :=
  ∀ (G H : Hp) (p : Addr) (ws : List V) (ds : List D) (vs : List V) (es : List D) (ds' : List D) (y : D) (Q : VK), Same G H → G p = none → H p = some (.lst ws) → DtAll K G ws ds → DtAll K G vs es → op ds es = some (ds', y) →
    (∀ ws' v, DtAll K G ws' ds' → Dt K G v y → Q v (upd H p (.lst ws'))) → r (.ref p) vs H Q
def fMut (i : Nat) (op : List D → List D → Option (List D × D)) (fs : EvA) : EvF := fun env => do
  match env[i]? with
  | some (.ol _) => do
    let (rs, e1) ← fs env
    let (es, e2) ← Res.ofO (freezeAll e1 rs)
    match e2[i]? with
    | some (.ol ds) => do
      let (ds', y) ← Res.ofO (op ds es)
      .ok (.sh y, e2.set i (.ol ds'))
    | _ => .bad
  | _ => .bad
theorem sem_mut {K : PySem.W.Frag} {mg : Str → Option Value} {i : Nat} {op : List D → List D → Option (List D × D)} {r : V → List V → Hp → VK → Prop} {t : TA} {fs : EvA} (ho : SemM r K op) (hs : SemA K mg t fs) : SemE K mg (tBM K "list" r (tVar i) t) (fMut i op fs) := by
  intro σ H env l s env' h e Q q
  unfold fMut at e
  split at e
  · rename_i ds0 e0
    obtain ⟨⟨rs, e1⟩, ea, e⟩ := Res.bind_ok e
    obtain ⟨⟨es, e2⟩, eb, e⟩ := Res.bind_ok e
    replace eb := Res.ofO_ok eb
    dsimp only at e
    split at e
    · rename_i ds e3
      obtain ⟨⟨ds', y⟩, ec, e⟩ := Res.bind_ok e
      replace ec := Res.ofO_ok ec
      cases e
      obtain ⟨ov, eσ, rp0⟩ := h.take e0
      obtain ⟨G0, os0, rp0⟩ := rp0
      obtain ⟨o0, ri0⟩ := rp0.rl.mem List.mem_cons_self
      obtain ⟨p, ws0, rfl, _, hp0, ha0⟩ := ri0.ol_inv
      refine ⟨.ref p, eσ, .inl ⟨rfl, ws0, .of hp0⟩, ?_⟩
      refine hs σ H env l rs e1 h ea _ fun vs H1 h1 => ?_
      have h2 := h1.freeze eb
      have hh : Hold K mg H1 σ e2 ((vs.map some).zip (es.map Sl.sh) ++ l) := ⟨h2.len, by
        refine h2.rep.perm ?_
        rw [← List.append_assoc, ← List.append_assoc]
        exact List.perm_append_comm.append_right l⟩
      obtain ⟨ov', eσ', rp⟩ := hh.take e3
      rw [eσ] at eσ'; cases eσ'
      obtain ⟨G, os, rp⟩ := rp
      obtain ⟨o1, ri⟩ := rp.rl.mem List.mem_cons_self
      obtain ⟨p', ws, ep, _, hp, ha⟩ := ri.ol_inv
      cases ep
      have hlen : vs.length = es.length := by simpa using h2.alen
      have dv : DtAll K G vs es := rp.all hlen fun it hi => List.mem_cons_of_mem _ (List.mem_append_right _ (List.mem_append_left _ hi))
      have gp : G p = none := by
        cases rp.rl with
        | cons r1 t1 =>
          obtain ⟨p2, _, ep, eo, _, _⟩ := r1.ol_inv
          cases ep
          subst eo
          exact rp.off p (by simp)
      refine ho G H1 p ws ds vs es ds' y Q rp.same gp hp ha dv ec fun ws' v hw hy => q v _ ?_
      have rp2 := rp.mut (s' := .ol ds') (o := .lst ws') ol_own fun H' e => .bx (.ol e hw)
      have rp3 : Rep K mg (upd H1 p (.lst ws')) ((some (.ref p), Sl.ol ds') :: (σ.zip (e2.set i .no) ++ ((some v, Sl.sh y) :: ((vs.map some).zip (es.map Sl.sh) ++ l)))) :=
        Rep.perm ⟨_, _, rp2.sh hy⟩ ((List.Perm.swap _ _ _).trans (List.Perm.cons _ perm_mid))
      have rp4 := Rep.put rp3 (by rw [List.length_set]; exact h2.len) eσ
      rw [List.set_set] at rp4
      refine ⟨by rw [List.length_set]; exact h2.len, ?_, fun _ z => by cases z⟩
      have : Rep K mg (upd H1 p (.lst ws')) ((some v, Sl.sh y) :: (σ.zip (e2.set i (.ol ds')) ++ ((vs.map some).zip (es.map Sl.sh) ++ l))) := rp4.perm perm_mid.symm
      rw [← List.cons_append] at this
      have := this.dropM
      rw [List.cons_append] at this
      exact this
    · cases e
  · cases e
def appendM (ds : List D) : List D → Option (List D × D)
  | [d] => if ds.length < 16777216 then some (ds ++ [d], .none) else none
  | _ => none
theorem sm_append {K : PySem.W.Frag} : SemM rAppend K appendM := by
  intro G H p ws ds vs es ds' y Q sm gp hp ha hv e q
  unfold appendM at e
  split at e
  · split at e
    · rename_i d hz
      cases e
      cases hv with
      | cons a b =>
        cases b
        exact ⟨p, ws, _, rfl, rfl, hp, sizeL' (by rw [ha.length]; exact hz), q _ _ (ha.append (.one a)) .non⟩
    · cases e
  · cases e
def extendM (ds : List D) : List D → Option (List D × D)
  | [.list es] => if ds.length + es.length ≤ 16777216 then some (ds ++ es, .none) else none
  | _ => none
theorem sm_extend {K : PySem.W.Frag} : SemM rExtend K extendM := by
  intro G H p ws ds vs es ds' y Q sm gp hp ha hv e q
  unfold extendM at e
  split at e
  · split at e
    · rename_i d hz
      cases e
      cases hv with
      | cons a b =>
        cases b
        cases a with
        | lst hs hb =>
          exact ⟨p, _, ws, _, rfl, rfl, hp, sm _ _ hs, sizeL (by rw [ha.length, hb.length]; exact hz), q _ _ (ha.append hb) .non⟩
    · cases e
  · cases e
def popM (ds : List D) : List D → Option (List D × D)
  | [] => (ds[ds.length - 1]?).map fun d => (ds.dropLast, d)
  | _ => none
theorem DtAll.dropLast {K : PySem.W.Frag} {G : Hp} {vs : List V} {ds : List D} (h : DtAll K G vs ds) : DtAll K G vs.dropLast ds.dropLast := by
  rw [List.dropLast_eq_take, List.dropLast_eq_take, h.length]
  exact h.take _
theorem sm_pop {K : PySem.W.Frag} : SemM rPop K popM := by
  intro G H p ws ds vs es ds' y Q sm gp hp ha hv e q
  unfold popM at e
  split at e
  · simp only [Option.map_eq_some_iff] at e
    obtain ⟨d, e1, e2⟩ := e
    cases e2
    cases hv
    obtain ⟨v, f1, f2⟩ := ha.get e1
    exact ⟨p, ws, v, rfl, rfl, hp, by rw [ha.length]; exact f1, q _ _ ha.dropLast f2⟩
  · cases e
def reverseM (ds : List D) : List D → Option (List D × D)
  | [] => some (ds.reverse, .none)
  | _ => none
theorem sm_reverse {K : PySem.W.Frag} : SemM rReverse K reverseM := by
  intro G H p ws ds vs es ds' y Q sm gp hp ha hv e q
  unfold reverseM at e
  split at e
  · cases e
    cases hv
    exact ⟨p, ws, rfl, rfl, hp, q _ _ ha.reverse .non⟩
  · cases e
def clearM (_ : List D) : List D → Option (List D × D)
  | [] => some ([], .none)
  | _ => none
theorem sm_clear {K : PySem.W.Frag} : SemM rClear K clearM := by
  intro G H p ws ds vs es ds' y Q sm gp hp ha hv e q
  unfold clearM at e
  split at e
  · cases e
    cases hv
    exact ⟨p, ws, rfl, rfl, hp, q _ _ .nil .non⟩
  · cases e
section
variable {X : Cx} {i : Nat} {x : Str} {name : Str} {e : Expr} {es : List Expr} {fs : EvA} {npos apos cpos : Pos} {id : String} {r : V → List V → Hp → VK → Prop} {op : List D → List D → Option (List D × D)}
theorem se_mut (slot : Slot "list" name id) (hty : typeOf (.builtin id) = pure (.type "method_descriptor")) (hm : MtR X id r) (so : SemM r X.K op) (hN : X.N[i]? = some x) (hv : Vis X.env.scope x) (ha : SA X (e :: es) fs)
    (hd : (x == ("__debug__" : Str)) = false := by decide) (hcd : (x == ("__classdict__" : Str)) = false := by decide)
    (hbase : attributeBase (.Name x npos) name X.env (eval (.Name x npos) X.env) = eval (.Name x npos) X.env := by rfl)
    (hfew : ((backTo cpos (starEach (e :: es) X.env)).all (fun x => !x.1) && (backToKw cpos (keywordEach [] X.env)).all (fun x => x.1.isSome)
      && decide ((e :: es).length + ([] : List Keyword).length + (if ([] : List Keyword).isEmpty then 0 else 1) < 30)) = true := by rfl)
    (hline : (apos.endLine == cpos.line) = true := by rfl) (hs : starEach (e :: es) X.env = (false, eval e X.env) :: starEach es X.env := by rfl) (hplain : (backTo cpos (starEach es X.env)).any (·.1) = false := by rfl) :
    SE X (.Call (.Attribute (.Name x npos) name apos) (e :: es) [] cpos) (fMut i op fs) := by
  obtain ⟨t, p, s⟩ := ha.ex
  exact ⟨_, pe_bm PySem.F.plainAttrs_list slot hty hm (pe_var hN hv hd hcd) p hbase hfew hline hs hplain, sem_mut so s⟩
theorem se_mut0 (slot : Slot "list" name id) (hty : typeOf (.builtin id) = pure (.type "method_descriptor")) (hm : MtR X id r) (so : SemM r X.K op) (hN : X.N[i]? = some x) (hv : Vis X.env.scope x)
    (hd : (x == ("__debug__" : Str)) = false := by decide) (hcd : (x == ("__classdict__" : Str)) = false := by decide)
    (hbase : attributeBase (.Name x npos) name X.env (eval (.Name x npos) X.env) = eval (.Name x npos) X.env := by rfl) (hline : (apos.endLine == cpos.line) = true := by rfl) :
    SE X (.Call (.Attribute (.Name x npos) name apos) [] [] cpos) (fMut i op fNil) := by
  refine ⟨_, pe_bm0 PySem.F.plainAttrs_list slot hty hm (pe_var hN hv hd hcd) hbase hline, ?_⟩
  exact fun σ H env l s env' h e Q q => sem_mut (t := tNil) so sem_nil σ H env l s env' h e Q q
end

/-! ### unpacking -/
def fUnp (is : List Nat) (fa : EvF) : EvS := fun env => do
  let (r, e1) ← fa env
  let (d, e2) ← Res.ofO (freezeR e1 r)
  let e3 ← Res.ofO (bindT (.tp is) d e2)
  .ok (.nx e3)
def fUnl (is : List Nat) (fa : EvF) : EvS := fun env => do
  let (r, e1) ← fa env
  let (d, e2) ← Res.ofO (freezeR e1 r)
  match d with
  | .list ds => do
    let e3 ← Res.ofO (setAll e2 is ds)
    .ok (.nx e3)
  | _ => .bad
section
variable {X : Cx} {ks is : List Nat} {tg e : Expr} {fa : EvF} {pos : Pos} {g : TG}
theorem ss_unp (he : SE X e fa) (hg : PG X tg g) (sg : SemG X.K X.mg g (.tp is)) (hk : ∀ k ∈ ks, k ∉ is := by decide) (hs : swapsWithSole [tg] e pos.line X.env = pure false := by rfl) (hw : swappedStores [tg] e X.env = pure none := by rfl)
    (h1 : (assignEach [tg] X.env).map (·.2) = [assign tg X.env] := by rfl) : SS X ks (.Assign [tg] e pos) (fUnp is fa) := by
  obtain ⟨t, p, s⟩ := he.ex
  refine ⟨_, ps_asg p hg hs hw h1, ?_⟩
  intro σ H env l o h e D post
  obtain ⟨⟨r, e1⟩, ea, e⟩ := Res.bind_ok e
  obtain ⟨⟨d, e2⟩, eb, e⟩ := Res.bind_ok e
  obtain ⟨e3, ec, e⟩ := Res.bind_ok e
  replace eb := Res.ofO_ok eb
  replace ec := Res.ofO_ok ec
  cases e
  refine s σ H env l r e1 h ea _ fun v H1 h1 => ?_
  exact sg σ H1 e2 e3 l v d (h1.freeze eb).hold ec _ fun σ' h' off => post σ' H1 h' (keep_off hk off)
theorem ss_unl (hc : X.calm = true) {es : List Expr} {kk : Nat} {tpos : Pos} (he : SE X e fa) (hg : PGs X es (gNames is)) (hn : (assignEach es X.env).length = is.length := by rfl) (hst : (assignEach es X.env).findIdx? (·.1) = none := by rfl)
    (hk : ∀ k ∈ ks, k ∉ is := by decide) (hs : swapsWithSole [(.Tuple es kk tpos)] e pos.line X.env = pure false := by rfl) (hw : swappedStores [(.Tuple es kk tpos)] e X.env = pure none := by rfl)
    (h1 : (assignEach [(.Tuple es kk tpos)] X.env).map (·.2) = [assign (.Tuple es kk tpos) X.env] := by rfl) : SS X ks (.Assign [.Tuple es kk tpos] e pos) (fUnl is fa) := by
  obtain ⟨t, p, s⟩ := he.ex
  refine ⟨_, ps_asg p (pg_unl hc hg hn hst) hs hw h1, ?_⟩
  intro σ H env l o h e D post
  obtain ⟨⟨r, e1⟩, ea, e⟩ := Res.bind_ok e
  obtain ⟨⟨d, e2⟩, eb, e⟩ := Res.bind_ok e
  replace eb := Res.ofO_ok eb
  dsimp only at e
  split at e
  · rename_i ds
    obtain ⟨e3, ec, e⟩ := Res.bind_ok e
    replace ec := Res.ofO_ok ec
    cases e
    refine s σ H env l r e1 h ea _ fun v H1 h1 => ?_
    have h2 := h1.freeze eb
    obtain ⟨G, os, rp⟩ := h2.rep
    obtain ⟨v', ev, dd⟩ := rp.shOf List.mem_cons_self
    cases ev
    cases dd with
    | @lst a xs _ hs ha =>
      refine ⟨a, xs, rfl, .of (rp.same _ _ hs), by rw [ha.length, setAll_len ec], ?_⟩
      refine setAll_ok (by rw [ha.length]) ⟨h2.len, ?_⟩ ec fun σ' h' off => post σ' H1 h' (keep_off hk off)
      have := dtAll_items rp ha
      have q := Rep.perm ⟨_, _, this⟩ (l' := (some (V.ref a), Sl.sh (.list ds)) :: ((xs.map some).zip (ds.map Sl.sh) ++ (σ.zip e2 ++ l))) perm_mid.symm
      refine q.tail.perm ?_
      rw [← List.append_assoc, ← List.append_assoc]
      exact List.perm_append_comm.append_right l
  · cases e
end

/-! ### the script, asked by its place -/
def fScLen (i : Nat) : EvF := fun env => match env[i]? with
  | some (.sc ns) => .ok (.sh (.int ns.length), env)
  | _ => .bad
def fScIx (i : Nat) (fb : EvF) : EvF := fun env => match env[i]? with
  | some (.sc ns) => do
    let (r, e1) ← fb env
    match r with
    | .sh (.int k) => do
      let n ← Res.ofO (atI ns k)
      .ok (.sh (.int n), e1)
    | _ => .bad
  | _ => .bad
theorem Hold.sc {K : PySem.W.Frag} {mg : Str → Option Value} {H : Hp} {σ : L2.St} {env : Lo} {l : List Item} {i : Nat} {ns : List Int} (h : Hold K mg H σ env l) (e : env[i]? = some (.sc ns)) : ∃ a, σ[i]? = some (some (.ref a)) ∧ SqL K H a (ns.map V.int) ∧ Hold K mg H σ env ((some (.ref a), .sc ns) :: l) := by
  obtain ⟨ov, e1⟩ := slot_at h.len e
  obtain ⟨G, os, rp⟩ := h.rep
  obtain ⟨o, ri⟩ := rp.rl.mem (List.mem_append_left _ (mem_zip e1 e))
  cases ri with
  | bx b => cases b with
    | sc hs => exact ⟨_, e1, rp.same.seq hs, h.len, Rep.perm ⟨_, _, rp.push (.bx (.sc hs))⟩ perm_mid⟩
section
variable {X : Cx} {i : Nat} {x nm : Str} {b : Expr} {fb : EvF} {npos pos p : Pos}
theorem se_scLen (hg : Gl X "len") (hm : X.mg "len" = none) (hN : X.N[i]? = some x) (hv : Vis X.env.scope x) (hd : (x == ("__debug__" : Str)) = false := by decide) (hcd : (x == ("__classdict__" : Str)) = false := by decide)
    (he : starEach [.Name x npos] X.env = (false, eval (.Name x npos) X.env) :: starEach [] X.env := by rfl) (hpl : (backTo pos (starEach [] X.env)).any (·.1) = false := by rfl) : SE X (.Call (.Name "len" p) [.Name x npos] [] pos) (fScLen i) := by
  refine ⟨_, pe_callB call_len_seq hg hm PySem.boot_len (pa_cons (pe_var hN hv hd hcd) pa_nil) (by decide) (by decide) he hpl, ?_⟩
  intro σ H env l r env' h e Q q
  unfold fScLen at e
  split at e
  · rename_i ns e0
    cases e
    obtain ⟨a, e1, hs, _⟩ := h.sc e0
    refine ⟨.ref a, e1, a, ns.map V.int, rfl, .inl hs, ?_⟩
    rw [List.length_map]
    exact q _ H (h.shV fun _ => .int _)
  · cases e
theorem se_scIx (hN : X.N[i]? = some x) (hv : Vis X.env.scope x) (hb : SE X b fb) (hd : (x == ("__debug__" : Str)) = false := by decide) (hcd : (x == ("__classdict__" : Str)) = false := by decide)
    (hs : PlainIx b := by exact fun _ _ => rfl) : SE X (.Subscript (.Name x npos) b pos) (fScIx i fb) := by
  obtain ⟨t, p', s⟩ := hb.ex
  refine ⟨_, pe_ix ix_seq (pe_var hN hv hd hcd) p' hs, ?_⟩
  intro σ H env l r env' h e Q q
  unfold fScIx at e
  split at e
  · rename_i ns e0
    obtain ⟨⟨rb, e1⟩, ea, e⟩ := Res.bind_ok e
    dsimp only at e
    split at e
    · rename_i k
      obtain ⟨n, en, e⟩ := Res.bind_ok e
      replace en := Res.ofO_ok en
      cases e
      obtain ⟨a, e1, hs, h1⟩ := h.sc e0
      refine ⟨.ref a, e1, ?_⟩
      refine s σ H env _ _ _ h1 ea _ fun v H1 h2 => ?_
      obtain ⟨G, os, rp⟩ := h2.rep
      obtain ⟨v', ev, dd⟩ := rp.shOf List.mem_cons_self
      cases ev
      cases dd
      obtain ⟨o, ri⟩ := rp.rl.mem (ov := some (.ref a)) (s := .sc ns) (List.mem_cons_of_mem _ (List.mem_append_right _ List.mem_cons_self))
      cases ri with
      | bx bb => cases bb with
        | sc hs2 =>
          refine .inl ⟨a, ns.map V.int, k, .int n, rfl, rfl, rp.same.seq hs2, ?_, q _ H1 ?_⟩
          · unfold atI at en ⊢
            rw [List.length_map]
            cases hx : ixN ns.length k with
            | none => rw [hx] at en; cases en
            | some j =>
              rw [hx] at en
              show (ns.map V.int)[j]? = some (.int n)
              rw [List.getElem?_map, show ns[j]? = some n from en]
              rfl
          · exact h2.drop.more.shV fun _ => .int n
    · cases e
  · cases e
end
end FL

/-! FL9: built-ins by name, isinstance, the law's end -/
namespace FL
open PySem PySem.Spec PyProof.Rows L2

theorem bt_len : bootBuiltins "len" = some (.builtin "len") := by decide +kernel
theorem bt_sum : bootBuiltins "sum" = some (.builtin "sum") := by decide +kernel
theorem bt_any : bootBuiltins "any" = some (.builtin "any") := by decide +kernel
theorem bt_all : bootBuiltins "all" = some (.builtin "all") := by decide +kernel
theorem bt_abs : bootBuiltins "abs" = some (.builtin "abs") := by decide +kernel
theorem bt_max : bootBuiltins "max" = some (.builtin "max") := by decide +kernel
theorem bt_isinstance : bootBuiltins "isinstance" = some (.builtin "isinstance") := by decide +kernel
theorem bt_int : bootBuiltins "int" = some (.type "int") := by decide +kernel
theorem bt_tuple : bootBuiltins "tuple" = some (.type "tuple") := by decide +kernel
theorem bt_list : bootBuiltins "list" = some (.type "list") := by decide +kernel
theorem bt_bool : bootBuiltins "bool" = some (.type "bool") := by decide +kernel
theorem bt_str : bootBuiltins "str" = some (.type "str") := by decide +kernel
section
variable {X : Cx} {a b : Expr} {fs : EvA} {fa : EvF} {p pos : Pos}
theorem se_len (hm : X.mg "len" = none) (ha : SA X [a] fs) (hg : Gl X "len" := by rfl) (he : starEach [a] X.env = (false, eval a X.env) :: starEach [] X.env := by rfl) (hpl : (backTo pos (starEach [] X.env)).any (·.1) = false := by rfl) : SE X (.Call (.Name "len" p) [a] [] pos) (fCB lenD fs) :=
  se_cB oc_len sc_len hg hm bt_len ha (by decide) (by decide) he hpl
theorem se_sum (hc : X.calm = true) (hm : X.mg "sum" = none) (ha : SA X [a] fs) (hg : Gl X "sum" := by rfl) (he : starEach [a] X.env = (false, eval a X.env) :: starEach [] X.env := by rfl) (hpl : (backTo pos (starEach [] X.env)).any (·.1) = false := by rfl) : SE X (.Call (.Name "sum" p) [a] [] pos) (fCB sumD fs) :=
  se_cB (cr_sum hc) sc_sum hg hm bt_sum ha (by decide) (by decide) he hpl
theorem se_any (hc : X.calm = true) (hm : X.mg "any" = none) (ha : SA X [a] fs) (hg : Gl X "any" := by rfl) (he : starEach [a] X.env = (false, eval a X.env) :: starEach [] X.env := by rfl) (hpl : (backTo pos (starEach [] X.env)).any (·.1) = false := by rfl) : SE X (.Call (.Name "any" p) [a] [] pos) (fCB anyD fs) :=
  se_cB (cr_any hc) sc_any hg hm bt_any ha (by decide) (by decide) he hpl
theorem se_all (hc : X.calm = true) (hm : X.mg "all" = none) (ha : SA X [a] fs) (hg : Gl X "all" := by rfl) (he : starEach [a] X.env = (false, eval a X.env) :: starEach [] X.env := by rfl) (hpl : (backTo pos (starEach [] X.env)).any (·.1) = false := by rfl) : SE X (.Call (.Name "all" p) [a] [] pos) (fCB allD fs) :=
  se_cB (cr_all hc) sc_all hg hm bt_all ha (by decide) (by decide) he hpl
theorem se_abs (hm : X.mg "abs" = none) (ha : SA X [a] fs) (hg : Gl X "abs" := by rfl) (he : starEach [a] X.env = (false, eval a X.env) :: starEach [] X.env := by rfl) (hpl : (backTo pos (starEach [] X.env)).any (·.1) = false := by rfl) : SE X (.Call (.Name "abs" p) [a] [] pos) (fCB absD fs) :=
  se_cB call_abs sc_abs hg hm bt_abs ha (by decide) (by decide) he hpl
theorem se_max (hc : X.calm = true) (hm : X.mg "max" = none) (ha : SA X [a, b] fs) (hg : Gl X "max" := by rfl) (he : starEach [a, b] X.env = (false, eval a X.env) :: starEach [b] X.env := by rfl) (hpl : (backTo pos (starEach [b] X.env)).any (·.1) = false := by rfl) : SE X (.Call (.Name "max" p) [a, b] [] pos) (fCB maxD fs) :=
  se_cB (call_max2 hc) sc_max hg hm bt_max ha (by decide) (by decide) he hpl
theorem se_tint (hm : X.mg "int" = none) (ha : SA X [a] fs) (hg : Gl X "int" := by rfl) (he : starEach [a] X.env = (false, eval a X.env) :: starEach [] X.env := by rfl) (hpl : (backTo pos (starEach [] X.env)).any (·.1) = false := by rfl) : SE X (.Call (.Name "int" p) [a] [] pos) (fCB intD fs) :=
  se_cTy call_int1 sc_int hg hm bt_int ha (by decide) (by decide) he hpl
theorem se_ttuple (hm : X.mg "tuple" = none) (ha : SA X [a] fs) (hg : Gl X "tuple" := by rfl) (he : starEach [a] X.env = (false, eval a X.env) :: starEach [] X.env := by rfl) (hpl : (backTo pos (starEach [] X.env)).any (·.1) = false := by rfl) : SE X (.Call (.Name "tuple" p) [a] [] pos) (fCB tupleD fs) :=
  se_cTy call_tuple_of sc_tuple hg hm bt_tuple ha (by decide) (by decide) he hpl
theorem se_tlist (hm : X.mg "list" = none) (ha : SA X [a] fs) (hg : Gl X "list" := by rfl) (he : starEach [a] X.env = (false, eval a X.env) :: starEach [] X.env := by rfl) (hpl : (backTo pos (starEach [] X.env)).any (·.1) = false := by rfl) : SE X (.Call (.Name "list" p) [a] [] pos) (fCB listD fs) :=
  se_cTy call_list_of sc_list hg hm bt_list ha (by decide) (by decide) he hpl

/-! ### isinstance with one built-in class -/
def tyD : D → String
  | .none => "NoneType"
  | .bool _ => "bool"
  | .int _ => "int"
  | .str _ => "str"
  | .list _ => "list"
  | .tuple _ => "tuple"
  | .dict _ => "dict"
def isiD (T : String) (d : D) : Bool := tyD d == T || (T == "int" && tyD d == "bool")
def isiTys : List String := ["int", "bool", "str", "list", "tuple"]
theorem isi_all : ∀ a ∈ ["NoneType", "bool", "int", "str", "list", "tuple"], ∀ T ∈ isiTys, kitB a T = some (a == T || (T == "int" && a == "bool")) := by decide +kernel
def fIsi (T : String) (fa : EvF) : EvF := fOp1 (fun d => some (.sh (.bool (isiD T d)))) fa
theorem tyX_of {K : PySem.W.Frag} {G H : Hp} {v : V} {d : D} (sm : Same G H) (h : DpT K G H v d) : TyX K H v (.type (tyD d)) ∧ tyD d ∈ ["NoneType", "bool", "int", "str", "list", "tuple"] := by
  rcases h with h | ⟨p, vs, ds, rfl, rfl, hp, _⟩
  · cases h with
    | non => exact ⟨.base .non, by decide⟩
    | bl b => exact ⟨.base (.bl b), by show "bool" ∈ _; decide⟩
    | int i => exact ⟨.base (.int i), by show "int" ∈ _; decide⟩
    | str x => exact ⟨.base (.str x), by show "str" ∈ _; decide⟩
    | lst hs ha => exact ⟨.base (.lst (sm _ _ hs)), by show "list" ∈ _; decide⟩
    | tup hs ha =>
      exact ⟨.base (.tup (sm _ _ hs)), by show "tuple" ∈ _; decide⟩
  · exact ⟨.base (.lst hp), by show "list" ∈ _; decide⟩
theorem se_isi {T : String} {x : Str} {p2 : Pos} (hT : T ∈ isiTys) (hm : X.mg "isinstance" = none) (hmT : X.mg x = none) (hbT : bootBuiltins x = some (.type T)) (ha : SE X a fa) (hg : Gl X "isinstance" := by rfl) (hgT : Gl X x := by rfl) (hn : x ≠ "__name__" := by decide) (hd : (x == ("__debug__" : Str)) = false := by decide)
    (he : starEach [a, .Name x p2] X.env = (false, eval a X.env) :: starEach [.Name x p2] X.env := by rfl) (he2 : starEach [.Name x p2] X.env = (false, eval (.Name x p2) X.env) :: starEach [] X.env := by rfl) (hpl : (backTo pos (starEach [.Name x p2] X.env)).any (·.1) = false := by rfl) :
    SE X (.Call (.Name "isinstance" p) [a, .Name x p2] [] pos) (fIsi T fa) := by
  obtain ⟨t, p', s⟩ := ha.ex
  refine ⟨_, pe_callB call_isi hg hm bt_isinstance (pa_cons p' (pa_cons (pe_bltn (v := .ty T) hgT hmT hbT rfl hn hd) pa_nil he2) he) (by decide) (by decide) he hpl, ?_⟩
  intro σ H env l r env' h e Q q
  unfold fIsi fOp1 at e
  obtain ⟨⟨ra, e1⟩, ea, e⟩ := Res.bind_ok e
  obtain ⟨d, va, e⟩ := Res.bind_ok e
  replace va := Res.ofO_ok va
  cases e
  refine s σ H env l ra _ h ea _ fun v H1 h1 => ?_
  obtain ⟨G, os, rp⟩ := h1.rep
  have dx : DpT X.K G H1 v d := rp.view (σ := σ) List.mem_cons_self (fun it hi => List.mem_cons_of_mem _ (List.mem_append_left _ hi)) h1.vw va
  obtain ⟨ty, hm⟩ := tyX_of rp.same dx
  exact ⟨v, .ty T, .type (tyD d), .type T, _, rfl, .ty T, ty, kit_ty (isi_all _ hm _ hT), q _ H1 (h1.drop.shV fun _ => .bl _)⟩
end

/-! ### the law's own end -/
/-- the law's promise -/
def spLaw (K : PySem.W.Frag) : Sp := fun vs H Q _ => ∃ (a : Addr) (ns : List Int), vs = [.ref a] ∧ SqL K H a (ns.map V.int) ∧ ns.length ≤ 63 ∧ ∀ H', Q (.bl true) H'
theorem law_imp {P : Program} {w : World} {K : PySem.W.Frag} {mg : Str → Option Value} {base : Heap} {k : Nat} {f : Addr} {fd : FuncData} {ps : List Str} {F : Fn} (h : FnOk P w K mg base CX0 k f fd ps (spF K mg 1 F))
    (law : ∀ ns : List Int, ns.length ≤ 63 → ∃ as, F [.sc ns] = .ok (.sh (.bool true), as)) : FnOk P w K mg base CX0 k f fd ps (spLaw K) := by
  refine h.imp fun vs H Q E hq => ?_
  obtain ⟨a, ns, rfl, hs, hl, q⟩ := hq
  obtain ⟨as, e⟩ := law ns hl
  refine ⟨rfl, [.sc ns], [], _, as, rfl, ⟨H, [], .refl _, ?_, .nil, fun a ha => by cases ha⟩, e, fun v H' rp _ => ?_⟩
  · exact RL.cons (o := []) (os := []) (.bx (.sc hs)) .nil
  · obtain ⟨G, os, rp⟩ := rp
    obtain ⟨v', ev, d⟩ := rp.shOf List.mem_cons_self
    cases ev
    cases d
    exact q H'
theorem fnF_mk {P : Program} {w : World} {K : PySem.W.Frag} {mg : Str → Option Value} {base : Heap} {x qual : Str} {st : Stmt} {f : Addr} {fd : FuncData} {ps : List Str} {n k : Nat} {F : Fn} (Fn : Fun K x qual st f fd) (hm : mg x = some (.ref f)) (hb : Binds K fd ps []) (h : FnOk P w K mg base CX0 k f fd ps (spF K mg n F)) : FnF P w K mg base x n k F :=
  ⟨⟨f, fd, ps, hm, Fn.kp, hb, h⟩⟩
end FL

/-! FE: how the functions are reckoned, by simp -/
namespace FL
open PySem PySem.Spec PyProof.Rows L2

/-- an equation whose proof is kept -/
theorem eqq {α : Sort _} {a b : α} (h : a = b) : a = b := h
namespace Res
@[simp] theorem bind_ok' {α β : Type} (a : α) (f : α → Res β) : Res.bind (.ok a) f = f a := eqq rfl
@[simp] theorem bind_bad {α β : Type} (f : α → Res β) : Res.bind (.bad : Res α) f = .bad := eqq rfl
end Res
-- names
def varC (env : Lo) (i : Nat) : Option Sl → Res (Sl × Lo)
  | some (.sh d) => .ok (.sh d, env)
  | some (.ol _) => .ok (.vw i, env)
  | some (.od _) => .ok (.vw i, env)
  | some (.oi _ _) => .ok (.vw i, env)
  | some (.sc ns) => .ok (.sc ns, env)
  | _ => .bad
@[simp] theorem ev_var (i : Nat) (env : Lo) : fVar i env = varC env i env[i]? := by
  unfold fVar varC
  split <;> simp_all
@[simp] theorem varC_sh (env : Lo) (i : Nat) (d : D) : varC env i (some (.sh d)) = .ok (.sh d, env) := eqq rfl
@[simp] theorem varC_ol (env : Lo) (i : Nat) (d : List D) : varC env i (some (.ol d)) = .ok (.vw i, env) := eqq rfl
@[simp] theorem varC_od (env : Lo) (i : Nat) (d : List (Key × D)) : varC env i (some (.od d)) = .ok (.vw i, env) := eqq rfl
@[simp] theorem varC_sc (env : Lo) (i : Nat) (d : List Int) : varC env i (some (.sc d)) = .ok (.sc d, env) := eqq rfl
@[simp] theorem ev_c (d : D) (env : Lo) : fC d env = .ok (.sh d, env) := eqq rfl
-- views
@[simp] theorem view_sh (env : Lo) (d : D) : view env (.sh d) = some d := eqq rfl
@[simp] theorem view_ol (env : Lo) (d : List D) : view env (.ol d) = some (.list d) := eqq rfl
def viewC : Option Sl → Option D
  | some (.ol ds) => some (.list ds)
  | _ => none
@[simp] theorem view_vw (env : Lo) (i : Nat) : view env (.vw i) = viewC env[i]? := by
  show (match env[i]? with | some (Sl.ol ds) => some (PyData.list ds) | _ => none) = _
  unfold viewC
  split <;> simp_all
@[simp] theorem viewC_ol (ds : List D) : viewC (some (.ol ds)) = some (.list ds) := eqq rfl
-- operations
def opE (e : Lo) : Option Sl → Res (Sl × Lo)
  | some s => .ok (s, e)
  | none => .bad
@[simp] theorem opE_some (e : Lo) (s : Sl) : opE e (some s) = .ok (s, e) := eqq rfl
def opV (op : D → D → Option Sl) (e : Lo) : Option D → Option D → Res (Sl × Lo)
  | some a, some b => opE e (op a b)
  | _, _ => .bad
@[simp] theorem opV_some (op : D → D → Option Sl) (e : Lo) (a b : D) : opV op e (some a) (some b) = opE e (op a b) := eqq rfl
def opC2 (op : D → D → Option Sl) (ra : Sl) (p : Sl × Lo) : Res (Sl × Lo) := opV op p.2 (view p.2 ra) (view p.2 p.1)
def opC1 (op : D → D → Option Sl) (fb : EvF) (p : Sl × Lo) : Res (Sl × Lo) := (fb p.2).bind (opC2 op p.1)
@[simp] theorem opC1_ev (op : D → D → Option Sl) (fb : EvF) (ra : Sl) (e : Lo) : opC1 op fb (ra, e) = (fb e).bind (opC2 op ra) := eqq rfl
@[simp] theorem opC2_ev (op : D → D → Option Sl) (ra rb : Sl) (e : Lo) : opC2 op ra (rb, e) = opV op e (view e ra) (view e rb) := eqq rfl
@[simp] theorem ev_op (op : D → D → Option Sl) (fa fb : EvF) (env : Lo) : fOp op fa fb env = (fa env).bind (opC1 op fb) := by
  show (fa env).bind _ = _
  congr 1
  funext ⟨ra, e1⟩
  show (fb e1).bind _ = _
  congr 1
  funext ⟨rb, e2⟩
  show (Res.ofO (view e2 ra)).bind _ = opV op e2 (view e2 ra) (view e2 rb)
  cases view e2 ra with
  | none => rfl
  | some a =>
    show (Res.ofO (view e2 rb)).bind _ = _
    cases view e2 rb with
    | none => rfl
    | some b =>
      show (Res.ofO (op a b)).bind _ = opE e2 (op a b)
      cases op a b <;> rfl
def op1V (op : D → Option Sl) (e : Lo) : Option D → Res (Sl × Lo)
  | some a => opE e (op a)
  | none => .bad
@[simp] theorem op1V_some (op : D → Option Sl) (e : Lo) (a : D) : op1V op e (some a) = opE e (op a) := eqq rfl
def op1C (op : D → Option Sl) (p : Sl × Lo) : Res (Sl × Lo) := op1V op p.2 (view p.2 p.1)
@[simp] theorem op1C_ev (op : D → Option Sl) (ra : Sl) (e : Lo) : op1C op (ra, e) = op1V op e (view e ra) := eqq rfl
@[simp] theorem ev_op1 (op : D → Option Sl) (fa : EvF) (env : Lo) : fOp1 op fa env = (fa env).bind (op1C op) := by
  show (fa env).bind _ = _
  congr 1
  funext ⟨ra, e1⟩
  show (Res.ofO (view e1 ra)).bind _ = op1V op e1 (view e1 ra)
  cases view e1 ra with
  | none => rfl
  | some a =>
    show (Res.ofO (op a)).bind _ = opE e1 (op a)
    cases op a <;> rfl
@[simp] theorem ev_isi (T : String) (fa : EvF) (env : Lo) : fIsi T fa env = (fa env).bind (op1C fun d => some (.sh (.bool (isiD T d)))) := ev_op1 _ _ _
@[simp] theorem isiD_int (T : String) (i : Int) : isiD T (.int i) = (("int" : String) == T) := by
  unfold isiD tyD
  by_cases h : ("int" : String) == T <;> simp [h]
  all_goals (try (intro _; decide))
-- the operators' values
@[simp] theorem addD_int (i j : Int) : addD (.int i) (.int j) = some (.sh (.int (i + j))) := eqq rfl
@[simp] theorem subD_int (i j : Int) : subD (.int i) (.int j) = some (.sh (.int (i - j))) := eqq rfl
theorem mulD_int {i j : Int} (h : mulOk i j = true) : mulD (.int i) (.int j) = some (.sh (.int (i * j))) := if_pos h
theorem mulD_rep {ds : List D} {k : Int} (h : -(2^63) ≤ k ∧ k < 2^63 ∧ ds.length * k.toNat ≤ 16777216) : mulD (.list ds) (.int k) = some (.ol (List.replicate k.toNat ds).flatten) := if_pos h
theorem divD_int {i j : Int} (h : divOk i j = true) : divD (.int i) (.int j) = some (.sh (.int (i.fdiv j))) := if_pos h
theorem modD_int {i j : Int} (h : 0 < j) : modD (.int i) (.int j) = some (.sh (.int (i % j))) := if_pos h
theorem powD_int {i j : Int} (h : 0 ≤ j ∧ j ≤ 1000000 ∧ i.natAbs < 2 ^ 64) : powD (.int i) (.int j) = some (.sh (.int (i ^ j.toNat))) := if_pos h
@[simp] theorem negD_int (i : Int) : negD (.int i) = some (.sh (.int (-i))) := eqq rfl
@[simp] theorem cmpD_int (p : Int → Int → Bool) (i j : Int) : cmpD p (.int i) (.int j) = some (.sh (.bool (p i j))) := eqq rfl
theorem eqD_ok {a b : D} (ha : shapedD a = true) (hb : shapedD b = true) : eqD a b = some (.sh (.bool (PyData.eqv a b))) := if_pos ⟨ha, hb⟩
theorem neD_ok {a b : D} (ha : shapedD a = true) (hb : shapedD b = true) : neD a b = some (.sh (.bool (!PyData.eqv a b))) := if_pos ⟨ha, hb⟩
@[simp] theorem shaped_int (i : Int) : shapedD (.int i) = true := by
  unfold shapedD SeqAt.shaped
  rfl
theorem eqv_int (i j : Int) : PyData.eqv (.int i) (.int j) = (i == j) := by simp [PyData.eqv]
@[simp] theorem ixD_list (ds : List D) (i : Int) : ixD (.list ds) (.int i) = (atI ds i).map .sh := eqq rfl
@[simp] theorem ixD_tuple (ds : List D) (i : Int) : ixD (.tuple ds) (.int i) = (atI ds i).map .sh := eqq rfl
theorem at_nat {α : Type} {xs : List α} {n : Nat} {x : α} (h : xs[n]? = some x) : atI xs (n : Int) = some x := by
  have hn := (List.getElem?_eq_some_iff.mp h).1
  unfold atI ixN
  rw [if_pos (by omega), if_pos (by omega)]
  simpa using h
theorem at_int {α : Type} {xs : List α} {i : Int} {x : α} (h0 : 0 ≤ i) (h : xs[i.toNat]? = some x) : atI xs i = some x := by
  have : i = (i.toNat : Int) := by omega
  rw [this]
  exact at_nat h
-- arguments
@[simp] theorem ev_nil (env : Lo) : fNil env = .ok ([], env) := eqq rfl
def consC2 (r : Sl) (p : List Sl × Lo) : Res (List Sl × Lo) := .ok (r :: p.1, p.2)
def consC1 (fr : EvA) (p : Sl × Lo) : Res (List Sl × Lo) := (fr p.2).bind (consC2 p.1)
@[simp] theorem consC1_ev (fr : EvA) (r : Sl) (e : Lo) : consC1 fr (r, e) = (fr e).bind (consC2 r) := eqq rfl
@[simp] theorem consC2_ev (r : Sl) (rs : List Sl) (e : Lo) : consC2 r (rs, e) = .ok (r :: rs, e) := eqq rfl
@[simp] theorem ev_cons (fa : EvF) (fr : EvA) (env : Lo) : fCons fa fr env = (fa env).bind (consC1 fr) := eqq rfl
@[simp] theorem views_nil (env : Lo) : views env [] = some [] := eqq rfl
def viewsC (a : Option D) (b : Option (List D)) : Option (List D) := a.bind fun d => b.map (d :: ·)
@[simp] theorem viewsC_some (d : D) (ds : List D) : viewsC (some d) (some ds) = some (d :: ds) := eqq rfl
@[simp] theorem views_cons (env : Lo) (r : Sl) (rs : List Sl) : views env (r :: rs) = viewsC (view env r) (views env rs) := by
  unfold viewsC
  show (do let d ← view env r; let ds ← views env rs; some (d :: ds)) = _
  cases view env r <;> simp <;> cases views env rs <;> rfl
def cbV (op : List D → Option Sl) (e : Lo) : Option (List D) → Res (Sl × Lo)
  | some ds => opE e (op ds)
  | none => .bad
@[simp] theorem cbV_some (op : List D → Option Sl) (e : Lo) (ds : List D) : cbV op e (some ds) = opE e (op ds) := eqq rfl
def cbC (op : List D → Option Sl) (p : List Sl × Lo) : Res (Sl × Lo) := cbV op p.2 (views p.2 p.1)
@[simp] theorem cbC_ev (op : List D → Option Sl) (rs : List Sl) (e : Lo) : cbC op (rs, e) = cbV op e (views e rs) := eqq rfl
@[simp] theorem ev_cb (op : List D → Option Sl) (fs : EvA) (env : Lo) : fCB op fs env = (fs env).bind (cbC op) := by
  show (fs env).bind _ = _
  congr 1
  funext ⟨rs, e1⟩
  show (Res.ofO (views e1 rs)).bind _ = cbV op e1 (views e1 rs)
  cases views e1 rs with
  | none => rfl
  | some ds =>
    show (Res.ofO (op ds)).bind _ = opE e1 (op ds)
    cases op ds <;> rfl
@[simp] theorem lenD_list (ds : List D) : lenD [.list ds] = some (.sh (.int ds.length)) := eqq rfl
@[simp] theorem lenD_tuple (ds : List D) : lenD [.tuple ds] = some (.sh (.int ds.length)) := eqq rfl
@[simp] theorem sumD_ints (ns : List Int) : sumD [.list (ns.map PyData.int)] = some (.sh (.int ns.sum)) := by
  show (intsOf _).map _ = _
  rw [intsOf_map]; rfl
@[simp] theorem tupleD_list (ds : List D) : tupleD [.list ds] = some (.sh (.tuple ds)) := eqq rfl
@[simp] theorem tupleD_tuple (ds : List D) : tupleD [.tuple ds] = some (.sh (.tuple ds)) := eqq rfl
@[simp] theorem listD_list (ds : List D) : listD [.list ds] = some (.ol ds) := eqq rfl
@[simp] theorem listD_tuple (ds : List D) : listD [.tuple ds] = some (.ol ds) := eqq rfl
@[simp] theorem absD_int (i : Int) : absD [.int i] = some (.sh (.int (if i < 0 then -i else i))) := eqq rfl
@[simp] theorem intD_int (i : Int) : intD [.int i] = some (.sh (.int i)) := eqq rfl
@[simp] theorem intD_bool (b : Bool) : intD [.bool b] = some (.sh (.int (if b then 1 else 0))) := eqq rfl
-- freezing, displays
@[simp] theorem fz_sh (env : Lo) (d : D) : freezeR env (.sh d) = some (d, env) := eqq rfl
@[simp] theorem fz_ol (env : Lo) (d : List D) : freezeR env (.ol d) = some (.list d, env) := eqq rfl
def fzC (env : Lo) (i : Nat) : Option Sl → Option (D × Lo)
  | some (.ol ds) => some (.list ds, env.set i (.sh (.list ds)))
  | _ => none
@[simp] theorem fzC_ol (env : Lo) (i : Nat) (ds : List D) : fzC env i (some (.ol ds)) = some (.list ds, env.set i (.sh (.list ds))) := eqq rfl
@[simp] theorem fz_vw (env : Lo) (i : Nat) : freezeR env (.vw i) = fzC env i env[i]? := by
  show (match env[i]? with | some (Sl.ol ds) => some (PyData.list ds, env.set i (.sh (.list ds))) | _ => none) = _
  unfold fzC
  split <;> simp_all
@[simp] theorem fza_nil (env : Lo) : freezeAll env [] = some ([], env) := eqq rfl
def fzaC2 (d : D) (p : List D × Lo) : Option (List D × Lo) := some (d :: p.1, p.2)
def fzaC (rs : List Sl) (p : D × Lo) : Option (List D × Lo) := (freezeAll p.2 rs).bind (fzaC2 p.1)
@[simp] theorem fzaC_ev (rs : List Sl) (d : D) (e : Lo) : fzaC rs (d, e) = (freezeAll e rs).bind (fzaC2 d) := eqq rfl
@[simp] theorem fzaC2_ev (d : D) (ds : List D) (e : Lo) : fzaC2 d (ds, e) = some (d :: ds, e) := eqq rfl
@[simp] theorem fza_cons (env : Lo) (r : Sl) (rs : List Sl) : freezeAll env (r :: rs) = (freezeR env r).bind (fzaC rs) := eqq rfl
def tupV : Option (List D × Lo) → Res (Sl × Lo)
  | some (ds, e) => if ds.length ≤ 16777216 then .ok (.sh (.tuple ds), e) else .bad
  | none => .bad
def lstV : Option (List D × Lo) → Res (Sl × Lo)
  | some (ds, e) => if ds.length ≤ 16777216 then .ok (.ol ds, e) else .bad
  | none => .bad
@[simp] theorem tupV_some (ds : List D) (e : Lo) : tupV (some (ds, e)) = if ds.length ≤ 16777216 then .ok (.sh (.tuple ds), e) else .bad := eqq rfl
@[simp] theorem lstV_some (ds : List D) (e : Lo) : lstV (some (ds, e)) = if ds.length ≤ 16777216 then .ok (.ol ds, e) else .bad := eqq rfl
def tupC (p : List Sl × Lo) : Res (Sl × Lo) := tupV (freezeAll p.2 p.1)
def lstC (p : List Sl × Lo) : Res (Sl × Lo) := lstV (freezeAll p.2 p.1)
@[simp] theorem tupC_ev (rs : List Sl) (e : Lo) : tupC (rs, e) = tupV (freezeAll e rs) := eqq rfl
@[simp] theorem lstC_ev (rs : List Sl) (e : Lo) : lstC (rs, e) = lstV (freezeAll e rs) := eqq rfl
@[simp] theorem ev_tup (fs : EvA) (env : Lo) : fTup fs env = (fs env).bind tupC := by
  show (fs env).bind _ = _
  congr 1
  funext ⟨rs, e1⟩
  show (Res.ofO (freezeAll e1 rs)).bind _ = tupV (freezeAll e1 rs)
  cases freezeAll e1 rs <;> rfl
@[simp] theorem ev_lst (fs : EvA) (env : Lo) : fLst fs env = (fs env).bind lstC := by
  show (fs env).bind _ = _
  congr 1
  funext ⟨rs, e1⟩
  show (Res.ofO (freezeAll e1 rs)).bind _ = lstV (freezeAll e1 rs)
  cases freezeAll e1 rs <;> rfl
-- tests
def tstC : Sl × Lo → Res (Bool × Lo)
  | (.sh (.bool b), e) => .ok (b, e)
  | _ => .bad
@[simp] theorem tstC_ev (b : Bool) (e : Lo) : tstC (.sh (.bool b), e) = .ok (b, e) := eqq rfl
@[simp] theorem ev_tst (f : EvF) (env : Lo) : fTst f env = (f env).bind tstC := by
  show (f env).bind _ = _
  congr 1
  funext ⟨r, e1⟩
  cases r <;> first | rfl | (rename_i d; cases d <;> rfl)
def notC (p : Bool × Lo) : Res (Bool × Lo) := .ok (!p.1, p.2)
@[simp] theorem notC_ev (b : Bool) (e : Lo) : notC (b, e) = .ok (!b, e) := eqq rfl
@[simp] theorem ev_notT (f : EvT) (env : Lo) : fNotT f env = (f env).bind notC := eqq rfl
def andC (g : EvT) : Bool × Lo → Res (Bool × Lo)
  | (true, e) => g e
  | (false, e) => .ok (false, e)
def orC (g : EvT) : Bool × Lo → Res (Bool × Lo)
  | (true, e) => .ok (true, e)
  | (false, e) => g e
@[simp] theorem andC_t (g : EvT) (e : Lo) : andC g (true, e) = g e := eqq rfl
@[simp] theorem andC_f (g : EvT) (e : Lo) : andC g (false, e) = .ok (false, e) := eqq rfl
@[simp] theorem orC_t (g : EvT) (e : Lo) : orC g (true, e) = .ok (true, e) := eqq rfl
@[simp] theorem orC_f (g : EvT) (e : Lo) : orC g (false, e) = g e := eqq rfl
@[simp] theorem ev_andT (f g : EvT) (env : Lo) : fAndT f g env = (f env).bind (andC g) := by
  show (f env).bind _ = _
  congr 1
  funext ⟨b, e1⟩
  cases b <;> rfl
@[simp] theorem ev_orT (f g : EvT) (env : Lo) : fOrT f g env = (f env).bind (orC g) := by
  show (f env).bind _ = _
  congr 1
  funext ⟨b, e1⟩
  cases b <;> rfl
def andVC (g : EvF) : Bool × Lo → Res (Sl × Lo)
  | (true, e) => g e
  | (false, e) => .ok (.sh (.bool false), e)
def orVC (g : EvF) : Bool × Lo → Res (Sl × Lo)
  | (true, e) => .ok (.sh (.bool true), e)
  | (false, e) => g e
@[simp] theorem andVC_t (g : EvF) (e : Lo) : andVC g (true, e) = g e := eqq rfl
@[simp] theorem andVC_f (g : EvF) (e : Lo) : andVC g (false, e) = .ok (.sh (.bool false), e) := eqq rfl
@[simp] theorem orVC_t (g : EvF) (e : Lo) : orVC g (true, e) = .ok (.sh (.bool true), e) := eqq rfl
@[simp] theorem orVC_f (g : EvF) (e : Lo) : orVC g (false, e) = g e := eqq rfl
@[simp] theorem ev_andV (f g : EvF) (env : Lo) : fAndV f g env = (fTst f env).bind (andVC g) := by
  show (fTst f env).bind _ = _
  congr 1
  funext ⟨b, e1⟩
  cases b <;> rfl
@[simp] theorem ev_orV (f g : EvF) (env : Lo) : fOrV f g env = (fTst f env).bind (orVC g) := by
  show (fTst f env).bind _ = _
  congr 1
  funext ⟨b, e1⟩
  cases b <;> rfl
def notVC (p : Bool × Lo) : Res (Sl × Lo) := .ok (.sh (.bool (!p.1)), p.2)
@[simp] theorem notVC_ev (b : Bool) (e : Lo) : notVC (b, e) = .ok (.sh (.bool (!b)), e) := eqq rfl
@[simp] theorem ev_notV (f : EvF) (env : Lo) : fNotV f env = (fTst f env).bind notVC := eqq rfl
def ifC (fa fb : EvF) : Bool × Lo → Res (Sl × Lo)
  | (true, e) => fa e
  | (false, e) => fb e
@[simp] theorem ifC_t (fa fb : EvF) (e : Lo) : ifC fa fb (true, e) = fa e := eqq rfl
@[simp] theorem ifC_f (fa fb : EvF) (e : Lo) : ifC fa fb (false, e) = fb e := eqq rfl
@[simp] theorem ev_if (ft : EvT) (fa fb : EvF) (env : Lo) : fIf ft fa fb env = (ft env).bind (ifC fa fb) := by
  show (ft env).bind _ = _
  congr 1
  funext ⟨b, e1⟩
  cases b <;> rfl
@[simp] theorem ev_yes (env : Lo) : fYes env = .ok (true, env) := eqq rfl
-- slices
@[simp] theorem ev_noPart (env : Lo) : fNoPart env = .ok (none, env) := eqq rfl
def partC : Sl × Lo → Res (Option Int × Lo)
  | (.sh (.int i), e) => .ok (some i, e)
  | _ => .bad
@[simp] theorem partC_ev (i : Int) (e : Lo) : partC (.sh (.int i), e) = .ok (some i, e) := eqq rfl
@[simp] theorem ev_part (fa : EvF) (env : Lo) : fPart fa env = (fa env).bind partC := by
  show (fa env).bind _ = _
  congr 1
  funext ⟨r, e1⟩
  cases r <;> first | rfl | (rename_i d; cases d <;> rfl)
def slV (lo hi : Option Int) (e : Lo) : Option D → Res (Sl × Lo)
  | some a => opE e (sliceD a lo hi)
  | none => .bad
@[simp] theorem slV_some (lo hi : Option Int) (e : Lo) (a : D) : slV lo hi e (some a) = opE e (sliceD a lo hi) := eqq rfl
def slC3 (ra : Sl) (lo : Option Int) (p : Option Int × Lo) : Res (Sl × Lo) := slV lo p.1 p.2 (view p.2 ra)
def slC2 (fh : EvO) (ra : Sl) (p : Option Int × Lo) : Res (Sl × Lo) := (fh p.2).bind (slC3 ra p.1)
def slC1 (fl fh : EvO) (p : Sl × Lo) : Res (Sl × Lo) := (fl p.2).bind (slC2 fh p.1)
@[simp] theorem slC1_ev (fl fh : EvO) (ra : Sl) (e : Lo) : slC1 fl fh (ra, e) = (fl e).bind (slC2 fh ra) := eqq rfl
@[simp] theorem slC2_ev (fh : EvO) (ra : Sl) (lo : Option Int) (e : Lo) : slC2 fh ra (lo, e) = (fh e).bind (slC3 ra lo) := eqq rfl
@[simp] theorem slC3_ev (ra : Sl) (lo hi : Option Int) (e : Lo) : slC3 ra lo (hi, e) = slV lo hi e (view e ra) := eqq rfl
@[simp] theorem ev_slice (fa : EvF) (fl fh : EvO) (env : Lo) : fSlice fa fl fh env = (fa env).bind (slC1 fl fh) := by
  show (fa env).bind _ = _
  congr 1
  funext ⟨ra, e1⟩
  show (fl e1).bind _ = (fl e1).bind _
  congr 1
  funext ⟨lo, e2⟩
  show (fh e2).bind _ = (fh e2).bind _
  congr 1
  funext ⟨hi, e3⟩
  show (Res.ofO (view e3 ra)).bind _ = slV lo hi e3 (view e3 ra)
  cases view e3 ra with
  | none => rfl
  | some a =>
    show (Res.ofO (sliceD a lo hi)).bind _ = opE e3 (sliceD a lo hi)
    cases sliceD a lo hi <;> rfl
@[simp] theorem sliceD_list (ds : List D) (lo hi : Option Int) : sliceD (.list ds) lo hi = some (.ol (cutG ds lo hi)) := eqq rfl
@[simp] theorem sliceD_tuple (ds : List D) (lo hi : Option Int) : sliceD (.tuple ds) lo hi = some (.sh (.tuple (cutG ds lo hi))) := eqq rfl
theorem cutG_from {α : Type} (xs : List α) (k : Nat) : cutG xs (some (k : Int)) none = xs.drop k := by
  unfold cutG
  rw [HT.sIx_nat, HT.sIx_none]
  by_cases h : k ≤ xs.length
  · rw [Nat.min_eq_left h, List.take_of_length_le (by rw [List.length_drop]; exact Nat.le_refl _)]
  · rw [Nat.min_eq_right (by omega), List.drop_eq_nil_of_le (Nat.le_refl _), List.drop_eq_nil_of_le (by omega)]; simp
theorem cutG_to {α : Type} (xs : List α) (k : Nat) : cutG xs none (some (k : Int)) = xs.take k := by
  unfold cutG
  rw [HT.sIx_nat, HT.sIx_none, List.drop_zero, Nat.sub_zero]
  by_cases h : k ≤ xs.length
  · rw [Nat.min_eq_left h]
  · rw [Nat.min_eq_right (by omega), List.take_of_length_le (Nat.le_refl _), List.take_of_length_le (by omega)]
-- calls
@[simp] theorem mvi_nil (env : Lo) : moveIn env [] = ([], env) := eqq rfl
@[simp] theorem mvi_sh (env : Lo) (d : D) (rs : List Sl) : moveIn env (.sh d :: rs) = (.sh d :: (moveIn env rs).1, (moveIn env rs).2) := eqq rfl
@[simp] theorem mvi_ol (env : Lo) (d : List D) (rs : List Sl) : moveIn env (.ol d :: rs) = (.ol d :: (moveIn env rs).1, (moveIn env rs).2) := eqq rfl
@[simp] theorem mvi_sc (env : Lo) (d : List Int) (rs : List Sl) : moveIn env (.sc d :: rs) = (.sc d :: (moveIn env rs).1, (moveIn env rs).2) := eqq rfl
@[simp] theorem mvi_vw (env : Lo) (i : Nat) (rs : List Sl) : moveIn env (.vw i :: rs) = ((env[i]?.getD .no) :: (moveIn (env.set i .no) rs).1, (moveIn (env.set i .no) rs).2) := eqq rfl
@[simp] theorem mvb_nil (env : Lo) (as : List Sl) : moveBack env [] as = env := by cases as <;> rfl
@[simp] theorem mvb_sh (env : Lo) (d : D) (rs : List Sl) (a : Sl) (as : List Sl) : moveBack env (.sh d :: rs) (a :: as) = moveBack env rs as := eqq rfl
@[simp] theorem mvb_ol (env : Lo) (d : List D) (rs : List Sl) (a : Sl) (as : List Sl) : moveBack env (.ol d :: rs) (a :: as) = moveBack env rs as := eqq rfl
@[simp] theorem mvb_sc (env : Lo) (d : List Int) (rs : List Sl) (a : Sl) (as : List Sl) : moveBack env (.sc d :: rs) (a :: as) = moveBack env rs as := eqq rfl
@[simp] theorem mvb_vw (env : Lo) (i : Nat) (rs : List Sl) (a : Sl) (as : List Sl) : moveBack env (.vw i :: rs) (a :: as) = moveBack (env.set i a) rs as := eqq rfl
def callC2 (e2 : Lo) (rs : List Sl) (p : Sl × List Sl) : Res (Sl × Lo) := if isVw p.1 = true then .bad else .ok (p.1, moveBack e2 rs p.2)
def callC1 (F : Fn) (p : List Sl × Lo) : Res (Sl × Lo) := (F (moveIn p.2 p.1).1).bind (callC2 (moveIn p.2 p.1).2 p.1)
@[simp] theorem callC1_ev (F : Fn) (rs : List Sl) (e : Lo) : callC1 F (rs, e) = (F (moveIn e rs).1).bind (callC2 (moveIn e rs).2 rs) := eqq rfl
@[simp] theorem callC2_sh (e2 : Lo) (rs : List Sl) (d : D) (as : List Sl) : callC2 e2 rs (.sh d, as) = .ok (.sh d, moveBack e2 rs as) := eqq rfl
@[simp] theorem callC2_ol (e2 : Lo) (rs : List Sl) (d : List D) (as : List Sl) : callC2 e2 rs (.ol d, as) = .ok (.ol d, moveBack e2 rs as) := eqq rfl
@[simp] theorem ev_call (F : Fn) (fs : EvA) (env : Lo) : fCall F fs env = (fs env).bind (callC1 F) := eqq rfl
-- statements
@[simp] theorem ev_next (env : Lo) : fNext env = .ok (.nx env) := eqq rfl
@[simp] theorem ev_brk (env : Lo) : fBrk env = .ok (.bk env) := eqq rfl
@[simp] theorem ev_cont (env : Lo) : fCont env = .ok (.ct env) := eqq rfl
def seqC (g : EvS) : Out → Res Out
  | .nx e => g e
  | o => .ok o
@[simp] theorem seqC_nx (g : EvS) (e : Lo) : seqC g (.nx e) = g e := eqq rfl
@[simp] theorem seqC_rt (g : EvS) (r : Sl) (e : Lo) : seqC g (.rt r e) = .ok (.rt r e) := eqq rfl
@[simp] theorem seqC_bk (g : EvS) (e : Lo) : seqC g (.bk e) = .ok (.bk e) := eqq rfl
@[simp] theorem seqC_ct (g : EvS) (e : Lo) : seqC g (.ct e) = .ok (.ct e) := eqq rfl
@[simp] theorem ev_seq (f g : EvS) (env : Lo) : fSeq f g env = (f env).bind (seqC g) := by
  show (f env).bind _ = _
  cases f env with
  | ok o => cases o <;> rfl
  | bad => rfl
  | ex _ _ => rfl
@[simp] theorem asg_sh (e : Lo) (d : D) : asgR e (.sh d) = some (.sh d, e) := eqq rfl
@[simp] theorem asg_ol (e : Lo) (d : List D) : asgR e (.ol d) = some (.ol d, e) := eqq rfl
@[simp] theorem asg_od (e : Lo) (d : List (Key × D)) : asgR e (.od d) = some (.od d, e) := eqq rfl
@[simp] theorem asg_sc (e : Lo) (d : List Int) : asgR e (.sc d) = some (.sc d, e) := eqq rfl
@[simp] theorem asg_vw (e : Lo) (i : Nat) : asgR e (.vw i) = (freezeR e (.vw i)).map fun p => (.sh p.1, p.2) := eqq rfl
def asgV (i : Nat) : Option (Sl × Lo) → Res Out
  | some (r, e) => if i < e.length then .ok (.nx (e.set i r)) else .bad
  | none => .bad
@[simp] theorem asgV_some (i : Nat) (r : Sl) (e : Lo) : asgV i (some (r, e)) = if i < e.length then .ok (.nx (e.set i r)) else .bad := eqq rfl
def asgC (i : Nat) (p : Sl × Lo) : Res Out := asgV i (asgR p.2 p.1)
@[simp] theorem asgC_ev (i : Nat) (r : Sl) (e : Lo) : asgC i (r, e) = asgV i (asgR e r) := eqq rfl
@[simp] theorem ev_asg (i : Nat) (fa : EvF) (env : Lo) : fAsg i fa env = (fa env).bind (asgC i) := by
  show (fa env).bind _ = _
  congr 1
  funext ⟨r, e1⟩
  show (Res.ofO (asgR e1 r)).bind _ = asgV i (asgR e1 r)
  cases asgR e1 r <;> rfl
def dropC (p : Sl × Lo) : Res Out := .ok (.nx p.2)
@[simp] theorem dropC_ev (r : Sl) (e : Lo) : dropC (r, e) = .ok (.nx e) := eqq rfl
@[simp] theorem ev_drop (fa : EvF) (env : Lo) : fDrop fa env = (fa env).bind dropC := eqq rfl
@[simp] theorem ret_sh (e : Lo) (d : D) : retR e (.sh d) = some (.sh d, e) := eqq rfl
@[simp] theorem ret_ol (e : Lo) (d : List D) : retR e (.ol d) = some (.ol d, e) := eqq rfl
def retVw (e : Lo) (i : Nat) : Option Sl → Option (Sl × Lo)
  | some (.vw _) => none
  | some s => some (s, e.set i .no)
  | none => none
@[simp] theorem retVw_ol (e : Lo) (i : Nat) (d : List D) : retVw e i (some (.ol d)) = some (.ol d, e.set i .no) := eqq rfl
@[simp] theorem retVw_od (e : Lo) (i : Nat) (d : List (Key × D)) : retVw e i (some (.od d)) = some (.od d, e.set i .no) := eqq rfl
@[simp] theorem ret_vw (e : Lo) (i : Nat) : retR e (.vw i) = retVw e i e[i]? := by
  show (match e[i]? with | some (Sl.vw _) => none | some s => some (s, e.set i .no) | none => none) = _
  unfold retVw
  cases e[i]? with
  | none => rfl
  | some s => cases s <;> rfl
def retV : Option (Sl × Lo) → Res Out
  | some (r, e) => .ok (.rt r e)
  | none => .bad
@[simp] theorem retV_some (r : Sl) (e : Lo) : retV (some (r, e)) = .ok (.rt r e) := eqq rfl
def retC (p : Sl × Lo) : Res Out := retV (retR p.2 p.1)
@[simp] theorem retC_ev (r : Sl) (e : Lo) : retC (r, e) = retV (retR e r) := eqq rfl
@[simp] theorem ev_ret (fa : EvF) (env : Lo) : fRet fa env = (fa env).bind retC := by
  show (fa env).bind _ = _
  congr 1
  funext ⟨r, e1⟩
  show (Res.ofO (retR e1 r)).bind _ = retV (retR e1 r)
  cases retR e1 r <;> rfl
@[simp] theorem ev_retN (env : Lo) : fRetN env = .ok (.rt (.sh .none) env) := eqq rfl
def ifSC (f g : EvS) : Bool × Lo → Res Out
  | (true, e) => f e
  | (false, e) => g e
@[simp] theorem ifSC_t (f g : EvS) (e : Lo) : ifSC f g (true, e) = f e := eqq rfl
@[simp] theorem ifSC_f (f g : EvS) (e : Lo) : ifSC f g (false, e) = g e := eqq rfl
@[simp] theorem ev_ifS (ft : EvT) (f g : EvS) (env : Lo) : fIfS ft f g env = (ft env).bind (ifSC f g) := by
  show (ft env).bind _ = _
  congr 1
  funext ⟨b, e1⟩
  cases b <;> rfl
-- methods
def mutV (i : Nat) (op : List D → List D → Option (List D × D)) (es : List D) (e : Lo) : Option Sl → Res (Sl × Lo)
  | some (.ol ds) => match op ds es with
    | some (ds', y) => .ok (.sh y, e.set i (.ol ds'))
    | none => .bad
  | _ => .bad
def mutF (i : Nat) (op : List D → List D → Option (List D × D)) : Option (List D × Lo) → Res (Sl × Lo)
  | some (es, e) => mutV i op es e e[i]?
  | none => .bad
def mutC (i : Nat) (op : List D → List D → Option (List D × D)) (p : List Sl × Lo) : Res (Sl × Lo) := mutF i op (freezeAll p.2 p.1)
def mutS (i : Nat) (op : List D → List D → Option (List D × D)) (fs : EvA) (env : Lo) : Option Sl → Res (Sl × Lo)
  | some (.ol _) => (fs env).bind (mutC i op)
  | _ => .bad
@[simp] theorem mutS_ol (i : Nat) (op : List D → List D → Option (List D × D)) (fs : EvA) (env : Lo) (ds : List D) : mutS i op fs env (some (.ol ds)) = (fs env).bind (mutC i op) := eqq rfl
@[simp] theorem mutC_ev (i : Nat) (op : List D → List D → Option (List D × D)) (rs : List Sl) (e : Lo) : mutC i op (rs, e) = mutF i op (freezeAll e rs) := eqq rfl
@[simp] theorem mutF_some (i : Nat) (op : List D → List D → Option (List D × D)) (es : List D) (e : Lo) : mutF i op (some (es, e)) = mutV i op es e e[i]? := eqq rfl
theorem mutV_ol {i : Nat} {op : List D → List D → Option (List D × D)} {es : List D} {e : Lo} {ds ds' : List D} {y : D} (h : op ds es = some (ds', y)) : mutV i op es e (some (.ol ds)) = .ok (.sh y, e.set i (.ol ds')) := by
  unfold mutV
  simp [h]
@[simp] theorem ev_mut (i : Nat) (op : List D → List D → Option (List D × D)) (fs : EvA) (env : Lo) : fMut i op fs env = mutS i op fs env env[i]? := by
  unfold fMut mutS
  split
  · rename_i ds h
    try rw [h]
    show (fs env).bind _ = (fs env).bind _
    congr 1
    funext ⟨rs, e1⟩
    show (Res.ofO (freezeAll e1 rs)).bind _ = mutF i op (freezeAll e1 rs)
    cases freezeAll e1 rs with
    | none => rfl
    | some p =>
      obtain ⟨es, e2⟩ := p
      have key : ∀ o : Option Sl, o = e2[i]? → (match o with | some (Sl.ol ds) => (do let (ds', y) ← Res.ofO (op ds es); Res.ok (Sl.sh y, e2.set i (.ol ds'))) | _ => Res.bad) = mutV i op es e2 o := by
        intro o ho
        cases o with
        | none => rfl
        | some s =>
          cases s <;> first | rfl | skip
          rename_i ds2
          show (Res.ofO (op ds2 es)).bind _ = (match op ds2 es with | some (ds', y) => _ | none => Res.bad)
          cases op ds2 es with
          | none => rfl
          | some q => obtain ⟨a, b⟩ := q; rfl
      exact key _ rfl
  · rename_i h
    first
    | rfl
    | (split
       · rename_i ds3 h3; exact absurd h3 (h ds3)
       · rfl)
@[simp] theorem mutV_append (i : Nat) (d : D) (e : Lo) (ds : List D) : mutV i appendM [d] e (some (.ol ds)) = if ds.length < 16777216 then .ok (.sh .none, e.set i (.ol (ds ++ [d]))) else .bad := by
  unfold mutV appendM
  by_cases h : ds.length < 16777216 <;> simp [h]
@[simp] theorem mutV_clear (i : Nat) (e : Lo) (ds : List D) : mutV i clearM [] e (some (.ol ds)) = .ok (.sh .none, e.set i (.ol [])) := eqq rfl
@[simp] theorem mutV_reverse (i : Nat) (e : Lo) (ds : List D) : mutV i reverseM [] e (some (.ol ds)) = .ok (.sh .none, e.set i (.ol ds.reverse)) := eqq rfl
@[simp] theorem mutV_extend (i : Nat) (d : List D) (e : Lo) (ds : List D) : mutV i extendM [.list d] e (some (.ol ds)) = if ds.length + d.length ≤ 16777216 then .ok (.sh .none, e.set i (.ol (ds ++ d))) else .bad := by
  unfold mutV extendM
  by_cases h : ds.length + d.length ≤ 16777216 <;> simp [h]
-- walks
def iterV : Option (D × Lo) → Res (List Sl × List D × Lo)
  | some (.list ds, e) => .ok ([.sh (.list ds)], ds, e)
  | some (.tuple ds, e) => .ok ([.sh (.tuple ds)], ds, e)
  | _ => .bad
@[simp] theorem iterV_list (ds : List D) (e : Lo) : iterV (some (.list ds, e)) = .ok ([.sh (.list ds)], ds, e) := eqq rfl
@[simp] theorem iterV_tuple (ds : List D) (e : Lo) : iterV (some (.tuple ds, e)) = .ok ([.sh (.tuple ds)], ds, e) := eqq rfl
def iterC (p : Sl × Lo) : Res (List Sl × List D × Lo) := iterV (freezeR p.2 p.1)
@[simp] theorem iterC_ev (r : Sl) (e : Lo) : iterC (r, e) = iterV (freezeR e r) := eqq rfl
@[simp] theorem ev_iter (fa : EvF) (env : Lo) : fIter fa env = (fa env).bind iterC := by
  show (fa env).bind _ = _
  congr 1
  funext ⟨r, e1⟩
  show (Res.ofO (freezeR e1 r)).bind _ = iterV (freezeR e1 r)
  cases freezeR e1 r with
  | none => rfl
  | some p => obtain ⟨d, e2⟩ := p; cases d <;> rfl
def rngV (rs : List Sl) (e1 : Lo) : Res (List Sl × List D × Lo) :=
  match rs with
  | [.sh (.int j)] => if -(2 ^ 62) ≤ j ∧ j < 2 ^ 62 then .ok ([], rngD 0 j.toNat, e1) else .bad
  | [.sh (.int i), .sh (.int j)] => if -(2 ^ 62) ≤ i ∧ i < 2 ^ 62 ∧ -(2 ^ 62) ≤ j ∧ j < 2 ^ 62 then .ok ([], rngD i (j - i).toNat, e1) else .bad
  | _ => .bad
def rngC (p : List Sl × Lo) : Res (List Sl × List D × Lo) := rngV p.1 p.2
@[simp] theorem rngC_1 (j : Int) (e : Lo) : rngC ([.sh (.int j)], e) = if -(2 ^ 62) ≤ j ∧ j < 2 ^ 62 then .ok ([], rngD 0 j.toNat, e) else .bad := eqq rfl
@[simp] theorem rngC_2 (i j : Int) (e : Lo) : rngC ([.sh (.int i), .sh (.int j)], e) = if -(2 ^ 62) ≤ i ∧ i < 2 ^ 62 ∧ -(2 ^ 62) ≤ j ∧ j < 2 ^ 62 then .ok ([], rngD i (j - i).toNat, e) else .bad := eqq rfl
@[simp] theorem ev_rng (fs : EvA) (env : Lo) : fRng fs env = (fs env).bind rngC := eqq rfl
def zipV : Option (List D × Lo) → Res (List Sl × List D × Lo)
  | some ([a, b], e) => match seqOf a, seqOf b with
    | some xs, some ys => .ok ([.sh a, .sh b], zipD xs ys, e)
    | _, _ => .bad
  | _ => .bad
@[simp] theorem zipV_some (a b : D) (e : Lo) : zipV (some ([a, b], e)) = match seqOf a, seqOf b with
    | some xs, some ys => .ok ([.sh a, .sh b], zipD xs ys, e)
    | _, _ => .bad := eqq rfl
@[simp] theorem seqOf_list (ds : List D) : seqOf (.list ds) = some ds := eqq rfl
@[simp] theorem seqOf_tuple (ds : List D) : seqOf (.tuple ds) = some ds := eqq rfl
def zipC (p : List Sl × Lo) : Res (List Sl × List D × Lo) := zipV (freezeAll p.2 p.1)
@[simp] theorem zipC_ev (rs : List Sl) (e : Lo) : zipC (rs, e) = zipV (freezeAll e rs) := eqq rfl
@[simp] theorem ev_zip (fs : EvA) (env : Lo) : fZip fs env = (fs env).bind zipC := by
  show (fs env).bind _ = _
  congr 1
  funext ⟨rs, e1⟩
  show (Res.ofO (freezeAll e1 rs)).bind _ = zipV (freezeAll e1 rs)
  cases freezeAll e1 rs with
  | none => rfl
  | some p =>
    obtain ⟨ds, e2⟩ := p
    match ds with
    | [] => rfl
    | [_] => rfl
    | [a, b] =>
      show (Res.ofO (seqOf a)).bind _ = (match seqOf a, seqOf b with | some xs, some ys => _ | _, _ => Res.bad)
      cases seqOf a with
      | none => rfl
      | some xs =>
        show (Res.ofO (seqOf b)).bind _ = _
        cases seqOf b <;> rfl
    | _ :: _ :: _ :: _ => rfl
def forC (tg : Tgt) (b : EvS) (p : List Sl × List D × Lo) : Res Out := loopF tg b p.2.1 p.2.2
@[simp] theorem forC_ev (tg : Tgt) (b : EvS) (ks : List Sl) (ds : List D) (e : Lo) : forC tg b (ks, ds, e) = loopF tg b ds e := eqq rfl
@[simp] theorem ev_for (fi : EvI) (tg : Tgt) (b : EvS) (env : Lo) : fFor fi tg b env = (fi env).bind (forC tg b) := eqq rfl
def lcC2 (e1 : Lo) (own : List Nat) (p : List D × Lo) : Res (Sl × Lo) := .ok (.ol p.1, restoreE e1 own p.2)
@[simp] theorem lcC2_ev (e1 : Lo) (own : List Nat) (acc : List D) (e : Lo) : lcC2 e1 own (acc, e) = .ok (.ol acc, restoreE e1 own e) := eqq rfl
def lcC (tg : Tgt) (ft : EvT) (fe : EvF) (own : List Nat) (p : List Sl × List D × Lo) : Res (Sl × Lo) :=
  if ∀ j ∈ own, j < p.2.2.length then (compF tg ft fe own p.2.1 [] (wipeE p.2.2 own)).bind (lcC2 p.2.2 own) else .bad
@[simp] theorem lcC_ev (tg : Tgt) (ft : EvT) (fe : EvF) (own : List Nat) (ks : List Sl) (ds : List D) (e : Lo) : lcC tg ft fe own (ks, ds, e) = if ∀ j ∈ own, j < e.length then (compF tg ft fe own ds [] (wipeE e own)).bind (lcC2 e own) else .bad := eqq rfl
@[simp] theorem ev_lc (fi : EvI) (tg : Tgt) (ft : EvT) (fe : EvF) (own : List Nat) (env : Lo) : fLc fi tg ft fe own env = (fi env).bind (lcC tg ft fe own) := eqq rfl
@[simp] theorem wipeE_nil (e : Lo) : wipeE e [] = e := eqq rfl
@[simp] theorem wipeE_cons (e : Lo) (v : Nat) (vs : List Nat) : wipeE e (v :: vs) = (wipeE e vs).set v .no := eqq rfl
@[simp] theorem restoreE_nil (e e' : Lo) : restoreE e [] e' = e' := eqq rfl
@[simp] theorem restoreE_cons (e : Lo) (v : Nat) (vs : List Nat) (e' : Lo) : restoreE e (v :: vs) e' = restoreE e vs (e'.set v ((wipeE e vs)[v]?.getD .no)) := eqq rfl
-- unpacking
def unpV : Option Lo → Res Out
  | some e => .ok (.nx e)
  | none => .bad
@[simp] theorem unpV_some (e : Lo) : unpV (some e) = .ok (.nx e) := eqq rfl
def unpF (is : List Nat) : Option (D × Lo) → Res Out
  | some (d, e) => unpV (bindT (.tp is) d e)
  | none => .bad
@[simp] theorem unpF_some (is : List Nat) (d : D) (e : Lo) : unpF is (some (d, e)) = unpV (bindT (.tp is) d e) := eqq rfl
def unpC (is : List Nat) (p : Sl × Lo) : Res Out := unpF is (freezeR p.2 p.1)
@[simp] theorem unpC_ev (is : List Nat) (r : Sl) (e : Lo) : unpC is (r, e) = unpF is (freezeR e r) := eqq rfl
@[simp] theorem ev_unp (is : List Nat) (fa : EvF) (env : Lo) : fUnp is fa env = (fa env).bind (unpC is) := by
  show (fa env).bind _ = _
  congr 1
  funext ⟨r, e1⟩
  show (Res.ofO (freezeR e1 r)).bind _ = unpF is (freezeR e1 r)
  cases freezeR e1 r with
  | none => rfl
  | some p =>
    obtain ⟨d, e2⟩ := p
    show (Res.ofO (bindT (.tp is) d e2)).bind _ = unpV (bindT (.tp is) d e2)
    cases bindT (.tp is) d e2 <;> rfl
def unlF (is : List Nat) : Option (D × Lo) → Res Out
  | some (.list ds, e) => unpV (setAll e is ds)
  | _ => .bad
@[simp] theorem unlF_some (is : List Nat) (ds : List D) (e : Lo) : unlF is (some (.list ds, e)) = unpV (setAll e is ds) := eqq rfl
def unlC (is : List Nat) (p : Sl × Lo) : Res Out := unlF is (freezeR p.2 p.1)
@[simp] theorem unlC_ev (is : List Nat) (r : Sl) (e : Lo) : unlC is (r, e) = unlF is (freezeR e r) := eqq rfl
@[simp] theorem ev_unl (is : List Nat) (fa : EvF) (env : Lo) : fUnl is fa env = (fa env).bind (unlC is) := by
  show (fa env).bind _ = _
  congr 1
  funext ⟨r, e1⟩
  show (Res.ofO (freezeR e1 r)).bind _ = unlF is (freezeR e1 r)
  cases freezeR e1 r with
  | none => rfl
  | some p =>
    obtain ⟨d, e2⟩ := p
    cases d <;> first | rfl | skip
    rename_i ds
    show (Res.ofO (setAll e2 is ds)).bind _ = unpV (setAll e2 is ds)
    cases setAll e2 is ds <;> rfl
@[simp] theorem bindT_nm (i : Nat) (d : D) (e : Lo) : bindT (.nm i) d e = if i < e.length then some (e.set i (.sh d)) else none := eqq rfl
@[simp] theorem bindT_tp (is : List Nat) (ds : List D) (e : Lo) : bindT (.tp is) (.tuple ds) e = setAll e is ds := eqq rfl
@[simp] theorem setAll_nil (e : Lo) : setAll e [] [] = some e := eqq rfl
@[simp] theorem setAll_cons (e : Lo) (i : Nat) (is : List Nat) (d : D) (ds : List D) : setAll e (i :: is) (d :: ds) = if i < e.length then setAll (e.set i (.sh d)) is ds else none := eqq rfl
-- the script
def scL (env : Lo) : Option Sl → Res (Sl × Lo)
  | some (.sc ns) => .ok (.sh (.int ns.length), env)
  | _ => .bad
@[simp] theorem scL_sc (env : Lo) (ns : List Int) : scL env (some (.sc ns)) = .ok (.sh (.int ns.length), env) := eqq rfl
@[simp] theorem ev_scLen (i : Nat) (env : Lo) : fScLen i env = scL env env[i]? := by
  unfold fScLen scL
  split <;> simp_all
def scV (e : Lo) : Option Int → Res (Sl × Lo)
  | some n => .ok (.sh (.int n), e)
  | none => .bad
@[simp] theorem scV_some (e : Lo) (n : Int) : scV e (some n) = .ok (.sh (.int n), e) := eqq rfl
def scC (ns : List Int) : Sl × Lo → Res (Sl × Lo)
  | (.sh (.int k), e) => scV e (atI ns k)
  | _ => .bad
@[simp] theorem scC_ev (ns : List Int) (k : Int) (e : Lo) : scC ns (.sh (.int k), e) = scV e (atI ns k) := eqq rfl
def scS (fb : EvF) (env : Lo) : Option Sl → Res (Sl × Lo)
  | some (.sc ns) => (fb env).bind (scC ns)
  | _ => .bad
@[simp] theorem scS_sc (fb : EvF) (env : Lo) (ns : List Int) : scS fb env (some (.sc ns)) = (fb env).bind (scC ns) := eqq rfl
@[simp] theorem ev_scIx (i : Nat) (fb : EvF) (env : Lo) : fScIx i fb env = scS fb env env[i]? := by
  unfold fScIx scS
  split
  · rename_i ns h
    try rw [h]
    show (fb env).bind _ = (fb env).bind _
    congr 1
    funext ⟨r, e1⟩
    cases r <;> first | rfl | skip
    rename_i d
    cases d <;> first | rfl | skip
    rename_i k
    show (Res.ofO (atI ns k)).bind _ = scV e1 (atI ns k)
    cases atI ns k <;> rfl
  · rename_i h
    first
    | rfl
    | (split
       · rename_i ns h3; exact absurd h3 (h ns)
       · rfl)
-- defs
def runC (io : List Nat) (n : Nat) : Out → Res (Sl × List Sl)
  | .nx env => if n ≤ env.length then .ok (.sh .none, backArgs io n env) else .bad
  | .rt r env => if n ≤ env.length then .ok (r, backArgs io n env) else .bad
  | _ => .bad
@[simp] theorem runC_nx (io : List Nat) (n : Nat) (env : Lo) : runC io n (.nx env) = if n ≤ env.length then .ok (.sh .none, backArgs io n env) else .bad := eqq rfl
@[simp] theorem runC_rt (io : List Nat) (n : Nat) (r : Sl) (env : Lo) : runC io n (.rt r env) = if n ≤ env.length then .ok (r, backArgs io n env) else .bad := eqq rfl
theorem run_eq (m n : Nat) (io : List Nat) (b : EvS) (args : List Sl) : runFn m n io b args = (b (args ++ List.replicate (m - n) .no)).bind (runC io n) := by
  show (b (args ++ List.replicate (m - n) .no)).bind _ = _
  cases b (args ++ List.replicate (m - n) .no) with
  | ok o => cases o <;> rfl
  | bad => rfl
  | ex _ _ => rfl
theorem backArgs_eq (io : List Nat) (n : Nat) (env : Lo) : backArgs io n env = (List.range n).map fun k => if k ∈ io then env[k]?.getD .no else .no := rfl
-- turns that are written out
def loopC2 (tg : Tgt) (b : EvS) (ds : List D) : Out → Res Out
  | .nx e => loopF tg b ds e
  | .ct e => loopF tg b ds e
  | .bk e => .ok (.nx e)
  | .rt r e => .ok (.rt r e)
@[simp] theorem loopC2_nx (tg : Tgt) (b : EvS) (ds : List D) (e : Lo) : loopC2 tg b ds (.nx e) = loopF tg b ds e := eqq rfl
@[simp] theorem loopC2_ct (tg : Tgt) (b : EvS) (ds : List D) (e : Lo) : loopC2 tg b ds (.ct e) = loopF tg b ds e := eqq rfl
@[simp] theorem loopC2_bk (tg : Tgt) (b : EvS) (ds : List D) (e : Lo) : loopC2 tg b ds (.bk e) = .ok (.nx e) := eqq rfl
@[simp] theorem loopC2_rt (tg : Tgt) (b : EvS) (ds : List D) (r : Sl) (e : Lo) : loopC2 tg b ds (.rt r e) = .ok (.rt r e) := eqq rfl
def loopC1 (tg : Tgt) (b : EvS) (ds : List D) : Option Lo → Res Out
  | some e => (b e).bind (loopC2 tg b ds)
  | none => .bad
@[simp] theorem loopC1_some (tg : Tgt) (b : EvS) (ds : List D) (e : Lo) : loopC1 tg b ds (some e) = (b e).bind (loopC2 tg b ds) := eqq rfl
@[simp] theorem loop_nil (tg : Tgt) (b : EvS) (e : Lo) : loopF tg b [] e = .ok (.nx e) := eqq rfl
@[simp] theorem loop_cons (tg : Tgt) (b : EvS) (d : D) (ds : List D) (e : Lo) : loopF tg b (d :: ds) e = loopC1 tg b ds (bindT tg d e) := by
  show (Res.ofO (bindT tg d e)).bind _ = _
  cases bindT tg d e with
  | none => rfl
  | some e1 =>
    show (b e1).bind _ = (b e1).bind _
    cases b e1 with
    | ok o => cases o <;> rfl
    | bad => rfl
    | ex _ _ => rfl
/-! ### loops, by what holds before each turn -/
theorem loop_inv {tg : Tgt} {b : EvS} (Iv : Nat → Lo → Prop) (ds : List D) {env : Lo} (h0 : Iv 0 env) (hs : ∀ i d e, ds[i]? = some d → Iv i e → ∃ e1 e2, bindT tg d e = some e1 ∧ (b e1 = .ok (.nx e2) ∨ b e1 = .ok (.ct e2)) ∧ Iv (i + 1) e2) :
    ∃ e', loopF tg b ds env = .ok (.nx e') ∧ Iv ds.length e' := by
  have key : ∀ (ds : List D) (k : Nat) (env : Lo), Iv k env → (∀ i d e, ds[i]? = some d → Iv (k + i) e → ∃ e1 e2, bindT tg d e = some e1 ∧ (b e1 = .ok (.nx e2) ∨ b e1 = .ok (.ct e2)) ∧ Iv (k + i + 1) e2) → ∃ e', loopF tg b ds env = .ok (.nx e') ∧ Iv (k + ds.length) e' := by
    intro ds
    induction ds with
    | nil => intro k env h _; exact ⟨env, rfl, h⟩
    | cons d ds ih =>
      intro k env h hs
      obtain ⟨e1, e2, q1, q2, q3⟩ := hs 0 d env rfl h
      obtain ⟨e', r1, r2⟩ := ih (k + 1) e2 q3 fun i d e hd hi => by
        have := hs (i + 1) d e (by simpa using hd) (by rw [show k + (i + 1) = k + 1 + i by omega]; exact hi)
        rw [show k + (i + 1) + 1 = k + 1 + i + 1 by omega] at this
        exact this
      refine ⟨e', ?_, by rw [List.length_cons, show k + (ds.length + 1) = k + 1 + ds.length by omega]; exact r2⟩
      show (Res.ofO (bindT tg d env)).bind _ = _
      rw [q1]
      show (b e1).bind _ = _
      rcases q2 with q2 | q2 <;> rw [q2] <;> exact r1
  have := key ds 0 env h0 fun i d e hd hi => by simpa using hs i d e hd (by simpa using hi)
  simpa using this
theorem rng_len (i : Int) (n : Nat) : (rngD i n).length = n := by simp [rngD]
theorem rng_get {n i : Nat} {d : D} (h : (rngD 0 n)[i]? = some d) : i < n ∧ d = .int (i : Int) := by
  have hi : i < n := by
    have := (List.getElem?_eq_some_iff.mp h).1
    rwa [rng_len] at this
  have h2 : (rngD 0 n)[i]? = some (.int (0 + (i : Int))) := by simp [rngD, hi]
  rw [h2] at h
  injection h with h
  exact ⟨hi, by rw [← h, Int.zero_add]⟩
/-- a comprehension whose element changes nothing -/
theorem comp_map {tg : Tgt} {ft : EvT} {fe : EvF} {own : List Nat} {E : Lo} (g : D → D) : ∀ (ds acc : List D), ds.length + acc.length ≤ 16777216 →
    (∀ d ∈ ds, ∃ e1 r e3, bindT tg d E = some e1 ∧ ft e1 = .ok (true, e1) ∧ fe e1 = .ok (r, e3) ∧ (∃ e4, freezeR e3 r = some (g d, e4) ∧ wipeE e4 own = E)) → compF tg ft fe own ds acc E = .ok (acc ++ ds.map g, E)
  | [], acc, _, _ => by simp [compF]
  | d :: ds, acc, hl, h => by
    obtain ⟨e1, r, e3, q1, q2, q3, e4, q4, q5⟩ := h d List.mem_cons_self
    have hl' : ds.length + (acc ++ [g d]).length ≤ 16777216 := by simp at hl ⊢; omega
    have ih := comp_map g ds (acc ++ [g d]) hl' fun x hx => h x (List.mem_cons_of_mem _ hx)
    show (Res.ofO (bindT tg d E)).bind _ = _
    rw [q1]
    show (ft e1).bind _ = _
    rw [q2]
    show (fe e1).bind _ = _
    rw [q3]
    show (Res.ofO (freezeR e3 r)).bind _ = _
    rw [q4]
    show (if acc.length < 16777216 then compF tg ft fe own ds (acc ++ [g d]) (wipeE e4 own) else .bad) = _
    rw [if_pos (by simp at hl; omega), q5, ih]
    simp
end FL

/-! FB: sizes of numbers -/
namespace FL
open PySem PySem.Spec PyProof.Rows L2
/-- below 2 ^ k in size -/
def Bd (k : Nat) (x : Int) : Prop := x.natAbs < 2 ^ k
theorem Bd.mono {k m : Nat} {x : Int} (h : Bd k x) (hk : k ≤ m) : Bd m x := Nat.lt_of_lt_of_le h (Nat.pow_le_pow_right (by decide) hk)
theorem Bd.add {a b k : Nat} {x y : Int} (hx : Bd a x) (hy : Bd b y) (ha : a < k) (hb : b < k) : Bd k (x + y) := by
  unfold Bd at *
  obtain ⟨k, rfl⟩ : ∃ m, k = m + 1 := ⟨k - 1, by omega⟩
  have h1 : 2 ^ a ≤ 2 ^ k := Nat.pow_le_pow_right (by decide) (by omega)
  have h2 : 2 ^ b ≤ 2 ^ k := Nat.pow_le_pow_right (by decide) (by omega)
  have h3 : 2 ^ (k + 1) = 2 * 2 ^ k := by rw [Nat.pow_succ]; omega
  omega
theorem Bd.sub {a b k : Nat} {x y : Int} (hx : Bd a x) (hy : Bd b y) (ha : a < k) (hb : b < k) : Bd k (x - y) := by
  unfold Bd at *
  obtain ⟨k, rfl⟩ : ∃ m, k = m + 1 := ⟨k - 1, by omega⟩
  have h1 : 2 ^ a ≤ 2 ^ k := Nat.pow_le_pow_right (by decide) (by omega)
  have h2 : 2 ^ b ≤ 2 ^ k := Nat.pow_le_pow_right (by decide) (by omega)
  have h3 : 2 ^ (k + 1) = 2 * 2 ^ k := by rw [Nat.pow_succ]; omega
  omega
theorem Bd.neg {k : Nat} {x : Int} (hx : Bd k x) : Bd k (-x) := by unfold Bd at *; omega
theorem Bd.mul {a b : Nat} {x y : Int} (hx : Bd a x) (hy : Bd b y) : Bd (a + b) (x * y) := wide_lt hx hy
theorem Bd.pow {a : Nat} {x : Int} (hx : Bd a x) : ∀ n : Nat, 0 < n → Bd (a * n) (x ^ n)
  | 0, h => absurd h (by decide)
  | 1, _ => by rw [Int.pow_succ, Int.pow_zero, Int.one_mul, Nat.mul_one]; exact hx
  | n + 2, _ => by
    have ih := Bd.pow hx (n + 1) (by omega)
    rw [Int.pow_succ, show a * (n + 2) = a * (n + 1) + a by rw [Nat.mul_succ]]
    exact ih.mul hx
theorem Bd.lit {k : Nat} {x : Int} (h : x.natAbs < 2 ^ k := by decide) : Bd k x := h
theorem Bd.range {k : Nat} {x : Int} {m : Nat} (h1 : -(m : Int) ≤ x) (h2 : x ≤ (m : Int)) (hm : m < 2 ^ k := by decide) : Bd k x := by unfold Bd; omega
theorem Bd.mOk {a b : Nat} {x y : Int} (hx : Bd a x) (hy : Bd b y) (h : a + b ≤ 900000) : mulOk x y = true := by
  refine mulOk_log (show CMulW x y from wide_mul (a := a + 1) (b := b + 1) (hx.mono (by omega)) (hy.mono (by omega)) (by omega) (by omega) (by omega))
theorem Bd.dOk {b : Nat} {x y : Int} (h0 : y ≠ 0) (hy : Bd b y) (h : b ≤ 8999) : divOk x y = true := by
  unfold divOk
  rw [PyProof.noPylong_of_log2 (Nat.lt_of_lt_of_le (PySem.Flt.log2_lt_of (k := b + 1) (by omega) (hy.mono (by omega))) (by omega))]
  simpa using h0
theorem divOk_small {x y : Int} (h0 : y ≠ 0) (hy : y.natAbs < 1073741824) : divOk x y = true := by
  unfold divOk
  rw [PyProof.noPylong_small hy]
  simpa using h0
theorem Bd.mod {k : Nat} {x y : Int} (hy : Bd k y) (h0 : 0 < y) : Bd k (x % y) := by
  have h1 := Int.emod_nonneg x (show y ≠ 0 by omega)
  have h2 := Int.emod_lt_of_pos x h0
  unfold Bd at *; omega
theorem Bd.zero {k : Nat} : Bd k 0 := by
  unfold Bd
  exact Nat.two_pow_pos k
theorem Bd.sum {k : Nat} : ∀ (xs : List Int), (∀ x ∈ xs, Bd k x) → Bd (k + xs.length) xs.sum
  | [], _ => by
    show Bd _ 0
    exact .zero
  | x :: xs, h => by
    rw [List.sum_cons, List.length_cons]
    have h1 := h x List.mem_cons_self
    have h2 := Bd.sum xs fun y hy => h y (List.mem_cons_of_mem _ hy)
    exact (h1.add h2 (by omega) (by omega))
theorem fdiv_pos {x y : Int} (h : 0 < y) : x.fdiv y = x / y := Int.fdiv_eq_ediv_of_nonneg x (by omega)
end FL

/-! LA: small whole solutions (by counting), spans -/
namespace FL
/-- more pigeons than holes -/
theorem pigeon : ∀ (k K : Nat) (f : Nat → Nat), (∀ t, t < K → f t < k) → k < K → ∃ i j, i < j ∧ j < K ∧ f i = f j
  | 0, K, f, h, hk => absurd (h 0 (by omega)) (by omega)
  | k + 1, 0, f, h, hk => by omega
  | k + 1, K + 1, f, h, hk => by
    by_cases hx : ∃ t, t < K ∧ f t = f K
    · obtain ⟨t, h1, h2⟩ := hx
      exact ⟨t, K, h1, by omega, h2⟩
    · obtain ⟨i, j, h1, h2, h3⟩ := pigeon k K (fun t => if f K < f t then f t - 1 else f t) (fun t ht => by
        have a := h t (by omega)
        have b := h K (by omega)
        have c : f t ≠ f K := fun e => hx ⟨t, ht, e⟩
        show (if f K < f t then f t - 1 else f t) < k
        split <;> omega) (by omega)
      refine ⟨i, j, h1, by omega, ?_⟩
      have c1 : f i ≠ f K := fun e => hx ⟨i, by omega, e⟩
      have c2 : f j ≠ f K := fun e => hx ⟨j, by omega, e⟩
      split at h3 <;> split at h3 <;> omega
/-- numbers from their figures, base b -/
def ofFig (b : Nat) : List Nat → Nat
  | [] => 0
  | x :: xs => x + b * ofFig b xs
theorem ofFig_lt {b : Nat} : ∀ {xs : List Nat}, (∀ x ∈ xs, x < b) → ofFig b xs < b ^ xs.length
  | [], _ => by simp [ofFig]
  | x :: xs, h => by
    have h1 := h x List.mem_cons_self
    have h2 := ofFig_lt (b := b) (xs := xs) fun y hy => h y (List.mem_cons_of_mem _ hy)
    show x + b * ofFig b xs < b ^ (xs.length + 1)
    rw [Nat.pow_succ, Nat.mul_comm _ b]
    calc x + b * ofFig b xs < b + b * ofFig b xs := by omega
      _ = b * (ofFig b xs + 1) := by rw [Nat.mul_add, Nat.mul_one, Nat.add_comm]
      _ ≤ b * b ^ xs.length := Nat.mul_le_mul_left _ h2
theorem ofFig_inj {b : Nat} : ∀ {xs ys : List Nat}, xs.length = ys.length → (∀ x ∈ xs, x < b) → (∀ y ∈ ys, y < b) → ofFig b xs = ofFig b ys → xs = ys
  | [], [], _, _, _, _ => rfl
  | [], _ :: _, h, _, _, _ => by simp at h
  | _ :: _, [], h, _, _, _ => by simp at h
  | x :: xs, y :: ys, hl, hx, hy, e => by
    have e : x + b * ofFig b xs = y + b * ofFig b ys := e
    have h1 := hx x List.mem_cons_self
    have h2 := hy y List.mem_cons_self
    have a1 : (x + b * ofFig b xs) % b = x := by rw [Nat.add_mul_mod_self_left, Nat.mod_eq_of_lt h1]
    have a2 : (y + b * ofFig b ys) % b = y := by rw [Nat.add_mul_mod_self_left, Nat.mod_eq_of_lt h2]
    have exy : x = y := by rw [← a1, ← a2, e]
    subst exy
    have e2 : b * ofFig b xs = b * ofFig b ys := by omega
    have e3 := Nat.eq_of_mul_eq_mul_left (by omega) e2
    rw [ofFig_inj (by simpa using hl) (fun z hz => hx z (List.mem_cons_of_mem _ hz)) (fun z hz => hy z (List.mem_cons_of_mem _ hz)) e3]
/-- the m figures of a number, base b -/
def figs (b : Nat) : Nat → Nat → List Nat
  | 0, _ => []
  | m + 1, t => t % b :: figs b m (t / b)
theorem figs_len (b : Nat) : ∀ m t, (figs b m t).length = m
  | 0, _ => rfl
  | m + 1, t => by simp [figs, figs_len b m]
theorem figs_lt {b : Nat} (hb : 0 < b) : ∀ m t, ∀ x ∈ figs b m t, x < b
  | 0, _, x, h => by cases h
  | m + 1, t, x, h => by
    rcases List.mem_cons.mp h with rfl | h
    · exact Nat.mod_lt _ hb
    · exact figs_lt hb m _ x h
theorem figs_of {b : Nat} (hb : 0 < b) : ∀ m t, t < b ^ m → ofFig b (figs b m t) = t
  | 0, t, h => by simp at h; subst h; rfl
  | m + 1, t, h => by
    show t % b + b * ofFig b (figs b m (t / b)) = t
    rw [figs_of hb m (t / b) (by rw [Nat.div_lt_iff_lt_mul hb]; rwa [Nat.pow_succ] at h)]
    exact Nat.mod_add_div t b
/-- a sum of multiples, at one place -/
def comb (xs : List Int) (us : List (Nat → Int)) (c : Nat) : Int := (List.zipWith (fun x u => x * u c) xs us).sum
theorem comb_cons (x : Int) (xs : List Int) (u : Nat → Int) (us : List (Nat → Int)) (c : Nat) : comb (x :: xs) (u :: us) c = x * u c + comb xs us c := by simp [comb]
theorem comb_bd {A B : Nat} {c : Nat} : ∀ {xs : List Int} {us : List (Nat → Int)}, xs.length = us.length → (∀ x ∈ xs, x.natAbs ≤ B) → (∀ u ∈ us, (u c).natAbs ≤ A) → (comb xs us c).natAbs ≤ us.length * (B * A)
  | [], [], _, _, _ => by simp [comb]
  | [], _ :: _, h, _, _ => by simp at h
  | _ :: _, [], h, _, _ => by simp at h
  | x :: xs, u :: us, hl, hx, hu => by
    have ih := comb_bd (A := A) (B := B) (c := c) (xs := xs) (us := us) (by simpa using hl) (fun y hy => hx y (List.mem_cons_of_mem _ hy)) fun y hy => hu y (List.mem_cons_of_mem _ hy)
    have h1 : (x * u c).natAbs ≤ B * A := by rw [Int.natAbs_mul]; exact Nat.mul_le_mul (hx x List.mem_cons_self) (hu u List.mem_cons_self)
    rw [comb_cons, List.length_cons, Nat.succ_mul]
    have := Int.natAbs_add_le (x * u c) (comb xs us c)
    omega
theorem comb_sub : ∀ (xs ys : List Int) (us : List (Nat → Int)) (c : Nat), xs.length = us.length → ys.length = us.length → comb (List.zipWith (· - ·) xs ys) us c = comb xs us c - comb ys us c
  | [], [], [], c, _, _ => rfl
  | x :: xs, y :: ys, u :: us, c, h1, h2 => by
    rw [List.zipWith_cons_cons, comb_cons, comb_cons, comb_cons, comb_sub xs ys us c (by simpa using h1) (by simpa using h2), Int.sub_mul]
    omega
  | [], _ :: _, [], _, _, h => by simp at h
  | _ :: _, _, [], _, h, _ => by simp at h
  | [], _, _ :: _, _, h, _ => by simp at h
  | _ :: _, [], _ :: _, _, _, h => by simp at h
theorem sub_zero_all : ∀ {xs ys : List Int}, xs.length = ys.length → (∀ z ∈ List.zipWith (· - ·) xs ys, z = 0) → xs = ys
  | [], [], _, _ => rfl
  | [], _ :: _, h, _ => by simp at h
  | _ :: _, [], h, _ => by simp at h
  | x :: xs, y :: ys, hl, h => by
    have h1 : x - y = 0 := h _ (by simp)
    have h2 := sub_zero_all (xs := xs) (ys := ys) (by simpa using hl) fun z hz => h z (by rw [List.zipWith_cons_cons]; exact List.mem_cons_of_mem _ hz)
    rw [h2, show x = y by omega]
/-- a small whole solution: more unknowns than equations -/
theorem siegel (us : List (Nat → Int)) (cols : List Nat) (A : Nat) (hA : ∀ u ∈ us, ∀ c ∈ cols, (u c).natAbs ≤ A) (hk : cols.length < us.length) :
    ∃ xs : List Int, xs.length = us.length ∧ (∃ x ∈ xs, x ≠ 0) ∧ (∀ x ∈ xs, x.natAbs ≤ (2 * (us.length * A) + 1) ^ cols.length) ∧ ∀ c ∈ cols, comb xs us c = 0 := by
  obtain ⟨k, ek⟩ : ∃ k, k = us.length := ⟨_, rfl⟩
  obtain ⟨m, em⟩ : ∃ m, m = cols.length := ⟨_, rfl⟩
  obtain ⟨N, eN⟩ : ∃ N, N = (2 * (k * A) + 1) ^ m := ⟨_, rfl⟩
  obtain ⟨off, eo⟩ : ∃ off, off = k * (N * A) := ⟨_, rfl⟩
  have dig : ∀ t, ((figs (N + 1) k t).map Int.ofNat).length = us.length := fun t => by rw [List.length_map, figs_len, ek]
  have dlt : ∀ t, ∀ x ∈ (figs (N + 1) k t).map Int.ofNat, 0 ≤ x ∧ x.natAbs ≤ N := fun t x hx => by
    obtain ⟨y, hy, rfl⟩ := List.mem_map.mp hx
    have := figs_lt (by omega) k t y hy
    exact ⟨Int.natCast_nonneg _, by show y ≤ N; omega⟩
  have val : ∀ t, ∀ c ∈ cols, (comb ((figs (N + 1) k t).map Int.ofNat) us c).natAbs ≤ off := fun t c hc => by
    have := comb_bd (A := A) (B := N) (c := c) (dig t) (fun x hx => (dlt t x hx).2) fun u hu => hA u hu c hc
    rw [← ek] at this
    omega
  have fl : ∀ t, ∀ x ∈ cols.map (fun c => (comb ((figs (N + 1) k t).map Int.ofNat) us c + off).toNat), x < 2 * off + 1 := fun t x hx => by
    obtain ⟨c, hc, rfl⟩ := List.mem_map.mp hx
    have := val t c hc
    omega
  have holes : (2 * off + 1) ^ m < (N + 1) ^ k := by
    have h1 : 2 * off + 1 ≤ (2 * (k * A) + 1) * (N + 1) := by
      rw [eo]
      have : 2 * (k * (N * A)) = (2 * (k * A)) * N := by rw [Nat.mul_comm N A, ← Nat.mul_assoc k A N, ← Nat.mul_assoc 2]
      rw [this, Nat.add_mul, Nat.mul_add, Nat.mul_one]
      omega
    calc (2 * off + 1) ^ m ≤ ((2 * (k * A) + 1) * (N + 1)) ^ m := Nat.pow_le_pow_left h1 m
      _ = N * (N + 1) ^ m := by rw [Nat.mul_pow, ← eN]
      _ < (N + 1) * (N + 1) ^ m := Nat.mul_lt_mul_of_pos_right (by omega) (Nat.pow_pos (by omega))
      _ = (N + 1) ^ (m + 1) := by rw [Nat.pow_succ, Nat.mul_comm]
      _ ≤ (N + 1) ^ k := Nat.pow_le_pow_right (by omega) (by omega)
  obtain ⟨i, j, h1, h2, h3⟩ := pigeon _ _ (fun t => ofFig (2 * off + 1) (cols.map fun c => (comb ((figs (N + 1) k t).map Int.ofNat) us c + off).toNat)) (fun t _ => by
    have := ofFig_lt (fl t)
    rwa [List.length_map, ← em] at this) holes
  have h4 := ofFig_inj (by simp) (fl i) (fl j) h3
  refine ⟨List.zipWith (· - ·) ((figs (N + 1) k i).map Int.ofNat) ((figs (N + 1) k j).map Int.ofNat), ?_, ?_, ?_, ?_⟩
  · rw [List.length_zipWith, dig, dig, Nat.min_self]
  · refine Classical.byContradiction fun hn => ?_
    have e := sub_zero_all (by rw [dig, dig]) fun z hz => Classical.byContradiction fun hz0 => hn ⟨z, hz, hz0⟩
    have e2 : figs (N + 1) k i = figs (N + 1) k j := by
      have inj : Function.Injective Int.ofNat := fun a b h => Int.ofNat.inj h
      exact (List.map_inj_right (fun a b h => Int.ofNat.inj h)).mp e
    have a := figs_of (b := N + 1) (by omega) k i (by omega)
    have b := figs_of (b := N + 1) (by omega) k j h2
    rw [e2, b] at a
    omega
  · intro z hz
    rw [List.mem_iff_getElem] at hz
    obtain ⟨q, hq, rfl⟩ := hz
    simp only [List.length_zipWith] at hq
    simp only [List.getElem_zipWith]
    have a := dlt i _ (List.getElem_mem (show q < _ by omega))
    have b := dlt j _ (List.getElem_mem (show q < _ by omega))
    rw [← ek, ← em, ← eN]
    omega
  · intro c hc
    rw [comb_sub _ _ _ _ (dig i) (dig j)]
    have e : (comb ((figs (N + 1) k i).map Int.ofNat) us c + off).toNat = (comb ((figs (N + 1) k j).map Int.ofNat) us c + off).toNat := by
      obtain ⟨q, hq, rfl⟩ := List.mem_iff_getElem.mp hc
      have := congrArg (fun l => l[q]?) h4
      simpa [hq] using this
    have a := val i c hc
    have b := val j c hc
    omega
/-! ### what multiples of lines come to, and their parts -/
abbrev Vec := Nat → Int
inductive Sp (S : Vec → Prop) : Vec → Prop
  | mem {u : Vec} : S u → Sp S u
  | zero : Sp S fun _ => 0
  | add {u v : Vec} : Sp S u → Sp S v → Sp S fun j => u j + v j
  | smul {u : Vec} (c : Int) : Sp S u → Sp S fun j => c * u j
  | part {u : Vec} {c : Int} : c ≠ 0 → Sp S (fun j => c * u j) → Sp S u
theorem Sp.trans {S S' : Vec → Prop} (h : ∀ u, S u → Sp S' u) {v : Vec} (hv : Sp S v) : Sp S' v := by
  induction hv with
  | mem hu => exact h _ hu
  | zero => exact .zero
  | add _ _ a b => exact .add a b
  | smul c _ a => exact .smul c a
  | part hc _ a => exact .part hc a
theorem Sp.sub {S : Vec → Prop} {u v : Vec} (hu : Sp S u) (hv : Sp S v) : Sp S fun j => u j - v j := by
  have := Sp.add hu (Sp.smul (-1) hv)
  have e : (fun j => u j + -1 * v j) = fun j => u j - v j := by funext j; omega
  rwa [e] at this
theorem Sp.cross {S : Vec → Prop} {u v : Vec} (hu : Sp S u) (hv : Sp S v) (a b : Int) : Sp S fun j => a * u j - b * v j := Sp.sub (Sp.smul a hu) (Sp.smul b hv)
theorem Sp.comb {S : Vec → Prop} : ∀ {xs : List Int} {us : List Vec}, (∀ u ∈ us, Sp S u) → Sp S (FL.comb xs us)
  | [], us, _ => by
    have e : FL.comb [] us = fun _ => 0 := by funext c; simp [FL.comb]
    rw [e]; exact .zero
  | x :: xs, [], _ => by
    have e : FL.comb (x :: xs) [] = fun _ => 0 := by funext c; simp [FL.comb]
    rw [e]; exact .zero
  | x :: xs, u :: us, h => by
    have e : FL.comb (x :: xs) (u :: us) = fun j => x * u j + FL.comb xs us j := by funext c; exact comb_cons x xs u us c
    rw [e]
    exact .add (.smul x (h u List.mem_cons_self)) (Sp.comb fun v hv => h v (List.mem_cons_of_mem _ hv))
/-- all of a span share what its lines share, a linear thing that is 0 -/
theorem Sp.kills {S : Vec → Prop} (L : Vec → Vec) (h0 : L (fun _ => 0) = fun _ => 0) (ha : ∀ u v, L (fun j => u j + v j) = fun j => L u j + L v j) (hs : ∀ c u, L (fun j => c * u j) = fun j => c * L u j) (hS : ∀ u, S u → L u = fun _ => 0) {v : Vec} (hv : Sp S v) : L v = fun _ => 0 := by
  induction hv with
  | mem hu => exact hS _ hu
  | zero => exact h0
  | add _ _ a b => rw [ha, a, b]; rfl
  | smul c _ a => rw [hs, a]; funext j; simp
  | @part u c hc _ a =>
    rw [hs] at a
    funext j
    have := congrFun a j
    rcases Int.mul_eq_zero.mp this with h | h
    · exact absurd h hc
    · exact h
/-- rows with their heads, in the order in which they are cleared away: each later row is 0 at the earlier heads -/
structure Tri (F : List (Nat × Vec)) : Prop where
  ord : F.Pairwise fun a b => b.2 a.1 = 0
  top : ∀ a ∈ F, a.2 a.1 ≠ 0
def elim : List (Nat × Vec) → Vec → Vec
  | [], y => y
  | a :: F, y => elim F fun j => a.2 a.1 * y j - y a.1 * a.2 j
theorem elim_zero : ∀ F, elim F (fun _ => 0) = fun _ => 0
  | [] => rfl
  | a :: F => by
    show elim F (fun j => a.2 a.1 * 0 - 0 * a.2 j) = _
    have : (fun j => a.2 a.1 * 0 - 0 * a.2 j) = fun _ : Nat => (0 : Int) := by funext j; simp
    rw [this, elim_zero F]
theorem elim_add : ∀ F u v, elim F (fun j => u j + v j) = fun j => elim F u j + elim F v j
  | [], _, _ => rfl
  | a :: F, u, v => by
    show elim F (fun j => a.2 a.1 * (u j + v j) - (u a.1 + v a.1) * a.2 j) = _
    have : (fun j => a.2 a.1 * (u j + v j) - (u a.1 + v a.1) * a.2 j) = fun j => (a.2 a.1 * u j - u a.1 * a.2 j) + (a.2 a.1 * v j - v a.1 * a.2 j) := by
      funext j
      rw [Int.mul_add, Int.add_mul]
      omega
    rw [this, elim_add F]
    rfl
theorem elim_smul : ∀ F c u, elim F (fun j => c * u j) = fun j => c * elim F u j
  | [], _, _ => rfl
  | a :: F, c, u => by
    show elim F (fun j => a.2 a.1 * (c * u j) - (c * u a.1) * a.2 j) = _
    have : (fun j => a.2 a.1 * (c * u j) - (c * u a.1) * a.2 j) = fun j => c * (a.2 a.1 * u j - u a.1 * a.2 j) := by
      funext j
      rw [Int.mul_sub, Int.mul_left_comm, Int.mul_assoc]
    rw [this, elim_smul F]
    rfl
theorem elim_row : ∀ {F : List (Nat × Vec)}, Tri F → ∀ a ∈ F, elim F a.2 = fun _ => 0
  | [], _, a, h => by cases h
  | b :: F, t, a, h => by
    have t' : Tri F := ⟨t.ord.of_cons, fun x hx => t.top x (List.mem_cons_of_mem _ hx)⟩
    rcases List.mem_cons.mp h with rfl | h
    · show elim F (fun j => a.2 a.1 * a.2 j - a.2 a.1 * a.2 j) = _
      have : (fun j => a.2 a.1 * a.2 j - a.2 a.1 * a.2 j) = fun _ : Nat => (0 : Int) := by funext j; omega
      rw [this, elim_zero]
    · have e0 : a.2 b.1 = 0 := (List.pairwise_cons.mp t.ord).1 a h
      show elim F (fun j => b.2 b.1 * a.2 j - a.2 b.1 * b.2 j) = _
      have : (fun j => b.2 b.1 * a.2 j - a.2 b.1 * b.2 j) = fun j => b.2 b.1 * a.2 j := by funext j; rw [e0]; simp
      rw [this, elim_smul, elim_row t' a h]
      funext j; simp
theorem elim_off : ∀ {F : List (Nat × Vec)}, Tri F → ∀ y : Vec, (∀ a ∈ F, y a.1 = 0) → ∃ P : Int, P ≠ 0 ∧ elim F y = fun j => P * y j
  | [], _, y, _ => ⟨1, by decide, by funext j; simp [elim]⟩
  | b :: F, t, y, h => by
    have t' : Tri F := ⟨t.ord.of_cons, fun x hx => t.top x (List.mem_cons_of_mem _ hx)⟩
    obtain ⟨P, hP, e⟩ := elim_off t' y fun a ha => h a (List.mem_cons_of_mem _ ha)
    have e0 := h b List.mem_cons_self
    refine ⟨b.2 b.1 * P, Int.mul_ne_zero (t.top b List.mem_cons_self) hP, ?_⟩
    show elim F (fun j => b.2 b.1 * y j - y b.1 * b.2 j) = _
    have : (fun j => b.2 b.1 * y j - y b.1 * b.2 j) = fun j => b.2 b.1 * y j := by funext j; rw [e0]; simp
    rw [this, elim_smul, e]
    funext j
    rw [Int.mul_assoc]
def rowsOf (F : List (Nat × Vec)) : Vec → Prop := fun u => ∃ a ∈ F, u = a.2
/-- of the span, 0 at all heads: 0 -/
theorem Tri.zero {F : List (Nat × Vec)} (t : Tri F) {y : Vec} (hy : Sp (rowsOf F) y) (h : ∀ a ∈ F, y a.1 = 0) : ∀ j, y j = 0 := by
  have k := Sp.kills (elim F) (elim_zero F) (elim_add F) (elim_smul F) (fun u ⟨a, ha, e⟩ => by rw [e]; exact elim_row t a ha) hy
  obtain ⟨P, hP, e⟩ := elim_off t y h
  intro j
  have := congrFun (e.symm.trans k) j
  rcases Int.mul_eq_zero.mp this with q | q
  · exact absurd q hP
  · exact q
/-- of the span, both 0 at all heads but one: parallel -/
theorem Tri.par {F : List (Nat × Vec)} (t : Tri F) {y z : Vec} (hy : Sp (rowsOf F) y) (hz : Sp (rowsOf F) z) (h : Nat) (ey : ∀ a ∈ F, a.1 ≠ h → y a.1 = 0) (ez : ∀ a ∈ F, a.1 ≠ h → z a.1 = 0) : ∀ j, z h * y j = y h * z j := by
  have k := t.zero (Sp.cross hy hz (z h) (y h)) fun a ha => by
    by_cases e : a.1 = h
    · rw [e, Int.mul_comm]; omega
    · simp only [ey a ha e, ez a ha e]; simp
  intro j
  have := k j
  omega
theorem elim_append : ∀ F1 F2 y, elim (F1 ++ F2) y = elim F2 (elim F1 y)
  | [], _, _ => rfl
  | a :: F1, F2, y => elim_append F1 F2 _
theorem elim_at : ∀ (F : List (Nat × Vec)) (y : Vec) (h : Nat), (∀ b ∈ F, b.2 b.1 ≠ 0) → (∀ b ∈ F, b.2 h = 0) → ∃ P : Int, P ≠ 0 ∧ elim F y h = P * y h
  | [], y, h, _, _ => ⟨1, by decide, by simp [elim]⟩
  | b :: F, y, h, t, z => by
    obtain ⟨P, hP, e⟩ := elim_at F (fun j => b.2 b.1 * y j - y b.1 * b.2 j) h (fun x hx => t x (List.mem_cons_of_mem _ hx)) fun x hx => z x (List.mem_cons_of_mem _ hx)
    refine ⟨P * b.2 b.1, Int.mul_ne_zero hP (t b List.mem_cons_self), ?_⟩
    show elim F (fun j => b.2 b.1 * y j - y b.1 * b.2 j) h = _
    rw [e, z b List.mem_cons_self, Int.mul_assoc]
    simp
theorem Tri.sub {F F' : List (Nat × Vec)} (t : Tri F) (h : F'.Sublist F) : Tri F' := ⟨t.ord.sublist h, fun a ha => t.top a (h.subset ha)⟩
/-- no row comes of the others -/
theorem Tri.free {F1 F2 : List (Nat × Vec)} {a : Nat × Vec} (t : Tri (F1 ++ a :: F2)) : ¬ Sp (rowsOf (F1 ++ F2)) a.2 := by
  intro hs
  have tt : Tri (F1 ++ F2) := t.sub (List.Sublist.append_left (List.sublist_cons_self a F2) F1)
  have k := Sp.kills (elim (F1 ++ F2)) (elim_zero _) (elim_add _) (elim_smul _) (fun u ⟨b, hb, e⟩ => by rw [e]; exact elim_row tt b hb) hs
  have o := List.pairwise_append.mp t.ord
  have t1 : Tri F1 := t.sub (List.sublist_append_left F1 _)
  obtain ⟨P, hP, e1⟩ := elim_off t1 a.2 fun b hb => o.2.2 b hb a List.mem_cons_self
  obtain ⟨Q, hQ, e2⟩ := elim_at F2 (fun j => P * a.2 j) a.1 (fun b hb => t.top b (by simp [hb])) fun b hb => (List.pairwise_cons.mp o.2.1).1 b hb
  rw [elim_append, e1] at k
  have := congrFun k a.1
  rw [e2] at this
  exact Int.mul_ne_zero hQ (Int.mul_ne_zero hP (t.top a (by simp))) this
/-- none of these lines comes of the ones ahead of it -/
def Indep : List Vec → Prop
  | [] => True
  | u :: us => (¬ Sp (fun v => v ∈ us) u) ∧ Indep us
theorem indep_comb : ∀ {us : List Vec}, Indep us → ∀ xs : List Int, xs.length = us.length → (∀ j, comb xs us j = 0) → ∀ x ∈ xs, x = 0
  | [], _, [], _, _, x, hx => by cases hx
  | [], _, _ :: _, h, _, _, _ => by simp at h
  | _ :: _, _, [], h, _, _, _ => by simp at h
  | u :: us, hi, y :: ys, hl, hz, x, hx => by
    have hl' : ys.length = us.length := by simpa using hl
    by_cases h0 : y = 0
    · rcases List.mem_cons.mp hx with rfl | hx
      · exact h0
      · refine indep_comb hi.2 ys hl' (fun j => ?_) x hx
        have := hz j
        rw [comb_cons, h0] at this
        simpa using this
    · refine absurd ?_ hi.1
      refine Sp.part (c := -y) (by omega) ?_
      have e : (fun j => -y * u j) = comb ys us := by
        funext j
        have := hz j
        rw [comb_cons] at this
        rw [Int.neg_mul]
        omega
      rw [e]
      exact Sp.comb fun v hv => .mem hv
/-- a small vector of the span that is 0 at all heads but one -/
theorem small {F : List (Nat × Vec)} (t : Tri F) {us : List Vec} (hu : ∀ u ∈ us, Sp (rowsOf F) u) (hi : Indep us) (A : Nat) (hA : ∀ u ∈ us, ∀ c, (u c).natAbs ≤ A) (h : Nat) (cols : List Nat) (hc : ∀ a ∈ F, a.1 ≠ h → a.1 ∈ cols) (hk : cols.length < us.length) :
    ∃ z : Vec, Sp (rowsOf F) z ∧ (∀ a ∈ F, a.1 ≠ h → z a.1 = 0) ∧ z h ≠ 0 ∧ ∀ c, (z c).natAbs ≤ us.length * ((2 * (us.length * A) + 1) ^ cols.length * A) := by
  obtain ⟨xs, hl, ⟨x, hx, hx0⟩, hb, hz⟩ := siegel us cols A (fun u hu c _ => hA u hu c) hk
  have hs : Sp (rowsOf F) (comb xs us) := Sp.comb hu
  refine ⟨comb xs us, hs, fun a ha hn => hz _ (hc a ha hn), fun e => ?_, fun c => comb_bd hl hb fun u hu => hA u hu c⟩
  have zz := t.zero hs fun a ha => by
    by_cases q : a.1 = h
    · rw [q]; exact e
    · exact hz _ (hc a ha q)
  exact hx0 (indep_comb hi xs hl zz x hx)
/-- a primitive vector is the least of those parallel to it -/
theorem prim_least {y z : Vec} {h : Nat} (hp : ∀ d : Int, (∀ j, d ∣ y j) → d ∣ 1) (hz : z h ≠ 0) (e : ∀ j, z h * y j = y h * z j) : ∀ j, (y j).natAbs ≤ (z j).natAbs := by
  have hy : y h ≠ 0 := fun q => by
    have := hp 0 fun j => by
      have := e j
      rw [q, Int.zero_mul] at this
      rcases Int.mul_eq_zero.mp this with r | r
      · exact absurd r hz
      · rw [r]; exact Int.dvd_refl 0
    simp at this
  obtain ⟨g, eg⟩ : ∃ g : Nat, g = Int.gcd (y h) (z h) := ⟨_, rfl⟩
  have g0 : g ≠ 0 := by rw [eg]; intro q; exact hy (Int.gcd_eq_zero_iff.mp q).1
  obtain ⟨a, ha⟩ : (g : Int) ∣ y h := by rw [eg]; exact Int.gcd_dvd_left ..
  obtain ⟨b, hb⟩ : (g : Int) ∣ z h := by rw [eg]; exact Int.gcd_dvd_right ..
  have cop : Int.gcd a b = 1 := by
    have q : Int.gcd ((g : Int) * a) ((g : Int) * b) = g := by rw [← ha, ← hb, ← eg]
    rw [Int.gcd_mul_left] at q
    have q2 : g * Int.gcd a b = g * 1 := by simpa using q
    exact Nat.eq_of_mul_eq_mul_left (by omega) q2
  have eb : ∀ j, b * y j = a * z j := fun j => by
    have := e j
    rw [ha, hb, Int.mul_assoc, Int.mul_assoc] at this
    exact Int.eq_of_mul_eq_mul_left (by omega) this
  have da : a ∣ 1 := hp a fun j => by
    have : a ∣ b * y j := ⟨z j, eb j⟩
    have q := Int.natAbs_dvd_natAbs.mpr this
    rw [Int.natAbs_mul] at q
    have c2 : Nat.Coprime a.natAbs b.natAbs := cop
    exact Int.natAbs_dvd_natAbs.mp (c2.dvd_of_dvd_mul_left q)
  have a1 : a.natAbs = 1 := by
    have := Int.natAbs_dvd_natAbs.mpr da
    simpa using this
  intro j
  have q := congrArg Int.natAbs (eb j)
  rw [Int.natAbs_mul, Int.natAbs_mul, a1, Nat.one_mul] at q
  have b0 : b.natAbs ≠ 0 := fun r => hz (by rw [hb, Int.natAbs_eq_zero.mp r, Int.mul_zero])
  rw [← q]
  exact Nat.le_mul_of_pos_left _ (by omega)
/-- rows by rising heads, each with the line that it came of -/
inductive Chain : List (Nat × Vec) → List Vec → Prop
  | nil : Chain [] []
  | cons {a : Nat × Vec} {G : List (Nat × Vec)} {L : Vec} {us : List Vec} : Chain G us → a.2 a.1 ≠ 0 → (∀ b ∈ G, a.2 b.1 = 0) → Sp (rowsOf (a :: G)) L → Sp (fun v => v = L ∨ rowsOf G v) a.2 → Chain (a :: G) (L :: us)
theorem rowsOf_perm {F G : List (Nat × Vec)} (h : ∀ a, a ∈ F ↔ a ∈ G) : rowsOf F = rowsOf G := by
  funext u
  unfold rowsOf
  apply propext
  constructor
  · rintro ⟨a, ha, e⟩; exact ⟨a, (h a).mp ha, e⟩
  · rintro ⟨a, ha, e⟩; exact ⟨a, (h a).mpr ha, e⟩
theorem Chain.tri {G : List (Nat × Vec)} {us : List Vec} (h : Chain G us) : Tri G.reverse := by
  induction h with
  | nil => exact ⟨.nil, fun a h => by cases h⟩
  | @cons a G L us _ h0 hz _ _ ih =>
    rw [List.reverse_cons]
    refine ⟨List.pairwise_append.mpr ⟨ih.ord, List.pairwise_singleton _ _, fun b hb c hc => ?_⟩, fun b hb => ?_⟩
    · rw [List.mem_singleton] at hc
      subst hc
      exact hz b (List.mem_reverse.mp hb)
    · rcases List.mem_append.mp hb with hb | hb
      · exact ih.top b hb
      · rw [List.mem_singleton] at hb; subst hb; exact h0
theorem Chain.len {G : List (Nat × Vec)} {us : List Vec} (h : Chain G us) : us.length = G.length := by
  induction h with
  | nil => rfl
  | cons _ _ _ _ _ ih => simp [ih]
theorem Chain.ins {G : List (Nat × Vec)} {us : List Vec} (h : Chain G us) : ∀ u ∈ us, Sp (rowsOf G) u := by
  induction h with
  | nil => exact fun u hu => by cases hu
  | @cons a G L us _ _ _ hL _ ih =>
    intro u hu
    rcases List.mem_cons.mp hu with rfl | hu
    · exact hL
    · exact Sp.trans (fun v ⟨b, hb, e⟩ => .mem ⟨b, List.mem_cons_of_mem _ hb, e⟩) (ih u hu)
theorem Chain.indep {G : List (Nat × Vec)} {us : List Vec} (h : Chain G us) : Indep us := by
  induction h with
  | nil => trivial
  | @cons a G L us hc h0 hz hL ha ih =>
    refine ⟨fun hs => ?_, ih⟩
    have h1 : Sp (rowsOf G) L := Sp.trans (fun v hv => hc.ins v hv) hs
    have h2 : Sp (rowsOf G) a.2 := Sp.trans (fun v hv => by
      rcases hv with rfl | hv
      · exact h1
      · exact .mem hv) ha
    have t := (Chain.cons hc h0 hz hL ha).tri
    rw [List.reverse_cons] at t
    refine Tri.free (F1 := G.reverse) (F2 := []) t ?_
    rw [List.append_nil, rowsOf_perm (G := G) fun x => List.mem_reverse]
    exact h2
/-- the lowest row of a chain, if primitive, is small -/
theorem Chain.small {a : Nat × Vec} {G : List (Nat × Vec)} {us : List Vec} (h : Chain (a :: G) us) (A : Nat) (hA : ∀ u ∈ us, ∀ c, (u c).natAbs ≤ A) (hp : ∀ d : Int, (∀ j, d ∣ a.2 j) → d ∣ 1) (hz : ∀ b ∈ G, a.2 b.1 = 0) :
    ∀ j, (a.2 j).natAbs ≤ (G.length + 1) * ((2 * ((G.length + 1) * A) + 1) ^ G.length * A) := by
  have t := h.tri
  have er : rowsOf (a :: G).reverse = rowsOf (a :: G) := rowsOf_perm fun x => List.mem_reverse
  have hl : us.length = G.length + 1 := h.len
  obtain ⟨z, hs, h1, h2, h3⟩ := FL.small t (us := us) (fun u hu => by rw [er]; exact h.ins u hu) h.indep A hA a.1 (G.map (·.1)) (fun b hb hn => by
    rcases List.mem_cons.mp (List.mem_reverse.mp hb) with rfl | hb
    · exact absurd rfl hn
    · exact List.mem_map.mpr ⟨b, hb, rfl⟩) (by rw [List.length_map, hl]; omega)
  have pa := t.par (y := a.2) (z := z) (by rw [er]; exact .mem ⟨a, List.mem_cons_self, rfl⟩) hs a.1 (fun b hb hn => by
    rcases List.mem_cons.mp (List.mem_reverse.mp hb) with rfl | hb
    · exact absurd rfl hn
    · exact hz b hb) h1
  intro j
  have q := prim_least hp h2 pa j
  have r := h3 j
  rw [List.length_map, hl] at r
  omega
end FL

/-! EP: settled lists, in plain Lean -/
namespace EN
open FL
theorem gcd_step {a b : Int} (ha : 0 ≤ a) (hb : 0 ≤ b) : Int.gcd b (a % b) = Int.gcd a b := by
  obtain ⟨m, rfl⟩ := Int.eq_ofNat_of_zero_le ha
  obtain ⟨n, rfl⟩ := Int.eq_ofNat_of_zero_le hb
  show Nat.gcd n ((m : Int) % (n : Int)).natAbs = Nat.gcd m n
  rw [show ((m : Int) % (n : Int)).natAbs = m % n by rw [← Int.natCast_emod]; rfl, Nat.gcd_comm n, ← Nat.gcd_rec, Nat.gcd_comm]
def hd (xs : List Int) : Nat → Option Nat
  | 0 => none
  | p + 1 => if xs[p]?.getD 0 = 0 then hd xs p else some p
def headO (xs : List Int) : Option Nat := hd xs xs.length
theorem hd_none {xs : List Int} : ∀ {p : Nat}, hd xs p = none → ∀ q, q < p → xs[q]?.getD 0 = 0
  | 0, _, q, h => absurd h (by omega)
  | p + 1, e, q, h => by
    unfold hd at e
    split at e
    · rename_i h0
      by_cases hq : q = p
      · rw [hq]; exact h0
      · exact hd_none e q (by omega)
    · cases e
theorem hd_some {xs : List Int} : ∀ {p q : Nat}, hd xs p = some q → q < p ∧ xs[q]?.getD 0 ≠ 0 ∧ ∀ j, q < j → j < p → xs[j]?.getD 0 = 0
  | 0, q, e => by cases e
  | p + 1, q, e => by
    unfold hd at e
    split at e
    · rename_i h0
      obtain ⟨h1, h2, h3⟩ := hd_some e
      refine ⟨by omega, h2, fun j a b => ?_⟩
      by_cases hj : j = p
      · rw [hj]; exact h0
      · exact h3 j a (by omega)
    · rename_i h0
      cases e
      exact ⟨by omega, h0, fun j a b => by omega⟩
def contF (g : Nat) (xs : List Int) : Nat := xs.foldl (fun g x => Int.gcd g x) g
def cont (xs : List Int) : Nat := contF 0 xs
theorem contF_cons (g : Nat) (x : Int) (xs : List Int) : contF g (x :: xs) = contF (Int.gcd g x) xs := rfl
theorem contF_dvd (d : Int) : ∀ (xs : List Int) (g : Nat), (d ∣ (contF g xs : Int)) ↔ (d ∣ (g : Int) ∧ ∀ x ∈ xs, d ∣ x)
  | [], g => by simp [contF]
  | x :: xs, g => by
    rw [contF_cons, contF_dvd d xs]
    constructor
    · rintro ⟨h1, h2⟩
      refine ⟨Int.dvd_trans h1 (Int.gcd_dvd_left ..), fun y hy => ?_⟩
      rcases List.mem_cons.mp hy with rfl | hy
      · exact Int.dvd_trans h1 (Int.gcd_dvd_right ..)
      · exact h2 y hy
    · rintro ⟨h1, h2⟩
      exact ⟨Int.dvd_coe_gcd h1 (h2 x List.mem_cons_self), fun y hy => h2 y (List.mem_cons_of_mem _ hy)⟩
theorem cont_dvd (d : Int) (xs : List Int) : (d ∣ (cont xs : Int)) ↔ ∀ x ∈ xs, d ∣ x := by
  unfold cont
  rw [contF_dvd]
  simp
theorem cont_zero {xs : List Int} : cont xs = 0 ↔ ∀ x ∈ xs, x = 0 := by
  have := cont_dvd 0 xs
  constructor
  · intro h x hx
    rw [h] at this
    exact Int.zero_dvd.mp (this.mp (by simp) x hx)
  · intro h
    have h2 := this.mpr fun x hx => by rw [h x hx]; exact Int.dvd_refl 0
    have := Int.zero_dvd.mp h2
    omega
theorem head_of {xs : List Int} (h : cont xs ≠ 0) : ∃ p x, headO xs = some p ∧ xs[p]? = some x ∧ x ≠ 0 := by
  cases e : headO xs with
  | none =>
    refine absurd (cont_zero.mpr fun x hx => ?_) h
    obtain ⟨i, hi, rfl⟩ := List.mem_iff_getElem.mp hx
    have := hd_none e i hi
    rw [List.getElem?_eq_getElem hi, Option.getD_some] at this
    exact this
  | some p =>
    obtain ⟨h1, h2, _⟩ := hd_some e
    rw [List.getElem?_eq_getElem h1, Option.getD_some] at h2
    exact ⟨p, _, rfl, List.getElem?_eq_getElem h1, h2⟩
def lead (xs : List Int) : Int := match headO xs with
  | none => 0
  | some p => xs[p]?.getD 0
def primG (xs : List Int) : Int := if lead xs < 0 then -(cont xs : Int) else cont xs
def primF (xs : List Int) : List Int := if cont xs = 0 then xs else xs.map fun x => x.fdiv (primG xs)
def rawF (xs ys : List Int) (p : Nat) : List Int := List.zipWith (fun a b => a * (ys[p]?.getD 0) - b * (xs[p]?.getD 0)) xs ys
def clearF (xs ys : List Int) (p : Nat) : List Int := primF (rawF xs ys p)
theorem rawF_len (xs ys : List Int) (p : Nat) (h : xs.length = ys.length) : (rawF xs ys p).length = xs.length := by unfold rawF; simp [h]
/-- the rows by their heads -/
abbrev Tab := List (Nat × List Int)
def getT (t : Tab) (p : Nat) : Option (List Int) := (t.find? fun e => decide (e.1 = p)).map (·.2)
/-- how often put_in clears: until no row stands at the head -/
def putF (t : Tab) : Nat → List Int → Option (List Int)
  | 0, _ => none
  | n + 1, left => match headO left with
    | none => some left
    | some p => match getT t p with
      | none => some left
      | some row => putF t n (clearF left row p)
/-- all that comes on the way may be reckoned -/
def putOk (n k : Nat) (t : Tab) : Nat → List Int → Prop
  | 0, _ => True
  | f + 1, left => left.length = n ∧ (∀ x ∈ left, Bd k x) ∧ match headO left with
    | none => True
    | some p => match getT t p with
      | none => True
      | some row => row.length = n ∧ (∀ x ∈ row, Bd k x) ∧ (∀ x ∈ rawF left row p, Bd 13500 x) ∧ putOk n k t f (clearF left row p)
theorem putF_free {t : Tab} : ∀ {f : Nat} {left fin : List Int}, putF t f left = some fin → ∀ p, headO fin = some p → getT t p = none
  | 0, left, fin, e, _, _ => by cases e
  | f + 1, left, fin, e, p, hp => by
    unfold putF at e
    cases ep : headO left with
    | none =>
      rw [ep] at e
      cases e
      rw [ep] at hp; cases hp
    | some q =>
      rw [ep] at e
      cases eg : getT t q with
      | none =>
        simp only [eg] at e
        cases e
        rw [ep] at hp; cases hp
        exact eg
      | some row =>
        simp only [eg] at e
        exact putF_free e p hp
def addT (t : Tab) (fin : List Int) : Tab := match headO fin with
  | none => t
  | some p => t ++ [(p, fin)]
/-- the lines go in, one after the other -/
inductive PutRun (n k : Nat) : Tab → List (List Int) → Tab → Prop
  | nil (t : Tab) : PutRun n k t [] t
  | cons {t t' : Tab} {line fin : List Int} {lines : List (List Int)} : line.length = n → (∀ x ∈ line, Bd 13500 x) → fin.length = n → putF t 1000 (primF line) = some fin → putOk n k t 1000 (primF line) → PutRun n k (addT t fin) lines t' → PutRun n k t (line :: lines) t'
theorem addT_len (t : Tab) (fin : List Int) : (addT t fin).length ≤ t.length + 1 := by
  unfold addT
  split <;> simp
/-- a row, cleared by the lower ones -/
inductive RedRun (n k : Nat) : List (List Int) → List Int → List Int → Prop
  | nil (line : List Int) : RedRun n k [] line line
  | cons {low line fin : List Int} {lows : List (List Int)} {h : Nat} : headO low = some h → line.length = n → low.length = n → (∀ x ∈ line, Bd k x) → (∀ x ∈ low, Bd k x) → (∀ x ∈ rawF line low h, Bd 13500 x) → RedRun n k lows (clearF line low h) fin → RedRun n k (low :: lows) line fin
inductive FinRun (n k : Nat) (t : Tab) : List Nat → List (List Int) → List (List Int) → Prop
  | nil (found : List (List Int)) : FinRun n k t [] found found
  | cons {p : Nat} {ps : List Nat} {row fin : List Int} {found res : List (List Int)} : getT t p = some row → RedRun n k found row fin → FinRun n k t ps (found ++ [fin]) res → FinRun n k t (p :: ps) found res
def fn (xs : List Int) : Vec := fun j => xs[j]?.getD 0
theorem fn_map (f : Int → Int) (h0 : f 0 = 0) (xs : List Int) (j : Nat) : fn (xs.map f) j = f (fn xs j) := by
  unfold fn
  rw [List.getElem?_map]
  cases xs[j]? with
  | none => simp [h0]
  | some x => rfl
theorem fn_mem {xs : List Int} {j : Nat} (h : j < xs.length) : fn xs j ∈ xs := by
  unfold fn
  rw [List.getElem?_eq_getElem h, Option.getD_some]
  exact List.getElem_mem h
theorem fn_out {xs : List Int} {j : Nat} (h : xs.length ≤ j) : fn xs j = 0 := by
  unfold fn
  rw [List.getElem?_eq_none h]; rfl
theorem fn_zip (f : Int → Int → Int) (h0 : f 0 0 = 0) (xs ys : List Int) (hl : xs.length = ys.length) (j : Nat) : fn (List.zipWith f xs ys) j = f (fn xs j) (fn ys j) := by
  by_cases h : j < xs.length
  · unfold fn
    rw [List.getElem?_eq_getElem (by simp; omega), List.getElem?_eq_getElem h, List.getElem?_eq_getElem (by omega)]
    simp
  · rw [fn_out (xs := xs) (by omega), fn_out (xs := ys) (by omega), fn_out (by simp; omega), h0]
theorem fn_raw (xs ys : List Int) (p : Nat) (hl : xs.length = ys.length) (j : Nat) : fn (rawF xs ys p) j = fn ys p * fn xs j - fn xs p * fn ys j := by
  unfold rawF
  rw [fn_zip _ (by simp) xs ys hl]
  show fn xs j * fn ys p - fn ys j * fn xs p = _
  rw [Int.mul_comm (fn xs j), Int.mul_comm (fn ys j)]
theorem cont_dvd_fn (d : Int) (xs : List Int) : (d ∣ (cont xs : Int)) ↔ ∀ j, d ∣ fn xs j := by
  rw [cont_dvd]
  constructor
  · intro h j
    by_cases hj : j < xs.length
    · exact h _ (fn_mem hj)
    · rw [fn_out (by omega)]; exact Int.dvd_zero d
  · intro h x hx
    obtain ⟨i, hi, rfl⟩ := List.mem_iff_getElem.mp hx
    have := h i
    unfold fn at this
    rwa [List.getElem?_eq_getElem hi, Option.getD_some] at this
theorem primG_ne {xs : List Int} (h : cont xs ≠ 0) : primG xs ≠ 0 := by
  unfold primG
  split <;> omega
theorem primG_dvd (xs : List Int) (j : Nat) : primG xs ∣ fn xs j := by
  have := (cont_dvd_fn (cont xs : Int) xs).mp (Int.dvd_refl _) j
  unfold primG
  split
  · exact Int.neg_dvd.mpr this
  · exact this
theorem prim_len (xs : List Int) : (primF xs).length = xs.length := by
  unfold primF
  split <;> simp
theorem fn_prim {xs : List Int} (h : cont xs ≠ 0) (j : Nat) : fn xs j = primG xs * fn (primF xs) j := by
  unfold primF
  rw [if_neg h, fn_map _ (by simp), Int.mul_comm, Int.fdiv_mul_cancel (primG_dvd xs j)]
theorem prim_one {xs : List Int} (h : cont xs ≠ 0) (d : Int) (hd : ∀ j, d ∣ fn (primF xs) j) : d ∣ 1 := by
  have h1 : primG xs * d ∣ (cont xs : Int) := (cont_dvd_fn _ xs).mpr fun j => by
    rw [fn_prim h j]
    exact Int.mul_dvd_mul_left _ (hd j)
  have h2 : (cont xs : Int) ∣ primG xs := by
    unfold primG
    split
    · exact Int.dvd_neg.mpr (Int.dvd_refl _)
    · exact Int.dvd_refl _
  have h3 : primG xs * d ∣ primG xs * 1 := by rw [Int.mul_one]; exact Int.dvd_trans h1 h2
  exact Int.dvd_of_mul_dvd_mul_left (primG_ne h) h3
theorem head_fn {xs : List Int} {p : Nat} (h : headO xs = some p) : p < xs.length ∧ fn xs p ≠ 0 ∧ ∀ j, p < j → fn xs j = 0 := by
  obtain ⟨h1, h2, h3⟩ := hd_some h
  refine ⟨h1, h2, fun j hj => ?_⟩
  by_cases hl : j < xs.length
  · exact h3 j hj hl
  · exact fn_out (by omega)
theorem head_none {xs : List Int} (h : headO xs = none) (j : Nat) : fn xs j = 0 := by
  by_cases hl : j < xs.length
  · exact hd_none h j hl
  · exact fn_out (by omega)
theorem head_uniq {xs : List Int} {p : Nat} (h1 : fn xs p ≠ 0) (h2 : ∀ j, p < j → fn xs j = 0) : headO xs = some p := by
  cases e : headO xs with
  | none => exact absurd (head_none e p) h1
  | some q =>
    obtain ⟨a, b, c⟩ := head_fn e
    by_cases hlt : p < q
    · exact absurd (h2 q hlt) b
    · by_cases hgt : q < p
      · exact absurd (c p hgt) h1
      · rw [show q = p by omega]
theorem cont_ne {xs : List Int} {j : Nat} (h : fn xs j ≠ 0) : cont xs ≠ 0 := fun e => h (by
  have := (cont_dvd_fn 0 xs).mp (by rw [e]; simp) j
  exact Int.zero_dvd.mp this)
theorem lead_fn {xs : List Int} {p : Nat} (h : headO xs = some p) : lead xs = fn xs p := by
  unfold lead
  rw [h]
  rfl
theorem prim_head {xs : List Int} {p : Nat} (h : headO xs = some p) : headO (primF xs) = some p ∧ 0 < fn (primF xs) p := by
  obtain ⟨h1, h2, h3⟩ := head_fn h
  have hc := cont_ne h2
  have e := fn_prim hc
  have hg := primG_ne hc
  refine ⟨head_uniq (fun z => h2 (by rw [e p, z]; simp)) fun j hj => ?_, ?_⟩
  · have := h3 j hj
    rw [e j] at this
    rcases Int.mul_eq_zero.mp this with q | q
    · exact absurd q hg
    · exact q
  · have ep := e p
    have el := lead_fn h
    by_cases hn : fn xs p < 0
    · have g : primG xs = -(cont xs : Int) := by unfold primG; rw [el, if_pos hn]
      rw [g] at ep
      have c0 : 0 < (cont xs : Int) := by omega
      refine Classical.byContradiction fun hq => ?_
      have : 0 ≤ -(cont xs : Int) * fn (primF xs) p := Int.mul_nonneg_of_nonpos_of_nonpos (by omega) (by omega)
      omega
    · have g : primG xs = (cont xs : Int) := by unfold primG; rw [el, if_neg hn]
      rw [g] at ep
      refine Classical.byContradiction fun hq => ?_
      have : (cont xs : Int) * fn (primF xs) p ≤ 0 := Int.mul_nonpos_of_nonneg_of_nonpos (by omega) (by omega)
      omega
theorem prim_none {xs : List Int} (h : headO xs = none) : primF xs = xs := by
  unfold primF
  rw [if_pos]
  refine cont_zero.mpr fun x hx => ?_
  obtain ⟨i, hi, rfl⟩ := List.mem_iff_getElem.mp hx
  have := head_none h i
  unfold fn at this
  rwa [List.getElem?_eq_getElem hi, Option.getD_some] at this
/-- what is cleared at the head that both share lies lower -/
theorem clear_low {xs ys : List Int} {p q : Nat} (hl : xs.length = ys.length) (hx : headO xs = some p) (hy : headO ys = some p) (h : headO (clearF xs ys p) = some q) : q < p := by
  have hz : ∀ j, p ≤ j → fn (rawF xs ys p) j = 0 := fun j hj => by
    rw [fn_raw xs ys p hl]
    by_cases e : j = p
    · rw [e, Int.mul_comm]; omega
    · rw [(head_fn hx).2.2 j (by omega), (head_fn hy).2.2 j (by omega)]; simp
  refine Classical.byContradiction fun hq => ?_
  have h2 := (head_fn h).2.1
  cases er : headO (rawF xs ys p) with
  | none =>
    unfold clearF at h
    rw [prim_none er, er] at h
    cases h
  | some r =>
    have := (prim_head er).1
    unfold clearF at h
    rw [this] at h
    cases h
    exact (head_fn er).2.1 (hz _ (by omega))
theorem sp_prim {S : Vec → Prop} {xs : List Int} (h : Sp S (fn xs)) : Sp S (fn (primF xs)) := by
  by_cases hc : cont xs = 0
  · unfold primF
    rw [if_pos hc]
    exact h
  · refine Sp.part (primG_ne hc) ?_
    have e : (fun j => primG xs * fn (primF xs) j) = fn xs := by funext j; exact (fn_prim hc j).symm
    rw [e]; exact h
theorem sp_unprim {S : Vec → Prop} {xs : List Int} (h : Sp S (fn (primF xs))) : Sp S (fn xs) := by
  by_cases hc : cont xs = 0
  · unfold primF at h
    rw [if_pos hc] at h
    exact h
  · have e : fn xs = fun j => primG xs * fn (primF xs) j := by funext j; exact fn_prim hc j
    rw [e]
    exact .smul _ h
theorem sp_clear {S : Vec → Prop} {xs ys : List Int} {p : Nat} (hl : xs.length = ys.length) (hx : Sp S (fn xs)) (hy : Sp S (fn ys)) : Sp S (fn (clearF xs ys p)) := by
  refine sp_prim ?_
  have e : fn (rawF xs ys p) = fun j => fn ys p * fn xs j - fn xs p * fn ys j := by funext j; exact fn_raw xs ys p hl j
  rw [e]
  exact Sp.cross hx hy _ _
theorem sp_unclear {S : Vec → Prop} {xs ys : List Int} {p : Nat} (hl : xs.length = ys.length) (h0 : fn ys p ≠ 0) (hc : Sp S (fn (clearF xs ys p))) (hy : Sp S (fn ys)) : Sp S (fn xs) := by
  have h := sp_unprim hc
  refine Sp.part h0 ?_
  have e : (fun j => fn ys p * fn xs j) = fun j => fn (rawF xs ys p) j + fn xs p * fn ys j := by
    funext j
    rw [fn_raw xs ys p hl j]
    omega
  rw [e]
  exact Sp.add h (Sp.smul _ hy)
/-- the sizes of what cleared makes, before it is made primitive -/
theorem raw_bd {xs ys : List Int} {p k m : Nat} (hl : xs.length = ys.length) (hx : ∀ x ∈ xs, Bd k x) (hy : ∀ y ∈ ys, Bd m y) (hp : p < xs.length) : ∀ x ∈ rawF xs ys p, Bd (k + m + 1) x := by
  intro x h
  obtain ⟨i, hi, rfl⟩ := List.mem_iff_getElem.mp h
  rw [rawF_len xs ys p hl] at hi
  have e : (rawF xs ys p)[i]'(by rw [rawF_len xs ys p hl]; exact hi) = fn ys p * fn xs i - fn xs p * fn ys i := by
    rw [← fn_raw xs ys p hl i]
    unfold fn
    rw [List.getElem?_eq_getElem (by rw [rawF_len xs ys p hl]; exact hi), Option.getD_some]
  rw [e]
  have b1 := hx _ (fn_mem hi)
  have b2 := hx _ (fn_mem hp)
  have b3 := hy _ (fn_mem (xs := ys) (j := i) (by omega))
  have b4 := hy _ (fn_mem (xs := ys) (j := p) (by omega))
  exact ((b4.mul b1).mono (Nat.le_of_eq (Nat.add_comm m k))).sub (b2.mul b3) (by omega) (by omega)
def rowsUp (t : Tab) : Nat → Nat → List (Nat × Vec)
  | 0, _ => []
  | m + 1, p => match getT t p with
    | some row => (p, fn row) :: rowsUp t m (p + 1)
    | none => rowsUp t m (p + 1)
def linesUp (t : Tab) (gl : Nat → Vec) : Nat → Nat → List Vec
  | 0, _ => []
  | m + 1, p => match getT t p with
    | some _ => gl p :: linesUp t gl m (p + 1)
    | none => linesUp t gl m (p + 1)
theorem rowsUp_mem {t : Tab} : ∀ {m p : Nat} {a : Nat × Vec}, a ∈ rowsUp t m p ↔ p ≤ a.1 ∧ a.1 < p + m ∧ ∃ row, getT t a.1 = some row ∧ a.2 = fn row
  | 0, p, a => by simp [rowsUp]; omega
  | m + 1, p, a => by
    unfold rowsUp
    cases e : getT t p with
    | none =>
      simp only
      rw [rowsUp_mem (m := m) (p := p + 1)]
      constructor
      · rintro ⟨h1, h2, h3⟩; exact ⟨by omega, by omega, h3⟩
      · rintro ⟨h1, h2, row, h3, h4⟩
        have : a.1 ≠ p := fun q => by rw [q, e] at h3; cases h3
        exact ⟨by omega, by omega, row, h3, h4⟩
    | some row =>
      simp only [List.mem_cons]
      rw [rowsUp_mem (m := m) (p := p + 1)]
      constructor
      · rintro (rfl | ⟨h1, h2, h3⟩)
        · exact ⟨Nat.le_refl _, by omega, row, e, rfl⟩
        · exact ⟨by omega, by omega, h3⟩
      · rintro ⟨h1, h2, row', h3, h4⟩
        by_cases q : a.1 = p
        · left
          rw [q, e] at h3
          cases h3
          obtain ⟨a1, a2⟩ := a
          simp only at q h4
          rw [q, h4]
        · right
          exact ⟨by omega, by omega, row', h3, h4⟩
/-- the rows by their heads, each with the line that it came of -/
structure TabOk (n A : Nat) (t : Tab) (gl : Nat → Vec) : Prop where
  row : ∀ (p : Nat) (row : List Int), getT t p = some row → row.length = n ∧ headO row = some p ∧ ∀ d : Int, (∀ j, d ∣ fn row j) → d ∣ 1
  up : ∀ (p : Nat) (row : List Int), getT t p = some row → Sp (rowsOf (rowsUp t (n - p) p)) (gl p)
  dn : ∀ (p : Nat) (row : List Int), getT t p = some row → Sp (fun v => v = gl p ∨ rowsOf (rowsUp t (n - (p + 1)) (p + 1)) v) (fn row)
  bd : ∀ (p : Nat) (row : List Int), getT t p = some row → ∀ j, (gl p j).natAbs ≤ A
theorem TabOk.chain {n A : Nat} {t : Tab} {gl : Nat → Vec} (h : TabOk n A t gl) : ∀ (m p : Nat), p + m = n → Chain (rowsUp t m p) (linesUp t gl m p)
  | 0, p, _ => .nil
  | m + 1, p, hm => by
    have ih := h.chain m (p + 1) (by omega)
    unfold rowsUp linesUp
    cases e : getT t p with
    | none => exact ih
    | some row =>
      obtain ⟨h1, h2, h3⟩ := h.row p row e
      obtain ⟨q1, q2, q3⟩ := head_fn h2
      have u := h.up p row e
      have d := h.dn p row e
      rw [show n - p = m + 1 by omega] at u
      rw [show n - (p + 1) = m by omega] at d
      unfold rowsUp at u
      rw [e] at u
      refine Chain.cons ih q2 (fun b hb => ?_) u d
      have := rowsUp_mem.mp hb
      exact q3 b.1 (by omega)
theorem rowsUp_len (t : Tab) : ∀ m p, (rowsUp t m p).length ≤ m
  | 0, _ => Nat.le_refl _
  | m + 1, p => by
    unfold rowsUp
    have := rowsUp_len t m (p + 1)
    split
    · simp; omega
    · omega
theorem linesUp_mem {t : Tab} {gl : Nat → Vec} : ∀ {m p : Nat} {u : Vec}, u ∈ linesUp t gl m p → ∃ q row, getT t q = some row ∧ u = gl q
  | 0, p, u, h => by cases h
  | m + 1, p, u, h => by
    unfold linesUp at h
    cases e : getT t p with
    | none => rw [e] at h; exact linesUp_mem h
    | some row =>
      rw [e] at h
      rcases List.mem_cons.mp h with rfl | h
      · exact ⟨p, row, e, rfl⟩
      · exact linesUp_mem h
/-- the rows with heads from p on -/
def Up (n : Nat) (t : Tab) (p : Nat) : Vec → Prop := rowsOf (rowsUp t (n - p) p)
theorem Up_mem {n : Nat} {t : Tab} {p : Nat} {v : Vec} : Up n t p v ↔ ∃ q row, p ≤ q ∧ q < n ∧ getT t q = some row ∧ v = fn row := by
  constructor
  · rintro ⟨a, ha, rfl⟩
    obtain ⟨h1, h2, row, h3, h4⟩ := rowsUp_mem.mp ha
    exact ⟨a.1, row, h1, by omega, h3, h4⟩
  · rintro ⟨q, row, h1, h2, h3, rfl⟩
    exact ⟨(q, fn row), rowsUp_mem.mpr ⟨h1, by show q < p + (n - p); omega, row, h3, rfl⟩, rfl⟩
theorem Up_low {n : Nat} {t : Tab} {p q : Nat} (h : q ≤ p) {v : Vec} (hv : Up n t p v) : Up n t q v := by
  obtain ⟨a, row, h1, h2, h3, h4⟩ := Up_mem.mp hv
  exact Up_mem.mpr ⟨a, row, by omega, h2, h3, h4⟩
/-- what put_in has in hand, and the line it came of -/
structure Hand (n : Nat) (t : Tab) (L : Vec) (left : List Int) : Prop where
  len : left.length = n
  up : ∀ p, headO left = some p → Sp (fun v => v = fn left ∨ Up n t (p + 1) v) L
  dn : ∀ p, headO left = some p → Sp (fun v => v = L ∨ Up n t (p + 1) v) (fn left)
theorem Hand.step {n : Nat} {t : Tab} {L : Vec} {left row : List Int} {p : Nat} (h : Hand n t L left) (hp : headO left = some p) (hr : getT t p = some row) (rl : row.length = n) (rh : headO row = some p) : Hand n t L (clearF left row p) := by
  have hl : left.length = row.length := by rw [h.len, rl]
  have pn : p < n := by have := (head_fn hp).1; rw [h.len] at this; exact this
  have r0 := (head_fn rh).2.1
  refine ⟨by unfold clearF; rw [prim_len, rawF_len _ _ _ hl, h.len], fun q hq => ?_, fun q hq => ?_⟩
  · have lo := clear_low hl hp rh hq
    have ru : Up n t (q + 1) (fn row) := Up_mem.mpr ⟨p, row, by omega, pn, hr, rfl⟩
    refine Sp.trans (fun v hv => ?_) (h.up p hp)
    rcases hv with rfl | hv
    · exact sp_unclear hl r0 (.mem (.inl rfl)) (.mem (.inr ru))
    · exact .mem (.inr (Up_low (by omega) hv))
  · have lo := clear_low hl hp rh hq
    have ru : Up n t (q + 1) (fn row) := Up_mem.mpr ⟨p, row, by omega, pn, hr, rfl⟩
    refine sp_clear hl ?_ (.mem (.inr ru))
    refine Sp.trans (fun v hv => ?_) (h.dn p hp)
    rcases hv with rfl | hv
    · exact .mem (.inl rfl)
    · exact .mem (.inr (Up_low (by omega) hv))
theorem getT_add {t : Tab} {p : Nat} {row : List Int} (h : getT t p = none) (q : Nat) : getT (t ++ [(p, row)]) q = if q = p then some row else getT t q := by
  unfold getT at *
  rw [List.find?_append]
  by_cases e : q = p
  · subst e
    simp only [Option.map_eq_none_iff] at h
    rw [h]
    simp
  · have : ¬ p = q := fun z => e z.symm
    rw [if_neg e]
    cases t.find? fun e => decide (e.1 = q) with
    | none => simp [this]
    | some x => simp
theorem Up_add {n : Nat} {t : Tab} {p q : Nat} {row : List Int} (h : getT t p = none) {v : Vec} (hv : Up n t q v) : Up n (t ++ [(p, row)]) q v := by
  obtain ⟨a, r, h1, h2, h3, h4⟩ := Up_mem.mp hv
  refine Up_mem.mpr ⟨a, r, h1, h2, ?_, h4⟩
  rw [getT_add h, if_neg (fun e => by rw [e, h] at h3; cases h3)]
  exact h3
theorem TabOk.add {n A : Nat} {t : Tab} {gl : Nat → Vec} (h : TabOk n A t gl) {L : Vec} {left : List Int} (hd : Hand n t L left) {p : Nat} (hp : headO left = some p) (hn : getT t p = none) (hprim : ∀ d : Int, (∀ j, d ∣ fn left j) → d ∣ 1) (hL : ∀ j, (L j).natAbs ≤ A) :
    TabOk n A (t ++ [(p, left)]) (fun q => if q = p then L else gl q) := by
  have pn : p < n := by have := (head_fn hp).1; rw [hd.len] at this; exact this
  have me : Up n (t ++ [(p, left)]) p (fn left) := Up_mem.mpr ⟨p, left, Nat.le_refl _, pn, by rw [getT_add hn, if_pos rfl], rfl⟩
  refine ⟨fun q row e => ?_, fun q row e => ?_, fun q row e => ?_, fun q row e => ?_⟩ <;> rw [getT_add hn] at e <;> by_cases hq : q = p
  · rw [if_pos hq] at e; cases e; subst hq; exact ⟨hd.len, hp, hprim⟩
  · rw [if_neg hq] at e; exact h.row q row e
  · subst hq
    simp only [if_true]
    refine Sp.trans (fun v hv => ?_) (hd.up q hp)
    rcases hv with rfl | hv
    · exact .mem me
    · exact .mem (Up_low (by omega) (Up_add hn hv))
  · rw [if_neg hq] at e
    simp only [if_neg hq]
    exact Sp.trans (fun v hv => .mem (Up_add hn hv)) (h.up q row e)
  · rw [if_pos hq] at e; cases e
    subst hq
    simp only [if_true]
    refine Sp.trans (fun v hv => ?_) (hd.dn q hp)
    rcases hv with rfl | hv
    · exact .mem (.inl rfl)
    · exact .mem (.inr (Up_add hn hv))
  · rw [if_neg hq] at e
    simp only [if_neg hq]
    refine Sp.trans (fun v hv => ?_) (h.dn q row e)
    rcases hv with rfl | hv
    · exact .mem (.inl rfl)
    · exact .mem (.inr (Up_add hn hv))
  · simp only [if_pos hq]; exact hL
  · rw [if_neg hq] at e
    simp only [if_neg hq]; exact h.bd q row e
theorem prim_of_head {xs : List Int} {p : Nat} (h : headO (primF xs) = some p) : headO xs = some p ∧ ∀ d : Int, (∀ j, d ∣ fn (primF xs) j) → d ∣ 1 := by
  cases e : headO xs with
  | none => rw [prim_none e, e] at h; cases h
  | some q =>
    have := (prim_head e).1
    rw [this] at h
    cases h
    exact ⟨rfl, prim_one (cont_ne (head_fn e).2.1)⟩
theorem all_bd {xs : List Int} {k N : Nat} (h : ∀ j, (fn xs j).natAbs ≤ N) (hN : N < 2 ^ k) : ∀ x ∈ xs, Bd k x := by
  intro x hx
  obtain ⟨i, hi, rfl⟩ := List.mem_iff_getElem.mp hx
  have := h i
  unfold fn at this
  rw [List.getElem?_eq_getElem hi, Option.getD_some] at this
  exact Nat.lt_of_le_of_lt this hN
theorem none_bd {xs : List Int} (k : Nat) (h : headO xs = none) : ∀ x ∈ xs, Bd k x := by
  intro x hx
  obtain ⟨i, hi, rfl⟩ := List.mem_iff_getElem.mp hx
  have := head_none h i
  unfold fn at this
  rw [List.getElem?_eq_getElem hi, Option.getD_some] at this
  rw [this]; exact .zero
/-- all rows -/
def Rows (t : Tab) : Vec → Prop := fun v => ∃ q row, getT t q = some row ∧ v = fn row
theorem Up_rows {n : Nat} {t : Tab} {p : Nat} {v : Vec} (h : Up n t p v) : Rows t v := by
  obtain ⟨q, row, _, _, h3, h4⟩ := Up_mem.mp h
  exact ⟨q, row, h3, h4⟩
theorem hand_start {n : Nat} (t : Tab) (line : List Int) (hl : line.length = n) : Hand n t (fn line) (primF line) := by
  refine ⟨by rw [prim_len, hl], fun p _ => sp_unprim (.mem (.inl rfl)), fun p _ => sp_prim (.mem (.inl rfl))⟩
theorem addT_some {t : Tab} {fin : List Int} {p : Nat} (h : headO fin = some p) : addT t fin = t ++ [(p, fin)] := by unfold addT; rw [h]
theorem addT_none {t : Tab} {fin : List Int} (h : headO fin = none) : addT t fin = t := by unfold addT; rw [h]
/-- all lines go in; the rows and the lines have one span -/
theorem putF_span {n A : Nat} {t : Tab} {gl : Nat → Vec} (h : TabOk n A t gl) : ∀ (f : Nat) (left fin : List Int), left.length = n → putF t f left = some fin → Sp (fun v => v = fn fin ∨ Rows t v) (fn left) ∧ Sp (fun v => v = fn left ∨ Rows t v) (fn fin)
  | 0, _, _, _, e => by cases e
  | f + 1, left, fin, hl, e => by
    unfold putF at e
    cases ep : headO left with
    | none =>
      rw [ep] at e
      cases e
      exact ⟨.mem (.inl rfl), .mem (.inl rfl)⟩
    | some p =>
      rw [ep] at e
      cases er : getT t p with
      | none =>
        simp only [er] at e
        cases e
        exact ⟨.mem (.inl rfl), .mem (.inl rfl)⟩
      | some row =>
        simp only [er] at e
        obtain ⟨r1, r2, _⟩ := h.row p row er
        have hlr : left.length = row.length := by rw [hl, r1]
        have rr : Rows t (fn row) := ⟨p, row, er, rfl⟩
        obtain ⟨s1, s2⟩ := putF_span h f (clearF left row p) fin (by unfold clearF; rw [prim_len, rawF_len _ _ _ hlr, hl]) e
        refine ⟨sp_unclear hlr (head_fn r2).2.1 s1 (.mem (.inr rr)), Sp.trans (fun v hv => ?_) s2⟩
        rcases hv with rfl | hv
        · exact sp_clear hlr (.mem (.inl rfl)) (.mem (.inr rr))
        · exact .mem (.inr hv)
theorem zero_sp {S : Vec → Prop} {xs : List Int} (h : headO xs = none) : Sp S (fn xs) := by
  have e : fn xs = fun _ => 0 := by funext j; exact head_none h j
  rw [e]; exact .zero
/-! ### how many rows stand from a head on -/
theorem countP_split (p : Nat) : ∀ l : List Nat, l.countP (fun q => decide (p ≤ q)) = l.countP (fun q => decide (p + 1 ≤ q)) + l.count p
  | [] => rfl
  | x :: l => by
    have ih := countP_split p l
    rw [List.countP_cons, List.countP_cons, List.count_cons, ih]
    by_cases h1 : p = x
    · subst h1
      have : ¬ (p + 1 ≤ p) := by omega
      simp [this]
      omega
    · have h2 : ¬ x = p := fun e => h1 e.symm
      by_cases h3 : p ≤ x
      · have : p + 1 ≤ x := by omega
        simp [h3, this, h2]
        omega
      · have : ¬ (p + 1 ≤ x) := by omega
        simp [h3, this, h2]
theorem rowsUp_cnt {t : Tab} {ks : List Nat} (hk : ∀ q row, getT t q = some row → q ∈ ks) : ∀ m p, (rowsUp t m p).length ≤ ks.countP (fun q => decide (p ≤ q))
  | 0, _ => Nat.zero_le _
  | m + 1, p => by
    have ih := rowsUp_cnt hk m (p + 1)
    have s := countP_split p ks
    unfold rowsUp
    cases e : getT t p with
    | none => simp only; omega
    | some row =>
      have := List.count_pos_iff.mpr (hk p row e)
      simp only [List.length_cons]; omega
/-- the size of a small vector of m lines -/
def sb (m A : Nat) : Nat := m * ((2 * (m * A) + 1) ^ (m - 1) * A)
theorem sb_mono {k m A : Nat} (h : k ≤ m) (h1 : 1 ≤ k) : sb k A ≤ sb m A := by
  unfold sb
  have h1 : k * A ≤ m * A := Nat.mul_le_mul_right _ h
  have h2 : (2 * (k * A) + 1) ^ (k - 1) ≤ (2 * (m * A) + 1) ^ (m - 1) :=
    Nat.le_trans (Nat.pow_le_pow_left (by omega) _) (Nat.pow_le_pow_right (by omega) (by omega))
  exact Nat.mul_le_mul h (Nat.mul_le_mul_right _ h2)
theorem sb_bits {m a A : Nat} (hm : m ≤ 16) (h1 : 1 ≤ m) (hA : A ≤ 2 ^ a) : sb m A < 2 ^ (m * (a + 6)) := by
  unfold sb
  have p0 := Nat.two_pow_pos a
  have e1 : m * A ≤ 16 * 2 ^ a := Nat.mul_le_mul hm hA
  have e6 : 2 ^ (a + 6) = 64 * 2 ^ a := by rw [Nat.pow_add, Nat.mul_comm]
  have e2 : 2 * (m * A) + 1 ≤ 2 ^ (a + 6) := by omega
  have e3 : (2 * (m * A) + 1) ^ (m - 1) ≤ 2 ^ ((a + 6) * (m - 1)) := by rw [Nat.pow_mul]; exact Nat.pow_le_pow_left e2 _
  have e4 : m * ((2 * (m * A) + 1) ^ (m - 1) * A) ≤ 16 * (2 ^ ((a + 6) * (m - 1)) * 2 ^ a) := Nat.mul_le_mul hm (Nat.mul_le_mul e3 hA)
  have e5 : m * (a + 6) = (a + 6) * (m - 1) + a + 6 := by
    obtain ⟨k, rfl⟩ : ∃ k, m = k + 1 := ⟨m - 1, by omega⟩
    rw [Nat.add_sub_cancel, Nat.mul_comm, Nat.mul_succ]; omega
  rw [e5, Nat.pow_add, Nat.pow_add]
  have p1 := Nat.mul_pos (Nat.two_pow_pos ((a + 6) * (m - 1))) p0
  omega
theorem TabOk.row_sb {n A : Nat} {t : Tab} {gl : Nat → Vec} (h : TabOk n A t gl) {p : Nat} {row : List Int} (e : getT t p = some row) {ks : List Nat} (hk : ∀ q row, getT t q = some row → q ∈ ks) {m : Nat} (hm : ks.countP (fun q => decide (p ≤ q)) ≤ m) : ∀ j, (fn row j).natAbs ≤ sb m A := by
  obtain ⟨h1, h2, h3⟩ := h.row p row e
  obtain ⟨q1, q2, q3⟩ := head_fn h2
  obtain ⟨m', hm'⟩ : ∃ m, p + (m + 1) = n := ⟨n - p - 1, by omega⟩
  have c := h.chain (m' + 1) p hm'
  have l := rowsUp_cnt hk (m' + 1) p
  have er : rowsUp t (m' + 1) p = (p, fn row) :: rowsUp t m' (p + 1) := by
    show (match getT t p with | some row => (p, fn row) :: rowsUp t m' (p + 1) | none => rowsUp t m' (p + 1)) = _
    rw [e]
  rw [er] at c l
  intro j
  have s := Chain.small c A (fun u hu c => by
    obtain ⟨q, r, a, b⟩ := linesUp_mem hu
    rw [b]; exact h.bd q r a c) h3 (fun b hb => q3 b.1 (by have := rowsUp_mem.mp hb; omega)) j
  rw [List.length_cons] at l
  have := sb_mono (A := A) (show (rowsUp t m' (p + 1)).length + 1 ≤ m by omega) (by omega)
  unfold sb at this
  rw [Nat.add_sub_cancel] at this
  exact Nat.le_trans s this
theorem Hand.sb {n A : Nat} {t : Tab} {gl : Nat → Vec} (h : TabOk n A t gl) {L : Vec} {left : List Int} (hd : Hand n t L left) {p : Nat} (hp : headO left = some p) (hprim : ∀ d : Int, (∀ j, d ∣ fn left j) → d ∣ 1) (hL : ∀ j, (L j).natAbs ≤ A) {ks : List Nat} (hk : ∀ q row, getT t q = some row → q ∈ ks) {m : Nat} (hm : ks.countP (fun q => decide (p + 1 ≤ q)) + 1 ≤ m) : ∀ j, (fn left j).natAbs ≤ sb m A := by
  obtain ⟨q1, q2, q3⟩ := head_fn hp
  rw [hd.len] at q1
  have c := h.chain (n - (p + 1)) (p + 1) (by omega)
  have z : ∀ b ∈ rowsUp t (n - (p + 1)) (p + 1), fn left b.1 = 0 := fun b hb => q3 b.1 (by have := rowsUp_mem.mp hb; omega)
  have u : Sp (rowsOf ((p, fn left) :: rowsUp t (n - (p + 1)) (p + 1))) L := Sp.trans (fun v hv => by
    rcases hv with rfl | ⟨b, hb, e⟩
    · exact .mem ⟨(p, fn left), List.mem_cons_self, rfl⟩
    · exact .mem ⟨b, List.mem_cons_of_mem _ hb, e⟩) (hd.up p hp)
  have cc : Chain ((p, fn left) :: rowsUp t (n - (p + 1)) (p + 1)) (L :: linesUp t gl (n - (p + 1)) (p + 1)) := Chain.cons c q2 z u (hd.dn p hp)
  intro j
  have s := Chain.small cc A (fun v hv c => by
    rcases List.mem_cons.mp hv with rfl | hv
    · exact hL c
    · obtain ⟨q, r, a, b⟩ := linesUp_mem hv
      rw [b]; exact h.bd q r a c) hprim z j
  have l := rowsUp_cnt hk (n - (p + 1)) (p + 1)
  have := sb_mono (A := A) (show (rowsUp t (n - (p + 1)) (p + 1)).length + 1 ≤ m by omega) (by omega)
  unfold EN.sb at this ⊢
  rw [Nat.add_sub_cancel] at this
  exact Nat.le_trans s this
theorem put_exists2 {n A k R : Nat} {t : Tab} {gl : Nat → Vec} (h : TabOk n A t gl) {L : Vec} (hL : ∀ j, (L j).natAbs ≤ A) {ks : List Nat} (hks : ∀ q row, getT t q = some row → q ∈ ks) (H1 : ∀ p, p < n → ks.countP (fun q => decide (p ≤ q)) ≤ R) (H2 : ∀ p, p < n → ks.countP (fun q => decide (p + 1 ≤ q)) + 1 ≤ R)
    (hk : sb R A < 2 ^ k) (hk2 : k + k + 1 ≤ 13500) : ∀ (f : Nat) (left : List Int), Hand n t L left → (∀ p, headO left = some p → p + 2 ≤ f ∧ ∀ d : Int, (∀ j, d ∣ fn left j) → d ∣ 1) → 1 ≤ f →
    ∃ fin, putF t f left = some fin ∧ putOk n k t f left ∧ Hand n t L fin ∧ ∀ p, headO fin = some p → ∀ d : Int, (∀ j, d ∣ fn fin j) → d ∣ 1
  | 0, _, _, _, hf => absurd hf (by decide)
  | f + 1, left, hd, hp, _ => by
    unfold putF putOk
    cases e : headO left with
    | none => exact ⟨left, rfl, ⟨hd.len, none_bd k e, trivial⟩, hd, fun p q => by rw [e] at q; cases q⟩
    | some p =>
      obtain ⟨p1, p2⟩ := hp p e
      have pn : p < n := by have := (head_fn e).1; rw [hd.len] at this; exact this
      have sm := all_bd (Hand.sb h hd e p2 hL hks (H2 p pn)) hk
      cases er : getT t p with
      | none => exact ⟨left, by simp only [er], ⟨hd.len, sm, by simp only [er]⟩, hd, fun q hq => by rw [e] at hq; cases hq; exact p2⟩
      | some row =>
        obtain ⟨r1, r2, r3⟩ := h.row p row er
        have hl : left.length = row.length := by rw [hd.len, r1]
        have rb := all_bd (h.row_sb er hks (H1 p pn)) hk
        have rr := raw_bd hl sm rb (head_fn e).1
        obtain ⟨fin, q1, q2, q3, q4⟩ := put_exists2 h hL hks H1 H2 hk hk2 f (clearF left row p) (hd.step e er r1 r2) (fun q hq => by
          have := clear_low hl e r2 hq
          exact ⟨by omega, (prim_of_head hq).2⟩) (by omega)
        exact ⟨fin, by simp only [er]; exact q1, ⟨hd.len, sm, by simp only [er]; exact ⟨r1, rb, fun x hx => (rr x hx).mono hk2, q2⟩⟩, q3, q4⟩
theorem getT_mem {t : Tab} {q : Nat} {row : List Int} (h : getT t q = some row) : q ∈ t.map (·.1) := by
  unfold getT at h
  cases e : t.find? (fun e => decide (e.1 = q)) with
  | none => rw [e] at h; cases h
  | some x =>
    have h1 := List.find?_some e
    have h2 := List.mem_of_find?_eq_some e
    simp at h1
    exact List.mem_map.mpr ⟨x, h2, h1⟩
theorem mem_getT {t : Tab} {q : Nat} (h : q ∈ t.map (·.1)) : ∃ row, getT t q = some row := by
  obtain ⟨x, hx, rfl⟩ := List.mem_map.mp h
  unfold getT
  cases e : t.find? (fun e => decide (e.1 = x.1)) with
  | none =>
    have := List.find?_eq_none.mp e x hx
    simp at this
  | some y => exact ⟨_, rfl⟩
theorem countP_range (p : Nat) : ∀ n, (List.range n).countP (fun q => decide (p ≤ q)) = n - p
  | 0 => by simp
  | n + 1 => by
    rw [List.range_succ, List.countP_append, countP_range p n, List.countP_singleton]
    by_cases h : p ≤ n
    · simp [h]; omega
    · simp [h]; omega
structure Sizes (n A k R : Nat) : Prop where
  hn : n ≤ 500
  hk : sb R A < 2 ^ k
  hk2 : k + k + 1 ≤ 13500
theorem put_all2 {n A k R : Nat} (z : Sizes n A k R) : ∀ (lines : List (List Int)) (t : Tab) (gl : Nat → Vec), TabOk n A t gl → (t.map (·.1)).Nodup → (∀ l ∈ lines, l.length = n ∧ (∀ j, (fn l j).natAbs ≤ A) ∧ ∀ x ∈ l, Bd 13500 x) → (n ≤ R ∨ t.length + lines.length ≤ R) →
    ∃ t' gl', PutRun n k t lines t' ∧ TabOk n A t' gl' ∧ (t'.map (·.1)).Nodup ∧ (∀ v, Rows t v → Rows t' v) ∧ (∀ l ∈ lines, Sp (Rows t') (fn l)) ∧ (∀ v, Rows t' v → Sp (fun v => Rows t v ∨ ∃ l ∈ lines, v = fn l) v) ∧ t'.length ≤ t.length + lines.length
  | [], t, gl, h, hn, _, _ => ⟨t, gl, .nil t, h, hn, fun v hv => hv, fun l hl => (by cases hl), fun v hv => .mem (.inl hv), Nat.le_refl _⟩
  | l :: lines, t, gl, h, hn, hl, hR => by
    obtain ⟨l1, l2, l3⟩ := hl l List.mem_cons_self
    have pe : ∃ fin, putF t 1000 (primF l) = some fin ∧ putOk n k t 1000 (primF l) ∧ Hand n t (fn l) fin ∧ ∀ p, headO fin = some p → ∀ d : Int, (∀ j, d ∣ fn fin j) → d ∣ 1 := by
      have hs := hand_start t l l1
      have hp : ∀ p, headO (primF l) = some p → p + 2 ≤ 1000 ∧ ∀ d : Int, (∀ j, d ∣ fn (primF l) j) → d ∣ 1 := fun p hp => by
        have := (head_fn hp).1
        rw [prim_len, l1] at this
        have := z.hn
        exact ⟨by omega, (prim_of_head hp).2⟩
      rcases hR with hR | hR
      · refine put_exists2 h l2 (ks := List.range n) (R := R) (fun q row e => ?_) (fun p hp => ?_) (fun p hp => ?_) z.hk z.hk2 1000 _ hs hp (by decide)
        · obtain ⟨r1, r2, _⟩ := h.row q row e
          have := (head_fn r2).1
          rw [r1] at this
          exact List.mem_range.mpr this
        · rw [countP_range]; omega
        · rw [countP_range]; omega
      · rw [List.length_cons] at hR
        have cl : ∀ p, (t.map (·.1)).countP (fun q => decide (p ≤ q)) ≤ t.length := fun p => by
          have := List.countP_le_length (p := fun q => decide (p ≤ q)) (l := t.map (·.1))
          rwa [List.length_map] at this
        refine put_exists2 h l2 (ks := t.map (·.1)) (R := R) (fun q row e => getT_mem e) (fun p hp => ?_) (fun p hp => ?_) z.hk z.hk2 1000 _ hs hp (by decide)
        · have := cl p; omega
        · have := cl (p + 1); omega
    obtain ⟨fin, q1, q2, q3, q4⟩ := pe
    have hfree := putF_free q1
    obtain ⟨s1, s2⟩ := putF_span h 1000 (primF l) fin (by rw [prim_len, l1]) q1
    have step : ∃ gl2, TabOk n A (addT t fin) gl2 ∧ ((addT t fin).map (·.1)).Nodup ∧ (∀ v, Rows t v → Rows (addT t fin) v) ∧ Sp (Rows (addT t fin)) (fn fin) ∧ ∀ v, Rows (addT t fin) v → v = fn fin ∨ Rows t v := by
      cases e : headO fin with
      | none => rw [addT_none e]; exact ⟨gl, h, hn, fun v hv => hv, zero_sp e, fun v hv => .inr hv⟩
      | some p =>
        rw [addT_some e]
        refine ⟨_, h.add q3 e (hfree p e) (q4 p e) l2, ?_, fun v ⟨q, row, a, b⟩ => ⟨q, row, ?_, b⟩, .mem ⟨p, fin, ?_, rfl⟩, fun v ⟨q, row, a, b⟩ => ?_⟩
        · rw [List.map_append, List.nodup_append]
          refine ⟨hn, by simp, fun a ha b hb => ?_⟩
          simp at hb
          subst hb
          intro e2
          subst e2
          obtain ⟨row, er⟩ := mem_getT ha
          rw [hfree a e] at er
          cases er
        · rw [getT_add (hfree p e), if_neg (fun e2 => by rw [e2, hfree p e] at a; cases a)]
          exact a
        · rw [getT_add (hfree p e), if_pos rfl]
        · rw [getT_add (hfree p e)] at a
          by_cases e2 : q = p
          · rw [if_pos e2] at a; cases a; exact .inl b
          · rw [if_neg e2] at a; exact .inr ⟨q, row, a, b⟩
    obtain ⟨gl2, h2, n2, m2, f2, i2⟩ := step
    have len := addT_len t fin
    obtain ⟨t', gl', r1, r2, r3, r4, r5, r6, r7⟩ := put_all2 z lines (addT t fin) gl2 h2 n2 (fun x hx => hl x (List.mem_cons_of_mem _ hx)) (by rw [List.length_cons] at hR; omega)
    refine ⟨t', gl', .cons l1 l3 q3.len q1 q2 r1, r2, r3, fun v hv => r4 v (m2 v hv), fun x hx => ?_, fun v hv => ?_, by rw [List.length_cons]; omega⟩
    · rcases List.mem_cons.mp hx with rfl | hx
      · refine sp_unprim (Sp.trans (fun v hv => ?_) s1)
        rcases hv with rfl | hv
        · exact Sp.trans (fun w hw => .mem (r4 w hw)) f2
        · exact .mem (r4 v (m2 v hv))
      · exact r5 x hx
    · refine Sp.trans (fun w hw => ?_) (r6 v hv)
      rcases hw with hw | ⟨x, hx, rfl⟩
      · rcases i2 w hw with rfl | hw
        · refine Sp.trans (fun u hu => ?_) s2
          rcases hu with rfl | hu
          · exact sp_prim (.mem (.inr ⟨l, List.mem_cons_self, rfl⟩))
          · exact .mem (.inl hu)
        · exact .mem (.inl hw)
      · exact .mem (.inr ⟨x, List.mem_cons_of_mem _ hx, rfl⟩)
/-! ### settled lists -/
/-- rows with their heads, rising, each of them 0 at the other heads -/
structure St (n : Nat) (F : List (Nat × List Int)) : Prop where
  ord : F.Pairwise fun a b => a.1 < b.1
  len : ∀ a ∈ F, a.2.length = n
  head : ∀ a ∈ F, headO a.2 = some a.1
  pos : ∀ a ∈ F, 0 < fn a.2 a.1
  prim : ∀ a ∈ F, ∀ d : Int, (∀ j, d ∣ fn a.2 j) → d ∣ 1
  off : ∀ a ∈ F, ∀ b ∈ F, a.1 ≠ b.1 → fn a.2 b.1 = 0
abbrev vecs (F : List (Nat × List Int)) : List (Nat × Vec) := F.map fun a => (a.1, fn a.2)
def SpF (F : List (Nat × List Int)) : Vec → Prop := Sp (rowsOf (vecs F))
theorem rowsOf_vecs {F : List (Nat × List Int)} {v : Vec} : rowsOf (vecs F) v ↔ ∃ a ∈ F, v = fn a.2 := by
  constructor
  · rintro ⟨b, hb, rfl⟩
    obtain ⟨a, ha, rfl⟩ := List.mem_map.mp hb
    exact ⟨a, ha, rfl⟩
  · rintro ⟨a, ha, rfl⟩
    exact ⟨_, List.mem_map.mpr ⟨a, ha, rfl⟩, rfl⟩
theorem St.tri {n : Nat} {F : List (Nat × List Int)} (h : St n F) : Tri (vecs F) := by
  refine ⟨?_, fun a ha => ?_⟩
  · rw [List.pairwise_map]
    refine List.Pairwise.imp_of_mem (fun {a b} ha hb hab => ?_) h.ord
    exact h.off b hb a ha (by omega)
  · obtain ⟨b, hb, rfl⟩ := List.mem_map.mp ha
    have := h.pos b hb
    show fn b.2 b.1 ≠ 0
    omega
theorem St.uniq {n : Nat} {F : List (Nat × List Int)} (h : St n F) {a b : Nat × List Int} (ha : a ∈ F) (hb : b ∈ F) (e : a.1 = b.1) : a = b := by
  have := h.ord
  revert ha hb
  clear h
  induction F with
  | nil => intro ha; cases ha
  | cons c F ih =>
    intro ha hb
    obtain ⟨p1, p2⟩ := List.pairwise_cons.mp this
    rcases List.mem_cons.mp ha with h1 | h1
    · rcases List.mem_cons.mp hb with h2 | h2
      · rw [h1, h2]
      · have := p1 b h2; rw [h1] at e; omega
    · rcases List.mem_cons.mp hb with h2 | h2
      · have := p1 a h1; rw [h2] at e; omega
      · exact ih p2 h1 h2
/-- the product of the numbers at the heads -/
def headP (F : List (Nat × List Int)) : Int := (F.map fun a => fn a.2 a.1).foldl (· * ·) 1
theorem foldl_mul (xs : List Int) : ∀ c : Int, xs.foldl (· * ·) c = c * xs.foldl (· * ·) 1 := by
  induction xs with
  | nil => intro c; simp
  | cons x xs ih => intro c; rw [List.foldl_cons, ih, List.foldl_cons, ih (1 * x)]; rw [Int.one_mul, Int.mul_assoc]
theorem foldl_pos (xs : List Int) (h : ∀ x ∈ xs, 0 < x) : 0 < xs.foldl (· * ·) 1 := by
  induction xs with
  | nil => decide
  | cons x xs ih =>
    rw [List.foldl_cons, foldl_mul, Int.one_mul]
    exact Int.mul_pos (h x List.mem_cons_self) (ih fun y hy => h y (List.mem_cons_of_mem _ hy))
theorem foldl_dvd (xs : List Int) : ∀ x ∈ xs, x ∣ xs.foldl (· * ·) 1 := by
  induction xs with
  | nil => intro x h; cases h
  | cons y xs ih =>
    intro x h
    rw [List.foldl_cons, foldl_mul, Int.one_mul]
    rcases List.mem_cons.mp h with rfl | h
    · exact Int.dvd_mul_right _ _
    · exact Int.dvd_trans (ih x h) (Int.dvd_mul_left _ _)
theorem headP_pos {n : Nat} {F : List (Nat × List Int)} (h : St n F) : 0 < headP F := foldl_pos _ fun x hx => by
  obtain ⟨a, ha, rfl⟩ := List.mem_map.mp hx
  exact h.pos a ha
theorem headP_dvd {F : List (Nat × List Int)} {a : Nat × List Int} (ha : a ∈ F) : fn a.2 a.1 ∣ headP F := foldl_dvd _ _ (List.mem_map.mpr ⟨a, ha, rfl⟩)
/-- crosswise, by the numbers at the heads -/
def mix (P : Int) (F : List (Nat × List Int)) (y : Vec) : Vec := fun j => (F.map fun a => y a.1 * (P / fn a.2 a.1) * fn a.2 j).sum
theorem mix_cons (P : Int) (a : Nat × List Int) (F : List (Nat × List Int)) (y : Vec) (j : Nat) : mix P (a :: F) y j = y a.1 * (P / fn a.2 a.1) * fn a.2 j + mix P F y j := by
  unfold mix; rw [List.map_cons, List.sum_cons]
theorem mix_zero (P : Int) (F : List (Nat × List Int)) (j : Nat) : mix P F (fun _ => 0) j = 0 := by
  induction F with
  | nil => rfl
  | cons a F ih => rw [mix_cons, ih]; simp
theorem mix_add (P : Int) (F : List (Nat × List Int)) (u v : Vec) (j : Nat) : mix P F (fun j => u j + v j) j = mix P F u j + mix P F v j := by
  induction F with
  | nil => rfl
  | cons a F ih => rw [mix_cons, mix_cons, mix_cons, ih, Int.add_mul, Int.add_mul]; omega
theorem mix_smul (P : Int) (F : List (Nat × List Int)) (c : Int) (u : Vec) (j : Nat) : mix P F (fun j => c * u j) j = c * mix P F u j := by
  induction F with
  | nil => simp [mix]
  | cons a F ih => rw [mix_cons, mix_cons, ih, Int.mul_add, Int.mul_assoc c, Int.mul_assoc c]
theorem mix_off (P : Int) : ∀ (F : List (Nat × List Int)) (y : Vec) (j : Nat), (∀ a ∈ F, y a.1 * fn a.2 j = 0) → mix P F y j = 0
  | [], _, _, _ => rfl
  | a :: F, y, j, h => by
    rw [mix_cons, mix_off P F y j fun b hb => h b (List.mem_cons_of_mem _ hb)]
    have := h a List.mem_cons_self
    rcases Int.mul_eq_zero.mp this with e | e <;> rw [e] <;> simp
theorem mix_one (P : Int) : ∀ (F : List (Nat × List Int)), (F.Pairwise fun a b => a.1 < b.1) → ∀ (y : Vec) (j : Nat) (b : Nat × List Int), b ∈ F → (∀ a ∈ F, a.1 ≠ b.1 → y a.1 * fn a.2 j = 0) → mix P F y j = y b.1 * (P / fn b.2 b.1) * fn b.2 j
  | [], _, _, _, _, hb, _ => by cases hb
  | a :: F, ho, y, j, b, hb, h => by
    obtain ⟨p1, p2⟩ := List.pairwise_cons.mp ho
    rw [mix_cons]
    rcases List.mem_cons.mp hb with rfl | hb
    · rw [mix_off P F y j fun c hc => h c (List.mem_cons_of_mem _ hc) (by have := p1 c hc; omega)]
      omega
    · rw [mix_one P F p2 y j b hb fun c hc => h c (List.mem_cons_of_mem _ hc)]
      have := h a List.mem_cons_self (by have := p1 b hb; omega)
      rcases Int.mul_eq_zero.mp this with e | e <;> rw [e] <;> simp
theorem mix_row {n : Nat} {F : List (Nat × List Int)} (h : St n F) {P : Int} (hP : ∀ a ∈ F, fn a.2 a.1 ∣ P) {b : Nat × List Int} (hb : b ∈ F) (j : Nat) : mix P F (fn b.2) j = P * fn b.2 j := by
  rw [mix_one P F h.ord (fn b.2) j b hb fun a ha e => by rw [h.off b hb a ha (fun q => e q.symm)]; simp]
  rw [Int.mul_ediv_cancel' (hP b hb)]
/-- what is made: crosswise it comes to the line -/
theorem St.formula {n : Nat} {F : List (Nat × List Int)} (h : St n F) {P : Int} (hP : ∀ a ∈ F, fn a.2 a.1 ∣ P) {y : Vec} (hy : SpF F y) : ∀ j, mix P F y j = P * y j := by
  have k := Sp.kills (fun y => fun j => mix P F y j - P * y j) (by funext j; simp only []; rw [mix_zero]; simp) (fun u v => by
      funext j; simp only []; rw [mix_add, Int.mul_add]; omega) (fun c u => by
      funext j; simp only []; rw [mix_smul, Int.mul_sub, Int.mul_left_comm]) (fun u hu => by
      obtain ⟨a, ha, rfl⟩ := rowsOf_vecs.mp hu
      funext j
      show mix P F (fn a.2) j - P * fn a.2 j = 0
      rw [mix_row h hP ha]; omega) hy
  intro j
  have e : mix P F y j - P * y j = 0 := congrFun k j
  omega
theorem sp_mix (P : Int) (S : Vec → Prop) : ∀ (F : List (Nat × List Int)) (y : Vec), (∀ a ∈ F, Sp S (fn a.2)) → Sp S (mix P F y)
  | [], y, _ => by
    have e : mix P [] y = fun _ => 0 := by funext j; rfl
    rw [e]; exact .zero
  | a :: F, y, h => by
    have e : mix P (a :: F) y = fun j => (y a.1 * (P / fn a.2 a.1)) * fn a.2 j + mix P F y j := by funext j; exact mix_cons P a F y j
    rw [e]
    exact .add (.smul _ (h a List.mem_cons_self)) (sp_mix P S F y fun b hb => h b (List.mem_cons_of_mem _ hb))
theorem formula_sp {F : List (Nat × List Int)} {P : Int} (h0 : P ≠ 0) {y : Vec} (h : ∀ j, mix P F y j = P * y j) : SpF F y := by
  refine Sp.part h0 ?_
  have e : (fun j => P * y j) = mix P F y := by funext j; exact (h j).symm
  rw [e]
  exact sp_mix P _ F y fun a ha => .mem (rowsOf_vecs.mpr ⟨a, ha, rfl⟩)
/-- the head of what is made is a head -/
theorem St.head_in {n : Nat} {F : List (Nat × List Int)} (h : St n F) {y : Vec} (hy : SpF F y) {p : Nat} (h0 : y p ≠ 0) (h1 : ∀ j, p < j → y j = 0) : ∃ a ∈ F, a.1 = p := by
  refine Classical.byContradiction fun hn => h0 ?_
  have hd : ∀ a ∈ F, fn a.2 a.1 ∣ headP F := fun a ha => headP_dvd ha
  have e := h.formula hd hy p
  rw [mix_off _ F y p fun a ha => ?_] at e
  · have := headP_pos h
    rcases Int.mul_eq_zero.mp e.symm with q | q
    · omega
    · exact q
  · by_cases hlt : p < a.1
    · rw [h1 a.1 hlt]; simp
    · have hne : a.1 ≠ p := fun q => hn ⟨a, ha, q⟩
      rw [(head_fn (h.head a ha)).2.2 p (by omega)]; simp
theorem sorted_ext {α : Type} : ∀ {F G : List (Nat × α)}, (F.Pairwise fun a b => a.1 < b.1) → (G.Pairwise fun a b => a.1 < b.1) → (∀ a, a ∈ F ↔ a ∈ G) → F = G
  | [], [], _, _, _ => rfl
  | [], b :: G, _, _, h => by have := (h b).mpr List.mem_cons_self; cases this
  | a :: F, [], _, _, h => by have := (h a).mp List.mem_cons_self; cases this
  | a :: F, b :: G, hF, hG, h => by
    obtain ⟨p1, p2⟩ := List.pairwise_cons.mp hF
    obtain ⟨q1, q2⟩ := List.pairwise_cons.mp hG
    have e : a = b := by
      rcases List.mem_cons.mp ((h a).mp List.mem_cons_self) with e | e
      · exact e
      · rcases List.mem_cons.mp ((h b).mpr List.mem_cons_self) with e2 | e2
        · exact e2.symm
        · have := p1 b e2; have := q1 a e; omega
    subst e
    rw [sorted_ext p2 q2 fun c => ?_]
    constructor
    · intro hc
      rcases List.mem_cons.mp ((h c).mp (List.mem_cons_of_mem _ hc)) with e | e
      · subst e; have := p1 c hc; omega
      · exact e
    · intro hc
      rcases List.mem_cons.mp ((h c).mpr (List.mem_cons_of_mem _ hc)) with e | e
      · subst e; have := q1 c hc; omega
      · exact e
theorem fn_ext {xs ys : List Int} (hl : xs.length = ys.length) (h : ∀ j, fn xs j = fn ys j) : xs = ys := by
  apply List.ext_getElem hl
  intro i h1 h2
  have := h i
  unfold fn at this
  rwa [List.getElem?_eq_getElem h1, List.getElem?_eq_getElem h2] at this
/-- of one span there is one settled list -/
theorem St.one {n : Nat} {F G : List (Nat × List Int)} (hF : St n F) (hG : St n G) (h1 : ∀ a ∈ F, SpF G (fn a.2)) (h2 : ∀ a ∈ G, SpF F (fn a.2)) : F = G := by
  have sub : ∀ {F G : List (Nat × List Int)}, St n F → St n G → (∀ a ∈ F, SpF G (fn a.2)) → (∀ a ∈ G, SpF F (fn a.2)) → ∀ a ∈ F, a ∈ G := by
    intro F G hF hG h1 h2 a ha
    have hh : ∀ c ∈ F, ∃ b ∈ G, b.1 = c.1 := fun c hc => by
      obtain ⟨q1, q2, q3⟩ := head_fn (hF.head c hc)
      exact hG.head_in (h1 c hc) q2 q3
    have hh2 : ∀ c ∈ G, ∃ b ∈ F, b.1 = c.1 := fun c hc => by
      obtain ⟨q1, q2, q3⟩ := head_fn (hG.head c hc)
      exact hF.head_in (h2 c hc) q2 q3
    obtain ⟨b, hb, e⟩ := hh a ha
    have zb : SpF G (fn b.2) := .mem (rowsOf_vecs.mpr ⟨b, hb, rfl⟩)
    have par := hG.tri.par (h1 a ha) zb a.1 (fun c hc hn => by
      obtain ⟨c', hc', rfl⟩ := List.mem_map.mp hc
      obtain ⟨c2, hc2, e2⟩ := hh2 c' hc'
      simp only at hn ⊢
      rw [← e2]
      exact hF.off a ha c2 hc2 (by omega)) (fun c hc hn => by
      obtain ⟨c', hc', rfl⟩ := List.mem_map.mp hc
      exact hG.off b hb c' hc' (by simp only at hn; omega))
    have pa := hF.pos a ha
    have pb := hG.pos b hb
    rw [e] at pb
    have l1 := prim_least (h := a.1) (hF.prim a ha) (by omega) par a.1
    have l2 := prim_least (h := a.1) (hG.prim b hb) (by omega) (fun j => (par j).symm) a.1
    have ep : fn a.2 a.1 = fn b.2 a.1 := by omega
    have : a.2 = b.2 := fn_ext (by rw [hF.len a ha, hG.len b hb]) fun j => by
      have := par j
      rw [ep] at this
      exact Int.eq_of_mul_eq_mul_left (by omega) this
    have : a = b := Prod.ext e.symm this
    rw [this]; exact hb
  exact sorted_ext hF.ord hG.ord fun a => ⟨fun h => sub hF hG h1 h2 a h, fun h => sub hG hF h2 h1 a h⟩
theorem prim_zero {xs : List Int} {j : Nat} (h : fn xs j = 0) : fn (primF xs) j = 0 := by
  by_cases hc : cont xs = 0
  · unfold primF
    rw [if_pos hc]
    exact h
  · have e := fn_prim hc j
    rw [h] at e
    rcases Int.mul_eq_zero.mp e.symm with q | q
    · exact absurd q (primG_ne hc)
    · exact q
theorem natAbs_le_mul (a b : Int) (h : a ≠ 0) : b.natAbs ≤ (a * b).natAbs := by
  rw [Int.natAbs_mul]
  exact Nat.le_mul_of_pos_left _ (by omega)
theorem prim_bd {xs : List Int} {k : Nat} (h : ∀ x ∈ xs, Bd k x) : ∀ x ∈ primF xs, Bd k x := by
  intro x hx
  obtain ⟨i, hi, rfl⟩ := List.mem_iff_getElem.mp hx
  rw [prim_len] at hi
  have b := h _ (fn_mem hi)
  have e : (primF xs)[i]'(by rw [prim_len]; exact hi) = fn (primF xs) i := by
    unfold fn
    rw [List.getElem?_eq_getElem (by rw [prim_len]; exact hi), Option.getD_some]
  rw [e]
  by_cases hc : cont xs = 0
  · unfold primF
    rw [if_pos hc]
    exact b
  · rw [fn_prim hc i] at b
    exact Nat.lt_of_le_of_lt (natAbs_le_mul _ _ (primG_ne hc)) b
structure Sizes2 (n A a R : Nat) : Prop where
  hn : n ≤ 500
  hA : A ≤ 2 ^ a
  hR : R ≤ 16
  hz : ∀ m k : Nat, 1 ≤ m → m + k ≤ R → m * (a + 6) + k * (R * (a + 6) + 1) ≤ 13499
theorem fn_bd {xs : List Int} {k : Nat} (h : ∀ x ∈ xs, Bd k x) (j : Nat) : Bd k (fn xs j) := by
  by_cases hj : j < xs.length
  · exact h _ (fn_mem hj)
  · rw [fn_out (by omega)]; exact .zero
/-- a row on its way through the lower ones -/
structure Lin (n : Nat) (t : Tab) (p : Nat) (row : List Int) (F D : List (Nat × List Int)) (line : List Int) : Prop where
  len : line.length = n
  head : headO line = some p
  pos : 0 < fn line p
  prim : ∀ d : Int, (∀ j, d ∣ fn line j) → d ∣ 1
  sp : Sp (Rows t) (fn line)
  back : Sp (fun v => v = fn line ∨ rowsOf (vecs F) v) (fn row)
  zeros : ∀ a ∈ D, fn line a.1 = 0
theorem red_exists {n : Nat} {t : Tab} {p : Nat} {row : List Int} {F : List (Nat × List Int)} (hF : St n F) (hsp : ∀ a ∈ F, Sp (Rows t) (fn a.2)) {kf : Nat} (hb : ∀ a ∈ F, ∀ x ∈ a.2, Bd kf x) (hp : ∀ a ∈ F, a.1 < p) : ∀ (lows D : List (Nat × List Int)) (line : List Int) (e : Nat), D ++ lows = F → Lin n t p row F D line → (∀ x ∈ line, Bd e x) → e + lows.length * (kf + 1) ≤ 13499 →
    ∃ fin, RedRun n 13500 (lows.map (·.2)) line fin ∧ Lin n t p row F F fin
  | [], D, line, e, hD, h, _, _ => ⟨line, .nil _, by rw [List.append_nil] at hD; rw [hD] at h; exact h⟩
  | low :: lows, D, line, e, hD, h, he, hz => by
    have hlow : low ∈ F := by rw [← hD]; simp
    have hl : line.length = low.2.length := by rw [h.len, hF.len _ hlow]
    have hh := hF.head _ hlow
    obtain ⟨h1, h2, h3⟩ := head_fn hh
    have plow := hp _ hlow
    rw [List.length_cons, Nat.succ_mul] at hz
    have hkf : kf ≤ 13500 := by omega
    have rb := raw_bd (p := low.1) hl he (hb _ hlow) (by omega)
    have rawp : fn (rawF line low.2 low.1) p ≠ 0 := by
      rw [fn_raw _ _ _ hl, h3 p plow, Int.mul_zero, Int.sub_zero]
      exact Int.mul_ne_zero h2 (by have := h.pos; omega)
    have rawo : ∀ j, p < j → fn (rawF line low.2 low.1) j = 0 := fun j hj => by
      rw [fn_raw _ _ _ hl, h3 j (by omega), (head_fn h.head).2.2 j hj]; simp
    have rh := head_uniq rawp rawo
    obtain ⟨c1, c2⟩ := prim_head rh
    have lin : Lin n t p row F (D ++ [low]) (clearF line low.2 low.1) := by
      refine ⟨by unfold clearF; rw [prim_len, rawF_len _ _ _ hl, h.len], c1, c2, (prim_of_head c1).2, sp_clear hl h.sp (hsp _ hlow), ?_, fun a ha => ?_⟩
      · refine Sp.trans (fun v hv => ?_) h.back
        rcases hv with rfl | hv
        · exact sp_unclear hl h2 (.mem (.inl rfl)) (.mem (.inr (rowsOf_vecs.mpr ⟨low, hlow, rfl⟩)))
        · exact .mem (.inr hv)
      · refine prim_zero ?_
        rw [fn_raw _ _ _ hl]
        rcases List.mem_append.mp ha with ha | ha
        · have ne : low.1 ≠ a.1 := by
            have o := hF.ord
            rw [← hD] at o
            have := (List.pairwise_append.mp o).2.2 a ha low List.mem_cons_self
            omega
          have ha' : a ∈ F := by rw [← hD]; simp [ha]
          rw [h.zeros a ha, hF.off _ hlow a ha' ne]; simp
        · rw [List.mem_singleton] at ha
          subst ha
          rw [Int.mul_comm]; omega
    obtain ⟨fin, q1, q2⟩ := red_exists hF hsp hb hp lows (D ++ [low]) (clearF line low.2 low.1) (e + kf + 1) (by rw [← hD]; simp) lin (prim_bd rb) (by omega)
    exact ⟨fin, .cons hh h.len (hF.len _ hlow) (fun x hx => (he x hx).mono (by omega)) (fun x hx => (hb _ hlow x hx).mono hkf) (fun x hx => (rb x hx).mono (by omega)) q1, q2⟩
theorem rowsUp_all {n A : Nat} {t : Tab} {gl : Nat → Vec} (h : TabOk n A t gl) : rowsOf (rowsUp t n 0) = Rows t := by
  funext v
  apply propext
  constructor
  · rintro ⟨a, ha, rfl⟩
    obtain ⟨h1, h2, row, h3, h4⟩ := rowsUp_mem.mp ha
    exact ⟨a.1, row, h3, h4⟩
  · rintro ⟨q, row, h1, rfl⟩
    obtain ⟨r1, r2, _⟩ := h.row q row h1
    have := (head_fn r2).1
    rw [r1] at this
    exact ⟨(q, fn row), rowsUp_mem.mpr ⟨Nat.zero_le _, by show q < 0 + n; omega, row, h1, rfl⟩, rfl⟩
/-- of all rows' span, 0 at all heads but one, primitive: small -/
theorem full_small {n A R : Nat} {t : Tab} {gl : Nat → Vec} (h : TabOk n A t gl) {all : List Nat} (hall : ∀ q, (∃ row, getT t q = some row) ↔ q ∈ all) (hR : all.length ≤ R) {p : Nat} (hp : p ∈ all) {y : Vec} (hy : Sp (Rows t) y) (hprim : ∀ d : Int, (∀ j, d ∣ y j) → d ∣ 1) (hz : ∀ q ∈ all, q ≠ p → y q = 0) : ∀ j, (y j).natAbs ≤ sb R A := by
  have c := h.chain n 0 (by omega)
  have t1 := c.tri
  have er : rowsOf (rowsUp t n 0).reverse = Rows t := by
    rw [← rowsUp_all h]
    exact rowsOf_perm fun x => List.mem_reverse
  have hl := c.len
  have hin : ∀ a ∈ rowsUp t n 0, a.1 ∈ all := fun a ha => by
    obtain ⟨_, _, row, h3, _⟩ := rowsUp_mem.mp ha
    exact (hall _).mp ⟨row, h3⟩
  have cn := rowsUp_cnt (t := t) (ks := all) (fun q row e => (hall q).mp ⟨row, e⟩) n 0
  have c2 := List.countP_le_length (p := fun q => decide (0 ≤ q)) (l := all)
  have pin : p ∈ (rowsUp t n 0).map (·.1) := by
    obtain ⟨row, e⟩ := (hall p).mpr hp
    obtain ⟨r1, r2, _⟩ := h.row p row e
    have := (head_fn r2).1
    rw [r1] at this
    exact List.mem_map.mpr ⟨(p, fn row), rowsUp_mem.mpr ⟨Nat.zero_le _, by show p < 0 + n; omega, row, e, rfl⟩, rfl⟩
  have lt : (((rowsUp t n 0).map (·.1)).filter fun q => decide (q ≠ p)).length < (rowsUp t n 0).length := by
    have := List.length_filter_lt_length_iff_exists (p := fun q => decide (q ≠ p)) (l := (rowsUp t n 0).map (·.1))
    rw [List.length_map] at this
    exact this.mpr ⟨p, pin, by simp⟩
  obtain ⟨z, z1, z2, z3, z4⟩ := FL.small t1 (us := linesUp t gl n 0) (fun u hu => by
    rw [rowsOf_perm (G := rowsUp t n 0) fun x => List.mem_reverse]
    exact c.ins u hu) c.indep A (fun u hu c => by
      obtain ⟨q, r, a, b⟩ := linesUp_mem hu
      rw [b]; exact h.bd q r a c) p (((rowsUp t n 0).map (·.1)).filter fun q => decide (q ≠ p)) (fun a ha hn => by
      rw [List.mem_filter]
      exact ⟨List.mem_map.mpr ⟨a, List.mem_reverse.mp ha, rfl⟩, by simpa using hn⟩) (by rw [hl]; exact lt)
  rw [er] at z1
  have par := t1.par (y := y) (z := z) (by rw [er]; exact hy) (by rw [er]; exact z1) p (fun a ha hn => hz _ (hin a (List.mem_reverse.mp ha)) hn) z2
  intro j
  have l1 := prim_least hprim z3 par j
  have l2 := z4 j
  rw [hl] at l2
  obtain ⟨m, em⟩ : ∃ m, m = (rowsUp t n 0).length := ⟨_, rfl⟩
  rw [← em] at l2 lt cn
  obtain ⟨c', ec⟩ : ∃ c, c = (((rowsUp t n 0).map (·.1)).filter fun q => decide (q ≠ p)).length := ⟨_, rfl⟩
  rw [← ec] at l2 lt
  have l3 : m * ((2 * (m * A) + 1) ^ c' * A) ≤ sb m A := by
    unfold sb
    exact Nat.mul_le_mul_left _ (Nat.mul_le_mul_right _ (Nat.pow_le_pow_right (by omega) (by omega)))
  have l4 := sb_mono (A := A) (show m ≤ R by omega) (by omega)
  omega
theorem fin_exists {n A a R : Nat} {t : Tab} {gl : Nat → Vec} (h : TabOk n A t gl) (hpos : ∀ p row, getT t p = some row → 0 < fn row p) (z : Sizes2 n A a R) {all : List Nat} (hall : ∀ q, (∃ row, getT t q = some row) ↔ q ∈ all) (hR : all.length ≤ R) (hord : all.Pairwise (· < ·)) :
    ∀ (ps : List Nat) (F0 : List (Nat × List Int)), F0.map (·.1) ++ ps = all → St n F0 → (∀ a ∈ F0, Sp (Rows t) (fn a.2)) → (∀ b ∈ F0, ∀ x ∈ b.2, Bd (R * (a + 6)) x) → (∀ p row, getT t p = some row → p ∈ F0.map (·.1) → SpF F0 (fn row)) →
    ∃ F, FinRun n 13500 t ps (F0.map (·.2)) (F.map (·.2)) ∧ F.map (·.1) = all ∧ St n F ∧ (∀ a ∈ F, Sp (Rows t) (fn a.2)) ∧ (∀ b ∈ F, ∀ x ∈ b.2, Bd (R * (a + 6)) x) ∧ (∀ p row, getT t p = some row → SpF F (fn row))
  | [], F0, e, hF, h1, h2, h3 => ⟨F0, .nil _, by rw [List.append_nil] at e; exact e, hF, h1, h2, fun p row er => h3 p row er (by rw [List.append_nil] at e; rw [e]; exact (hall p).mp ⟨row, er⟩)⟩
  | p :: ps, F0, e, hF, h1, h2, h3 => by
    have pin : p ∈ all := by rw [← e]; simp
    obtain ⟨row, er⟩ := (hall p).mpr pin
    obtain ⟨r1, r2, r3⟩ := h.row p row er
    have hlt : ∀ b ∈ F0, b.1 < p := fun b hb => by
      rw [← e] at hord
      exact (List.pairwise_append.mp hord).2.2 b.1 (List.mem_map.mpr ⟨b, hb, rfl⟩) p List.mem_cons_self
    -- the row's own size
    have cnt : all.countP (fun q => decide (p ≤ q)) ≤ ps.length + 1 := by
      rw [← e, List.countP_append]
      have a0 : (F0.map (·.1)).countP (fun q => decide (p ≤ q)) = 0 := by
        rw [List.countP_eq_zero]
        intro q hq
        obtain ⟨b, hb, rfl⟩ := List.mem_map.mp hq
        have := hlt b hb
        simp; omega
      have a1 := List.countP_le_length (p := fun q => decide (p ≤ q)) (l := p :: ps)
      rw [List.length_cons] at a1
      omega
    have la : F0.length + (ps.length + 1) = all.length := by rw [← e]; simp
    have rs := h.row_sb er (ks := all) (fun q row e => (hall q).mp ⟨row, e⟩) cnt
    have rb : ∀ x ∈ row, Bd ((ps.length + 1) * (a + 6)) x := all_bd rs (sb_bits (by have := z.hR; omega) (by omega) z.hA)
    have zz := z.hz (ps.length + 1) F0.length (by omega) (by omega)
    have lin0 : Lin n t p row F0 [] row := ⟨r1, r2, hpos p row er, r3, .mem ⟨p, row, er, rfl⟩, .mem (.inl rfl), fun a ha => by cases ha⟩
    obtain ⟨fin, q1, q2⟩ := red_exists hF h1 h2 hlt F0 [] row _ rfl lin0 rb (by omega)
    have fz : ∀ q ∈ all, q ≠ p → fn fin q = 0 := fun q hq hne => by
      rw [← e] at hq
      rcases List.mem_append.mp hq with hq | hq
      · obtain ⟨b, hb, rfl⟩ := List.mem_map.mp hq
        exact q2.zeros b hb
      · rcases List.mem_cons.mp hq with rfl | hq
        · exact absurd rfl hne
        · refine (head_fn q2.head).2.2 q ?_
          rw [← e] at hord
          exact (List.pairwise_cons.mp (List.pairwise_append.mp hord).2.1).1 q hq
    have fb : ∀ x ∈ fin, Bd (R * (a + 6)) x := all_bd (full_small h hall hR pin q2.sp q2.prim fz) (sb_bits z.hR (by omega) z.hA)
    have hF' : St n (F0 ++ [(p, fin)]) := by
      refine ⟨List.pairwise_append.mpr ⟨hF.ord, List.pairwise_singleton _ _, fun b hb c hc => ?_⟩, fun b hb => ?_, fun b hb => ?_, fun b hb => ?_, fun b hb => ?_, fun b hb c hc => ?_⟩
      · rw [List.mem_singleton] at hc; subst hc; exact hlt b hb
      · rcases List.mem_append.mp hb with hb | hb
        · exact hF.len b hb
        · rw [List.mem_singleton] at hb; subst hb; exact q2.len
      · rcases List.mem_append.mp hb with hb | hb
        · exact hF.head b hb
        · rw [List.mem_singleton] at hb; subst hb; exact q2.head
      · rcases List.mem_append.mp hb with hb | hb
        · exact hF.pos b hb
        · rw [List.mem_singleton] at hb; subst hb; exact q2.pos
      · rcases List.mem_append.mp hb with hb | hb
        · exact hF.prim b hb
        · rw [List.mem_singleton] at hb; subst hb; exact q2.prim
      · intro ne
        rcases List.mem_append.mp hb with hb | hb
        · rcases List.mem_append.mp hc with hc | hc
          · exact hF.off b hb c hc ne
          · rw [List.mem_singleton] at hc; subst hc
            exact (head_fn (hF.head b hb)).2.2 p (hlt b hb)
        · rw [List.mem_singleton] at hb; subst hb
          rcases List.mem_append.mp hc with hc | hc
          · exact q2.zeros c hc
          · rw [List.mem_singleton] at hc; subst hc; exact absurd rfl ne
    have sub : ∀ v, rowsOf (vecs F0) v → rowsOf (vecs (F0 ++ [(p, fin)])) v := fun v hv => by
      obtain ⟨b, hb, rfl⟩ := rowsOf_vecs.mp hv
      exact rowsOf_vecs.mpr ⟨b, List.mem_append_left _ hb, rfl⟩
    obtain ⟨F, w1, w2, w3, w4, w5, w6⟩ := fin_exists h hpos z hall hR hord ps (F0 ++ [(p, fin)]) (by rw [← e]; simp) hF' (fun b hb => by
      rcases List.mem_append.mp hb with hb | hb
      · exact h1 b hb
      · rw [List.mem_singleton] at hb; subst hb; exact q2.sp) (fun b hb => by
      rcases List.mem_append.mp hb with hb | hb
      · exact h2 b hb
      · rw [List.mem_singleton] at hb; subst hb; exact fb) (fun q row' er' hq => by
      rw [List.map_append] at hq
      rcases List.mem_append.mp hq with hq | hq
      · exact Sp.trans (fun v hv => .mem (sub v hv)) (h3 q row' er' hq)
      · rw [show q = p by simpa using hq, er] at er'
        cases er'
        refine Sp.trans (fun v hv => ?_) q2.back
        rcases hv with rfl | hv
        · exact .mem (rowsOf_vecs.mpr ⟨(p, fin), by simp, rfl⟩)
        · exact .mem (sub v hv))
    refine ⟨F, .cons er q1 ?_, w2, w3, w4, w5, w6⟩
    have : (F0 ++ [(p, fin)]).map (·.2) = F0.map (·.2) ++ [fin] := by simp
    rw [← this]
    exact w1
theorem ins_ex (x : Nat) : ∀ s : List Nat, s.Pairwise (· < ·) → x ∉ s → ∃ s' : List Nat, s'.Pairwise (· < ·) ∧ s'.Perm (x :: s)
  | [], _, _ => ⟨[x], by simp, .refl _⟩
  | y :: s, h, hx => by
    obtain ⟨h1, h2⟩ := List.pairwise_cons.mp h
    by_cases hlt : x < y
    · refine ⟨x :: y :: s, .cons (fun z hz => ?_) h, .refl _⟩
      rcases List.mem_cons.mp hz with rfl | hz
      · exact hlt
      · have := h1 z hz; omega
    · obtain ⟨s', q1, q2⟩ := ins_ex x s h2 (fun e => hx (List.mem_cons_of_mem _ e))
      have hne : x ≠ y := fun e => hx (by rw [e]; exact List.mem_cons_self)
      refine ⟨y :: s', .cons (fun z hz => ?_) q1, (q2.cons y).trans (.swap _ _ _)⟩
      rcases List.mem_cons.mp (q2.mem_iff.mp hz) with rfl | hz
      · omega
      · exact h1 z hz
theorem sort_ex : ∀ l : List Nat, l.Nodup → ∃ s : List Nat, s.Pairwise (· < ·) ∧ s.Perm l
  | [], _ => ⟨[], .nil, .refl _⟩
  | x :: l, h => by
    obtain ⟨h1, h2⟩ := List.nodup_cons.mp h
    obtain ⟨s, q1, q2⟩ := sort_ex l h2
    obtain ⟨s', r1, r2⟩ := ins_ex x s q1 fun e => h1 (q2.mem_iff.mp e)
    exact ⟨s', r1, r2.trans (q2.cons x)⟩
theorem inc_len : ∀ (s : List Nat) (m n : Nat), s.Pairwise (· < ·) → (∀ x ∈ s, m ≤ x ∧ x < n) → s.length ≤ n - m
  | [], _, _, _, _ => Nat.zero_le _
  | x :: s, m, n, h, hb => by
    obtain ⟨h1, h2⟩ := List.pairwise_cons.mp h
    have := inc_len s (x + 1) n h2 fun y hy => ⟨h1 y hy, (hb y (List.mem_cons_of_mem _ hy)).2⟩
    have b := hb x List.mem_cons_self
    rw [List.length_cons]
    omega
theorem putF_pos {t : Tab} : ∀ (f : Nat) (left fin : List Int), (∃ x, left = primF x) → putF t f left = some fin → ∃ x, fin = primF x
  | 0, _, _, _, e => by cases e
  | f + 1, left, fin, hx, e => by
    unfold putF at e
    cases ep : headO left with
    | none => rw [ep] at e; cases e; exact hx
    | some p =>
      rw [ep] at e
      cases er : getT t p with
      | none => simp only [er] at e; cases e; exact hx
      | some row => simp only [er] at e; exact putF_pos f _ fin ⟨_, rfl⟩ e
theorem putrun_pos {n k : Nat} {t t' : Tab} {lines : List (List Int)} (h : PutRun n k t lines t') : (∀ p row, getT t p = some row → 0 < fn row p) → ∀ p row, getT t' p = some row → 0 < fn row p := by
  induction h with
  | nil t => exact fun h => h
  | @cons t t' line fin lines _ _ _ e _ _ ih =>
    intro h
    refine ih fun p row er => ?_
    cases eh : headO fin with
    | none => rw [addT_none eh] at er; exact h p row er
    | some q =>
      rw [addT_some eh, getT_add (putF_free e q eh)] at er
      by_cases hq : p = q
      · rw [if_pos hq] at er
        cases er
        obtain ⟨x, rfl⟩ := putF_pos 1000 _ _ ⟨_, rfl⟩ e
        rw [hq]
        exact (prim_head (prim_of_head eh).1).2
      · rw [if_neg hq] at er; exact h p row er
abbrev Lns (lines : List (List Int)) : Vec → Prop := fun v => ∃ l ∈ lines, v = fn l
/-- what settled makes of lines -/
structure Made (n e : Nat) (lines : List (List Int)) (F : List (Nat × List Int)) : Prop where
  st : St n F
  ins : ∀ l ∈ lines, SpF F (fn l)
  out : ∀ a ∈ F, Sp (Lns lines) (fn a.2)
  le : F.length ≤ lines.length
  bd : ∀ b ∈ F, ∀ x ∈ b.2, Bd e x
theorem St.lt {n : Nat} {F : List (Nat × List Int)} (h : St n F) {a : Nat × List Int} (ha : a ∈ F) : a.1 < n := by
  have := (head_fn (h.head a ha)).1
  rwa [h.len a ha] at this
theorem St.le {n : Nat} {F : List (Nat × List Int)} (h : St n F) : F.length ≤ n := by
  have := inc_len (F.map (·.1)) 0 n (List.pairwise_map.mpr h.ord) fun x hx => by
    obtain ⟨a, ha, rfl⟩ := List.mem_map.mp hx
    exact ⟨Nat.zero_le _, h.lt ha⟩
  simpa using this
theorem settled_exists {n A a k R : Nat} (z : Sizes n A k R) (z2 : Sizes2 n A a R) (lines : List (List Int)) (hl : ∀ l ∈ lines, l.length = n ∧ (∀ j, (fn l j).natAbs ≤ A) ∧ ∀ x ∈ l, Bd 13500 x) (hR : n ≤ R ∨ lines.length ≤ R) :
    ∃ t ps F, PutRun n k [] lines t ∧ ps.Pairwise (· < ·) ∧ ps.Perm (t.map (·.1)) ∧ FinRun n 13500 t ps [] (F.map (·.2)) ∧ Made n (R * (a + 6)) lines F := by
  have h0 : TabOk n A [] (fun _ _ => 0) := ⟨nofun, nofun, nofun, nofun⟩
  obtain ⟨t, gl, p1, p2, p3, p4, p5, p6, p7⟩ := put_all2 z lines [] _ h0 (by simp) hl (by simpa using hR)
  have hpos := putrun_pos p1 (fun p row e => by cases e)
  obtain ⟨ps, s1, s2⟩ := sort_ex _ p3
  have hall : ∀ q, (∃ row, getT t q = some row) ↔ q ∈ ps := fun q => by
    rw [s2.mem_iff]
    exact ⟨fun ⟨row, e⟩ => getT_mem e, fun h => mem_getT h⟩
  have ln : ps.length ≤ n := by
    have := inc_len ps 0 n s1 fun x hx => by
      obtain ⟨row, e⟩ := (hall x).mpr hx
      obtain ⟨r1, r2, _⟩ := p2.row x row e
      have := (head_fn r2).1
      omega
    omega
  have lt : ps.length ≤ lines.length := by
    rw [s2.length_eq, List.length_map]
    simpa using p7
  obtain ⟨F, w1, w2, w3, w4, w5, w6⟩ := fin_exists p2 hpos z2 hall (by omega) s1 ps [] rfl ⟨.nil, nofun, nofun, nofun, nofun, nofun⟩ (fun a h => by cases h) (fun a h => by cases h) (fun p row e h => by cases h)
  refine ⟨t, ps, F, p1, s1, s2, w1, w3, fun l hl => ?_, fun b hb => ?_, ?_, w5⟩
  · exact Sp.trans (fun v ⟨q, row, er, e⟩ => by rw [e]; exact w6 q row er) (p5 l hl)
  · refine Sp.trans (fun v hv => ?_) (w4 b hb)
    refine Sp.trans (fun u hu => ?_) (p6 v hv)
    rcases hu with ⟨q, row, er, _⟩ | hu
    · cases er
    · exact .mem hu
  · have := congrArg List.length w2
    rw [List.length_map] at this
    omega
theorem Made.one {n e e' : Nat} {ls ls' : List (List Int)} {F F' : List (Nat × List Int)} (h : Made n e ls F) (h' : Made n e' ls' F') (h1 : ∀ l ∈ ls, Sp (Lns ls') (fn l)) (h2 : ∀ l ∈ ls', Sp (Lns ls) (fn l)) : F = F' := by
  refine h.st.one h'.st (fun a ha => ?_) fun a ha => ?_
  · refine Sp.trans (fun v ⟨l, hl, e⟩ => ?_) (h.out a ha)
    rw [e]
    exact Sp.trans (fun w ⟨l', hl', e'⟩ => by rw [e']; exact h'.ins l' hl') (h1 l hl)
  · refine Sp.trans (fun v ⟨l, hl, e⟩ => ?_) (h'.out a ha)
    rw [e]
    exact Sp.trans (fun w ⟨l', hl', e'⟩ => by rw [e']; exact h.ins l' hl') (h2 l hl)
/-! ### how many lines are free of one another -/
theorem triIndep : ∀ {F : List (Nat × Vec)}, Tri F → Indep (F.map (·.2))
  | [], _ => trivial
  | a :: F, t => by
    refine ⟨fun h => ?_, triIndep (t.sub (List.sublist_cons_self a F))⟩
    refine Tri.free (F1 := []) t (Sp.trans (fun v hv => ?_) h)
    obtain ⟨b, hb, rfl⟩ := List.mem_map.mp hv
    exact .mem ⟨b, hb, rfl⟩
theorem dim_le {F : List (Nat × Vec)} (t : Tri F) {us : List Vec} (hi : Indep us) (hu : ∀ u ∈ us, Sp (rowsOf F) u) : us.length ≤ F.length := by
  refine Classical.byContradiction fun hn => ?_
  obtain ⟨xs, hl, ⟨x, hx, hx0⟩, hz⟩ : ∃ xs : List Int, xs.length = us.length ∧ (∃ x ∈ xs, x ≠ 0) ∧ ∀ a ∈ F, FL.comb xs us a.1 = 0 := by
    -- numbers at the heads are bounded, for there are finitely many
    have bd : ∀ (us : List Vec) (cols : List Nat), ∃ A : Nat, ∀ u ∈ us, ∀ c ∈ cols, (u c).natAbs ≤ A := by
      intro us cols
      have one : ∀ (u : Vec) (cols : List Nat), ∃ A : Nat, ∀ c ∈ cols, (u c).natAbs ≤ A := by
        intro u cols
        induction cols with
        | nil => exact ⟨0, fun c h => by cases h⟩
        | cons c cols ih =>
          obtain ⟨A, hA⟩ := ih
          refine ⟨A + (u c).natAbs, fun d hd => ?_⟩
          rcases List.mem_cons.mp hd with rfl | hd
          · omega
          · have := hA d hd; omega
      induction us with
      | nil => exact ⟨0, fun u h => by cases h⟩
      | cons u us ih =>
        obtain ⟨A, hA⟩ := ih
        obtain ⟨B, hB⟩ := one u cols
        refine ⟨A + B, fun v hv c hc => ?_⟩
        rcases List.mem_cons.mp hv with rfl | hv
        · have := hB c hc; omega
        · have := hA v hv c hc; omega
    obtain ⟨A, hA⟩ := bd us (F.map (·.1))
    obtain ⟨xs, h1, h2, _, h4⟩ := siegel us (F.map (·.1)) A hA (by rw [List.length_map]; omega)
    exact ⟨xs, h1, h2, fun a ha => h4 a.1 (List.mem_map.mpr ⟨a, ha, rfl⟩)⟩
  have zz := t.zero (Sp.comb hu) hz
  exact hx0 (indep_comb hi xs hl zz x hx)
theorem dim_eq {F G : List (Nat × Vec)} (t : Tri F) (s : Tri G) (h1 : ∀ a ∈ F, Sp (rowsOf G) a.2) (h2 : ∀ a ∈ G, Sp (rowsOf F) a.2) : F.length = G.length := by
  have a := dim_le s (triIndep t) fun u hu => by
    obtain ⟨b, hb, rfl⟩ := List.mem_map.mp hu
    exact h1 b hb
  have b := dim_le t (triIndep s) fun u hu => by
    obtain ⟨b, hb, rfl⟩ := List.mem_map.mp hu
    exact h2 b hb
  rw [List.length_map] at a b
  omega
end EN

set_option exponentiation.threshold 100000
/-! EP2: so many times; the noughts of lines; the law's rank; in plain Lean -/
namespace EN
open FL
/-! ### so many times: the least ones -/
def need (part x : Int) : Int := part / (Int.gcd part x : Int)
def tmS (t part x : Int) : Int := t * need part x / (Int.gcd t (need part x) : Int)
def tmF (ps : List (Int × Int)) : Int := ps.foldl (fun t p => tmS t p.1 p.2) 1
theorem gcd_pos {a b : Int} (h : 0 < a) : 0 < (Int.gcd a b : Int) := by
  have : Int.gcd a b ≠ 0 := fun e => by
    have := (Int.gcd_eq_zero_iff.mp e).1
    omega
  omega
theorem need_pos {part x : Int} (h : 0 < part) : 0 < need part x := by
  have g := gcd_pos (b := x) h
  obtain ⟨c, hc⟩ : (Int.gcd part x : Int) ∣ part := Int.gcd_dvd_left ..
  unfold need
  have e : part / (Int.gcd part x : Int) = c := by
    conv => lhs; lhs; rw [hc]
    exact Int.mul_ediv_cancel_left _ (by omega)
  rw [e]
  refine Classical.byContradiction fun hn => ?_
  have : (Int.gcd part x : Int) * c ≤ 0 := Int.mul_nonpos_of_nonneg_of_nonpos (by omega) (by omega)
  omega
theorem tmS_lcm {t part x : Int} (ht : 0 < t) (hp : 0 < part) : tmS t part x = (Nat.lcm t.natAbs (need part x).natAbs : Int) := by
  have hn := need_pos (x := x) hp
  unfold tmS
  generalize need part x = m at *
  obtain ⟨a, rfl⟩ := Int.eq_ofNat_of_zero_le (show 0 ≤ t by omega)
  obtain ⟨b, rfl⟩ := Int.eq_ofNat_of_zero_le (show 0 ≤ m by omega)
  show ((a : Int) * (b : Int)) / ((Nat.gcd a b : Nat) : Int) = ((Nat.lcm a b : Nat) : Int)
  rw [← Int.natCast_mul, ← Int.natCast_ediv]
  rfl
theorem tmS_pos {t part x : Int} (ht : 0 < t) (hp : 0 < part) : 0 < tmS t part x := by
  rw [tmS_lcm ht hp]
  have hn := need_pos (x := x) hp
  have := Nat.lcm_pos (show 0 < t.natAbs by omega) (show 0 < (need part x).natAbs by omega)
  omega
theorem tmS_dvd {t part x : Int} (ht : 0 < t) (hp : 0 < part) : t ∣ tmS t part x ∧ need part x ∣ tmS t part x := by
  have hn := need_pos (x := x) hp
  rw [tmS_lcm ht hp]
  constructor
  · have := Int.natCast_dvd_natCast.mpr (Nat.dvd_lcm_left t.natAbs (need part x).natAbs)
    rwa [Int.natAbs_of_nonneg (by omega)] at this
  · have := Int.natCast_dvd_natCast.mpr (Nat.dvd_lcm_right t.natAbs (need part x).natAbs)
    rwa [Int.natAbs_of_nonneg (a := need part x) (by omega)] at this
theorem tmS_least {t part x m : Int} (ht : 0 < t) (hp : 0 < part) (h1 : t ∣ m) (h2 : need part x ∣ m) : tmS t part x ∣ m := by
  rw [tmS_lcm ht hp]
  have a := Int.natAbs_dvd_natAbs.mpr h1
  have b := Int.natAbs_dvd_natAbs.mpr h2
  exact Int.ofNat_dvd_left.mpr (Nat.lcm_dvd a b)
theorem tmS_le {t part x : Int} (ht : 0 < t) (hp : 0 < part) : tmS t part x ≤ t * part := by
  have hn := need_pos (x := x) hp
  have g := gcd_pos (b := need part x) ht
  have h1 : tmS t part x ≤ t * need part x := by
    unfold tmS
    exact Int.ediv_le_self _ (Int.mul_nonneg (by omega) (by omega))
  have h2 : need part x ≤ part := by
    unfold need
    exact Int.ediv_le_self _ (by omega)
  have := Int.mul_le_mul_of_nonneg_left h2 (show 0 ≤ t by omega)
  omega
/-- part divides m times x just where need divides m -/
theorem need_iff {part x m : Int} (hp : 0 < part) : part ∣ m * x ↔ need part x ∣ m := by
  have g := gcd_pos (b := x) hp
  obtain ⟨c, hc⟩ : (Int.gcd part x : Int) ∣ part := Int.gcd_dvd_left ..
  obtain ⟨d, hd⟩ : (Int.gcd part x : Int) ∣ x := Int.gcd_dvd_right ..
  obtain ⟨k, hk⟩ : ∃ k : Nat, k = Int.gcd part x := ⟨_, rfl⟩
  have en : need part x = c := by
    unfold need
    rw [← hk] at hc g ⊢
    rw [hc]
    exact Int.mul_ediv_cancel_left _ (by omega)
  have cop : Int.gcd c d = 1 := by
    have q : Int.gcd ((k : Int) * c) ((k : Int) * d) = k := by rw [hk, ← hc, ← hd]
    rw [Int.gcd_mul_left] at q
    have q2 : k * Int.gcd c d = k * 1 := by simpa using q
    exact Nat.eq_of_mul_eq_mul_left (by omega) q2
  rw [← hk] at g hc hd
  rw [en, hc, hd]
  constructor
  · intro h
    have h1 : (k : Int) * c ∣ (k : Int) * (m * d) := by
      rw [show (k : Int) * (m * d) = m * ((k : Int) * d) by rw [Int.mul_left_comm]]
      exact h
    have h2 : c ∣ m * d := Int.dvd_of_mul_dvd_mul_left (by omega) h1
    have h3 := Int.natAbs_dvd_natAbs.mpr h2
    rw [Int.natAbs_mul] at h3
    have c2 : Nat.Coprime c.natAbs d.natAbs := cop
    exact Int.natAbs_dvd_natAbs.mp (c2.dvd_of_dvd_mul_right h3)
  · rintro ⟨q, rfl⟩
    refine ⟨q * d, ?_⟩
    rw [Int.mul_assoc c q, Int.mul_left_comm q, ← Int.mul_assoc c, Int.mul_comm c]
theorem tmF_app (ps : List (Int × Int)) (p : Int × Int) : tmF (ps ++ [p]) = tmS (tmF ps) p.1 p.2 := by
  unfold tmF
  rw [List.foldl_append]; rfl
theorem tmF_all : ∀ (n : Nat) (ps : List (Int × Int)), ps.length = n → (∀ p ∈ ps, 0 < p.1) → 0 < tmF ps ∧ (∀ p ∈ ps, p.1 ∣ tmF ps * p.2) ∧ ∀ m : Int, (∀ p ∈ ps, p.1 ∣ m * p.2) → tmF ps ∣ m
  | 0, ps, hl, _ => by
    have : ps = [] := List.eq_nil_of_length_eq_zero hl
    subst this
    exact ⟨by decide, nofun, fun m _ => Int.one_dvd m⟩
  | n + 1, ps, hl, hp => by
    obtain ⟨qs, q, rfl⟩ : ∃ qs q, ps = qs ++ [q] := by
      have hne : ps ≠ [] := fun e => by rw [e] at hl; simp at hl
      exact ⟨ps.dropLast, ps.getLast hne, (List.dropLast_concat_getLast hne).symm⟩
    obtain ⟨i1, i2, i3⟩ := tmF_all n qs (by simpa using hl) fun p h => hp p (List.mem_append_left _ h)
    have hq := hp q (by simp)
    rw [tmF_app]
    obtain ⟨d1, d2⟩ := tmS_dvd (x := q.2) i1 hq
    refine ⟨tmS_pos i1 hq, fun p h => ?_, fun m h => ?_⟩
    · rcases List.mem_append.mp h with h | h
      · exact (need_iff (hp p (List.mem_append_left _ h))).mpr (Int.dvd_trans ((need_iff (hp p (List.mem_append_left _ h))).mp (i2 p h)) d1)
      · rw [List.mem_singleton] at h
        subst h
        exact (need_iff hq).mpr d2
    · exact tmS_least i1 hq (i3 m fun p h' => h p (List.mem_append_left _ h')) ((need_iff hq).mp (h q (by simp)))
theorem tmF_bd {e : Nat} (he : 1 ≤ e) : ∀ (n : Nat) (ps : List (Int × Int)), ps.length = n → (∀ p ∈ ps, 0 < p.1 ∧ Bd e p.1) → Bd (e * n + 1) (tmF ps)
  | 0, ps, hl, _ => by
    have : ps = [] := List.eq_nil_of_length_eq_zero hl
    subst this
    exact Bd.lit (by show 1 < 2 ^ (e * 0 + 1); simp)
  | n + 1, ps, hl, hp => by
    obtain ⟨qs, q, rfl⟩ : ∃ qs q, ps = qs ++ [q] := by
      have hne : ps ≠ [] := fun e => by rw [e] at hl; simp at hl
      exact ⟨ps.dropLast, ps.getLast hne, (List.dropLast_concat_getLast hne).symm⟩
    have ih := tmF_bd he n qs (by simpa using hl) fun p h => hp p (List.mem_append_left _ h)
    obtain ⟨i1, _, _⟩ := tmF_all n qs (by simpa using hl) fun p h => (hp p (List.mem_append_left _ h)).1
    have hq := hp q (by simp)
    rw [tmF_app]
    have h1 := tmS_le (x := q.2) i1 hq.1
    have h2 := tmS_pos (x := q.2) i1 hq.1
    have h3 := ih.mul hq.2
    rw [show e * (n + 1) + 1 = e * n + 1 + e by rw [Nat.mul_succ]; omega]
    unfold Bd at h3 ⊢
    omega
/-- no number above 1 divides the times and all the multiples -/
theorem tmF_prim {ps : List (Int × Int)} (hp : ∀ p ∈ ps, 0 < p.1) (d : Int) (h1 : d ∣ tmF ps) (h2 : ∀ p ∈ ps, d ∣ tmF ps * p.2 / p.1) : d ∣ 1 := by
  obtain ⟨i1, i2, i3⟩ := tmF_all _ ps rfl hp
  obtain ⟨m, hm⟩ := h1
  have hd0 : d ≠ 0 := fun e => by rw [e, Int.zero_mul] at hm; omega
  have := i3 m fun p h => by
    obtain ⟨q, hq⟩ := h2 p h
    have e1 : p.1 * (tmF ps * p.2 / p.1) = tmF ps * p.2 := Int.mul_ediv_cancel' (i2 p h)
    rw [hq, hm] at e1
    refine ⟨q, Int.eq_of_mul_eq_mul_left hd0 ?_⟩
    rw [← Int.mul_assoc, ← e1, Int.mul_left_comm]
  have hm0 : m ≠ 0 := fun e => by rw [e, Int.mul_zero] at hm; omega
  rw [hm] at this
  obtain ⟨k, hk⟩ := this
  refine ⟨k, Int.eq_of_mul_eq_mul_left hm0 ?_⟩
  rw [Int.mul_one]
  conv => lhs; rw [hk]
  rw [Int.mul_comm d m, Int.mul_assoc]
/-! ### the sum of the products, place by place -/
def dotV (n : Nat) (u v : Vec) : Int := ((List.range n).map fun j => u j * v j).sum
theorem dotV_succ (n : Nat) (u v : Vec) : dotV (n + 1) u v = dotV n u v + u n * v n := by
  unfold dotV
  rw [List.range_succ, List.map_append, List.sum_append]
  simp
theorem dotV_add (n : Nat) (u v w : Vec) : dotV n u (fun j => v j + w j) = dotV n u v + dotV n u w := by
  induction n with
  | zero => rfl
  | succ n ih => rw [dotV_succ, dotV_succ, dotV_succ, ih, Int.mul_add]; omega
theorem dotV_smul (n : Nat) (u : Vec) (c : Int) (v : Vec) : dotV n u (fun j => c * v j) = c * dotV n u v := by
  induction n with
  | zero => simp [dotV]
  | succ n ih => rw [dotV_succ, dotV_succ, ih, Int.mul_add, Int.mul_left_comm]
theorem dotV_zero (n : Nat) (u : Vec) : dotV n u (fun _ => 0) = 0 := by
  induction n with
  | zero => rfl
  | succ n ih => rw [dotV_succ, ih]; simp
theorem dotV_comm (n : Nat) (u v : Vec) : dotV n u v = dotV n v u := by
  induction n with
  | zero => rfl
  | succ n ih => rw [dotV_succ, dotV_succ, ih, Int.mul_comm]
/-- what is 0 with all of some lines is so with all that is made of them -/
theorem dotV_sp {n : Nat} {u : Vec} {S : Vec → Prop} (h : ∀ v, S v → dotV n u v = 0) {v : Vec} (hv : Sp S v) : dotV n u v = 0 := by
  have k := Sp.kills (fun v => fun _ => dotV n u v) (by funext j; exact dotV_zero n u) (fun a b => by funext j; exact dotV_add n u a b) (fun c a => by funext j; exact dotV_smul n u c a) (fun v hs => by funext j; exact h v hs) hv
  exact congrFun k 0
theorem dotV_off {n : Nat} {u v : Vec} (h : ∀ j, j < n → u j * v j = 0) : dotV n u v = 0 := by
  induction n with
  | zero => rfl
  | succ n ih => rw [dotV_succ, ih fun j hj => h j (by omega), h n (by omega)]; rfl
theorem dotV_one {n p : Nat} {u v : Vec} (hp : p < n) (h : ∀ j, j < n → j ≠ p → u j * v j = 0) : dotV n u v = u p * v p := by
  induction n with
  | zero => omega
  | succ n ih =>
    rw [dotV_succ]
    by_cases e : p = n
    · subst e
      rw [dotV_off fun j hj => h j (by omega) (by omega)]
      omega
    · rw [ih (by omega) fun j hj hn => h j (by omega) hn, h n (by omega) (by omega)]
      omega
theorem dotV_two {n p q : Nat} {u v : Vec} (hp : p < n) (hq : q < n) (hpq : p ≠ q) (h : ∀ j, j < n → j ≠ p → j ≠ q → u j * v j = 0) : dotV n u v = u p * v p + u q * v q := by
  have e : dotV n u v = dotV n u (fun j => if j = p then v j else 0) + dotV n u (fun j => if j = p then 0 else v j) := by
    rw [← dotV_add]
    congr 1
    funext j
    by_cases e : j = p <;> simp [e]
  rw [e, dotV_one hp (fun j hj hn => by simp [hn]), dotV_one (p := q) hq (fun j hj hn => by
    by_cases e : j = p
    · simp [e]
    · simp [e, h j hj e hn])]
  have : ¬ q = p := fun e => hpq e.symm
  simp [this]
/-! ### the lines that are 0 with all of some -/
/-- what nought_by makes: noughts, but at a place that is no head and at the heads -/
structure Nb (n : Nat) (F : List (Nat × List Int)) (free : Nat) (z : List Int) : Prop where
  len : z.length = n
  pos : 0 < fn z free
  at' : ∀ a ∈ F, fn z a.1 * fn a.2 a.1 = - (fn z free * fn a.2 free)
  off : ∀ j, j ≠ free → (∀ a ∈ F, a.1 ≠ j) → fn z j = 0
  prim : ∀ d : Int, (∀ j, d ∣ fn z j) → d ∣ 1
theorem nb_dot {n : Nat} {F : List (Nat × List Int)} (h : St n F) {free : Nat} (hf : free < n) (hnf : ∀ a ∈ F, a.1 ≠ free) {w : Vec} (off : ∀ j, j ≠ free → (∀ a ∈ F, a.1 ≠ j) → w j = 0) {a : Nat × List Int} (ha : a ∈ F) : dotV n w (fn a.2) = w a.1 * fn a.2 a.1 + w free * fn a.2 free := by
  refine dotV_two (h.lt ha) hf (hnf a ha) fun j hj h1 h2 => ?_
  by_cases e : ∃ b ∈ F, b.1 = j
  · obtain ⟨b, hb, rfl⟩ := e
    rw [h.off a ha b hb (fun q => h1 q.symm)]
    simp
  · rw [off j h2 fun b hb q => e ⟨b, hb, q⟩]
    simp
theorem Nb.dot {n : Nat} {F : List (Nat × List Int)} (h : St n F) {free : Nat} (hf : free < n) (hnf : ∀ a ∈ F, a.1 ≠ free) {z : List Int} (hz : Nb n F free z) {v : Vec} (hv : SpF F v) : dotV n (fn z) v = 0 := by
  refine dotV_sp (fun u hu => ?_) hv
  obtain ⟨a, ha, rfl⟩ := rowsOf_vecs.mp hu
  rw [nb_dot h hf hnf hz.off ha, hz.at' a ha]
  omega
/-- units -/
def un (c : Nat) : Vec := fun j => if j = c then 1 else 0
theorem un_same (c : Nat) : un c c = 1 := if_pos rfl
theorem un_ne {c j : Nat} (h : ¬ j = c) : un c j = 0 := if_neg h
theorem comb_unit_out : ∀ (cs : List Nat) (xs : List Int) (j : Nat), j ∉ cs → comb xs (cs.map un) j = 0
  | [], xs, j, _ => by cases xs <;> simp [comb]
  | c :: cs, [], j, _ => by simp [comb]
  | c :: cs, x :: xs, j, h => by
    rw [List.map_cons, comb_cons, comb_unit_out cs xs j fun e => h (List.mem_cons_of_mem _ e)]
    have : ¬ j = c := fun e => h (by rw [e]; exact List.mem_cons_self)
    simp [un_ne this]
theorem comb_unit_zero : ∀ (cs : List Nat) (xs : List Int), cs.Nodup → xs.length = cs.length → (∀ c ∈ cs, comb xs (cs.map un) c = 0) → ∀ x ∈ xs, x = 0
  | [], [], _, _, _, x, hx => by cases hx
  | [], _ :: _, _, h, _, _, _ => by simp at h
  | _ :: _, [], _, h, _, _, _ => by simp at h
  | c :: cs, y :: ys, hn, hl, h, x, hx => by
    obtain ⟨n1, n2⟩ := List.nodup_cons.mp hn
    have h0 := h c List.mem_cons_self
    rw [List.map_cons, comb_cons, comb_unit_out cs ys c n1] at h0
    have y0 : y = 0 := by simpa [un_same] using h0
    rcases List.mem_cons.mp hx with rfl | hx
    · exact y0
    · refine comb_unit_zero cs ys n2 (by simpa using hl) (fun d hd => ?_) x hx
      have := h d (List.mem_cons_of_mem _ hd)
      rw [List.map_cons, comb_cons, y0] at this
      simpa using this
theorem comb_unit_bd {B : Nat} : ∀ (cs : List Nat) (xs : List Int), cs.Nodup → (∀ x ∈ xs, x.natAbs ≤ B) → ∀ j, (comb xs (cs.map un) j).natAbs ≤ B
  | [], xs, _, _, j => by cases xs <;> simp [comb]
  | c :: cs, [], _, _, j => by simp [comb]
  | c :: cs, x :: xs, hn, h, j => by
    obtain ⟨n1, n2⟩ := List.nodup_cons.mp hn
    rw [List.map_cons, comb_cons]
    by_cases e : j = c
    · subst e
      rw [comb_unit_out cs xs j n1]
      have := h x List.mem_cons_self
      simpa [un_same] using this
    · have := comb_unit_bd cs xs n2 (fun y hy => h y (List.mem_cons_of_mem _ hy)) j
      simpa [un_ne e] using this
theorem dotV_unit {n c : Nat} (hc : c < n) (v : Vec) : dotV n (un c) v = v c := by
  rw [dotV_one hc fun j _ hj => by simp [un_ne hj]]
  simp [un_same]
theorem dotV_comb (n : Nat) (v : Vec) : ∀ (cs : List Nat) (xs : List Int), (∀ c ∈ cs, c < n) → dotV n (comb xs (cs.map un)) v = comb xs (cs.map fun c => fun _ => v c) 0
  | [], xs, _ => by
    have e : comb xs (([] : List Nat).map un) = fun _ => 0 := by funext j; cases xs <;> simp [comb]
    rw [e, dotV_comm, dotV_zero]
    cases xs <;> simp [comb]
  | c :: cs, [], _ => by
    have e : comb [] ((c :: cs).map un) = fun _ => 0 := by funext j; simp [comb]
    rw [e, dotV_comm, dotV_zero]
    simp [comb]
  | c :: cs, x :: xs, h => by
    have e : comb (x :: xs) ((c :: cs).map un) = fun j => x * un c j + comb xs (cs.map un) j := by
      funext j
      rw [List.map_cons, comb_cons]
    rw [e, dotV_comm, dotV_add, dotV_smul, dotV_comm n v, dotV_comm n v, dotV_unit (h c List.mem_cons_self), dotV_comb n v cs xs fun d hd => h d (List.mem_cons_of_mem _ hd), List.map_cons, comb_cons]
/-- small lines of which the list's rows come -/
structure Basis (A : Nat) (F : List (Nat × List Int)) (us : List Vec) : Prop where
  len : us.length = F.length
  bd : ∀ u ∈ us, ∀ c, (u c).natAbs ≤ A
  sp : ∀ a ∈ F, Sp (fun v => v ∈ us) (fn a.2)
theorem comb_eq (f g : Nat → Vec) (i j : Nat) (h : ∀ c, f c i = g c j) : ∀ (cs : List Nat) (xs : List Int), comb xs (cs.map f) i = comb xs (cs.map g) j
  | [], xs => by cases xs <;> simp [comb]
  | c :: cs, [] => by simp [comb]
  | c :: cs, x :: xs => by rw [List.map_cons, List.map_cons, comb_cons, comb_cons, h c, comb_eq f g i j h cs xs]
theorem Nb.small {n A : Nat} {F : List (Nat × List Int)} (h : St n F) {us : List Vec} (hb : Basis A F us) {free : Nat} (hf : free < n) (hnf : ∀ a ∈ F, a.1 ≠ free) {z : List Int} (hz : Nb n F free z) : ∀ j, (fn z j).natAbs ≤ (2 * ((F.length + 1) * A) + 1) ^ F.length := by
  obtain ⟨cs, ecs⟩ : ∃ cs, cs = free :: F.map (·.1) := ⟨_, rfl⟩
  have lcs : cs.length = F.length + 1 := by rw [ecs]; simp
  have ncs : cs.Nodup := by
    rw [ecs, List.nodup_cons]
    refine ⟨fun q => ?_, ?_⟩
    · obtain ⟨a, ha, e⟩ := List.mem_map.mp q
      exact hnf a ha e
    · have := h.ord
      refine List.Pairwise.imp (fun {a b} h => ?_) (List.pairwise_map.mpr this : (F.map (·.1)).Pairwise (· < ·))
      omega
  have lt : ∀ c ∈ cs, c < n := fun c hc => by
    rw [ecs] at hc
    rcases List.mem_cons.mp hc with rfl | hc
    · exact hf
    · obtain ⟨a, ha, rfl⟩ := List.mem_map.mp hc
      exact h.lt ha
  obtain ⟨xs, x1, ⟨x, hx, hx0⟩, x3, x4⟩ := siegel (cs.map fun c => fun i => (us[i]?.getD fun _ => 0) c) (List.range F.length) A (fun u hu i hi => by
    obtain ⟨c, hc, rfl⟩ := List.mem_map.mp hu
    have hi := List.mem_range.mp hi
    rw [← hb.len] at hi
    simp only [List.getElem?_eq_getElem hi, Option.getD_some]
    exact hb.bd _ (List.getElem_mem hi) c) (by simp [lcs])
  rw [List.length_map, lcs] at x1
  rw [List.length_map, lcs, List.length_range] at x3
  obtain ⟨w, ew⟩ : ∃ w, w = comb xs (cs.map un) := ⟨_, rfl⟩
  have wo : ∀ u ∈ us, dotV n w u = 0 := fun u hu => by
    obtain ⟨i, hi, rfl⟩ := List.mem_iff_getElem.mp hu
    rw [ew, dotV_comb n _ cs xs lt]
    have := x4 i (List.mem_range.mpr (by rw [← hb.len]; exact hi))
    rw [← this]
    refine comb_eq _ _ 0 i (fun c => ?_) cs xs
    simp only [List.getElem?_eq_getElem hi, Option.getD_some]
  have wF : ∀ a ∈ F, dotV n w (fn a.2) = 0 := fun a ha => dotV_sp wo (hb.sp a ha)
  have off : ∀ j, j ≠ free → (∀ a ∈ F, a.1 ≠ j) → w j = 0 := fun j h1 h2 => by
    rw [ew]
    refine comb_unit_out cs xs j fun q => ?_
    rw [ecs] at q
    rcases List.mem_cons.mp q with q | q
    · exact h1 q
    · obtain ⟨a, ha, e⟩ := List.mem_map.mp q
      exact h2 a ha e
  have wat : ∀ a ∈ F, w a.1 * fn a.2 a.1 = - (w free * fn a.2 free) := fun a ha => by
    have := wF a ha
    rw [nb_dot h hf hnf off ha] at this
    omega
  have w0 : w free ≠ 0 := fun e => by
    refine hx0 (comb_unit_zero cs xs ncs (by rw [x1, lcs]) (fun c hc => ?_) x hx)
    rw [← ew]
    rw [ecs] at hc
    rcases List.mem_cons.mp hc with rfl | hc
    · exact e
    · obtain ⟨a, ha, rfl⟩ := List.mem_map.mp hc
      have := wat a ha
      rw [e, Int.zero_mul, Int.neg_zero] at this
      rcases Int.mul_eq_zero.mp this with q | q
      · exact q
      · have := h.pos a ha; omega
  have par : ∀ j, w free * fn z j = fn z free * w j := fun j => by
    by_cases e : j = free
    · rw [e, Int.mul_comm]
    · by_cases hj : ∃ a ∈ F, a.1 = j
      · obtain ⟨a, ha, rfl⟩ := hj
        have e1 := wat a ha
        have e2 := hz.at' a ha
        refine Int.eq_of_mul_eq_mul_right (a := fn a.2 a.1) (by have := h.pos a ha; omega) ?_
        rw [Int.mul_assoc, e2, Int.mul_assoc, e1, Int.mul_neg, Int.mul_neg, Int.mul_left_comm]
      · have hj' : ∀ a ∈ F, a.1 ≠ j := fun a ha q => hj ⟨a, ha, q⟩
        rw [hz.off j e hj', off j e hj']
        simp
  intro j
  have l1 := prim_least hz.prim w0 par j
  have l2 := comb_unit_bd cs xs ncs x3 j
  rw [← ew] at l2
  omega
/-- lines, each with a place at which the others are 0 -/
theorem nb_tri {n : Nat} {F : List (Nat × List Int)} {zs : List (Nat × List Int)} (hz : ∀ z ∈ zs, Nb n F z.1 z.2 ∧ ∀ a ∈ F, a.1 ≠ z.1) (hn : zs.Pairwise fun a b => a.1 < b.1) : Tri (vecs zs) := by
  refine ⟨?_, fun a ha => ?_⟩
  · rw [List.pairwise_map]
    refine hn.imp_of_mem fun {a b} ha hb hab => ?_
    exact (hz b hb).1.off a.1 (by omega) fun c hc q => (hz a ha).2 c hc q
  · obtain ⟨b, hb, rfl⟩ := List.mem_map.mp ha
    have := (hz b hb).1.pos
    show fn b.2 b.1 ≠ 0
    omega
theorem chain_outs {G : List (Nat × Vec)} {us : List Vec} (h : Chain G us) : ∀ a ∈ G, Sp (fun v => v ∈ us) a.2 := by
  induction h with
  | nil => exact nofun
  | @cons a G L us _ _ _ _ ha ih =>
    have up : ∀ b ∈ G, Sp (fun v => v ∈ L :: us) b.2 := fun b hb => Sp.trans (fun v hv => .mem (List.mem_cons_of_mem _ hv)) (ih b hb)
    intro b hb
    rcases List.mem_cons.mp hb with rfl | hb
    · refine Sp.trans (fun v hv => ?_) ha
      rcases hv with rfl | ⟨c, hc, rfl⟩
      · exact .mem List.mem_cons_self
      · exact up c hc
    · exact up b hb
theorem settled_exists2 {n A a k R : Nat} (z : Sizes n A k R) (z2 : Sizes2 n A a R) (lines : List (List Int)) (hl : ∀ l ∈ lines, l.length = n ∧ (∀ j, (fn l j).natAbs ≤ A) ∧ ∀ x ∈ l, Bd 13500 x) (hR : n ≤ R ∨ lines.length ≤ R) :
    ∃ t ps F, PutRun n k [] lines t ∧ ps.Pairwise (· < ·) ∧ ps.Perm (t.map (·.1)) ∧ FinRun n 13500 t ps [] (F.map (·.2)) ∧ Made n (R * (a + 6)) lines F ∧ ∃ us, Basis A F us := by
  have h0 : TabOk n A [] (fun _ _ => 0) := ⟨nofun, nofun, nofun, nofun⟩
  obtain ⟨t, gl, p1, p2, p3, p4, p5, p6, p7⟩ := put_all2 z lines [] _ h0 (by simp) hl (by simpa using hR)
  have hpos := putrun_pos p1 (fun p row e => by cases e)
  obtain ⟨ps, s1, s2⟩ := sort_ex _ p3
  have hall : ∀ q, (∃ row, getT t q = some row) ↔ q ∈ ps := fun q => by
    rw [s2.mem_iff]
    exact ⟨fun ⟨row, e⟩ => getT_mem e, fun h => mem_getT h⟩
  have ln : ps.length ≤ n := by
    have := inc_len ps 0 n s1 fun x hx => by
      obtain ⟨row, e⟩ := (hall x).mpr hx
      obtain ⟨r1, r2, _⟩ := p2.row x row e
      have := (head_fn r2).1
      omega
    omega
  have lt : ps.length ≤ lines.length := by
    rw [s2.length_eq, List.length_map]
    simpa using p7
  obtain ⟨F, w1, w2, w3, w4, w5, w6⟩ := fin_exists p2 hpos z2 hall (by omega) s1 ps [] rfl ⟨.nil, nofun, nofun, nofun, nofun, nofun⟩ (fun a h => by cases h) (fun a h => by cases h) (fun p row e h => by cases h)
  refine ⟨t, ps, F, p1, s1, s2, w1, ⟨w3, fun l hl => ?_, fun b hb => ?_, ?_, w5⟩, linesUp t gl n 0, ?_, fun u hu c => ?_, fun b hb => ?_⟩
  · exact Sp.trans (fun v ⟨q, row, er, e⟩ => by rw [e]; exact w6 q row er) (p5 l hl)
  · refine Sp.trans (fun v hv => ?_) (w4 b hb)
    refine Sp.trans (fun u hu => ?_) (p6 v hv)
    rcases hu with ⟨q, row, er, _⟩ | hu
    · cases er
    · exact .mem hu
  · have := congrArg List.length w2
    rw [List.length_map] at this
    omega
  · have c := p2.chain n 0 (by omega)
    have er : rowsOf (rowsUp t n 0).reverse = Rows t := by
      rw [← rowsUp_all p2]
      exact rowsOf_perm fun x => List.mem_reverse
    rw [c.len]
    have := dim_eq c.tri w3.tri (fun a ha => by
      obtain ⟨_, _, row, h3, h4⟩ := rowsUp_mem.mp (List.mem_reverse.mp ha)
      rw [h4]; exact w6 _ _ h3) (fun a ha => by
      obtain ⟨b, hb, rfl⟩ := List.mem_map.mp ha
      rw [er]; exact w4 b hb)
    simpa using this
  · obtain ⟨q, r, a, b⟩ := linesUp_mem hu
    rw [b]; exact p2.bd q r a c
  · have c := p2.chain n 0 (by omega)
    refine Sp.trans (fun v hv => ?_) (w4 b hb)
    rw [← rowsUp_all p2] at hv
    obtain ⟨x, hx, rfl⟩ := hv
    exact chain_outs c x hx
/-- lines that are a settled list already -/
theorem St.again {n e : Nat} {F G : List (Nat × List Int)} (h : St n F) (m : Made n e (F.map (·.2)) G) : G = F := by
  refine m.st.one h (fun a ha => ?_) fun a ha => ?_
  · refine Sp.trans (fun v ⟨l, hl, q⟩ => ?_) (m.out a ha)
    obtain ⟨b, hb, rfl⟩ := List.mem_map.mp hl
    rw [q]; exact .mem (rowsOf_vecs.mpr ⟨b, hb, rfl⟩)
  · exact m.ins a.2 (List.mem_map.mpr ⟨a, ha, rfl⟩)
/-- the places that are no heads -/
def frees (n : Nat) (F : List (Nat × List Int)) : List Nat := (List.range n).filter fun j => decide (j ∉ F.map (·.1))
theorem frees_mem {n : Nat} {F : List (Nat × List Int)} {j : Nat} : j ∈ frees n F ↔ j < n ∧ ∀ a ∈ F, a.1 ≠ j := by
  unfold frees
  rw [List.mem_filter, List.mem_range]
  simp only [decide_eq_true_eq, List.mem_map, not_exists, not_and]
theorem frees_inc (n : Nat) (F : List (Nat × List Int)) : (frees n F).Pairwise (· < ·) := List.pairwise_lt_range.filter _
theorem len_parts {α : Type} (p : α → Bool) : ∀ l : List α, l.length = (l.filter p).length + (l.filter fun x => !p x).length
  | [] => rfl
  | x :: l => by
    have ih := len_parts p l
    cases h : p x <;> simp [h] <;> omega
theorem frees_len {n : Nat} {F : List (Nat × List Int)} (h : St n F) : (frees n F).length + F.length = n := by
  have e := len_parts (fun j => decide (j ∉ F.map (·.1))) (List.range n)
  rw [List.length_range] at e
  have p : ((List.range n).filter fun j => !decide (j ∉ F.map (·.1))).Perm (F.map (·.1)) := by
    refine (List.perm_ext_iff_of_nodup (List.Pairwise.filter _ List.nodup_range) ?_).mpr fun j => ?_
    · refine List.Pairwise.imp (fun {a b} h => ?_) (List.pairwise_map.mpr h.ord : (F.map (·.1)).Pairwise (· < ·))
      omega
    · rw [List.mem_filter, List.mem_range]
      constructor
      · rintro ⟨_, q⟩
        simpa using q
      · intro q
        obtain ⟨a, ha, rfl⟩ := List.mem_map.mp q
        refine ⟨h.lt ha, ?_⟩
        simp only [Bool.not_eq_true', decide_eq_false_iff_not]
        exact fun h => h q
  have := p.length_eq
  rw [List.length_map] at this
  unfold frees
  omega
theorem sizesN {n r : Nat} (hn : n ≤ 7) (hr : r ≤ n) : ∃ k, Sizes n ((2 ^ 276) ^ r) k (n - r) ∧ Sizes2 n ((2 ^ 276) ^ r) (276 * r) (n - r) := by
  have e : (2 ^ 276) ^ r = 2 ^ (276 * r) := (Nat.pow_mul 2 276 r).symm
  rw [e]
  by_cases h0 : n - r = 0
  · refine ⟨0, ⟨by omega, ?_, by omega⟩, ⟨by omega, Nat.le_refl _, by omega, fun m k h1 h2 => by omega⟩⟩
    rw [h0]
    unfold sb
    simp
  · refine ⟨(n - r) * (276 * r + 6), ⟨by omega, sb_bits (by omega) (by omega) (Nat.le_refl _), ?_⟩, ⟨by omega, Nat.le_refl _, by omega, fun m k h1 h2 => ?_⟩⟩
    · have : r = 0 ∨ r = 1 ∨ r = 2 ∨ r = 3 ∨ r = 4 ∨ r = 5 ∨ r = 6 := by omega
      rcases this with rfl | rfl | rfl | rfl | rfl | rfl | rfl <;> omega
    · have : r = 0 ∨ r = 1 ∨ r = 2 ∨ r = 3 ∨ r = 4 ∨ r = 5 ∨ r = 6 := by omega
      have h7 : n - r ≤ 7 - r := by omega
      generalize n - r = R at *
      rcases this with rfl | rfl | rfl | rfl | rfl | rfl | rfl
      all_goals
        have hR : R = 0 ∨ R = 1 ∨ R = 2 ∨ R = 3 ∨ R = 4 ∨ R = 5 ∨ R = 6 ∨ R = 7 := by omega
        rcases hR with rfl | rfl | rfl | rfl | rfl | rfl | rfl | rfl <;> omega
theorem nb_fit {F : List (Nat × List Int)} {A : Nat} (hA : A ≤ 2 ^ 270) (hF : F.length ≤ 7) : (2 * ((F.length + 1) * A) + 1) ^ F.length ≤ (2 ^ 276) ^ F.length := by
  refine Nat.pow_le_pow_left ?_ _
  have : (F.length + 1) * A ≤ 8 * 2 ^ 270 := Nat.mul_le_mul (by omega) hA
  have e : 2 ^ 276 = 64 * 2 ^ 270 := by decide
  have p := Nat.two_pow_pos 270
  omega
/-- the noughts of lines: as many as there are places that are no heads -/
structure Nought (n e : Nat) (F G : List (Nat × List Int)) : Prop where
  st : St n G
  len : G.length + F.length = n
  dot : ∀ b ∈ G, ∀ v, SpF F v → dotV n (fn b.2) v = 0
  bd : ∀ b ∈ G, ∀ x ∈ b.2, Bd e x
theorem nought_made {n e : Nat} {F : List (Nat × List Int)} (h : St n F) {zs G : List (Nat × List Int)} (hfr : zs.map (·.1) = frees n F) (hz : ∀ z ∈ zs, Nb n F z.1 z.2) (m : Made n e (zs.map (·.2)) G) : Nought n e F G := by
  have hm : ∀ z ∈ zs, z.1 < n ∧ ∀ a ∈ F, a.1 ≠ z.1 := fun z hz => frees_mem.mp (by rw [← hfr]; exact List.mem_map.mpr ⟨z, hz, rfl⟩)
  have ord : zs.Pairwise fun a b => a.1 < b.1 := by
    have := frees_inc n F
    rw [← hfr] at this
    exact List.pairwise_map.mp this
  have t := nb_tri (fun z h' => ⟨hz z h', (hm z h').2⟩) ord
  refine ⟨m.st, ?_, fun b hb v hv => ?_, m.bd⟩
  · have d := dim_eq t m.st.tri (fun a ha => by
      obtain ⟨b, hb, rfl⟩ := List.mem_map.mp ha
      exact m.ins b.2 (List.mem_map.mpr ⟨b, hb, rfl⟩)) (fun a ha => by
      obtain ⟨b, hb, rfl⟩ := List.mem_map.mp ha
      refine Sp.trans (fun v ⟨l, hl, q⟩ => ?_) (m.out b hb)
      obtain ⟨c, hc, rfl⟩ := List.mem_map.mp hl
      rw [q]; exact .mem (rowsOf_vecs.mpr ⟨c, hc, rfl⟩))
    have l1 := frees_len h
    have l2 := congrArg List.length hfr
    rw [List.length_map] at l2 d
    rw [List.length_map] at d
    omega
  · rw [dotV_comm]
    refine dotV_sp (fun u ⟨l, hl, q⟩ => ?_) (m.out b hb)
    obtain ⟨z, hz', rfl⟩ := List.mem_map.mp hl
    rw [q, dotV_comm]
    exact (hz z hz').dot h (hm z hz').1 (hm z hz').2 hv
/-! ### the law's rank: clearing places -/
theorem sp_raw {S : Vec → Prop} {xs ys : List Int} {p : Nat} (hl : xs.length = ys.length) (hx : Sp S (fn xs)) (hy : Sp S (fn ys)) : Sp S (fn (rawF xs ys p)) := by
  have e : fn (rawF xs ys p) = fun j => fn ys p * fn xs j - fn xs p * fn ys j := by funext j; exact fn_raw xs ys p hl j
  rw [e]
  exact Sp.cross hx hy _ _
theorem sp_unraw {S : Vec → Prop} {xs ys : List Int} {p : Nat} (hl : xs.length = ys.length) (h0 : fn ys p ≠ 0) (hc : Sp S (fn (rawF xs ys p))) (hy : Sp S (fn ys)) : Sp S (fn xs) := by
  refine Sp.part h0 ?_
  have e : (fun j => fn ys p * fn xs j) = fun j => fn (rawF xs ys p) j + fn xs p * fn ys j := by
    funext j
    rw [fn_raw xs ys p hl j]
    omega
  rw [e]
  exact Sp.add hc (Sp.smul _ hy)
abbrev PQ (P : List (Nat × List Int)) (Q : List (List Int)) : Vec → Prop := fun v => (∃ a ∈ P, v = fn a.2) ∨ ∃ q ∈ Q, v = fn q
structure Rk (n S : Nat) (lines : List (List Int)) (p : Nat) (P : List (Nat × List Int)) (Q : List (List Int)) : Prop where
  plen : ∀ a ∈ P, a.2.length = n
  qlen : ∀ q ∈ Q, q.length = n
  pb : ∀ a ∈ P, ∀ x ∈ a.2, Bd S x
  qb : ∀ q ∈ Q, ∀ x ∈ q, Bd S x
  pc : ∀ a ∈ P, a.1 < p ∧ fn a.2 a.1 ≠ 0 ∧ ∀ j, j < a.1 → fn a.2 j = 0
  ord : P.Pairwise fun a b => a.1 < b.1
  qz : ∀ q ∈ Q, ∀ j, j < p → fn q j = 0
  ins : ∀ l ∈ lines, Sp (PQ P Q) (fn l)
  outp : ∀ a ∈ P, Sp (Lns lines) (fn a.2)
  outq : ∀ q ∈ Q, Sp (Lns lines) (fn q)
theorem Rk.start {n S : Nat} {lines : List (List Int)} (hl : ∀ l ∈ lines, l.length = n) (hb : ∀ l ∈ lines, ∀ x ∈ l, Bd S x) : Rk n S lines 0 [] lines :=
  ⟨nofun, hl, nofun, hb, nofun, .nil, fun q _ j hj => absurd hj (by omega), fun l h => .mem (.inr ⟨l, h, rfl⟩), nofun, fun q h => .mem ⟨q, h, rfl⟩⟩
theorem Rk.skip {n S p : Nat} {lines : List (List Int)} {P : List (Nat × List Int)} {Q : List (List Int)} (h : Rk n S lines p P Q) (hz : ∀ q ∈ Q, fn q p = 0) : Rk n (2 * S + 1) lines (p + 1) P Q :=
  ⟨h.plen, h.qlen, fun a ha x hx => (h.pb a ha x hx).mono (by omega), fun a ha x hx => (h.qb a ha x hx).mono (by omega), fun a ha => ⟨by have := (h.pc a ha).1; omega, (h.pc a ha).2⟩, h.ord, fun q hq j hj => by
    by_cases e : j = p
    · rw [e]; exact hz q hq
    · exact h.qz q hq j (by omega), h.ins, h.outp, h.outq⟩
theorem Rk.take {n S p : Nat} {lines : List (List Int)} {P : List (Nat × List Int)} {Q1 Q2 : List (List Int)} {top : List Int} (h : Rk n S lines p P (Q1 ++ top :: Q2)) (ht : fn top p ≠ 0) (hp : p < n) : Rk n (2 * S + 1) lines (p + 1) (P ++ [(p, top)]) ((Q1 ++ Q2).map fun q => rawF q top p) := by
  have tm : top ∈ Q1 ++ top :: Q2 := by simp
  have tl := h.qlen top tm
  have sub : ∀ q ∈ Q1 ++ Q2, q ∈ Q1 ++ top :: Q2 := fun q hq => by
    rcases List.mem_append.mp hq with hq | hq
    · exact List.mem_append_left _ hq
    · exact List.mem_append_right _ (List.mem_cons_of_mem _ hq)
  have ql : ∀ q ∈ Q1 ++ Q2, q.length = top.length := fun q hq => by rw [h.qlen q (sub q hq), tl]
  refine ⟨fun a ha => ?_, fun q hq => ?_, fun a ha => ?_, fun q hq => ?_, fun a ha => ?_, List.pairwise_append.mpr ⟨h.ord, List.pairwise_singleton _ _, fun a ha b hb => ?_⟩, fun q hq j hj => ?_, fun l hl => ?_, fun a ha => ?_, fun q hq => ?_⟩
  · rcases List.mem_append.mp ha with ha | ha
    · exact h.plen a ha
    · rw [List.mem_singleton] at ha; subst ha; exact tl
  · obtain ⟨r, hr, rfl⟩ := List.mem_map.mp hq
    rw [rawF_len _ _ _ (ql r hr), ql r hr, tl]
  · rcases List.mem_append.mp ha with ha | ha
    · exact fun x hx => (h.pb a ha x hx).mono (by omega)
    · rw [List.mem_singleton] at ha; subst ha
      exact fun x hx => (h.qb top tm x hx).mono (by omega)
  · obtain ⟨r, hr, rfl⟩ := List.mem_map.mp hq
    have := raw_bd (p := p) (ql r hr) (h.qb r (sub r hr)) (h.qb top tm) (by rw [ql r hr, tl]; exact hp)
    exact fun x hx => (this x hx).mono (by omega)
  · rcases List.mem_append.mp ha with ha | ha
    · exact ⟨by have := (h.pc a ha).1; omega, (h.pc a ha).2⟩
    · rw [List.mem_singleton] at ha; subst ha
      exact ⟨Nat.lt_succ_self p, ht, fun j hj => h.qz top tm j hj⟩
  · rw [List.mem_singleton] at hb; subst hb
    exact (h.pc a ha).1
  · obtain ⟨r, hr, rfl⟩ := List.mem_map.mp hq
    rw [fn_raw _ _ _ (ql r hr)]
    by_cases e : j = p
    · rw [e, Int.mul_comm]; omega
    · rw [h.qz r (sub r hr) j (by omega), h.qz top tm j (by omega)]; simp
  · have tin : Sp (PQ (P ++ [(p, top)]) ((Q1 ++ Q2).map fun q => rawF q top p)) (fn top) := .mem (.inl ⟨(p, top), by simp, rfl⟩)
    refine Sp.trans (fun v hv => ?_) (h.ins l hl)
    rcases hv with ⟨a, ha, rfl⟩ | ⟨q, hq, rfl⟩
    · exact .mem (.inl ⟨a, List.mem_append_left _ ha, rfl⟩)
    · by_cases hm : q ∈ Q1 ++ Q2
      · exact sp_unraw (ql q hm) ht (.mem (.inr ⟨_, List.mem_map.mpr ⟨q, hm, rfl⟩, rfl⟩)) tin
      · have : q = top := by
          rcases List.mem_append.mp hq with hq | hq
          · exact absurd (List.mem_append_left _ hq) hm
          · rcases List.mem_cons.mp hq with e | hq
            · exact e
            · exact absurd (List.mem_append_right _ hq) hm
        rw [this]; exact tin
  · rcases List.mem_append.mp ha with ha | ha
    · exact h.outp a ha
    · rw [List.mem_singleton] at ha; subst ha; exact h.outq top tm
  · obtain ⟨r, hr, rfl⟩ := List.mem_map.mp hq
    exact sp_raw (ql r hr) (h.outq r (sub r hr)) (h.outq top tm)
theorem Rk.done {n S e : Nat} {lines : List (List Int)} {P : List (Nat × List Int)} {Q : List (List Int)} {F : List (Nat × List Int)} (h : Rk n S lines n P Q) (m : Made n e lines F) : P.length = F.length := by
  have tri : Tri (vecs P) := by
    refine ⟨?_, fun a ha => ?_⟩
    · rw [List.pairwise_map]
      exact h.ord.imp_of_mem fun {a b} ha hb hab => (h.pc b hb).2.2 a.1 hab
    · obtain ⟨b, hb, rfl⟩ := List.mem_map.mp ha
      exact (h.pc b hb).2.1
  have zq : ∀ q ∈ Q, fn q = fun _ => 0 := fun q hq => by
    funext j
    by_cases hj : j < n
    · exact h.qz q hq j hj
    · exact fn_out (by rw [h.qlen q hq]; omega)
  have toP : ∀ l ∈ lines, Sp (rowsOf (vecs P)) (fn l) := fun l hl => by
    refine Sp.trans (fun v hv => ?_) (h.ins l hl)
    rcases hv with ⟨a, ha, rfl⟩ | ⟨q, hq, rfl⟩
    · exact .mem (rowsOf_vecs.mpr ⟨a, ha, rfl⟩)
    · rw [zq q hq]; exact .zero
  have := dim_eq tri m.st.tri (fun a ha => by
    obtain ⟨b, hb, rfl⟩ := List.mem_map.mp ha
    refine Sp.trans (fun v ⟨l, hl, e⟩ => ?_) (h.outp b hb)
    rw [e]; exact m.ins l hl) (fun a ha => by
    obtain ⟨b, hb, rfl⟩ := List.mem_map.mp ha
    refine Sp.trans (fun v ⟨l, hl, e⟩ => ?_) (m.out b hb)
    rw [e]; exact toP l hl)
  simpa using this
end EN

set_option exponentiation.threshold 100000
/-! SQ: squares, whole sums, in plain Lean -/
namespace EN
open FL
/-! ### whole sums -/
inductive Lt (S : Vec → Prop) : Vec → Prop
  | mem {u : Vec} : S u → Lt S u
  | zero : Lt S fun _ => 0
  | add {u v : Vec} : Lt S u → Lt S v → Lt S fun j => u j + v j
  | smul {u : Vec} (c : Int) : Lt S u → Lt S fun j => c * u j
theorem Lt.trans {S S' : Vec → Prop} (h : ∀ u, S u → Lt S' u) {v : Vec} (hv : Lt S v) : Lt S' v := by
  induction hv with
  | mem hu => exact h _ hu
  | zero => exact .zero
  | add _ _ a b => exact .add a b
  | smul c _ a => exact .smul c a
theorem Lt.mono {S S' : Vec → Prop} (h : ∀ u, S u → S' u) {v : Vec} (hv : Lt S v) : Lt S' v := hv.trans fun u hu => .mem (h u hu)
theorem Lt.eq {S : Vec → Prop} {u v : Vec} (h : Lt S u) (e : ∀ j, v j = u j) : Lt S v := by
  have : v = u := funext e
  rw [this]; exact h
theorem Lt.lin {S : Vec → Prop} {u v : Vec} (hu : Lt S u) (hv : Lt S v) (a b : Int) : Lt S fun j => a * u j + b * v j := .add (.smul a hu) (.smul b hv)
/-- sums over the first n -/
def su : Nat → (Nat → Int) → Int
  | 0, _ => 0
  | n + 1, f => su n f + f n
theorem su_congr {f g : Nat → Int} : ∀ {n : Nat}, (∀ k, k < n → f k = g k) → su n f = su n g
  | 0, _ => rfl
  | n + 1, h => by
    show su n f + f n = su n g + g n
    rw [su_congr fun k hk => h k (by omega), h n (by omega)]
theorem su_add (n : Nat) (f g : Nat → Int) : su n (fun k => f k + g k) = su n f + su n g := by
  induction n with
  | zero => rfl
  | succ n ih => show su n _ + (f n + g n) = (su n f + f n) + (su n g + g n); rw [ih]; omega
theorem su_mul (n : Nat) (c : Int) (f : Nat → Int) : su n (fun k => c * f k) = c * su n f := by
  induction n with
  | zero => show 0 = c * 0; simp
  | succ n ih => show su n _ + c * f n = c * (su n f + f n); rw [ih, Int.mul_add]
theorem su_zero {f : Nat → Int} : ∀ {n : Nat}, (∀ k, k < n → f k = 0) → su n f = 0
  | 0, _ => rfl
  | n + 1, h => by
    show su n f + f n = 0
    rw [su_zero fun k hk => h k (by omega), h n (by omega)]; rfl
theorem su_one {f : Nat → Int} {p : Nat} : ∀ {n : Nat}, p < n → (∀ k, k < n → k ≠ p → f k = 0) → su n f = f p
  | 0, h, _ => by omega
  | n + 1, h, hz => by
    show su n f + f n = f p
    by_cases e : p = n
    · subst e
      rw [su_zero fun k hk => hz k (by omega) (by omega)]; omega
    · rw [su_one (n := n) (by omega) fun k hk hn => hz k (by omega) hn, hz n (by omega) (by omega)]; omega
theorem su_swap (n m : Nat) (f : Nat → Nat → Int) : su n (fun i => su m (fun j => f i j)) = su m (fun j => su n (fun i => f i j)) := by
  induction n with
  | zero => exact (su_zero (n := m) fun _ _ => rfl).symm
  | succ n ih =>
    show su n (fun i => su m fun j => f i j) + su m (fun j => f n j) = su m fun j => su n (fun i => f i j) + f n j
    rw [ih, su_add]
theorem su_split {f : Nat → Int} {p : Nat} : ∀ {n : Nat}, p ≤ n → (∀ k, p ≤ k → k < n → f k = 0) → su n f = su p f
  | 0, h, _ => by rw [show p = 0 by omega]
  | n + 1, h, hz => by
    by_cases e : p = n + 1
    · rw [e]
    · show su n f + f n = su p f
      rw [su_split (n := n) (by omega) fun k h1 h2 => hz k h1 (by omega), hz n (by omega) (by omega)]; omega
theorem dotV_su (n : Nat) (u v : Vec) : dotV n u v = su n fun j => u j * v j := by
  induction n with
  | zero => rfl
  | succ n ih => rw [dotV_succ, ih]; rfl
/-- a number at a place -/
abbrev rw' (R : List (List Int)) (k : Nat) : Vec := fn (R[k]?.getD [])
/-- the rows below a place -/
def below (R : List (List Int)) (p : Nat) : Vec → Prop := fun v => ∃ k, k < p ∧ v = rw' R k
/-- rows of a square: above 0 at the row's own place, 0 beyond -/
structure Tr (n : Nat) (R : List (List Int)) : Prop where
  len : R.length = n
  row : ∀ r ∈ R, r.length = n
  pos : ∀ k, k < n → 0 < rw' R k k
  off : ∀ k j, k < n → k < j → rw' R k j = 0
theorem rw_at {R : List (List Int)} {k : Nat} {r : List Int} (h : R[k]? = some r) : rw' R k = fn r := by unfold rw'; rw [h]; rfl
theorem Tr.rowAt {n : Nat} {R : List (List Int)} (h : Tr n R) {k : Nat} (hk : k < n) : ∃ r, R[k]? = some r ∧ r.length = n ∧ rw' R k = fn r := by
  have hk' : k < R.length := by rw [h.len]; exact hk
  exact ⟨R[k], List.getElem?_eq_getElem hk', h.row _ (List.getElem_mem hk'), rw_at (List.getElem?_eq_getElem hk')⟩
theorem Tr.out {n : Nat} {R : List (List Int)} (h : Tr n R) {k j : Nat} (hj : n ≤ j) : rw' R k j = 0 := by
  by_cases hk : k < n
  · obtain ⟨r, _, rl, e⟩ := h.rowAt hk
    rw [e, fn_out (by omega)]
  · unfold rw'
    rw [List.getElem?_eq_none (by rw [h.len]; omega)]
    exact fn_out (Nat.zero_le _)
/-- combinations of the rows -/
theorem lt_su {R : List (List Int)} {p : Nat} {v : Vec} (h : Lt (below R p) v) : ∃ c : Nat → Int, ∀ j, v j = su p fun k => c k * rw' R k j := by
  induction h with
  | @mem u hu =>
    obtain ⟨k, hk, rfl⟩ := hu
    refine ⟨fun i => if i = k then 1 else 0, fun j => ?_⟩
    rw [su_one hk fun i _ hi => by simp [hi]]
    simp
  | zero => exact ⟨fun _ => 0, fun j => (su_zero fun k _ => by simp).symm⟩
  | @add u v _ _ a b =>
    obtain ⟨c, hc⟩ := a
    obtain ⟨d, hd⟩ := b
    refine ⟨fun k => c k + d k, fun j => ?_⟩
    show u j + v j = su p fun k => (c k + d k) * rw' R k j
    rw [hc, hd, ← su_add]
    exact su_congr fun k _ => by rw [Int.add_mul]
  | @smul u x _ a =>
    obtain ⟨c, hc⟩ := a
    refine ⟨fun k => x * c k, fun j => ?_⟩
    show x * u j = su p fun k => (x * c k) * rw' R k j
    rw [hc, ← su_mul]
    exact su_congr fun k _ => by rw [Int.mul_assoc]
theorem su_lt {S : Vec → Prop} {p : Nat} (f : Nat → Vec) (c : Nat → Int) (h : ∀ k, k < p → Lt S (f k)) : Lt S fun j => su p fun k => c k * f k j := by
  induction p with
  | zero => exact .zero
  | succ p ih => exact .add (ih fun k hk => h k (by omega)) (.smul _ (h p (by omega)))
/-- 0 from a place on: of the rows below it -/
theorem Tr.low {n : Nat} {R : List (List Int)} (h : Tr n R) {q : Nat} (hq : q ≤ n) {v : Vec} (hv : Lt (below R n) v) (hz : ∀ j, q ≤ j → v j = 0) : Lt (below R q) v := by
  obtain ⟨c, hc⟩ := lt_su hv
  have key : ∀ m, q + m ≤ n → ∀ k, n - m ≤ k → k < n → c k = 0 := by
    intro m
    induction m with
    | zero => intro _ k h1 h2; omega
    | succ m ih =>
      intro hm k h1 h2
      by_cases e : n - m ≤ k
      · exact ih (by omega) k e h2
      · have hk : k = n - m - 1 := by omega
        have z := hz k (by omega)
        rw [hc, su_one h2 fun i hi hne => ?_] at z
        · have := h.pos k h2
          rcases Int.mul_eq_zero.mp z with e | e
          · exact e
          · omega
        · by_cases hlt : i < k
          · rw [h.off i k hi hlt, Int.mul_zero]
          · rw [ih (by omega) i (by omega) hi, Int.zero_mul]
  have : Lt (below R q) fun j => su q fun k => c k * rw' R k j := su_lt (rw' R) c fun k hk => .mem ⟨k, hk, rfl⟩
  refine this.eq fun j => ?_
  rw [hc]
  exact su_split hq fun k h1 h2 => by rw [key (n - q) (by omega) k (by omega) h2, Int.zero_mul]
theorem Tr.zero_above {n : Nat} {R : List (List Int)} (h : Tr n R) {q : Nat} (hq : q ≤ n) {v : Vec} (hv : Lt (below R q) v) {j : Nat} (hj : q ≤ j) : v j = 0 := by
  obtain ⟨c, hc⟩ := lt_su hv
  rw [hc]
  exact su_zero fun k hk => by rw [h.off k j (by omega) (by omega), Int.mul_zero]
/-- the number at the highest place is a multiple of the head -/
theorem Tr.lead {n : Nat} {R : List (List Int)} (h : Tr n R) {q : Nat} (hq : q < n) {v : Vec} (hv : Lt (below R (q + 1)) v) : rw' R q q ∣ v q := by
  obtain ⟨c, hc⟩ := lt_su hv
  refine ⟨c q, ?_⟩
  rw [hc, su_one (p := q) (by omega) fun k hk hne => by rw [h.off k q (by omega) (by omega), Int.mul_zero]]
  exact Int.mul_comm _ _
/-- a square: ahead of the row's own place the numbers are below those of the rows there -/
structure Sqr (n : Nat) (R : List (List Int)) : Prop where
  tr : Tr n R
  red : ∀ k j, k < n → j < k → 0 ≤ rw' R k j ∧ rw' R k j < rw' R j j
theorem zero_of_dvd {d x : Int} (hd : d ∣ x) (h1 : x < d) (h2 : -d < x) : x = 0 := by
  refine Classical.byContradiction fun hn => ?_
  by_cases hp : 0 < x
  · have := Int.le_of_dvd hp hd; omega
  · have := Int.le_of_dvd (show 0 < -x by omega) (Int.dvd_neg.mpr hd); omega
/-- of one set of whole sums there is one square -/
theorem Sqr.one {n : Nat} {R Q : List (List Int)} (hR : Sqr n R) (hQ : Sqr n Q) (h1 : ∀ k, k < n → Lt (below Q n) (rw' R k)) (h2 : ∀ k, k < n → Lt (below R n) (rw' Q k)) : R = Q := by
  have diag : ∀ k, k < n → rw' R k k = rw' Q k k := fun k hk => by
    have a := hQ.tr.lead hk (hQ.tr.low (q := k + 1) (by omega) (h1 k hk) fun j hj => hR.tr.off k j hk (by omega))
    have b := hR.tr.lead hk (hR.tr.low (q := k + 1) (by omega) (h2 k hk) fun j hj => hQ.tr.off k j hk (by omega))
    have p1 := hR.tr.pos k hk
    have p2 := hQ.tr.pos k hk
    have := Int.le_of_dvd p1 a
    have := Int.le_of_dvd p2 b
    omega
  have same : ∀ k, k < n → ∀ j, rw' R k j = rw' Q k j := fun k hk => by
    have dm : Lt (below R n) fun j => rw' R k j - rw' Q k j := by
      have := Lt.add (Lt.mem ⟨k, hk, rfl⟩ : Lt (below R n) (rw' R k)) (.smul (-1) (h2 k hk))
      exact this.eq fun j => by omega
    have key : ∀ m, m ≤ k → ∀ j, k - m ≤ j → rw' R k j - rw' Q k j = 0 := by
      intro m
      induction m with
      | zero =>
        intro _ j hj
        by_cases e : j = k
        · rw [e, diag k hk]; omega
        · rw [hR.tr.off k j hk (by omega), hQ.tr.off k j hk (by omega)]; rfl
      | succ m ih =>
        intro hm j hj
        by_cases e : k - m ≤ j
        · exact ih (by omega) j e
        · have ej : j = k - m - 1 := by omega
          have jn : j < n := by omega
          have d := hR.tr.lead jn (hR.tr.low (q := j + 1) (by omega) dm fun i hi => ih (by omega) i (by omega))
          have r1 := hR.red k j hk (by omega)
          have r2 := hQ.red k j hk (by omega)
          rw [← diag j jn] at r2
          exact zero_of_dvd d (by omega) (by omega)
    intro j
    have := key k (Nat.le_refl _) j (by omega)
    omega
  apply List.ext_getElem (by rw [hR.tr.len, hQ.tr.len])
  intro i i1 i2
  have hi : i < n := by rw [← hR.tr.len]; exact i1
  refine fn_ext (by rw [hR.tr.row _ (List.getElem_mem i1), hQ.tr.row _ (List.getElem_mem i2)]) fun j => ?_
  have := same i hi j
  rwa [rw_at (List.getElem?_eq_getElem i1), rw_at (List.getElem?_eq_getElem i2)] at this
/-- lines with the rest at one place -/
def rst (n : Nat) (rest : Int) : Vec → Prop := fun v => ∃ j, j < n ∧ v = fun i => rest * un j i
/-- what is a multiple of the rest at each place ahead and 0 beyond is a whole sum -/
theorem lt_rest {S : Vec → Prop} {rest : Int} : ∀ {p : Nat} {w : Vec}, (∀ j, j < p → Lt S fun i => rest * un j i) → (∀ j, p ≤ j → w j = 0) → (∀ j, j < p → rest ∣ w j) → Lt S w
  | 0, w, _, hz, _ => Lt.zero.eq fun j => hz j (Nat.zero_le _)
  | p + 1, w, h, hz, hd => by
    obtain ⟨c, hc⟩ := hd p (by omega)
    have ih := lt_rest (p := p) (w := fun j => if j = p then 0 else w j) (fun j hj => h j (by omega)) (fun j hj => by
      by_cases e : j = p
      · simp [e]
      · simp only [e, if_false]; exact hz j (by omega)) (fun j hj => by
      have : ¬ j = p := by omega
      simp only [this, if_false]
      exact hd j (by omega))
    refine (Lt.add ih (.smul c (h p (by omega)))).eq fun j => ?_
    by_cases e : j = p
    · subst e
      rw [un_same, hc]
      simp [Int.mul_comm]
    · simp [e, un_ne e]
/-- alike by the rest -/
theorem lt_alike {S : Vec → Prop} {rest : Int} {p : Nat} (h : ∀ j, j < p → Lt S fun i => rest * un j i) {u v : Vec} (hu : Lt S u) (hz : ∀ j, p ≤ j → v j = u j) (hd : ∀ j, j < p → rest ∣ v j - u j) : Lt S v := by
  have := lt_rest (w := fun j => v j - u j) h (fun j hj => by rw [hz j hj]; omega) hd
  exact (Lt.add hu this).eq fun j => by omega
/-! ### ground: the rows while lines are put in -/
/-- rows of which all lines with the rest at one place are whole sums -/
structure Gr (n : Nat) (rest : Int) (R : List (List Int)) : Prop where
  tr : Tr n R
  le : ∀ k j, k < n → 0 ≤ rw' R k j ∧ rw' R k j ≤ rest
  rst : ∀ j, j < n → Lt (below R n) fun i => rest * un j i
/-- the rows and what is left -/
def withL (R : List (List Int)) (n : Nat) (L : List Int) : Vec → Prop := fun v => below R n v ∨ v = fn L
/-- a step of put_in_square: the two lines that come of a row and of what is left -/
def stepR (rest m u : Int) (row L : List Int) : List Int := (List.zipWith (fun a b => m * a + u * b) row L).map (· % rest)
theorem stepR_len (rest m u : Int) (row L : List Int) (h : row.length = L.length) : (stepR rest m u row L).length = L.length := by unfold stepR; simp [h]
theorem fn_stepR (rest m u : Int) (row L : List Int) (h : row.length = L.length) (j : Nat) : fn (stepR rest m u row L) j = (m * fn row j + u * fn L j) % rest := by
  unfold stepR
  rw [fn_map _ (by simp), fn_zip _ (by simp) _ _ h]
theorem dvd_emod_sub (rest x : Int) : rest ∣ x % rest - x := by
  have := Int.emod_add_mul_ediv x rest
  refine ⟨-(x / rest), ?_⟩
  rw [Int.mul_neg]
  omega
/-- putting a line in, down to a place: P of the rows R, with what is left L -/
structure Put (n : Nat) (rest : Int) (R0 : List (List Int)) (L0 : List Int) (p : Nat) (R : List (List Int)) (L : List Int) : Prop where
  tr : Tr n R
  le : ∀ k j, k < n → 0 ≤ rw' R k j ∧ rw' R k j ≤ rest
  len : L.length = n
  ll : ∀ j, 0 ≤ fn L j ∧ fn L j < rest
  same : ∀ k, k < p → R[k]? = R0[k]?
  zero : ∀ j, p ≤ j → fn L j = 0
  fwd : ∀ v, withL R0 n L0 v → Lt (withL R n L) v
  bwd : ∀ v, withL R n L v → Lt (withL R0 n L0) v
theorem rw_same {R R0 : List (List Int)} {k : Nat} (h : R[k]? = R0[k]?) : rw' R k = rw' R0 k := by unfold rw'; rw [h]
theorem below_same {R R0 : List (List Int)} {p : Nat} (h : ∀ k, k < p → R[k]? = R0[k]?) {v : Vec} : below R p v ↔ below R0 p v := by
  constructor
  · rintro ⟨k, hk, rfl⟩; exact ⟨k, hk, rw_same (h k hk)⟩
  · rintro ⟨k, hk, rfl⟩; exact ⟨k, hk, (rw_same (h k hk)).symm⟩
theorem rw_set {R : List (List Int)} {p : Nat} (hp : p < R.length) (r : List Int) (k : Nat) : rw' (R.set p r) k = if k = p then fn r else rw' R k := by
  unfold rw'
  rw [List.getElem?_set]
  by_cases e : p = k
  · subst e; simp [hp]
  · have e' : ¬ k = p := fun q => e q.symm
    simp [e, e']
theorem Put.skip {n : Nat} {rest : Int} {R0 : List (List Int)} {L0 : List Int} {p : Nat} {R : List (List Int)} {L : List Int} (h : Put n rest R0 L0 (p + 1) R L) (hz : fn L p = 0) : Put n rest R0 L0 p R L :=
  { h with same := fun k hk => h.same k (by omega), zero := fun j hj => if e : j = p then by rw [e]; exact hz else h.zero j (by omega) }
theorem Put.step {n : Nat} {rest : Int} {R0 : List (List Int)} {L0 : List Int} (g : Gr n rest R0) {p : Nat} {R : List (List Int)} {L row : List Int} (h : Put n rest R0 L0 (p + 1) R L) (hp : p < n) (hr : R[p]? = some row) (hz : fn L p ≠ 0) {c m u : Int} (hc : 0 < c) (c1 : c ∣ fn row p) (c2 : c ∣ fn L p) (hb : m * fn row p + u * fn L p = c) :
    Put n rest R0 L0 p (R.set p (stepR rest m u row L)) (stepR rest (fn L p / c) (-(fn row p / c)) row L) := by
  obtain ⟨row', hr', rl, er⟩ := h.tr.rowAt hp
  rw [hr] at hr'
  cases hr'
  have hl : row.length = L.length := by rw [rl, h.len]
  have pl : p < R.length := by rw [h.tr.len]; exact hp
  have restp : 0 < rest := by have := h.ll p; omega
  have cle : c < rest := by
    have a := h.ll p
    have := Int.le_of_dvd (show 0 < fn L p by omega) c2
    omega
  have rowz : ∀ j, p < j → fn row j = 0 := fun j hj => by rw [← er]; exact h.tr.off p j hp hj
  obtain ⟨a, ha⟩ := c1
  obtain ⟨b, hb'⟩ := c2
  have ea : fn row p / c = a := by rw [ha]; exact Int.mul_ediv_cancel_left _ (by omega)
  have eb : fn L p / c = b := by rw [hb']; exact Int.mul_ediv_cancel_left _ (by omega)
  have bez : m * a + u * b = 1 := by
    refine Int.eq_of_mul_eq_mul_left (a := c) (by omega) ?_
    rw [Int.mul_add, Int.mul_left_comm c, Int.mul_left_comm c, ← ha, ← hb', hb, Int.mul_one]
  rw [ea, eb]
  have fr := fn_stepR rest m u row L hl
  have fl := fn_stepR rest b (-a) row L hl
  have frp : fn (stepR rest m u row L) p = c := by rw [fr, hb]; exact Int.emod_eq_of_lt (by omega) cle
  have frz : ∀ j, p < j → fn (stepR rest m u row L) j = 0 := fun j hj => by rw [fr, rowz j hj, h.zero j (by omega)]; simp
  have flz : ∀ j, p ≤ j → fn (stepR rest b (-a) row L) j = 0 := fun j hj => by
    rw [fl]
    by_cases e : j = p
    · subst e
      have : b * fn row j + -a * fn L j = 0 := by
        rw [ha, hb', Int.neg_mul, Int.mul_left_comm b, Int.mul_left_comm a, Int.mul_comm b a]; omega
      rw [this]; simp
    · rw [rowz j (by omega), h.zero j (by omega)]; simp
  have bnd : ∀ x : Int, 0 ≤ x % rest ∧ x % rest < rest := fun x => ⟨Int.emod_nonneg _ (by omega), Int.emod_lt_of_pos _ restp⟩
  have rwN := fun k => rw_set (R := R) pl (stepR rest m u row L) k
  have same' : ∀ k, k < p → (R.set p (stepR rest m u row L))[k]? = R0[k]? := fun k hk => by
    rw [List.getElem?_set_ne (by omega)]; exact h.same k (by omega)
  have tr' : Tr n (R.set p (stepR rest m u row L)) := by
    refine ⟨by rw [List.length_set]; exact h.tr.len, fun r hr => ?_, fun k hk => ?_, fun k j hk hj => ?_⟩
    · rcases List.mem_or_eq_of_mem_set hr with hr | rfl
      · exact h.tr.row r hr
      · rw [stepR_len _ _ _ _ _ hl, h.len]
    · rw [rwN]
      by_cases e : k = p
      · rw [if_pos e, e, frp]; exact hc
      · rw [if_neg e]; exact h.tr.pos k hk
    · rw [rwN]
      by_cases e : k = p
      · rw [if_pos e]; exact frz j (by omega)
      · rw [if_neg e]; exact h.tr.off k j hk hj
  -- the lines with the rest at a place ahead
  have lowR : ∀ {R' : List (List Int)} {L' : List Int}, (∀ k, k < p → R'[k]? = R0[k]?) → ∀ j, j < p → Lt (withL R' n L') fun i => rest * un j i := fun {R' L'} hs j hj => by
    have a := g.tr.low (q := p) (by omega) (g.rst j (by omega)) fun i hi => by rw [un_ne (by omega)]; simp
    exact a.mono fun v hv => .inl (by
      obtain ⟨k, hk, rfl⟩ := hv
      exact ⟨k, by omega, (rw_same (hs k hk)).symm⟩)
  have old := lowR (R' := R) (L' := L) fun k hk => h.same k (by omega)
  have new := lowR (R' := R.set p (stepR rest m u row L)) (L' := stepR rest b (-a) row L) same'
  have rowIn : Lt (withL R n L) (fn row) := .mem (.inl ⟨p, hp, er.symm⟩)
  have LIn : Lt (withL R n L) (fn L) := .mem (.inr rfl)
  -- back: the new lines are whole sums of the old ones
  have b1 : Lt (withL R n L) (fn (stepR rest m u row L)) := lt_alike old (Lt.lin rowIn LIn m u) (fun j hj => by
      by_cases e : j = p
      · rw [e, frp, hb]
      · rw [frz j (by omega), rowz j (by omega), h.zero j (by omega)]; simp) fun j _ => by rw [fr]; exact dvd_emod_sub _ _
  have b2 : Lt (withL R n L) (fn (stepR rest b (-a) row L)) := lt_alike old (Lt.lin rowIn LIn b (-a)) (fun j hj => by
      rw [flz j hj]
      by_cases e : j = p
      · subst e
        rw [ha, hb', Int.neg_mul, Int.mul_left_comm b, Int.mul_left_comm a, Int.mul_comm b a]; omega
      · rw [rowz j (by omega), h.zero j (by omega)]; simp) fun j _ => by rw [fl]; exact dvd_emod_sub _ _
  -- forth
  have rIn : Lt (withL (R.set p (stepR rest m u row L)) n (stepR rest b (-a) row L)) (fn (stepR rest m u row L)) := .mem (.inl ⟨p, hp, by rw [rwN, if_pos rfl]⟩)
  have lIn : Lt (withL (R.set p (stepR rest m u row L)) n (stepR rest b (-a) row L)) (fn (stepR rest b (-a) row L)) := .mem (.inr rfl)
  have f1 : Lt (withL (R.set p (stepR rest m u row L)) n (stepR rest b (-a) row L)) fun j => m * fn row j + u * fn L j := lt_alike new rIn (fun j hj => by
      by_cases e : j = p
      · rw [e, frp, hb]
      · rw [frz j (by omega), rowz j (by omega), h.zero j (by omega)]; simp) fun j _ => by
      rw [fr]
      have := dvd_emod_sub rest (m * fn row j + u * fn L j)
      have := Int.dvd_neg.mpr this
      rwa [Int.neg_sub] at this
  have f2 : Lt (withL (R.set p (stepR rest m u row L)) n (stepR rest b (-a) row L)) fun j => b * fn row j + -a * fn L j := lt_alike new lIn (fun j hj => by
      rw [flz j hj]
      by_cases e : j = p
      · subst e
        rw [ha, hb', Int.neg_mul, Int.mul_left_comm b, Int.mul_left_comm a, Int.mul_comm b a]; omega
      · rw [rowz j (by omega), h.zero j (by omega)]; simp) fun j _ => by
      rw [fl]
      have := dvd_emod_sub rest (b * fn row j + -a * fn L j)
      have := Int.dvd_neg.mpr this
      rwa [Int.neg_sub] at this
  have frow : Lt (withL (R.set p (stepR rest m u row L)) n (stepR rest b (-a) row L)) (fn row) := (Lt.lin f1 f2 a u).eq fun j => by
    have e : a * (m * fn row j + u * fn L j) + u * (b * fn row j + -a * fn L j) = (m * a + u * b) * fn row j := by
      simp only [Int.mul_add, Int.add_mul, Int.neg_mul, Int.mul_neg]
      rw [← Int.mul_assoc a m, ← Int.mul_assoc a u, ← Int.mul_assoc u b, ← Int.mul_assoc u a, Int.mul_comm a m, Int.mul_comm a u]
      omega
    rw [e, bez, Int.one_mul]
  have fL : Lt (withL (R.set p (stepR rest m u row L)) n (stepR rest b (-a) row L)) (fn L) := (Lt.lin f1 f2 b (-m)).eq fun j => by
    have e : b * (m * fn row j + u * fn L j) + -m * (b * fn row j + -a * fn L j) = (m * a + u * b) * fn L j := by
      simp only [Int.mul_add, Int.add_mul, Int.neg_mul, Int.mul_neg, Int.neg_neg]
      rw [← Int.mul_assoc b m, ← Int.mul_assoc b u, ← Int.mul_assoc m b, ← Int.mul_assoc m a, Int.mul_comm b m, Int.mul_comm b u]
      omega
    rw [e, bez, Int.one_mul]
  refine ⟨tr', fun k j hk => ?_, by rw [stepR_len _ _ _ _ _ hl, h.len], fun j => ?_, same', flz, fun v hv => ?_, fun v hv => ?_⟩
  · rw [rwN]
    by_cases e : k = p
    · rw [if_pos e, fr]
      have := bnd (m * fn row j + u * fn L j)
      omega
    · rw [if_neg e]; exact h.le k j hk
  · rw [fl]; exact bnd _
  · refine Lt.trans (fun w hw => ?_) (h.fwd v hv)
    rcases hw with ⟨k, hk, rfl⟩ | rfl
    · by_cases e : k = p
      · rw [e, er]; exact frow
      · exact .mem (.inl ⟨k, hk, by rw [rwN, if_neg e]⟩)
    · exact fL
  · have tr1 : Lt (withL R n L) v := by
      rcases hv with ⟨k, hk, rfl⟩ | rfl
      · rw [rwN]
        by_cases e : k = p
        · rw [if_pos e]; exact b1
        · rw [if_neg e]; exact .mem (.inl ⟨k, hk, rfl⟩)
      · exact b2
    exact Lt.trans h.bwd tr1
/-- when all is put in -/
theorem Put.done {n : Nat} {rest : Int} {R0 : List (List Int)} {L0 : List Int} (g : Gr n rest R0) {R : List (List Int)} {L : List Int} (h : Put n rest R0 L0 0 R L) : Gr n rest R ∧ (∀ v, withL R0 n L0 v → Lt (below R n) v) ∧ ∀ v, below R n v → Lt (withL R0 n L0) v := by
  have f : ∀ v, Lt (withL R n L) v → Lt (below R n) v := fun v hv => Lt.trans (fun w hw => by
    rcases hw with hw | rfl
    · exact .mem hw
    · exact Lt.zero.eq fun j => h.zero j (Nat.zero_le _)) hv
  refine ⟨⟨h.tr, h.le, fun j hj => f _ ?_⟩, fun v hv => f v (h.fwd v hv), fun v hv => h.bwd v (.inl hv)⟩
  exact Lt.trans (fun w hw => h.fwd w (.inl hw)) (g.rst j hj)
/-! ### reduced -/
/-- a row less so many times a lower one -/
def lessF (row f : List Int) (q : Int) : List Int := List.zipWith (fun a b => a - q * b) row f
theorem lessF_len (row f : List Int) (q : Int) (h : row.length = f.length) : (lessF row f q).length = row.length := by unfold lessF; simp [h]
theorem fn_less (row f : List Int) (q : Int) (h : row.length = f.length) (j : Nat) : fn (lessF row f q) j = fn row j - q * fn f j := by
  unfold lessF
  exact fn_zip _ (by simp) _ _ h j
/-- a row on its way through the lower ones, which stand in F -/
structure Red (n : Nat) (F : List (List Int)) (k : Nat) (row : List Int) (p : Nat) (cur : List Int) : Prop where
  len : cur.length = n
  own : fn cur k = fn row k
  off : ∀ j, k < j → fn cur j = 0
  red : ∀ j, p ≤ j → j < k → 0 ≤ fn cur j ∧ fn cur j < rw' F j j
  there : Lt (below F k) fun j => fn cur j - fn row j
theorem Red.step {n : Nat} {F : List (List Int)} {k : Nat} {row : List Int} {p : Nat} {cur f : List Int} (hF : ∀ i, i < k → ∃ g, F[i]? = some g ∧ g.length = n ∧ 0 < fn g i ∧ ∀ j, i < j → fn g j = 0) (h : Red n F k row (p + 1) cur) (hp : p < k) (hf : F[p]? = some f) : Red n F k row p (lessF cur f (fn cur p / fn f p)) := by
  obtain ⟨g, e, gl, g0, gz⟩ := hF p hp
  rw [hf] at e
  cases e
  have hl : cur.length = f.length := by rw [h.len, gl]
  refine ⟨by rw [lessF_len _ _ _ hl, h.len], ?_, fun j hj => ?_, fun j h1 h2 => ?_, ?_⟩
  · rw [fn_less _ _ _ hl, gz k hp, h.own]; simp
  · rw [fn_less _ _ _ hl, gz j (by omega), h.off j hj]; simp
  · rw [fn_less _ _ _ hl]
    by_cases e : j = p
    · subst e
      rw [rw_at hf]
      have a := Int.emod_nonneg (fn cur j) (show fn f j ≠ 0 by omega)
      have b := Int.emod_lt_of_pos (fn cur j) g0
      have c := Int.emod_add_mul_ediv (fn cur j) (fn f j)
      rw [Int.mul_comm (fn f j)] at c
      omega
    · rw [gz j (by omega), Int.mul_zero, Int.sub_zero]
      exact h.red j (by omega) h2
  · have := Lt.add h.there (.smul (-(fn cur p / fn f p)) (.mem ⟨p, hp, (rw_at hf).symm⟩ : Lt (below F k) (fn f)))
    refine this.eq fun j => ?_
    rw [fn_less _ _ _ hl, Int.neg_mul]
    omega
/-- the rows told so far -/
structure Rdd (n : Nat) (R F : List (List Int)) (k : Nat) : Prop where
  len : F.length = k
  row : ∀ i, i < k → ∃ g, F[i]? = some g ∧ g.length = n ∧ 0 < fn g i ∧ ∀ j, i < j → fn g j = 0
  red : ∀ i j, i < k → j < i → 0 ≤ rw' F i j ∧ rw' F i j < rw' F j j
  fwd : ∀ i, i < k → Lt (below F k) (rw' R i)
  bwd : ∀ i, i < k → Lt (below R k) (rw' F i)
theorem rw_app {F : List (List Int)} {g : List Int} {i : Nat} : rw' (F ++ [g]) i = if i = F.length then fn g else rw' F i := by
  unfold rw'
  by_cases e : i = F.length
  · subst e
    rw [List.getElem?_append_right (Nat.le_refl _), Nat.sub_self, if_pos rfl]
    rfl
  · rw [if_neg e]
    by_cases h : i < F.length
    · rw [List.getElem?_append_left h]
    · rw [List.getElem?_eq_none (l := F ++ [g]) (by simp; omega), List.getElem?_eq_none (l := F) (by omega)]
theorem Rdd.next {n : Nat} {R F : List (List Int)} {k : Nat} (hR : Tr n R) (h : Rdd n R F k) (hk : k < n) {row cur : List Int} (hr : R[k]? = some row) (hc : Red n F k row 0 cur) : Rdd n R (F ++ [cur]) (k + 1) := by
  have er := rw_at hr
  have ap := fun i => rw_app (F := F) (g := cur) (i := i)
  have own : 0 < fn cur k := by rw [hc.own, ← er]; exact hR.pos k hk
  have mF : ∀ {v}, Lt (below F k) v → Lt (below (F ++ [cur]) (k + 1)) v := fun hv => hv.mono fun v ⟨i, hi, e⟩ => ⟨i, by omega, by rw [ap, if_neg (by rw [h.len]; omega)]; exact e⟩
  have mR : ∀ {v}, Lt (below R k) v → Lt (below R (k + 1)) v := fun hv => hv.mono fun v ⟨i, hi, e⟩ => ⟨i, by omega, e⟩
  have curIn : Lt (below (F ++ [cur]) (k + 1)) (fn cur) := .mem ⟨k, by omega, by rw [ap, if_pos h.len.symm]⟩
  refine ⟨by simp [h.len], fun i hi => ?_, fun i j hi hj => ?_, fun i hi => ?_, fun i hi => ?_⟩
  · by_cases e : i = k
    · subst e
      exact ⟨cur, by rw [List.getElem?_append_right (by rw [h.len]; exact Nat.le_refl _), h.len, Nat.sub_self]; rfl, hc.len, own, hc.off⟩
    · obtain ⟨g, g1, g2⟩ := h.row i (by omega)
      exact ⟨g, by rw [List.getElem?_append_left (by rw [h.len]; omega)]; exact g1, g2⟩
  · rw [ap, ap, h.len]
    have : ¬ j = k := by omega
    rw [if_neg this]
    by_cases e : i = k
    · rw [if_pos e]
      exact hc.red j (Nat.zero_le _) (by omega)
    · rw [if_neg e]
      exact h.red i j (by omega) hj
  · by_cases e : i = k
    · rw [e, er]
      refine (Lt.add curIn (.smul (-1) (mF hc.there))).eq fun j => ?_
      omega
    · exact mF (h.fwd i (by omega))
  · rw [ap, h.len]
    by_cases e : i = k
    · rw [if_pos e]
      have back : Lt (below R k) fun j => fn cur j - fn row j := Lt.trans (fun v ⟨i, hi, e⟩ => by rw [e]; exact h.bwd i hi) hc.there
      refine (Lt.add (mR back) (.mem ⟨k, by omega, er.symm⟩ : Lt (below R (k + 1)) (fn row))).eq fun j => ?_
      omega
    · rw [if_neg e]
      exact mR (h.bwd i (by omega))
theorem Rdd.done {n : Nat} {R F : List (List Int)} (h : Rdd n R F n) : Sqr n F ∧ (∀ v, Lt (below R n) v ↔ Lt (below F n) v) := by
  refine ⟨⟨⟨h.len, fun r hr => ?_, fun k hk => ?_, fun k j hk hj => ?_⟩, h.red⟩, fun v => ⟨fun hv => ?_, fun hv => ?_⟩⟩
  · obtain ⟨i, hi, rfl⟩ := List.mem_iff_getElem.mp hr
    obtain ⟨g, g1, g2, _⟩ := h.row i (by rw [← h.len]; exact hi)
    rw [List.getElem?_eq_getElem hi] at g1
    cases g1
    exact g2
  · obtain ⟨g, g1, _, g3, _⟩ := h.row k hk
    rw [rw_at g1]; exact g3
  · obtain ⟨g, g1, _, _, g4⟩ := h.row k hk
    rw [rw_at g1]; exact g4 j hj
  · exact Lt.trans (fun w ⟨i, hi, e⟩ => by rw [e]; exact h.fwd i hi) hv
  · exact Lt.trans (fun w ⟨i, hi, e⟩ => by rw [e]; exact h.bwd i hi) hv
/-- what ground tells of lines -/
def gens (n : Nat) (rest : Int) (lines : List (List Int)) : Vec → Prop := fun v => (∃ l ∈ lines, v = fn l) ∨ rst n rest v
structure Ground (n : Nat) (rest : Int) (lines : List (List Int)) (R : List (List Int)) : Prop where
  sq : Sqr n R
  iff : ∀ v, Lt (below R n) v ↔ Lt (gens n rest lines) v
theorem Ground.one {n : Nat} {rest : Int} {ls ls' : List (List Int)} {R R' : List (List Int)} (h : Ground n rest ls R) (h' : Ground n rest ls' R') (h1 : ∀ l ∈ ls, Lt (gens n rest ls') (fn l)) (h2 : ∀ l ∈ ls', Lt (gens n rest ls) (fn l)) : R = R' := by
  refine h.sq.one h'.sq (fun k hk => ?_) fun k hk => ?_
  · rw [h'.iff]
    refine Lt.trans (fun v hv => ?_) ((h.iff _).mp (.mem ⟨k, hk, rfl⟩))
    rcases hv with ⟨l, hl, rfl⟩ | hv
    · exact h1 l hl
    · exact .mem (.inr hv)
  · rw [h.iff]
    refine Lt.trans (fun v hv => ?_) ((h'.iff _).mp (.mem ⟨k, hk, rfl⟩))
    rcases hv with ⟨l, hl, rfl⟩ | hv
    · exact h2 l hl
    · exact .mem (.inr hv)
/-- a square of which the lines with the rest at one place are whole sums is its own ground -/
theorem Ground.self {n : Nat} {rest : Int} {ls : List (List Int)} {R R' : List (List Int)} (h : Ground n rest ls R) (h' : Ground n rest R R') : R' = R := by
  refine h'.sq.one h.sq (fun k hk => ?_) fun k hk => ?_
  · refine Lt.trans (fun v hv => ?_) ((h'.iff _).mp (.mem ⟨k, hk, rfl⟩))
    rcases hv with ⟨l, hl, rfl⟩ | hv
    · obtain ⟨i, hi, rfl⟩ := List.mem_iff_getElem.mp hl
      exact .mem ⟨i, by rw [← h.sq.tr.len]; exact hi, (rw_at (List.getElem?_eq_getElem hi)).symm⟩
    · exact (h.iff v).mpr (.mem (.inr hv))
  · obtain ⟨r, hr, _, e⟩ := h.sq.tr.rowAt hk
    exact (h'.iff _).mpr (.mem (.inl ⟨r, List.mem_of_getElem? hr, e⟩))
/-! ### table -/
abbrev dlt (i j : Nat) : Int := un i j
theorem su_single_mul (n : Nat) (f : Nat → Int) (p : Nat) (hp : p < n) : su n (fun k => f k * un p k) = f p := by
  rw [su_one hp fun k _ hk => by rw [un_ne hk, Int.mul_zero], un_same, Int.mul_one]
/-- the rows are free of one another -/
theorem Tr.uniq {n : Nat} {R : List (List Int)} (h : Tr n R) {c d : Nat → Int} (e : ∀ j, su n (fun k => c k * rw' R k j) = su n fun k => d k * rw' R k j) : ∀ k, k < n → c k = d k := by
  have key : ∀ m, m ≤ n → ∀ k, n - m ≤ k → k < n → c k = d k := by
    intro m
    induction m with
    | zero => intro _ k h1 h2; omega
    | succ m ih =>
      intro hm k h1 h2
      by_cases e' : n - m ≤ k
      · exact ih (by omega) k e' h2
      · have hk : k = n - m - 1 := by omega
        have z : su n (fun i => (c i - d i) * rw' R i k) = 0 := by
          have a := su_add n (fun i => c i * rw' R i k) (fun i => (-1) * (d i * rw' R i k))
          rw [su_mul, e k] at a
          have b : su n (fun i => (c i - d i) * rw' R i k) = su n fun i => c i * rw' R i k + (-1) * (d i * rw' R i k) := su_congr fun i _ => by rw [Int.sub_mul]; omega
          rw [b, a]; omega
        rw [su_one h2 fun i hi hne => ?_] at z
        · have := h.pos k h2
          rcases Int.mul_eq_zero.mp z with q | q
          · omega
          · omega
        · by_cases hlt : i < k
          · rw [h.off i k hi hlt, Int.mul_zero]
          · rw [ih (by omega) i (by omega) hi]; simp
  exact fun k hk => key n (Nat.le_refl _) k (by omega) hk
/-- what is 0 with all rows is 0 -/
theorem Tr.kernel {n : Nat} {R : List (List Int)} (h : Tr n R) {w : Vec} (hz : ∀ k, k < n → dotV n w (rw' R k) = 0) : ∀ j, j < n → w j = 0 := by
  have key : ∀ m, m ≤ n → ∀ j, j < m → w j = 0 := by
    intro m
    induction m with
    | zero => intro _ j hj; omega
    | succ m ih =>
      intro hm j hj
      by_cases e : j < m
      · exact ih (by omega) j e
      · have ej : j = m := by omega
        subst ej
        have z := hz j (by omega)
        rw [dotV_su, su_one (p := j) (by omega) fun i hi hne => ?_] at z
        · have := h.pos j (by omega)
          rcases Int.mul_eq_zero.mp z with q | q
          · exact q
          · omega
        · by_cases hlt : i < j
          · rw [ih (by omega) i hlt, Int.zero_mul]
          · rw [h.off j i (by omega) (by omega), Int.mul_zero]
  exact fun j hj => key n (Nat.le_refl _) j hj
/-- the lines whose worth is the rest with one row and 0 with the others -/
theorem answers {n : Nat} {rest : Int} {R : List (List Int)} (h : Tr n R) (hr : ∀ j, j < n → Lt (below R n) fun i => rest * un j i) : ∃ C : Nat → Nat → Int, ∀ k m, k < n → m < n → su n (fun j => rw' R m j * C j k) = rest * un k m := by
  have hc : ∀ j, ∃ c : Nat → Int, j < n → ∀ i, rest * un j i = su n fun k => c k * rw' R k i := fun j => by
    by_cases hj : j < n
    · obtain ⟨c, hc⟩ := lt_su (hr j hj)
      exact ⟨c, fun _ => hc⟩
    · exact ⟨fun _ => 0, fun q => absurd q hj⟩
  obtain ⟨C, hC⟩ := Classical.axiomOfChoice hc
  refine ⟨C, fun k m hk hm => ?_⟩
  have := h.uniq (c := fun k => su n fun j => rw' R m j * C j k) (d := fun k => rest * un k m) (fun i => ?_) k hk
  · exact this
  · have e1 : su n (fun k => su n (fun j => rw' R m j * C j k) * rw' R k i) = su n fun j => rw' R m j * (rest * un j i) := by
      have a : ∀ k, su n (fun j => rw' R m j * C j k) * rw' R k i = su n fun j => rw' R m j * (C j k * rw' R k i) := fun k => by
        rw [Int.mul_comm, ← su_mul]
        exact su_congr fun j _ => by rw [Int.mul_comm, Int.mul_assoc]
      rw [su_congr fun k _ => a k, su_swap]
      refine su_congr fun j hj => ?_
      rw [hC j hj i, su_mul]
    rw [e1]
    by_cases hi : i < n
    · rw [su_one hi fun j _ hne => by rw [un_ne (fun q => hne q.symm)]; simp, un_same]
      rw [su_one hm fun k _ hne => by rw [un_ne (fun q => hne q.symm)]; simp, un_same]
      rw [Int.mul_one, Int.mul_comm]
    · rw [su_zero fun j hj => by rw [un_ne (by omega)]; simp]
      rw [su_one hm fun k _ hne => by rw [un_ne (fun q => hne q.symm)]; simp, un_same, h.out (by omega)]
      simp
/-- an answer's line -/
structure Ans (n : Nat) (rest : Int) (R : List (List Int)) (at' : Nat) (a : List Int) : Prop where
  len : a.length = n
  dot : ∀ m, m < n → dotV n (fn a) (rw' R m) = rest * un at' m
/-- by a table of lines: the worths with all rows are multiples of the rest -/
def Even (n : Nat) (rest : Int) (R : List (List Int)) : Vec → Prop := fun w => (∀ k, k < n → rest ∣ dotV n w (rw' R k)) ∧ ∀ j, n ≤ j → w j = 0
theorem dotV_comm' (n : Nat) (u v : Vec) : dotV n u v = dotV n v u := dotV_comm n u v
theorem dotV_addL (n : Nat) (u v w : Vec) : dotV n (fun j => u j + v j) w = dotV n u w + dotV n v w := by rw [dotV_comm, dotV_add, dotV_comm n w, dotV_comm n w]
theorem dotV_smulL (n : Nat) (c : Int) (u w : Vec) : dotV n (fun j => c * u j) w = c * dotV n u w := by rw [dotV_comm, dotV_smul, dotV_comm n w]
theorem dotV_lt {n : Nat} {rest : Int} {u : Vec} {S : Vec → Prop} (h : ∀ v, S v → rest ∣ dotV n u v) {v : Vec} (hv : Lt S v) : rest ∣ dotV n u v := by
  induction hv with
  | mem hu => exact h _ hu
  | zero => rw [dotV_zero]; exact Int.dvd_zero _
  | add _ _ a b => rw [dotV_add]; exact Int.dvd_add a b
  | smul c _ a => rw [dotV_smul]; exact Int.dvd_mul_of_dvd_right a
theorem dotV_suL (n p : Nat) (f : Nat → Vec) (c : Nat → Int) (w : Vec) : dotV n (fun j => su p fun k => c k * f k j) w = su p fun k => c k * dotV n (f k) w := by
  induction p with
  | zero => rw [dotV_comm]; exact dotV_zero n w
  | succ p ih =>
    show dotV n (fun j => (su p fun k => c k * f k j) + c p * f p j) w = _
    rw [dotV_addL, dotV_smulL, ih]; rfl
theorem lt_zero_at {S : Vec → Prop} {j : Nat} (h : ∀ v, S v → v j = 0) {w : Vec} (hw : Lt S w) : w j = 0 := by
  induction hw with
  | mem hu => exact h _ hu
  | zero => rfl
  | @add u v _ _ a b => show u j + v j = 0; rw [a, b]; rfl
  | @smul u c _ a => show c * u j = 0; rw [a]; simp
/-- answers' lines make all even lines -/
theorem even_made {n : Nat} {rest : Int} {R : List (List Int)} (h : Tr n R) {A : Nat → List Int} (hA : ∀ k, k < n → Ans n rest R k (A k)) {w : Vec} : Even n rest R w ↔ Lt (fun v => ∃ k, k < n ∧ v = fn (A k)) w := by
  constructor
  · rintro ⟨hw, hz⟩
    have hm : ∀ k, ∃ m : Int, k < n → dotV n w (rw' R k) = rest * m := fun k => by
      by_cases hk : k < n
      · obtain ⟨m, e⟩ := hw k hk
        exact ⟨m, fun _ => e⟩
      · exact ⟨0, fun q => absurd q hk⟩
    obtain ⟨m, hm⟩ := Classical.axiomOfChoice hm
    have made : Lt (fun v => ∃ k, k < n ∧ v = fn (A k)) fun j => su n fun k => m k * fn (A k) j := su_lt (fun k => fn (A k)) m fun k hk => .mem ⟨k, hk, rfl⟩
    refine made.eq fun j => ?_
    by_cases hj : j < n
    · have := h.kernel (w := fun j => w j + (-1) * su n fun k => m k * fn (A k) j) (fun i hi => ?_) j hj
      · omega
      · rw [dotV_addL, dotV_smulL, dotV_suL, hm i hi]
        have : su n (fun k => m k * dotV n (fn (A k)) (rw' R i)) = rest * m i := by
          rw [su_one hi fun k hk hne => by rw [(hA k hk).dot i hi, un_ne (fun q => hne q.symm)]; simp]
          rw [(hA i hi).dot i hi, un_same, Int.mul_one, Int.mul_comm]
        rw [this]; omega
    · rw [hz j (by omega)]
      exact (su_zero fun k hk => by rw [fn_out (by rw [(hA k hk).len]; omega), Int.mul_zero]).symm
  · intro hv
    refine ⟨fun i hi => ?_, fun j hj => ?_⟩
    · rw [dotV_comm]
      refine dotV_lt (fun v ⟨k, hk, e⟩ => ?_) hv
      rw [e, dotV_comm, (hA k hk).dot i hi]
      exact Int.dvd_mul_right _ _
    · exact lt_zero_at (fun v ⟨k, hk, e⟩ => by rw [e]; exact fn_out (by rw [(hA k hk).len]; exact hj)) hv
/-- what table tells of a square -/
structure Table (n : Nat) (rest : Int) (R Q : List (List Int)) : Prop where
  sq : Sqr n Q
  iff : ∀ v, Lt (below Q n) v ↔ Even n rest R v
theorem even_rst {n : Nat} {rest : Int} {R : List (List Int)} {j : Nat} (hj : j < n) : Even n rest R fun i => rest * un j i := by
  refine ⟨fun k hk => ?_, fun i hi => by show rest * un j i = 0; rw [un_ne (by omega)]; simp⟩
  rw [dotV_smulL]
  exact Int.dvd_mul_right _ _
theorem Table.of {n : Nat} {rest : Int} {R Q : List (List Int)} (h : Tr n R) {A : List (List Int)} (hl : A.length = n) (hA : ∀ (k : Nat) (a : List Int), A[k]? = some a → Ans n rest R k a) (g : Ground n rest A Q) : Table n rest R Q := by
  have hA' : ∀ k, k < n → Ans n rest R k (A[k]?.getD []) := fun k hk => by
    have e : A[k]? = some (A[k]'(by omega)) := List.getElem?_eq_getElem (by omega)
    rw [e, Option.getD_some]
    exact hA k _ e
  refine ⟨g.sq, fun v => ?_⟩
  rw [g.iff, even_made h hA']
  constructor
  · refine fun hv => Lt.trans (fun w hw => ?_) hv
    rcases hw with ⟨l, hl', rfl⟩ | ⟨j, hj, rfl⟩
    · obtain ⟨k, hk, rfl⟩ := List.mem_iff_getElem.mp hl'
      refine .mem ⟨k, by omega, ?_⟩
      rw [List.getElem?_eq_getElem hk, Option.getD_some]
    · exact (even_made h hA').mp (even_rst hj)
  · refine fun hv => hv.mono fun w ⟨k, hk, e⟩ => .inl ⟨_, ?_, e⟩
    rw [List.getElem?_eq_getElem (by omega), Option.getD_some]
    exact List.getElem_mem _
theorem Table.rst {n : Nat} {rest : Int} {R Q : List (List Int)} (t : Table n rest R Q) : ∀ j, j < n → Lt (below Q n) fun i => rest * un j i := fun _ hj => (t.iff _).mpr (even_rst hj)
/-- the table of the table is the square -/
theorem Table.back {n : Nat} {rest : Int} (hr : 0 < rest) {R Q Q' : List (List Int)} (h : Sqr n R) (hrst : ∀ j, j < n → Lt (below R n) fun i => rest * un j i) (t : Table n rest R Q) (t' : Table n rest Q Q') : Q' = R := by
  obtain ⟨C, hC⟩ := answers h.tr hrst
  -- an answer's line, as a function
  have ansE : ∀ k, k < n → Even n rest R fun j => if j < n then C j k else 0 := fun k hk => by
    refine ⟨fun m hm => ?_, fun j hj => by simp; omega⟩
    have e : dotV n (fun j => if j < n then C j k else 0) (rw' R m) = su n fun j => rw' R m j * C j k := by
      rw [dotV_su]
      exact su_congr fun j hj => by rw [if_pos hj, Int.mul_comm]
    rw [e, hC k m hk hm]
    exact Int.dvd_mul_right _ _
  refine t'.sq.one h (fun k hk => ?_) fun k hk => (t'.iff _).mpr ⟨fun m hm => ?_, fun j hj => h.tr.out hj⟩
  · obtain ⟨w, ew⟩ : ∃ w, w = rw' Q' k := ⟨_, rfl⟩
    have hw : Even n rest Q w := by rw [ew]; exact (t'.iff _).mp (.mem ⟨k, hk, rfl⟩)
    rw [← ew]
    have evQ : ∀ v, Even n rest R v → rest ∣ dotV n w v := fun v hv => dotV_lt (fun u ⟨i, hi, e⟩ => by rw [e]; exact hw.1 i hi) ((t.iff v).mpr hv)
    have hm : ∀ k, ∃ m : Int, k < n → dotV n w (fun j => if j < n then C j k else 0) = rest * m := fun k => by
      by_cases hk : k < n
      · obtain ⟨m, e⟩ := evQ _ (ansE k hk)
        exact ⟨m, fun _ => e⟩
      · exact ⟨0, fun q => absurd q hk⟩
    obtain ⟨m, hm⟩ := Classical.axiomOfChoice hm
    have made : Lt (below R n) fun j => su n fun k => m k * rw' R k j := su_lt (rw' R) m fun k hk => .mem ⟨k, hk, rfl⟩
    refine made.eq fun j => ?_
    by_cases hj : j < n
    · -- rest times the place is made of the answers
      have eC : ∀ i, rest * un j i = su n fun k => (if i < n then C i k else 0) * rw' R k j := fun i => by
        by_cases hi : i < n
        · -- both sides, by the rows
          have key := h.tr.kernel (w := fun i => rest * un j i + (-1) * (if i < n then su n fun k => C i k * rw' R k j else 0)) (fun q hq => ?_) i hi
          · simp only [hi, if_true] at key ⊢
            omega
          · rw [dotV_addL, dotV_smulL, dotV_smulL, dotV_unit hj]
            have e2 : dotV n (fun i => if i < n then su n fun k => C i k * rw' R k j else 0) (rw' R q) = su n fun k => (rest * un k q) * rw' R k j := by
              rw [dotV_su]
              have a : ∀ i, i < n → (if i < n then su n fun k => C i k * rw' R k j else 0) * rw' R q i = su n fun k => rw' R q i * (C i k * rw' R k j) := fun i hi => by
                rw [if_pos hi, Int.mul_comm, ← su_mul]
              rw [su_congr a, su_swap]
              refine su_congr fun k hk => ?_
              rw [← hC k q hk hq, Int.mul_comm, ← su_mul]
              exact su_congr fun i _ => by rw [Int.mul_comm (rw' R k j), Int.mul_assoc]
            rw [e2, su_one hq fun k _ hne => by rw [un_ne (fun z => hne z.symm)]; simp, un_same]
            simp
            exact Int.add_right_neg _
        · simp only [hi, if_false]
          rw [un_ne (by omega), su_zero fun k _ => by simp]; simp
      refine Int.eq_of_mul_eq_mul_left (a := rest) (by omega) ?_
      have l1 : dotV n w (fun i => rest * un j i) = rest * w j := by rw [dotV_smul, dotV_comm, dotV_unit hj]
      rw [← l1, ← su_mul]
      have : (fun i => rest * un j i) = fun i => su n fun k => rw' R k j * (if i < n then C i k else 0) := by
        funext i
        rw [eC i]
        exact su_congr fun k _ => Int.mul_comm _ _
      rw [this, dotV_comm, dotV_suL]
      refine su_congr fun k hk => ?_
      rw [dotV_comm, hm k hk, Int.mul_left_comm, Int.mul_comm (rw' R k j)]
    · rw [hw.2 j (by omega)]
      exact (su_zero fun k hk => by rw [h.tr.out (by omega), Int.mul_zero]).symm
  · rw [dotV_comm]
    exact ((t.iff _).mp (.mem ⟨m, hm, rfl⟩)).1 k hk
/-! ### lines put in, one after the other -/
structure Gn (n : Nat) (rest : Int) (lines R : List (List Int)) : Prop where
  gr : Gr n rest R
  iff : ∀ v, Lt (below R n) v ↔ Lt (gens n rest lines) v
theorem Put.start {n : Nat} {rest : Int} {R : List (List Int)} (g : Gr n rest R) {line : List Int} (hl : line.length = n) (hr : 0 < rest) : Put n rest R (line.map (· % rest)) n R (line.map (· % rest)) :=
  ⟨g.tr, g.le, by simp [hl], fun j => by rw [fn_map _ (by simp)]; exact ⟨Int.emod_nonneg _ (by omega), Int.emod_lt_of_pos _ hr⟩, fun _ _ => rfl, fun j hj => fn_out (by simp [hl]; exact hj), fun v hv => .mem hv, fun v hv => .mem hv⟩
theorem Gn.next {n : Nat} {rest : Int} {lines R : List (List Int)} (h : Gn n rest lines R) {line : List Int} (hl : line.length = n) {R' L' : List (List Int)} {L : List Int} (_ : L' = []) (hp : Put n rest R (line.map (· % rest)) 0 R' L) : Gn n rest (lines ++ [line]) R' := by
  obtain ⟨g, f, b⟩ := hp.done h.gr
  have mg : ∀ {v}, Lt (gens n rest lines) v → Lt (gens n rest (lines ++ [line])) v := fun hv => hv.mono fun w hw => by
    rcases hw with ⟨l, hl, e⟩ | hw
    · exact .inl ⟨l, List.mem_append_left _ hl, e⟩
    · exact .inr hw
  have fm : ∀ j, fn (line.map (· % rest)) j = fn line j % rest := fun j => fn_map _ (by simp) line j
  refine ⟨g, fun v => ⟨fun hv => Lt.trans (fun w hw => ?_) hv, fun hv => Lt.trans (fun w hw => ?_) hv⟩⟩
  · refine Lt.trans (fun u hu => ?_) (b w hw)
    rcases hu with hu | rfl
    · exact mg ((h.iff u).mp (.mem hu))
    · refine lt_alike (rest := rest) (p := n) (u := fn line) (fun j hj => .mem (.inr ⟨j, hj, rfl⟩)) (.mem (.inl ⟨line, by simp, rfl⟩)) (fun j hj => ?_) fun j _ => ?_
      · rw [fn_out (by simp [hl]; exact hj), fn_out (by rw [hl]; exact hj)]
      · rw [fm]; exact dvd_emod_sub _ _
  · rcases hw with ⟨l, hm, rfl⟩ | hw
    · rcases List.mem_append.mp hm with hm | hm
      · exact Lt.trans (fun u hu => f u (.inl hu)) ((h.iff _).mpr (.mem (.inl ⟨l, hm, rfl⟩)))
      · rw [List.mem_singleton] at hm
        subst hm
        refine lt_alike (rest := rest) (p := n) (u := fn (l.map (· % rest))) (fun j hj => g.rst j hj) (f _ (.inr rfl)) (fun j hj => ?_) fun j _ => ?_
        · rw [fn_out (by rw [hl]; exact hj), fn_out (by simp [hl]; exact hj)]
        · rw [fn_map _ (by simp)]
          have := Int.dvd_neg.mpr (dvd_emod_sub rest (fn l j))
          rwa [Int.neg_sub] at this
    · obtain ⟨j, hj, rfl⟩ := hw
      exact g.rst j hj
/-- the lines with the rest at one place -/
def restRow (n : Nat) (rest : Int) (at' : Nat) : List Int := (List.range n).map fun k => rest * un at' k
theorem restRow_len (n : Nat) (rest : Int) (i : Nat) : (restRow n rest i).length = n := by simp [restRow]
theorem fn_restRow {n : Nat} {rest : Int} {i : Nat} (hi : i < n) (j : Nat) : fn (restRow n rest i) j = rest * un i j := by
  by_cases hj : j < n
  · unfold fn restRow
    rw [List.getElem?_map, List.getElem?_range hj]
    rfl
  · rw [fn_out (by rw [restRow_len]; omega), un_ne (by omega)]; simp
def rests (n : Nat) (rest : Int) : List (List Int) := (List.range n).map fun i => restRow n rest i
theorem rw_rests {n : Nat} {rest : Int} {i : Nat} (hi : i < n) : rw' (rests n rest) i = fn (restRow n rest i) := by
  refine rw_at ?_
  unfold rests
  rw [List.getElem?_map, List.getElem?_range hi]; rfl
theorem Gn.start {n : Nat} {rest : Int} (hr : 0 < rest) : Gn n rest [] (rests n rest) := by
  have gen : ∀ v, below (rests n rest) n v ↔ rst n rest v := fun v => by
    constructor
    · rintro ⟨k, hk, rfl⟩
      exact ⟨k, hk, by rw [rw_rests hk]; exact funext fun j => fn_restRow hk j⟩
    · rintro ⟨k, hk, rfl⟩
      exact ⟨k, hk, by rw [rw_rests hk]; exact (funext fun j => fn_restRow hk j).symm⟩
  refine ⟨⟨⟨by simp [rests], fun r hr => ?_, fun k hk => ?_, fun k j hk hj => ?_⟩, fun k j hk => ?_, fun j hj => .mem ((gen _).mpr ⟨j, hj, rfl⟩)⟩, fun v => ⟨fun h => h.mono fun w hw => .inr ((gen w).mp hw), fun h => h.mono fun w hw => ?_⟩⟩
  · obtain ⟨i, _, rfl⟩ := List.mem_map.mp hr
    exact restRow_len n rest i
  · rw [rw_rests hk, fn_restRow hk, un_same]; omega
  · rw [rw_rests hk, fn_restRow hk, un_ne (by omega)]; simp
  · rw [rw_rests hk, fn_restRow hk]
    by_cases e : j = k
    · subst e; rw [un_same]; omega
    · rw [un_ne e]; omega
  · rcases hw with ⟨l, hl, _⟩ | hw
    · cases hl
    · exact (gen w).mpr hw
/-! ### bezout -/
structure Bz (a b r0 s0 t0 r1 s1 t1 : Int) : Prop where
  p0 : 0 < r0
  p1 : 0 ≤ r1
  e0 : s0 * a + t0 * b = r0
  e1 : s1 * a + t1 * b = r1
  dv : ∀ d : Int, d ∣ r0 → d ∣ r1 → d ∣ a ∧ d ∣ b
  sz : ∃ A0 A1 : Int, 0 ≤ A0 ∧ 0 ≤ A1 ∧ A0 ≤ a + b ∧ ((s0 = A0 ∧ s1 = -A1) ∨ (s0 = -A0 ∧ s1 = A1)) ∧ A1 * r0 + A0 * r1 = b
  tz : ∃ A0 A1 : Int, 0 ≤ A0 ∧ 0 ≤ A1 ∧ A0 ≤ a + b ∧ ((t0 = A0 ∧ t1 = -A1) ∨ (t0 = -A0 ∧ t1 = A1)) ∧ A1 * r0 + A0 * r1 = a
theorem Bz.start {a b : Int} (ha : 0 < a) (hb : 0 < b) : Bz a b a 1 0 b 0 1 :=
  ⟨ha, by omega, by simp, by simp, fun d h1 h2 => ⟨h1, h2⟩, ⟨1, 0, by omega, by omega, by omega, .inl ⟨rfl, by simp⟩, by simp⟩, ⟨0, 1, by omega, by omega, by omega, .inr ⟨by simp, rfl⟩, by simp⟩⟩
theorem le_of_mul {A r B : Int} (hA : 0 ≤ A) (hr : 0 < r) (h : A * r ≤ B) : A ≤ B := by
  have : A * 1 ≤ A * r := Int.mul_le_mul_of_nonneg_left (by omega) hA
  omega
theorem bz_size {r0 r1 s0 s1 b M : Int} (hr0 : 0 < r0) (hr1 : 0 ≤ r1) (h : ∃ A0 A1 : Int, 0 ≤ A0 ∧ 0 ≤ A1 ∧ A0 ≤ M ∧ ((s0 = A0 ∧ s1 = -A1) ∨ (s0 = -A0 ∧ s1 = A1)) ∧ A1 * r0 + A0 * r1 = b) : s0.natAbs ≤ M ∧ s1.natAbs ≤ b := by
  obtain ⟨A0, A1, h0, h1, hM, hs, e⟩ := h
  have p := Int.mul_nonneg h0 hr1
  have := le_of_mul (B := b) h1 hr0 (by omega)
  rcases hs with ⟨rfl, rfl⟩ | ⟨rfl, rfl⟩ <;> omega
theorem bz_turn {r0 r1 s0 s1 b M q : Int} (hr0 : 0 < r0) (hr1 : 0 ≤ r1) (hq : 0 ≤ q) (hM : b ≤ M) (h : ∃ A0 A1 : Int, 0 ≤ A0 ∧ 0 ≤ A1 ∧ A0 ≤ M ∧ ((s0 = A0 ∧ s1 = -A1) ∨ (s0 = -A0 ∧ s1 = A1)) ∧ A1 * r0 + A0 * r1 = b) :
    ∃ A0 A1 : Int, 0 ≤ A0 ∧ 0 ≤ A1 ∧ A0 ≤ M ∧ ((s1 = A0 ∧ s0 - q * s1 = -A1) ∨ (s1 = -A0 ∧ s0 - q * s1 = A1)) ∧ A1 * r1 + A0 * (r0 - q * r1) = b := by
  obtain ⟨A0, A1, h0, h1, hA, hs, e⟩ := h
  have p := Int.mul_nonneg h0 hr1
  have := le_of_mul (B := b) h1 hr0 (by omega)
  refine ⟨A1, A0 + q * A1, h1, by have := Int.mul_nonneg hq h1; omega, by omega, ?_, ?_⟩
  · rcases hs with ⟨rfl, rfl⟩ | ⟨rfl, rfl⟩
    · right
      exact ⟨rfl, by rw [Int.mul_neg]; omega⟩
    · left
      exact ⟨rfl, by omega⟩
  · rw [Int.add_mul, Int.mul_sub, Int.mul_assoc q, Int.mul_left_comm A1]
    omega
theorem Bz.step {a b r0 s0 t0 r1 s1 t1 : Int} (ha : 0 < a) (hb : 0 < b) (h : Bz a b r0 s0 t0 r1 s1 t1) (h1 : r1 ≠ 0) : Bz a b r1 s1 t1 (r0 - r0 / r1 * r1) (s0 - r0 / r1 * s1) (t0 - r0 / r1 * t1) ∧ r0 - r0 / r1 * r1 < r1 := by
  have p1 : 0 < r1 := by have := h.p1; omega
  have em : r0 - r0 / r1 * r1 = r0 % r1 := by
    have := Int.emod_add_mul_ediv r0 r1
    rw [Int.mul_comm] at this
    omega
  have m0 := Int.emod_nonneg r0 (show r1 ≠ 0 by omega)
  have m1 := Int.emod_lt_of_pos r0 p1
  have hq : 0 ≤ r0 / r1 := Int.ediv_nonneg (by have := h.p0; omega) (by omega)
  refine ⟨⟨p1, by omega, h.e1, ?_, fun d h1 h2 => ?_, bz_turn h.p0 h.p1 hq (by omega) h.sz, bz_turn h.p0 h.p1 hq (by omega) h.tz⟩, by omega⟩
  · have e0 := h.e0
    have e1 := h.e1
    rw [Int.sub_mul, Int.sub_mul, Int.mul_assoc, Int.mul_assoc]
    have : r0 / r1 * (s1 * a) + r0 / r1 * (t1 * b) = r0 / r1 * r1 := by rw [← Int.mul_add, e1]
    omega
  · refine h.dv d ?_ h1
    have e : r0 = (r0 - r0 / r1 * r1) + r0 / r1 * r1 := by omega
    rw [e]
    exact Int.dvd_add h2 (Int.dvd_mul_of_dvd_right h1)
end EN

set_option exponentiation.threshold 100000
/-! SQ2: counting; the heads of a square and of its table -/
namespace EN
open FL
/-! ### counting -/
theorem card_inj {α β : Type} [DecidableEq β] (f : α → β) : ∀ (l : List α) (m : List β), l.Nodup → (∀ a ∈ l, f a ∈ m) → (∀ a ∈ l, ∀ b ∈ l, f a = f b → a = b) → l.length ≤ m.length
  | [], _, _, _, _ => Nat.zero_le _
  | a :: l, m, hn, hm, hi => by
    obtain ⟨n1, n2⟩ := List.nodup_cons.mp hn
    have fa := hm a List.mem_cons_self
    have ih := card_inj f l (m.erase (f a)) n2 (fun b hb => by
      refine (List.mem_erase_of_ne ?_).mpr (hm b (List.mem_cons_of_mem _ hb))
      intro e
      have := hi b (List.mem_cons_of_mem _ hb) a List.mem_cons_self e
      rw [this] at hb
      exact n1 hb) fun b hb c hc e => hi b (List.mem_cons_of_mem _ hb) c (List.mem_cons_of_mem _ hc) e
    rw [List.length_erase_of_mem fa] at ih
    have := List.length_pos_of_mem fa
    rw [List.length_cons]
    omega
theorem card_bij {α β : Type} [DecidableEq β] [DecidableEq α] (f : α → β) (l : List α) (m : List β) (hl : l.Nodup) (hm : m.Nodup) (h1 : ∀ a ∈ l, f a ∈ m) (h2 : ∀ a ∈ l, ∀ b ∈ l, f a = f b → a = b) (h3 : ∀ b ∈ m, ∃ a ∈ l, f a = b) : l.length = m.length := by
  refine Nat.le_antisymm (card_inj f l m hl h1 h2) ?_
  by_cases he : m = []
  · rw [he]; exact Nat.zero_le _
  · obtain ⟨b0, hb0⟩ := List.exists_mem_of_ne_nil m he
    obtain ⟨a0, _, _⟩ := h3 b0 hb0
    have h' : ∀ b : β, ∃ a : α, b ∈ m → a ∈ l ∧ f a = b := fun b => by
      by_cases hb : b ∈ m
      · obtain ⟨a, ha⟩ := h3 b hb
        exact ⟨a, fun _ => ha⟩
      · exact ⟨a0, fun q => absurd q hb⟩
    obtain ⟨g, hg⟩ := Classical.axiomOfChoice h'
    refine card_inj g m l hm (fun b hb => (hg b hb).1) fun b hb c hc e => ?_
    rw [← (hg b hb).2, ← (hg c hc).2, e]
/-- all lines with numbers from 0 to below bounds -/
def boxL : List Nat → List (List Int)
  | [] => [[]]
  | d :: ds => (List.range d).flatMap fun (x : Nat) => (boxL ds).map ((x : Int) :: ·)
def prodL : List Nat → Nat
  | [] => 1
  | d :: ds => d * prodL ds
theorem boxL_len : ∀ ds, (boxL ds).length = prodL ds
  | [] => rfl
  | d :: ds => by
    show ((List.range d).flatMap fun (x : Nat) => (boxL ds).map ((x : Int) :: ·)).length = d * prodL ds
    have key : ∀ d, ((List.range d).flatMap fun (x : Nat) => (boxL ds).map ((x : Int) :: ·)).length = d * prodL ds := by
      intro d
      induction d with
      | zero => simp
      | succ d ih =>
        rw [List.range_succ, List.flatMap_append, List.length_append, ih, Nat.succ_mul]
        simp [boxL_len ds]
    exact key d
theorem mem_boxL : ∀ {ds : List Nat} {v : List Int}, v ∈ boxL ds ↔ v.length = ds.length ∧ ∀ i, i < ds.length → 0 ≤ fn v i ∧ fn v i < (ds[i]?.getD 0 : Nat)
  | [], v => by
    constructor
    · intro h
      have : v = [] := by simpa [boxL] using h
      subst this
      exact ⟨rfl, fun i hi => absurd hi (by simp)⟩
    · rintro ⟨h, _⟩
      have : v = [] := List.eq_nil_of_length_eq_zero h
      subst this
      simp [boxL]
  | d :: ds, v => by
    unfold boxL
    rw [List.mem_flatMap]
    constructor
    · rintro ⟨x, hx, hv⟩
      obtain ⟨w, hw, rfl⟩ := List.mem_map.mp hv
      have hx := List.mem_range.mp hx
      obtain ⟨w1, w2⟩ := mem_boxL.mp hw
      refine ⟨by simp [w1], fun i hi => ?_⟩
      match i, hi with
      | 0, _ => exact ⟨Int.natCast_nonneg _, by show (x : Int) < (d : Int); omega⟩
      | i + 1, hi => exact w2 i (by simpa using hi)
    · rintro ⟨h1, h2⟩
      match v, h1 with
      | y :: w, h1 =>
        have h0 : 0 ≤ y ∧ y < (d : Int) := h2 0 (by simp)
        refine ⟨y.toNat, List.mem_range.mpr (by omega), List.mem_map.mpr ⟨w, mem_boxL.mpr ⟨by simpa using h1, fun i hi => h2 (i + 1) (by simpa using hi)⟩, ?_⟩⟩
        rw [show ((y.toNat : Nat) : Int) = y by omega]
theorem nodup_boxL : ∀ ds, (boxL ds).Nodup
  | [] => by simp [boxL]
  | d :: ds => by
    have ih := nodup_boxL ds
    unfold boxL
    have key : ∀ d, ((List.range d).flatMap fun (x : Nat) => (boxL ds).map ((x : Int) :: ·)).Nodup := by
      intro d
      induction d with
      | zero => simp
      | succ d ihd =>
        rw [List.range_succ, List.flatMap_append, List.nodup_append]
        refine ⟨ihd, ?_, fun a ha b hb e => ?_⟩
        · simp only [List.flatMap_cons, List.flatMap_nil, List.append_nil]
          exact List.Pairwise.map _ (fun a b h e => h (List.cons.inj e).2) ih
        · subst e
          obtain ⟨x, hx, ha⟩ := List.mem_flatMap.mp ha
          obtain ⟨w, _, rfl⟩ := List.mem_map.mp ha
          simp only [List.flatMap_cons, List.flatMap_nil, List.append_nil] at hb
          obtain ⟨u, _, e⟩ := List.mem_map.mp hb
          have := (List.cons.inj e).1
          have := List.mem_range.mp hx
          omega
    exact key d
/-- pairs -/
def pairsL {α β : Type} (l : List α) (m : List β) : List (α × β) := l.flatMap fun a => m.map fun b => (a, b)
theorem pairsL_len {α β : Type} (l : List α) (m : List β) : (pairsL l m).length = l.length * m.length := by
  induction l with
  | nil => simp [pairsL]
  | cons a l ih =>
    show (pairsL (a :: l) m).length = _
    have : pairsL (a :: l) m = (m.map fun b => (a, b)) ++ pairsL l m := rfl
    rw [this, List.length_append, ih, List.length_map, List.length_cons, Nat.succ_mul]
    omega
theorem mem_pairsL {α β : Type} {l : List α} {m : List β} {p : α × β} : p ∈ pairsL l m ↔ p.1 ∈ l ∧ p.2 ∈ m := by
  unfold pairsL
  rw [List.mem_flatMap]
  constructor
  · rintro ⟨a, ha, hp⟩
    obtain ⟨b, hb, rfl⟩ := List.mem_map.mp hp
    exact ⟨ha, hb⟩
  · rintro ⟨h1, h2⟩
    exact ⟨p.1, h1, List.mem_map.mpr ⟨p.2, h2, rfl⟩⟩
theorem nodup_pairsL {α β : Type} {l : List α} {m : List β} (hl : l.Nodup) (hm : m.Nodup) : (pairsL l m).Nodup := by
  induction l with
  | nil => simp [pairsL]
  | cons a l ih =>
    obtain ⟨n1, n2⟩ := List.nodup_cons.mp hl
    have : pairsL (a :: l) m = (m.map fun b => (a, b)) ++ pairsL l m := rfl
    rw [this, List.nodup_append]
    refine ⟨List.Pairwise.map _ (fun b c h e => h (Prod.mk.inj e).2) hm, ih n2, fun p hp q hq e => ?_⟩
    obtain ⟨b, _, rfl⟩ := List.mem_map.mp hp
    subst e
    exact n1 (mem_pairsL.mp hq).1
/-! ### how many lines are alike by a square -/
/-- the numbers at the heads -/
def heads (n : Nat) (R : List (List Int)) : List Nat := (List.range n).map fun k => (rw' R k k).toNat
theorem heads_len (n : Nat) (R : List (List Int)) : (heads n R).length = n := by simp [heads]
theorem heads_at {n : Nat} {R : List (List Int)} {k : Nat} (hk : k < n) : (heads n R)[k]?.getD 0 = (rw' R k k).toNat := by
  unfold heads
  rw [List.getElem?_map, List.getElem?_range hk]
  rfl
/-- a line that is alike by the square, in the box of the heads -/
theorem Tr.norm {n : Nat} {R : List (List Int)} (h : Tr n R) (v : Vec) : ∃ x ∈ boxL (heads n R), Lt (below R n) fun j => if j < n then v j - fn x j else 0 := by
  have key : ∀ m, m ≤ n → ∃ w : Vec, Lt (below R n) w ∧ ∀ j, n - m ≤ j → j < n → 0 ≤ v j - w j ∧ v j - w j < rw' R j j := by
    intro m
    induction m with
    | zero => exact fun _ => ⟨_, .zero, fun j h1 h2 => by omega⟩
    | succ m ih =>
      intro hm
      obtain ⟨w, hw, hb⟩ := ih (by omega)
      obtain ⟨p, ep⟩ : ∃ p, p = n - (m + 1) := ⟨_, rfl⟩
      have pn : p < n := by omega
      have pos := h.pos p pn
      obtain ⟨q, eq⟩ : ∃ q, q = (v p - w p) / rw' R p p := ⟨_, rfl⟩
      refine ⟨_, Lt.add hw (.smul q (.mem ⟨p, pn, rfl⟩)), fun j h1 h2 => ?_⟩
      by_cases e : j = p
      · subst e
        have a := Int.emod_nonneg (v j - w j) (show rw' R j j ≠ 0 by omega)
        have b := Int.emod_lt_of_pos (v j - w j) pos
        have c := Int.emod_add_mul_ediv (v j - w j) (rw' R j j)
        rw [← eq, Int.mul_comm] at c
        omega
      · rw [h.off p j pn (by omega), Int.mul_zero, Int.add_zero]
        exact hb j (by omega) h2
  obtain ⟨w, hw, hb⟩ := key n (Nat.le_refl _)
  have fx : ∀ j, j < n → fn ((List.range n).map fun j => v j - w j) j = v j - w j := fun j hj => by
    unfold fn
    rw [List.getElem?_map, List.getElem?_range hj]; rfl
  refine ⟨(List.range n).map fun j => v j - w j, mem_boxL.mpr ⟨by simp [heads_len], fun i hi => ?_⟩, hw.eq fun j => ?_⟩
  · rw [heads_len] at hi
    rw [fx i hi, heads_at hi]
    have := hb i (by omega) hi
    have := h.pos i hi
    omega
  · by_cases hj : j < n
    · rw [if_pos hj, fx j hj]; omega
    · rw [if_neg hj]
      exact (lt_zero_at (fun u ⟨k, _, e⟩ => by rw [e]; exact h.out (by omega)) hw).symm
theorem Tr.norm_one {n : Nat} {R : List (List Int)} (h : Tr n R) {x y : List Int} (hx : x ∈ boxL (heads n R)) (hy : y ∈ boxL (heads n R)) (hd : Lt (below R n) fun j => fn x j - fn y j) : x = y := by
  obtain ⟨x1, x2⟩ := mem_boxL.mp hx
  obtain ⟨y1, y2⟩ := mem_boxL.mp hy
  rw [heads_len] at x1 x2 y1 y2
  have key : ∀ m, m ≤ n → ∀ j, n - m ≤ j → fn x j - fn y j = 0 := by
    intro m
    induction m with
    | zero => exact fun _ j hj => by rw [fn_out (by omega), fn_out (by omega)]; rfl
    | succ m ih =>
      intro hm j hj
      by_cases e : n - m ≤ j
      · exact ih (by omega) j e
      · have jn : j < n := by omega
        have d := h.lead jn (h.low (q := j + 1) (by omega) hd fun i hi => ih (by omega) i (by omega))
        have a := x2 j jn
        have b := y2 j jn
        rw [heads_at jn] at a b
        have := h.pos j jn
        exact zero_of_dvd d (by omega) (by omega)
  exact fn_ext (by omega) fun j => by
    have := key n (Nat.le_refl _) j (by omega)
    omega
/-! ### the heads of a square and of its table -/
theorem lt_suF {n : Nat} {f : Nat → Vec} {w : Vec} (h : Lt (fun v => ∃ k, k < n ∧ v = f k) w) : ∃ c : Nat → Int, ∀ j, w j = su n fun k => c k * f k j := by
  induction h with
  | @mem u hu =>
    obtain ⟨k, hk, rfl⟩ := hu
    refine ⟨fun i => if i = k then 1 else 0, fun j => ?_⟩
    rw [su_one hk fun i _ hi => by simp [hi]]
    simp
  | zero => exact ⟨fun _ => 0, fun j => (su_zero fun k _ => by simp).symm⟩
  | @add u v _ _ a b =>
    obtain ⟨c, hc⟩ := a
    obtain ⟨d, hd⟩ := b
    refine ⟨fun k => c k + d k, fun j => ?_⟩
    show u j + v j = su n fun k => (c k + d k) * f k j
    rw [hc, hd, ← su_add]
    exact su_congr fun k _ => by rw [Int.add_mul]
  | @smul u x _ a =>
    obtain ⟨c, hc⟩ := a
    refine ⟨fun k => x * c k, fun j => ?_⟩
    show x * u j = su n fun k => (x * c k) * f k j
    rw [hc, ← su_mul]
    exact su_congr fun k _ => by rw [Int.mul_assoc]
/-- both ways round -/
theorem answers_both {n : Nat} {rest : Int} {R : List (List Int)} (h : Tr n R) {C : Nat → Nat → Int} (hC : ∀ k m, k < n → m < n → su n (fun j => rw' R m j * C j k) = rest * un k m) : ∀ i j, i < n → j < n → su n (fun k => C i k * rw' R k j) = rest * un i j := by
  intro i j hi hj
  have key := h.kernel (w := fun i => rest * un j i + (-1) * (if i < n then su n fun k => C i k * rw' R k j else 0)) (fun q hq => ?_) i hi
  · simp only [hi, if_true] at key
    have e : un j i = un i j := by
      by_cases e : i = j
      · subst e; rfl
      · rw [un_ne e, un_ne (fun q => e q.symm)]
    rw [e] at key
    omega
  · rw [dotV_addL, dotV_smulL, dotV_smulL, dotV_unit hj]
    have e2 : dotV n (fun i => if i < n then su n fun k => C i k * rw' R k j else 0) (rw' R q) = su n fun k => (rest * un k q) * rw' R k j := by
      rw [dotV_su]
      have a : ∀ i, i < n → (if i < n then su n fun k => C i k * rw' R k j else 0) * rw' R q i = su n fun k => rw' R q i * (C i k * rw' R k j) := fun i hi => by
        rw [if_pos hi, Int.mul_comm, ← su_mul]
      rw [su_congr a, su_swap]
      refine su_congr fun k hk => ?_
      rw [← hC k q hk hq, Int.mul_comm, ← su_mul]
      exact su_congr fun i _ => by rw [Int.mul_comm (rw' R k j), Int.mul_assoc]
    rw [e2, su_one hq fun k _ hne => by rw [un_ne (fun z => hne z.symm)]; simp, un_same]
    simp
    exact Int.add_right_neg _
/-- numbers, one for each row, brought into the box of the heads by a line's worths with the rows -/
theorem Tr.cols {n : Nat} {R : List (List Int)} (h : Tr n R) (m : Vec) : ∃ z : Vec, ∀ k, k < n → 0 ≤ m k - su n (fun j => rw' R k j * z j) ∧ m k - su n (fun j => rw' R k j * z j) < rw' R k k := by
  have key : ∀ p, p ≤ n → ∃ z : Vec, (∀ j, p ≤ j → z j = 0) ∧ ∀ k, k < p → 0 ≤ m k - su n (fun j => rw' R k j * z j) ∧ m k - su n (fun j => rw' R k j * z j) < rw' R k k := by
    intro p
    induction p with
    | zero => exact fun _ => ⟨fun _ => 0, fun _ _ => rfl, fun k hk => by omega⟩
    | succ p ih =>
      intro hp
      obtain ⟨z, hz, hb⟩ := ih (by omega)
      have pos := h.pos p (by omega)
      obtain ⟨c, ec⟩ : ∃ c, c = (m p - su n fun j => rw' R p j * z j) / rw' R p p := ⟨_, rfl⟩
      have e : ∀ k, su n (fun j => rw' R k j * (z j + c * un p j)) = su n (fun j => rw' R k j * z j) + c * rw' R k p := fun k => by
        have : ∀ j, rw' R k j * (z j + c * un p j) = rw' R k j * z j + c * (rw' R k j * un p j) := fun j => by
          rw [Int.mul_add, Int.mul_left_comm]
        rw [su_congr fun j _ => this j, su_add, su_mul, su_single_mul n _ p (by omega)]
      refine ⟨fun j => z j + c * un p j, fun j hj => ?_, fun k hk => ?_⟩
      · show z j + c * un p j = 0
        rw [hz j (by omega), un_ne (by omega)]; simp
      · rw [e]
        by_cases ek : k = p
        · subst ek
          have a := Int.emod_nonneg (m k - su n fun j => rw' R k j * z j) (show rw' R k k ≠ 0 by omega)
          have b := Int.emod_lt_of_pos (m k - su n fun j => rw' R k j * z j) pos
          have d := Int.emod_add_mul_ediv (m k - su n fun j => rw' R k j * z j) (rw' R k k)
          rw [← ec, Int.mul_comm] at d
          omega
        · rw [h.off k p (by omega) (by omega), Int.mul_zero, Int.add_zero]
          exact hb k (by omega)
  obtain ⟨z, _, hb⟩ := key n (Nat.le_refl _)
  exact ⟨z, hb⟩
theorem Tr.cols_one {n : Nat} {R : List (List Int)} (h : Tr n R) {d z : Vec} (hd : ∀ k, k < n → d k = su n fun j => rw' R k j * z j) (hs : ∀ k, k < n → d k < rw' R k k ∧ -(rw' R k k) < d k) : ∀ k, k < n → d k = 0 := by
  have key : ∀ p, p ≤ n → ∀ k, k < p → d k = 0 ∧ z k = 0 := by
    intro p
    induction p with
    | zero => intro _ k hk; omega
    | succ p ih =>
      intro hp k hk
      by_cases e : k < p
      · exact ih (by omega) k e
      · have : k = p := by omega
        subst this
        have e1 := hd k (by omega)
        rw [su_one (p := k) (by omega) fun j hj hne => by
          by_cases hlt : j < k
          · rw [(ih (by omega) j hlt).2, Int.mul_zero]
          · rw [h.off k j (by omega) (by omega), Int.zero_mul]] at e1
        have pos := h.pos k (by omega)
        have b := hs k (by omega)
        have d0 := zero_of_dvd (d := rw' R k k) ⟨z k, e1⟩ b.1 b.2
        refine ⟨d0, ?_⟩
        rw [d0] at e1
        rcases Int.mul_eq_zero.mp e1.symm with q | q
        · omega
        · exact q
  exact fun k hk => (key n (Nat.le_refl _) k hk).1
theorem table_heads {n : Nat} {rest : Int} (hr : 0 < rest) {R Q : List (List Int)} (h : Tr n R) (hrst : ∀ j, j < n → Lt (below R n) fun i => rest * un j i) (t : Table n rest R Q) : prodL (heads n Q) * prodL (heads n R) = prodL (List.replicate n rest.toNat) := by
  obtain ⟨C, hC⟩ := answers h hrst
  have hB := answers_both h hC
  have hQ := t.sq.tr
  obtain ⟨f, ef⟩ : ∃ f : List Int × List Int → List Int, f = fun p => (List.range n).map fun j => (fn p.1 j + su n fun k => fn p.2 k * C j k) % rest := ⟨_, rfl⟩
  have ff : ∀ p j, j < n → fn (f p) j = (fn p.1 j + su n fun k => fn p.2 k * C j k) % rest := fun p j hj => by
    rw [ef]
    unfold fn
    rw [List.getElem?_map, List.getElem?_range hj]; rfl
  have fl : ∀ p, (f p).length = n := fun p => by rw [ef]; simp
  -- combinations of answers are even
  have comb : ∀ d : Nat → Int, Lt (below Q n) fun j => if j < n then su n fun k => d k * C j k else 0 := fun d => by
    refine (t.iff _).mpr ⟨fun m hm => ?_, fun j hj => by show (if j < n then _ else (0 : Int)) = 0; rw [if_neg (by omega)]⟩
    have e : dotV n (fun j => if j < n then su n fun k => d k * C j k else 0) (rw' R m) = su n fun k => d k * (rest * un k m) := by
      rw [dotV_su]
      have a : ∀ j, j < n → (if j < n then su n fun k => d k * C j k else 0) * rw' R m j = su n fun k => rw' R m j * (d k * C j k) := fun j hj => by
        rw [if_pos hj, Int.mul_comm, ← su_mul]
      rw [su_congr a, su_swap]
      refine su_congr fun k hk => ?_
      rw [← hC k m hk hm, ← su_mul]
      exact su_congr fun j _ => by rw [Int.mul_left_comm]
    rw [e, su_one hm fun k _ hne => by rw [un_ne (fun q => hne q.symm)]; simp, un_same, Int.mul_one]
    exact Int.dvd_mul_left _ _
  have dec : ∀ d : Nat → Int, (∀ j, j < n → rest ∣ su n fun k => d k * C j k) → ∃ z : Vec, ∀ i, i < n → d i = su n fun j => rw' R i j * z j := fun d hd => by
    have hz : ∀ j, ∃ z : Int, j < n → (su n fun k => d k * C j k) = rest * z := fun j => by
      by_cases hj : j < n
      · obtain ⟨z, e⟩ := hd j hj
        exact ⟨z, fun _ => e⟩
      · exact ⟨0, fun q => absurd q hj⟩
    obtain ⟨z, hz⟩ := Classical.axiomOfChoice hz
    refine ⟨z, fun i hi => Int.eq_of_mul_eq_mul_left (a := rest) (by omega) ?_⟩
    rw [← su_mul]
    have e1 : su n (fun j => rest * (rw' R i j * z j)) = su n fun j => su n fun k => rw' R i j * (d k * C j k) := su_congr fun j hj => by
      rw [su_mul, hz j hj, Int.mul_left_comm]
    rw [e1, su_swap]
    have e2 : su n (fun k => su n fun j => rw' R i j * (d k * C j k)) = su n fun k => d k * (rest * un k i) := su_congr fun k hk => by
      rw [← hC k i hk hi, ← su_mul]
      exact su_congr fun j _ => by rw [Int.mul_left_comm]
    rw [e2, su_one hi fun k _ hne => by rw [un_ne (fun q => hne q.symm)]; simp, un_same, Int.mul_one, Int.mul_comm]
  have := card_bij f (pairsL (boxL (heads n Q)) (boxL (heads n R))) (boxL (List.replicate n rest.toNat)) (nodup_pairsL (nodup_boxL _) (nodup_boxL _)) (nodup_boxL _) (fun p hp => ?_) (fun p hp q hq e => ?_) (fun b hb => ?_)
  · rw [pairsL_len, boxL_len, boxL_len, boxL_len] at this
    exact this
  · refine mem_boxL.mpr ⟨by rw [fl]; simp, fun i hi => ?_⟩
    rw [List.length_replicate] at hi
    rw [ff p i hi, List.getElem?_replicate, if_pos hi, Option.getD_some]
    have a := Int.emod_nonneg (fn p.1 i + su n fun k => fn p.2 k * C i k) (show rest ≠ 0 by omega)
    have b := Int.emod_lt_of_pos (fn p.1 i + su n fun k => fn p.2 k * C i k) hr
    omega
  · obtain ⟨p1, p2⟩ := mem_pairsL.mp hp
    obtain ⟨q1, q2⟩ := mem_pairsL.mp hq
    obtain ⟨b1, b2⟩ := mem_boxL.mp p1
    obtain ⟨c1, c2⟩ := mem_boxL.mp q1
    rw [heads_len] at b1 c1
    -- alike by the rest
    have al : ∀ j, j < n → rest ∣ (fn p.1 j - fn q.1 j) - su n fun k => (fn q.2 k - fn p.2 k) * C j k := fun j hj => by
      have e1 := ff p j hj
      have e2 := ff q j hj
      rw [e] at e1
      have e3 := e1.symm.trans e2
      have e4 := Int.emod_emod_of_dvd _ (Int.dvd_refl rest) ▸ e3
      have d := Int.dvd_of_emod_eq_zero (Int.emod_eq_emod_iff_emod_sub_eq_zero.mp e3)
      have s : su n (fun k => (fn q.2 k - fn p.2 k) * C j k) = su n (fun k => fn q.2 k * C j k) + (-1) * su n (fun k => fn p.2 k * C j k) := by
        rw [← su_mul, ← su_add]
        exact su_congr fun k _ => by rw [Int.sub_mul]; omega
      rw [s]
      have e5 : fn p.1 j - fn q.1 j - (su n (fun k => fn q.2 k * C j k) + (-1) * su n (fun k => fn p.2 k * C j k)) = (fn p.1 j + su n fun k => fn p.2 k * C j k) - (fn q.1 j + su n fun k => fn q.2 k * C j k) := by omega
      rw [e5]; exact d
    have x12 : p.1 = q.1 := by
      refine hQ.norm_one p1 q1 (lt_alike (rest := rest) (p := n) t.rst (comb fun k => fn q.2 k - fn p.2 k) (fun j hj => ?_) fun j hj => ?_)
      · rw [if_neg (by omega), fn_out (by omega), fn_out (by omega)]; rfl
      · rw [if_pos hj]; exact al j hj
    obtain ⟨d1, d2⟩ := mem_boxL.mp p2
    obtain ⟨f1, f2⟩ := mem_boxL.mp q2
    rw [heads_len] at d1 f1 d2 f2
    obtain ⟨z, hz⟩ := dec (fun k => fn q.2 k - fn p.2 k) fun j hj => by
      have := al j hj
      rw [x12] at this
      have := Int.dvd_neg.mpr this
      have e6 : -((fn q.1 j - fn q.1 j) - su n fun k => (fn q.2 k - fn p.2 k) * C j k) = su n fun k => (fn q.2 k - fn p.2 k) * C j k := by omega
      rwa [e6] at this
    have z0 := h.cols_one hz fun k hk => by
      have a := d2 k hk
      have b := f2 k hk
      rw [heads_at hk] at a b
      have := h.pos k hk
      omega
    have m12 : p.2 = q.2 := fn_ext (by omega) fun k => by
      by_cases hk : k < n
      · have := z0 k hk; omega
      · rw [fn_out (by omega), fn_out (by omega)]
    exact Prod.ext x12 m12
  · obtain ⟨b1, b2⟩ := mem_boxL.mp hb
    rw [List.length_replicate] at b1 b2
    obtain ⟨x, hx, hxl⟩ := hQ.norm (fn b)
    have ev := (t.iff _).mp hxl
    -- the difference, by answers
    have hm : ∀ k, ∃ m : Int, k < n → dotV n (fun j => if j < n then fn b j - fn x j else 0) (rw' R k) = rest * m := fun k => by
      by_cases hk : k < n
      · obtain ⟨m, e⟩ := ev.1 k hk
        exact ⟨m, fun _ => e⟩
      · exact ⟨0, fun q => absurd q hk⟩
    obtain ⟨m0, hm0⟩ := Classical.axiomOfChoice hm
    have e0 : ∀ j, j < n → fn b j - fn x j = su n fun k => m0 k * C j k := fun j hj => by
      have key := h.kernel (w := fun i => (if i < n then fn b i - fn x i else 0) + (-1) * (if i < n then su n fun k => m0 k * C i k else 0)) (fun q hq => ?_) j hj
      · simp only [hj, if_true] at key
        omega
      · rw [dotV_addL, dotV_smulL, hm0 q hq]
        have a : dotV n (fun i => if i < n then su n fun k => m0 k * C i k else 0) (rw' R q) = su n fun k => m0 k * (rest * un k q) := by
          rw [dotV_su]
          have a : ∀ j, j < n → (if j < n then su n fun k => m0 k * C j k else 0) * rw' R q j = su n fun k => rw' R q j * (m0 k * C j k) := fun j hj => by
            rw [if_pos hj, Int.mul_comm, ← su_mul]
          rw [su_congr a, su_swap]
          refine su_congr fun k hk => ?_
          rw [← hC k q hk hq, ← su_mul]
          exact su_congr fun j _ => by rw [Int.mul_left_comm]
        rw [a, su_one hq fun k _ hne => by rw [un_ne (fun z => hne z.symm)]; simp, un_same, Int.mul_one, Int.mul_comm rest]
        omega
    obtain ⟨z, hz⟩ := h.cols m0
    have fy : ∀ k, k < n → fn ((List.range n).map fun k => m0 k - su n fun j => rw' R k j * z j) k = m0 k - su n fun j => rw' R k j * z j := fun k hk => by
      unfold fn
      rw [List.getElem?_map, List.getElem?_range hk]; rfl
    refine ⟨(x, (List.range n).map fun k => m0 k - su n fun j => rw' R k j * z j), mem_pairsL.mpr ⟨hx, mem_boxL.mpr ⟨by simp [heads_len], fun i hi => ?_⟩⟩, ?_⟩
    · rw [heads_len] at hi
      rw [fy i hi, heads_at hi]
      have := hz i hi
      have := h.pos i hi
      omega
    · refine fn_ext (by rw [fl, b1]) fun j => ?_
      by_cases hj : j < n
      · rw [ff _ j hj]
        have e1 : su n (fun k => fn ((List.range n).map fun k => m0 k - su n fun j => rw' R k j * z j) k * C j k) = su n (fun k => m0 k * C j k) + (-1) * (rest * z j) := by
          have a : ∀ k, k < n → fn ((List.range n).map fun k => m0 k - su n fun j => rw' R k j * z j) k * C j k = m0 k * C j k + (-1) * su n fun i => z i * (C j k * rw' R k i) := fun k hk => by
            rw [fy k hk, Int.sub_mul, Int.mul_comm (su n _), ← su_mul]
            have : su n (fun i => C j k * (rw' R k i * z i)) = su n fun i => z i * (C j k * rw' R k i) := su_congr fun i _ => by
              rw [Int.mul_comm (rw' R k i), Int.mul_left_comm]
            rw [this]; omega
          rw [su_congr a, su_add, su_mul, su_swap]
          have e2 : su n (fun i => su n fun k => z i * (C j k * rw' R k i)) = su n fun i => z i * (rest * un j i) := su_congr fun i hi => by
            rw [su_mul, hB j i hj hi]
          have e4 : su n (fun i => z i * (rest * un j i)) = rest * z j := by
            rw [su_one (f := fun i => z i * (rest * un j i)) hj fun i _ hne => by rw [un_ne hne]; simp, un_same, Int.mul_one, Int.mul_comm (z j)]
          rw [e2, e4]
        have bb := b2 j hj
        rw [List.getElem?_replicate, if_pos hj, Option.getD_some] at bb
        show (fn x j + _) % rest = fn b j
        rw [e1, ← e0 j hj]
        have e3 : fn x j + (fn b j - fn x j + (-1) * (rest * z j)) = fn b j + rest * (-(z j)) := by rw [Int.mul_neg]; omega
        rw [e3, Int.add_mul_emod_self_left]
        exact Int.emod_eq_of_lt bb.1 (by omega)
      · rw [fn_out (by rw [fl]; omega), fn_out (by omega)]
end EN

set_option exponentiation.threshold 100000
/-! SQ4: what comes by adding lines -/
namespace EN
open FL
/-! ### what comes by adding -/
def addM (rest : Int) (m l : List Int) : List Int := List.zipWith (fun x y => (x + y) % rest) m l
theorem addM_len {rest : Int} {m l : List Int} (h : m.length = l.length) : (addM rest m l).length = l.length := by unfold addM; simp [h]
theorem fn_addM {rest : Int} {m l : List Int} (h : m.length = l.length) (j : Nat) : fn (addM rest m l) j = (fn m j + fn l j) % rest := by
  unfold addM
  exact fn_zip _ (by simp) _ _ h j
/-- what was met, what waits; B: the next one's lines that were looked at -/
structure Met (n : Nat) (rest : Int) (lines : List (List Int)) (M W : List (List Int)) : Prop where
  nd : M.Nodup
  box : ∀ m ∈ M, m ∈ boxL (List.replicate n rest.toNat)
  zero : List.replicate n 0 ∈ M
  sub : ∀ w ∈ W, w ∈ M
  come : ∀ m ∈ M, Lt (gens n rest lines) (fn m)
  closed : ∀ m ∈ M, m ∉ W → ∀ l ∈ lines, addM rest m l ∈ M
theorem mem_box {n : Nat} {rest : Int} (hr : 0 < rest) {v : List Int} : v ∈ boxL (List.replicate n rest.toNat) ↔ v.length = n ∧ ∀ j, 0 ≤ fn v j ∧ fn v j < rest := by
  rw [mem_boxL, List.length_replicate]
  refine ⟨fun ⟨h1, h2⟩ => ⟨h1, fun j => ?_⟩, fun ⟨h1, h2⟩ => ⟨h1, fun i hi => ?_⟩⟩
  · by_cases hj : j < n
    · have := h2 j hj
      rw [List.getElem?_replicate, if_pos hj, Option.getD_some] at this
      omega
    · rw [fn_out (by omega)]; omega
  · rw [List.getElem?_replicate, if_pos hi, Option.getD_some]
    have := h2 i
    omega
theorem fn_rep0 (n j : Nat) : fn (List.replicate n 0) j = 0 := by
  unfold fn
  rw [List.getElem?_replicate]
  split <;> rfl
theorem Met.start {n : Nat} {rest : Int} (hr : 0 < rest) (lines : List (List Int)) : Met n rest lines [List.replicate n 0] [List.replicate n 0] := by
  refine ⟨by simp, fun m hm => ?_, by simp, fun w hw => hw, fun m hm => ?_, fun m hm hn => absurd hm hn⟩
  · rw [List.mem_singleton] at hm
    rw [hm]
    exact (mem_box hr).mpr ⟨by simp, fun j => by rw [fn_rep0]; omega⟩
  · rw [List.mem_singleton] at hm
    rw [hm]
    exact Lt.zero.eq fun j => fn_rep0 n j
theorem Met.le {n : Nat} {rest : Int} {lines M W : List (List Int)} (h : Met n rest lines M W) : M.length ≤ prodL (List.replicate n rest.toNat) := by
  rw [← boxL_len]
  exact card_inj (fun x => x) M _ h.nd h.box (fun _ _ _ _ e => e)
/-- one is looked through: the lines ls are still to be added -/
structure Mid (n : Nat) (rest : Int) (lines : List (List Int)) (one : List Int) (ls : List (List Int)) (M W : List (List Int)) : Prop where
  nd : M.Nodup
  box : ∀ m ∈ M, m ∈ boxL (List.replicate n rest.toNat)
  zero : List.replicate n 0 ∈ M
  sub : ∀ w ∈ W, w ∈ M
  come : ∀ m ∈ M, Lt (gens n rest lines) (fn m)
  closed : ∀ m ∈ M, m ∉ W → m ≠ one → ∀ l ∈ lines, addM rest m l ∈ M
  here : one ∈ M
  done : ∀ l ∈ lines, l ∈ ls ∨ addM rest one l ∈ M
theorem Met.pop {n : Nat} {rest : Int} {lines M W : List (List Int)} {one : List Int} (h : Met n rest lines M (W ++ [one])) : Mid n rest lines one lines M W :=
  ⟨h.nd, h.box, h.zero, fun w hw => h.sub w (List.mem_append_left _ hw), h.come, fun m hm hw hne => h.closed m hm fun q => by
    rcases List.mem_append.mp q with q | q
    · exact hw q
    · exact hne (List.mem_singleton.mp q), h.sub one (by simp), fun l hl => .inl hl⟩
theorem Mid.done' {n : Nat} {rest : Int} {lines M W : List (List Int)} {one : List Int} (h : Mid n rest lines one [] M W) : Met n rest lines M W :=
  ⟨h.nd, h.box, h.zero, h.sub, h.come, fun m hm hw l hl => by
    by_cases e : m = one
    · rcases h.done l hl with q | q
      · cases q
      · rw [e]; exact q
    · exact h.closed m hm hw e l hl⟩
theorem Mid.old {n : Nat} {rest : Int} {lines M W : List (List Int)} {one l : List Int} {ls : List (List Int)} (h : Mid n rest lines one (l :: ls) M W) (hm : addM rest one l ∈ M) : Mid n rest lines one ls M W :=
  ⟨h.nd, h.box, h.zero, h.sub, h.come, h.closed, h.here, fun l' hl => by
    rcases h.done l' hl with q | q
    · rcases List.mem_cons.mp q with rfl | q
      · exact .inr hm
      · exact .inl q
    · exact .inr q⟩
theorem Mid.new {n : Nat} {rest : Int} (hr : 0 < rest) {lines M W : List (List Int)} (hl : ∀ l ∈ lines, l.length = n) {one l : List Int} {ls : List (List Int)} (h : Mid n rest lines one (l :: ls) M W) (hin : l ∈ lines) (hm : addM rest one l ∉ M) : Mid n rest lines one ls (M ++ [addM rest one l]) (W ++ [addM rest one l]) := by
  have ol := ((mem_box hr).mp (h.box one h.here)).1
  have ll := hl l hin
  refine ⟨List.nodup_append.mpr ⟨h.nd, by simp, fun a ha b hb => ?_⟩, fun m hm => ?_, List.mem_append_left _ h.zero, fun w hw => ?_, fun m hm => ?_, fun m hm hw hne l' hl' => ?_, List.mem_append_left _ h.here, fun l' hl' => ?_⟩
  · rw [List.mem_singleton] at hb
    rw [hb]
    exact fun e => hm (by rw [← e]; exact ha)
  · rcases List.mem_append.mp hm with hm | hm
    · exact h.box m hm
    · rw [List.mem_singleton] at hm
      rw [hm]
      refine (mem_box hr).mpr ⟨by rw [addM_len (by omega), ll], fun j => ?_⟩
      rw [fn_addM (by omega)]
      exact ⟨Int.emod_nonneg _ (by omega), Int.emod_lt_of_pos _ hr⟩
  · rcases List.mem_append.mp hw with hw | hw
    · exact List.mem_append_left _ (h.sub w hw)
    · exact List.mem_append_right _ hw
  · rcases List.mem_append.mp hm with hm | hm
    · exact h.come m hm
    · rw [List.mem_singleton] at hm
      rw [hm]
      refine lt_alike (rest := rest) (p := n) (fun j hj => .mem (.inr ⟨j, hj, rfl⟩)) (Lt.add (h.come one h.here) (.mem (.inl ⟨l, hin, rfl⟩))) (fun j hj => ?_) fun j hj => ?_
      · rw [fn_out (by rw [addM_len (by omega)]; omega), fn_out (xs := one) (by omega), fn_out (xs := l) (by omega)]; rfl
      · rw [fn_addM (by omega)]
        exact dvd_emod_sub _ _
  · rcases List.mem_append.mp hm with hm | hm
    · exact List.mem_append_left _ (h.closed m hm (fun q => hw (List.mem_append_left _ q)) hne l' hl')
    · exact absurd (List.mem_append_right _ hm) hw
  · rcases h.done l' hl' with q | q
    · rcases List.mem_cons.mp q with rfl | q
      · exact .inr (by simp)
      · exact .inl q
    · exact .inr (List.mem_append_left _ q)
/-- all that are whole sums were met -/
theorem Met.all {n : Nat} {rest : Int} (hr : 0 < rest) {lines M : List (List Int)} (hl : ∀ l ∈ lines, l.length = n) (h : Met n rest lines M []) {v : List Int} (hb : v ∈ boxL (List.replicate n rest.toNat)) (hv : Lt (gens n rest lines) (fn v)) : v ∈ M := by
  have key : ∀ u : Vec, Lt (gens n rest lines) u → ∀ m ∈ M, ∃ m' ∈ M, ∀ j, j < n → rest ∣ fn m j + u j - fn m' j := by
    intro u hu
    induction hu with
    | @mem u hu =>
      intro m hm
      rcases hu with ⟨l, hin, rfl⟩ | ⟨i, _, rfl⟩
      · have ml := ((mem_box hr).mp (h.box m hm)).1
        have ll := hl l hin
        refine ⟨addM rest m l, h.closed m hm (by simp) l hin, fun j _ => ?_⟩
        rw [fn_addM (by omega)]
        have := Int.dvd_neg.mpr (dvd_emod_sub rest (fn m j + fn l j))
        rwa [Int.neg_sub] at this
      · refine ⟨m, hm, fun j _ => ?_⟩
        have : fn m j + rest * un i j - fn m j = rest * un i j := by omega
        rw [this]; exact Int.dvd_mul_right _ _
    | zero => exact fun m hm => ⟨m, hm, fun j _ => by simp⟩
    | @add u w _ _ a b =>
      intro m hm
      obtain ⟨m1, h1, e1⟩ := a m hm
      obtain ⟨m2, h2, e2⟩ := b m1 h1
      refine ⟨m2, h2, fun j hj => ?_⟩
      have := Int.dvd_add (e1 j hj) (e2 j hj)
      have e : fn m j + u j - fn m1 j + (fn m1 j + w j - fn m2 j) = fn m j + (u j + w j) - fn m2 j := by omega
      rwa [e] at this
    | @smul u c _ a =>
      have rep : ∀ k : Nat, ∀ m ∈ M, ∃ m' ∈ M, ∀ j, j < n → rest ∣ fn m j + (k : Int) * u j - fn m' j := by
        intro k
        induction k with
        | zero => exact fun m hm => ⟨m, hm, fun j _ => by simp⟩
        | succ k ih =>
          intro m hm
          obtain ⟨m1, h1, e1⟩ := ih m hm
          obtain ⟨m2, h2, e2⟩ := a m1 h1
          refine ⟨m2, h2, fun j hj => ?_⟩
          have := Int.dvd_add (e1 j hj) (e2 j hj)
          have e : fn m j + (k : Int) * u j - fn m1 j + (fn m1 j + u j - fn m2 j) = fn m j + ((k + 1 : Nat) : Int) * u j - fn m2 j := by
            rw [Int.natCast_add, Int.add_mul]; omega
          rwa [e] at this
      intro m hm
      have c0 := Int.emod_nonneg c (show rest ≠ 0 by omega)
      obtain ⟨m1, h1, e1⟩ := rep (c % rest).toNat m hm
      refine ⟨m1, h1, fun j hj => ?_⟩
      have := e1 j hj
      rw [Int.toNat_of_nonneg c0] at this
      have d2 : rest ∣ (c - c % rest) * u j := Int.dvd_mul_of_dvd_left (by
        have := Int.dvd_neg.mpr (dvd_emod_sub rest c)
        rwa [Int.neg_sub] at this)
      have := Int.dvd_add this d2
      have e : fn m j + c % rest * u j - fn m1 j + (c - c % rest) * u j = fn m j + c * u j - fn m1 j := by rw [Int.sub_mul]; omega
      rwa [e] at this
  obtain ⟨m, hm, e⟩ := key _ hv _ h.zero
  obtain ⟨b1, b2⟩ := (mem_box hr).mp hb
  obtain ⟨c1, c2⟩ := (mem_box hr).mp (h.box m hm)
  have : v = m := fn_ext (by omega) fun j => by
    by_cases hj : j < n
    · have d := e j hj
      rw [fn_rep0] at d
      have a := b2 j
      have b := c2 j
      have := zero_of_dvd d (by omega) (by omega)
      omega
    · rw [fn_out (by omega), fn_out (by omega)]
  rw [this]; exact hm
/-- as many as the rest, as often as a line is long, divided by the heads' product -/
theorem Met.count {n : Nat} {rest : Int} (hr : 0 < rest) {lines M R : List (List Int)} (hl : ∀ l ∈ lines, l.length = n) (h : Met n rest lines M []) (g : Ground n rest lines R) : M.length * prodL (heads n R) = prodL (List.replicate n rest.toNat) := by
  have tr := g.sq.tr
  have rst : ∀ j, j < n → Lt (below R n) fun i => rest * un j i := fun j hj => (g.iff _).mpr (.mem (.inr ⟨j, hj, rfl⟩))
  have fl : ∀ p : List Int × List Int, p.1.length = n → p.2.length = n → (addM rest p.1 p.2).length = n := fun p h1 h2 => by rw [addM_len (by omega), h2]
  have := card_bij (fun p : List Int × List Int => addM rest p.1 p.2) (pairsL M (boxL (heads n R))) (boxL (List.replicate n rest.toNat)) (nodup_pairsL h.nd (nodup_boxL _)) (nodup_boxL _) (fun p hp => ?_) (fun p hp q hq e => ?_) (fun b hb => ?_)
  · rw [pairsL_len, boxL_len, boxL_len] at this
    exact this
  · obtain ⟨p1, p2⟩ := mem_pairsL.mp hp
    obtain ⟨a1, _⟩ := (mem_box hr).mp (h.box _ p1)
    obtain ⟨b1, _⟩ := mem_boxL.mp p2
    rw [heads_len] at b1
    refine (mem_box hr).mpr ⟨fl p a1 b1, fun j => ?_⟩
    show 0 ≤ fn (addM rest p.1 p.2) j ∧ _
    rw [fn_addM (by omega)]
    exact ⟨Int.emod_nonneg _ (by omega), Int.emod_lt_of_pos _ hr⟩
  · obtain ⟨p1, p2⟩ := mem_pairsL.mp hp
    obtain ⟨q1, q2⟩ := mem_pairsL.mp hq
    obtain ⟨a1, a2⟩ := (mem_box hr).mp (h.box _ p1)
    obtain ⟨b1, b2⟩ := mem_boxL.mp p2
    obtain ⟨c1, c2⟩ := (mem_box hr).mp (h.box _ q1)
    obtain ⟨d1, d2⟩ := mem_boxL.mp q2
    rw [heads_len] at b1 d1
    have al : ∀ j, rest ∣ (fn p.1 j + fn p.2 j) - (fn q.1 j + fn q.2 j) := fun j => by
      have e1 := fn_addM (rest := rest) (m := p.1) (l := p.2) (by omega) j
      have e2 := fn_addM (rest := rest) (m := q.1) (l := q.2) (by omega) j
      have e' : addM rest p.1 p.2 = addM rest q.1 q.2 := e
      rw [e'] at e1
      exact Int.dvd_of_emod_eq_zero (Int.emod_eq_emod_iff_emod_sub_eq_zero.mp (e1.symm.trans e2))
    have x12 : p.2 = q.2 := by
      refine tr.norm_one p2 q2 (lt_alike (rest := rest) (p := n) rst (Lt.lin ((g.iff _).mpr (h.come _ q1)) ((g.iff _).mpr (h.come _ p1)) 1 (-1)) (fun j hj => ?_) fun j hj => ?_)
      · rw [fn_out (xs := p.2) (by omega), fn_out (xs := q.2) (by omega), fn_out (xs := p.1) (by omega), fn_out (xs := q.1) (by omega)]; rfl
      · have := al j
        have e5 : fn p.2 j - fn q.2 j - (1 * fn q.1 j + -1 * fn p.1 j) = fn p.1 j + fn p.2 j - (fn q.1 j + fn q.2 j) := by omega
        rw [e5]; exact this
    have m12 : p.1 = q.1 := fn_ext (by omega) fun j => by
      have d := al j
      rw [x12] at d
      have a := a2 j
      have b := c2 j
      have := zero_of_dvd d (by omega) (by omega)
      omega
    exact Prod.ext m12 x12
  · obtain ⟨b1, b2⟩ := (mem_box hr).mp hb
    obtain ⟨x, hx, hxl⟩ := tr.norm (fn b)
    obtain ⟨x1, x2⟩ := mem_boxL.mp hx
    rw [heads_len] at x1
    obtain ⟨m, hm⟩ : ∃ m, m = (List.range n).map fun j => (fn b j - fn x j) % rest := ⟨_, rfl⟩
    have ml : m.length = n := by rw [hm]; simp
    have mf : ∀ j, j < n → fn m j = (fn b j - fn x j) % rest := fun j hj => by
      rw [hm]
      unfold fn
      rw [List.getElem?_map, List.getElem?_range hj]; rfl
    have mb : m ∈ boxL (List.replicate n rest.toNat) := (mem_box hr).mpr ⟨ml, fun j => by
      by_cases hj : j < n
      · rw [mf j hj]
        exact ⟨Int.emod_nonneg _ (by omega), Int.emod_lt_of_pos _ hr⟩
      · rw [fn_out (by omega)]; omega⟩
    have mi : m ∈ M := h.all hr hl mb ((g.iff _).mp (lt_alike (rest := rest) (p := n) rst hxl (fun j hj => by
      rw [fn_out (by omega), if_neg (by omega)]) fun j hj => by
      rw [mf j hj, if_pos hj]
      exact dvd_emod_sub _ _))
    refine ⟨(m, x), mem_pairsL.mpr ⟨mi, hx⟩, fn_ext (by show (addM rest m x).length = b.length; rw [addM_len (by omega)]; omega) fun j => ?_⟩
    show fn (addM rest m x) j = fn b j
    rw [fn_addM (by omega)]
    by_cases hj : j < n
    · rw [mf j hj, Int.emod_add_emod, show fn b j - fn x j + fn x j = fn b j by omega]
      exact Int.emod_eq_of_lt (b2 j).1 (b2 j).2
    · rw [fn_out (xs := m) (by omega), fn_out (xs := x) (by omega), fn_out (xs := b) (by omega)]; simp
end EN

/-! FM: list(reversed(x)), ranges that go down, xs[i] = v -/
namespace FL
open PySem PySem.Spec PyProof.Rows RT
section
variable {prog : Program} {w : World} {A : Around} {E : Value → Shared → Prop} {s : Shared}
theorem list_init_rev {R : Result → Shared → Prop} {it l : Addr} {items : Array Value} (hh : A.handled = none) (hit : s.heap.IsRevIter it l ((items.size : Int) - 1)) (hl : s.heap.IsList l items) (hne : l ≠ it) (hn : items.size ≤ sizeLine)
    (S : Addr) (hSi : S ≠ it) (hSl : S ≠ l) (hS : s.heap.get? S = some { cls := .type "list", data := .seq #[] })
    (hR : ∀ h' tk acc' c', (∀ b o, b ≠ S → b ≠ it → s.heap.get? b = some o → h'.get? b = some o) → h'.get? S = some { cls := .type "list", dict := none, data := .seq acc' c', slots := #[] } →
      ItemsOf (fun i v => items[items.size - 1 - i]? = some v) acc' items.size → R (.ok (.ret .none)) { s with heap := h', toks := tk }) :
    wpAny (model prog w) A.in1 (Builtin.«list.__init__» ⟨[.ref S, .ref it], []⟩)
      (fun fin s' => match fin with | .done f => R (.ok f) s' | .again c' => c'.quiet = true ∧ codeAny (model prog w) A c' R s') (fun e s' => R (.error e) s') s := by
  have W := (Walks.listRev (prog := prog) (w := w) (A := A.in1) hh it l hne items).toS
  have hSf : S ∉ [it, l] := by simp only [List.mem_cons, List.not_mem_nil, or_false, not_or]; exact ⟨hSi, hSl⟩
  show wpAny _ _ (do let old ← Builtin.List.listItems (.ref S); Builtin.List.listUpdate (.ref S) (fun _ => #[]); letGo old.toList.reverse; Builtin.List.listExtendWith (.ref S) (.ref it) .none) _ _ s
  refine wpAny_bind ?_
  unfold Builtin.List.listItems
  refine wpAny_bind (wpAny_seqItems hS rfl (wpAny_pure ?_))
  show wpAny _ _ (updateSeq S (fun _ => #[]) >>= fun _ => letGo (#[] : Array Value).toList.reverse >>= fun _ => Builtin.List.listExtendWith (.ref S) (.ref it) .none) _ _ s
  refine wpAny_bind (wpAny_updateSeq hS rfl ?_)
  have hS₂ := Heap.get?_update_self (Obj.mapSeq (fun _ => (#[] : Array Value))) hS rfl
  have oth : ∀ b o, b ≠ S → s.heap.get? b = some o → (s.heap.update S (Obj.mapSeq (fun _ => (#[] : Array Value)))).get? b = some o :=
    fun b o hb e => (Heap.get?_update_other _ _ (Ne.symm hb)).trans e
  refine wpAny_bind (wpAny_letGo ?_)
  generalize hh2 : s.heap.update S (Obj.mapSeq (fun _ => (#[] : Array Value))) = h2 at hS₂ oth ⊢
  have hit1 : h2.IsRevIter it l ((items.size : Int) - 1) := hit.at fun o e => oth it o (Ne.symm hSi) e
  have hl1 : h2.IsList l items := let ⟨o, e, r⟩ := hl; ⟨o, oth l o (Ne.symm hSl) e, r⟩
  have hT : ({ s with heap := h2 } : Shared).TypeIs (.ref it) "list_reverseiterator" := Heap.IsRevIter.typeIs (s := { s with heap := h2 }) hit1
  have h1 : Builtin.List.listSameRef (.ref S) (.ref it) = false := by simp [Builtin.List.listSameRef, hSi]
  unfold Builtin.List.listExtendWith
  refine wpAny_bind (wpAny_typeOf hT ?_)
  rw [if_neg (by rw [h1]; decide)]
  refine wpAny_bind (wpAny_pyIter_revIter (s := { s with heap := h2 }) hit1 ?_)
  refine wpAny_bind (wpAny_holding ?_)
  unfold Builtin.List.listLengthHint
  refine wpAny_bind (wpAny_specialOf hT nolen_lri ?_)
  show wpAny _ A.in1 (specialOf (Value.ref it) (Str.ofString "__length_hint__") >>= _) _ _ _
  refine wpAny_bind (wpAny_specialOf hT hint_lri ?_)
  generalize hid : ("list_reverseiterator.__length_hint__" : String) = id0
  wp_delta
  rw [show splitId id0 = some ("list_reverseiterator", "__length_hint__") from by subst hid; decide +kernel]
  subst hid
  refine wpAny_bind (wpAny_isInstance (b := true) hT (by rw [isSubtype_type]; kernel_rfl) ?_)
  refine wpAny_pure ?_
  rw [if_neg (by decide)]
  have e0 : ((items.size : Nat) : Int) - 1 - ((0 : Nat) : Int) = (items.size : Int) - 1 := by omega
  refine wpAny_pure ⟨plainId_quiet F.plain_extend_loop _, codeAny_extend_loopS W hn S hSf _ items.size 0 _ _ _ rfl (Nat.zero_le _) ⟨Nat.zero_le _, by rw [e0]; exact hit1, hl1⟩ hS₂ (ItemsOf.nil _) fun s' acc' c' hm hS' hacc => ?_⟩
  rw [Moved.eq_with hm]
  refine hR s'.heap s'.toks acc' c' (fun b o hb hb2 e => hm.heap b o (fun hmem => ?_) (oth b o hb e)) hS' hacc
  rcases List.mem_cons.mp hmem with e' | hmem
  · exact hb e'
  · exact hb2 (List.mem_singleton.mp hmem)
theorem call_list_rev {it l : Addr} {items : Array Value} {Q : Value → Shared → Prop} (hh : A.handled = none) (hit : s.heap.IsRevIter it l ((items.size : Int) - 1)) (hl : s.heap.IsList l items) (hne : l ≠ it) (hn : items.size ≤ sizeLine)
    (hQ : ∀ h' tk acc' c', (∀ b o, b ≠ it → s.heap.get? b = some o → h'.get? b = some o) → h'.get? s.heap.objs.size = some { cls := .type "list", dict := none, data := .seq acc' c', slots := #[] } →
      ItemsOf (fun i v => items[items.size - 1 - i]? = some v) acc' items.size → Q (.ref s.heap.objs.size) { s with heap := h', toks := tk }) :
    wpAny (model prog w) A (call (.type "list") [.ref it]) Q E s := by
  refine callType_codes (Q₁ := fun obj s₁ => obj = .ref s.heap.objs.size ∧ s₁ = { s with heap := s.heap.push { cls := .type "list", data := .seq #[] } }) F.called_list (F.typeCall_list_1 _) F.entry_list_init
    (code_list_new _ ⟨rfl, rfl⟩) fun obj s₁ h₁ => ?_
  obtain ⟨rfl, rfl⟩ := h₁
  obtain ⟨oi, hoi, _⟩ := id hit
  obtain ⟨ol, hol, _⟩ := id hl
  have hS : (s.heap.push { cls := .type "list", data := .seq #[] }).get? s.heap.objs.size = some { cls := .type "list", data := .seq #[] } := Heap.get?_push_size _ rfl
  refine ⟨⟨_, hS, rfl⟩, F.args_list_init_2 _ _, list_init_rev (A := A.in1) hh (hit.at fun o e => Heap.get?_push_of_some _ e) (hl.push _) hne hn _ (Nat.ne_of_gt (Heap.lt_size hoi)) (Nat.ne_of_gt (Heap.lt_size hol)) hS fun h' tk acc' c' hk hS' hacc => ?_⟩
  exact ⟨rfl, hQ h' tk acc' c' (fun b o hb e => hk b o (Nat.ne_of_lt (Heap.lt_size e)) hb (Heap.get?_push_of_some _ e)) hS' hacc⟩
end
end FL
namespace FL
open PySem PySem.Spec PyProof.Rows L2
open RT (vals_rev)
/-- list(reversed(x)), x a list: a new list -/
def rLR (K : PySem.W.Frag) (v : V) (H1 : Hp) (Q : VK) : Prop := ∃ (a : Addr) (xs : List V), v = .ref a ∧ SqL K H1 a xs ∧ ∀ q, H1 q = none → Q (.ref q) (upd H1 q (.lst xs.reverse))
section
variable {X : Cx}
theorem pe_lstRev {e : Expr} {te : TE} {p p2 pos pos2 : Pos} (hc : X.calm = true) (hg : Gl X "list") (hm : X.mg "list" = none) (hg2 : Gl X "reversed") (hm2 : X.mg "reversed" = none) (he : PE X e te)
    (hs : starEach [e] X.env = (false, eval e X.env) :: starEach [] X.env := by rfl)
    (hs2 : starEach [.Call (.Name "reversed" p2) [e] [] pos2] X.env = (false, eval (.Call (.Name "reversed" p2) [e] [] pos2) X.env) :: starEach [] X.env := by rfl) :
    PE X (.Call (.Name "list" p) [.Call (.Name "reversed" p2) [e] [] pos2] [] pos) (fun σ H Q => te σ H fun x H1 => rLR X.K x H1 Q) := by
  refine ⟨fun pins s σ H Q I h => ?_⟩
  refine Call_ (ld_blt I hg hm boot_list (PyProof.Rows.callWith_type1 (args_cons (Call_ (ld_blt I hg2 hm2 PyProof.Rows.boot_reversed (PyProof.Rows.callWith_type1 (args_cons (thn (he.run pins s σ H _ I h) fun u s1 ⟨v, H1, I1, r1, q1⟩ => args_nil ?_) hs) hs rfl))) hs2) hs2 rfl))
  obtain ⟨a, xs, ev, hq, q⟩ := q1
  subst ev
  obtain rfl : u = Value.ref a := r1
  obtain ⟨its, rv, p', hz⟩ := I1.list hq
  refine call_reversed_list p'.isList (args_nil ?_)
  have k0 : ∀ b o, s1.heap.get? b = some o → (s1.heap.push (revObj a ((its.toArray.size : Int) - 1))).get? b = some o := fun b o e => Heap.get?_push_of_some _ e
  have hl := p'.isList
  obtain ⟨ol, hol, _⟩ := id hl
  have hne : a ≠ s1.heap.objs.size := Nat.ne_of_lt (Heap.lt_size hol)
  have hn : its.toArray.size ≤ sizeLine := by rw [List.size_toArray, ← rv.length]; exact hz
  have hsz : (s1.heap.push (revObj a ((its.toArray.size : Int) - 1))).objs.size = s1.heap.objs.size + 1 := by simp [Heap.push]
  refine call_list_rev (s := { s1 with heap := s1.heap.push (revObj a ((its.toArray.size : Int) - 1)) }) (I1.ok.hd hc) ⟨_, Heap.get?_push_size _ rfl, rfl, rfl⟩ (hl.push _) hne hn fun h' tk acc c' hk e' hi => ?_
  refine ⟨.ref (s1.heap.push (revObj a ((its.toArray.size : Int) - 1))).objs.size, upd H1 (s1.heap.push (revObj a ((its.toArray.size : Int) - 1))).objs.size (.lst xs.reverse), I1.laid (t' := tk) (fun b o e => hk b o (Nat.ne_of_lt (Heap.lt_size e)) (k0 b o e)) (by rw [hsz]; omega) (show ObjOk X.prog X.w _ _ _ (.lst xs.reverse) from ⟨by rw [List.length_reverse]; exact hz, acc.toList, c', vals_rev rv hi, ?_⟩), rfl, q _ (I1.hok.fresh (by rw [hsz]; omega))⟩
  rw [Array.toArray_toList]; exact e'
end
def revD : D → Option Sl
  | .list ds => some (.ol ds.reverse)
  | _ => none
theorem su_rev {K : PySem.W.Frag} : SemU K (rLR K) revD := by
  intro G H x dx s Q sm h e q
  cases dx <;> first | (cases e; done) | skip
  cases e
  obtain ⟨p, vs, rfl, hp, hv⟩ := h.list sm
  exact ⟨p, vs, rfl, .of hp, fun l hl => q _ _ (.newL hl (DtAll.reverse hv))⟩
theorem se_lrev {X : Cx} {e : Expr} {fa : EvF} {p p2 pos pos2 : Pos} (hc : X.calm = true) (hg : Gl X "list") (hm : X.mg "list" = none) (hg2 : Gl X "reversed") (hm2 : X.mg "reversed" = none) (he : SE X e fa)
    (hs : starEach [e] X.env = (false, eval e X.env) :: starEach [] X.env := by rfl)
    (hs2 : starEach [.Call (.Name "reversed" p2) [e] [] pos2] X.env = (false, eval (.Call (.Name "reversed" p2) [e] [] pos2) X.env) :: starEach [] X.env := by rfl) :
    SE X (.Call (.Name "list" p) [.Call (.Name "reversed" p2) [e] [] pos2] [] pos) (fOp1 revD fa) := by
  obtain ⟨t, p', s⟩ := he.ex
  exact ⟨_, pe_lstRev hc hg hm hg2 hm2 p' hs hs2, sem_un su_rev s⟩
@[simp] theorem revD_list (ds : List D) : revD (.list ds) = some (.ol ds.reverse) := eqq rfl

/-! ### range(i, j, -1) -/
def dnD (lo : Int) (n : Nat) : List D := (List.range n).map fun (i : Nat) => PyData.int (lo - i)
theorem itok_dn {K : PySem.W.Frag} {mg : Str → Option Value} {lo : Int} {n : Nat} : ItOk K mg (Itc lo (-1) n) [] (dnD lo n) := by
  intro i G H os L rp _
  have hl : (dnD lo n).length = n := by simp [dnD]
  refine ⟨fun d hd => ?_, fun hi => by rw [hl] at hi; show n ≤ i; omega⟩
  have hi : i < n := by
    have := (List.getElem?_eq_some_iff.mp hd).1
    rw [hl] at this; exact this
  refine ⟨hi, fun y H' hy => ?_⟩
  obtain ⟨rfl, rfl⟩ := hy
  have : d = .int (lo + (i : Int) * (-1)) := by
    unfold dnD at hd
    rw [List.getElem?_map, List.getElem?_range hi] at hd
    cases hd
    show PyData.int (lo - (i : Int)) = _
    rw [Int.mul_neg, Int.mul_one, Int.sub_eq_add_neg]
  subst this
  exact ⟨G, .refl, .int _⟩
def fRng3 (fs : EvA) : EvI := fun env => do
  let (rs, e1) ← fs env
  match rs with
  | [.sh (.int i), .sh (.int j), .sh (.int c)] => if c = -1 ∧ -(2 ^ 62) ≤ i ∧ i < 2 ^ 62 ∧ -(2 ^ 62) ≤ j ∧ j < 2 ^ 62 then .ok ([], dnD i (i - j).toNat, e1) else .bad
  | _ => .bad
theorem si_rng3 {X : Cx} {tg a b c : Expr} {fs : EvA} {p pos : Pos} (hg : Gl X "range") (hm : X.mg "range" = none) (ha : SA X [a, b, c] fs) (hs : starEach [a, b, c] X.env = (false, eval a X.env) :: starEach [b, c] X.env := by rfl) (hpl : (backTo pos (starEach [b, c] X.env)).any (·.1) = false := by rfl) :
    SI X tg (.Call (.Name "range" p) [a, b, c] [] pos) (fRng3 fs) := by
  obtain ⟨t, p', s⟩ := ha.ex
  refine ⟨_, pi_range3 hg hm p' hs hpl, ?_⟩
  intro σ H env l ks ds env' h e R q
  unfold fRng3 at e
  obtain ⟨⟨rs, e1⟩, ea, e⟩ := Res.bind_ok e
  refine s σ H env l rs e1 h ea _ fun vs H1 h1 => ?_
  dsimp only at e
  split at e
  · rename_i i j c
    split at e
    · rename_i hj
      obtain ⟨rfl, hj1, hj2, hj3, hj4⟩ := hj
      cases e
      have : vs = [V.int i, V.int j, V.int (-1)] := HoldA.int1 (ns := [i, j, -1]) h1
      subst this
      exact ⟨i, j, -1, _, rfl, RgC.neg hj1 hj2 hj3 hj4, q _ [] H1 h1.none itok_dn⟩
    · cases e
  · cases e
def rng3C (p : List Sl × Lo) : Res (List Sl × List D × Lo) :=
  match p.1 with
  | [.sh (.int i), .sh (.int j), .sh (.int c)] => if c = -1 ∧ -(2 ^ 62) ≤ i ∧ i < 2 ^ 62 ∧ -(2 ^ 62) ≤ j ∧ j < 2 ^ 62 then .ok ([], dnD i (i - j).toNat, p.2) else .bad
  | _ => .bad
@[simp] theorem rng3C_ev (i j c : Int) (e : Lo) : rng3C ([.sh (.int i), .sh (.int j), .sh (.int c)], e) = if c = -1 ∧ -(2 ^ 62) ≤ i ∧ i < 2 ^ 62 ∧ -(2 ^ 62) ≤ j ∧ j < 2 ^ 62 then .ok ([], dnD i (i - j).toNat, e) else .bad := eqq rfl
@[simp] theorem ev_rng3 (fs : EvA) (env : Lo) : fRng3 fs env = (fs env).bind rng3C := eqq rfl
theorem dn_len (i : Int) (n : Nat) : (dnD i n).length = n := by simp [dnD]
theorem dn_get {lo : Int} {n i : Nat} {d : D} (h : (dnD lo n)[i]? = some d) : i < n ∧ d = .int (lo - (i : Int)) := by
  have hi : i < n := by
    have := (List.getElem?_eq_some_iff.mp h).1
    rwa [dn_len] at this
  have h2 : (dnD lo n)[i]? = some (.int (lo - (i : Int))) := by simp [dnD, hi]
  rw [h2] at h
  injection h with h
  exact ⟨hi, h.symm⟩

/-! ### xs[k] = v of a list of one's own -/
def fStore (i : Nat) (fa fk : EvF) : EvS := fun env => do
  let (r, e1) ← fa env
  let (d, e2) ← Res.ofO (freezeR e1 r)
  match e2[i]? with
  | some (.ol _) => do
    let (rk, e3) ← fk e2
    match rk, e3[i]? with
    | .sh (.int k), some (.ol ds) => do
      let j ← Res.ofO (ixN ds.length k)
      .ok (.nx (e3.set i (.ol (ds.set j d))))
    | _, _ => .bad
  | _ => .bad
theorem sem_store {K : PySem.W.Frag} {mg : Str → Option Value} {ks : List Nat} {i : Nat} {ta tk : TE} {fa fk : EvF} (ha : SemE K mg ta fa) (hk : SemE K mg tk fk) : SemS K mg ks (tAsg ta (gSub (tVar i) tk rSetL)) (fStore i fa fk) := by
  intro σ H env l o h e D post
  unfold fStore at e
  obtain ⟨⟨r, e1⟩, ea, e⟩ := Res.bind_ok e
  obtain ⟨⟨d, e2⟩, ef, e⟩ := Res.bind_ok e
  replace ef := Res.ofO_ok ef
  dsimp only at e
  split at e
  case h_2 => cases e
  rename_i ds0 e0
  obtain ⟨⟨rk, e3⟩, ek, e⟩ := Res.bind_ok e
  dsimp only at e
  split at e
  case h_2 => cases e
  rename_i k ds e4
  obtain ⟨j, ej, e⟩ := Res.bind_ok e
  replace ej := Res.ofO_ok ej
  cases e
  refine ha σ H env l r e1 h ea _ fun v H1 h1 => ?_
  have h2 := h1.freeze ef
  obtain ⟨ov, eσ, rp0⟩ := h2.hold.take e0
  obtain ⟨G0, os0, rp0⟩ := rp0
  obtain ⟨o0, ri0⟩ := rp0.rl.mem List.mem_cons_self
  obtain ⟨p, ws0, rfl, _, hp0, ha0⟩ := ri0.ol_inv
  refine ⟨.ref p, eσ, ?_⟩
  refine hk σ H1 e2 _ _ e3 h2.hold ek _ fun y H2 h3 => ?_
  obtain ⟨ov', eσ', rp⟩ := h3.hold.take e4
  rw [eσ] at eσ'; cases eσ'
  obtain ⟨G, os, rp⟩ := rp
  obtain ⟨o1, ri⟩ := rp.rl.mem List.mem_cons_self
  obtain ⟨p', ws, ep, _, hp, hw⟩ := ri.ol_inv
  cases ep
  obtain ⟨v2, q2, dv⟩ := rp.shOf (ov := some v) (d := d) (List.mem_cons_of_mem _ (List.mem_append_right _ (List.mem_cons_of_mem _ List.mem_cons_self)))
  cases q2
  obtain ⟨y2, q3, dy⟩ := rp.shOf (ov := some y) (d := .int k) (List.mem_cons_of_mem _ (List.mem_append_right _ List.mem_cons_self))
  cases q3
  cases dy
  refine ⟨p, ws, k, j, rfl, rfl, hp, by rw [DtAll.length hw]; exact ej, ?_⟩
  refine post σ _ ⟨by rw [List.length_set]; exact h3.len, ?_⟩ .refl
  have rp2 := rp.mut (s' := .ol (ds.set j d)) (o := .lst (ws.set j v)) ol_own fun H' e => .bx (.ol e (DtAll.set dv j hw))
  have rp4 := Rep.put ⟨_, _, rp2⟩ (by rw [List.length_set]; exact h3.len) eσ
  rw [List.set_set] at rp4
  exact Rep.dropM (M := [_, _]) rp4
theorem ss_store {X : Cx} {ks : List Nat} {i : Nat} {x : Str} {e k : Expr} {fa fk : EvF} {npos spos pos : Pos} (hN : X.N[i]? = some x) (hv : Vis X.env.scope x) (he : SE X e fa) (hk : SE X k fk)
    (hd : (x == ("__debug__" : Str)) = false := by decide) (hcd : (x == ("__classdict__" : Str)) = false := by decide)
    (hs : swapsWithSole [.Subscript (.Name x npos) k spos] e pos.line X.env = pure false := by rfl) (hw : swappedStores [.Subscript (.Name x npos) k spos] e X.env = pure none := by rfl)
    (h1 : (assignEach [.Subscript (.Name x npos) k spos] X.env).map (·.2) = [assign (.Subscript (.Name x npos) k spos) X.env] := by rfl)
    (hag : ∀ v, assign (.Subscript (.Name x npos) k spos) X.env v = (do
      let ov ← holding [v] (eval (.Name x npos) X.env)
      let iv ← holding [v, ov] (eval k X.env)
      standAt spos
      holding [v, ov, iv] (setItem ov iv v)
      release [v, ov, iv] []) := by intro _; rfl) :
    SS X ks (.Assign [.Subscript (.Name x npos) k spos] e pos) (fStore i fa fk) := by
  obtain ⟨t, p, s⟩ := he.ex
  obtain ⟨t2, p2, s2⟩ := hk.ex
  exact ⟨_, ps_asg p (pg_sub (pe_var hN hv hd hcd) p2 set_list hag) hs hw h1, sem_store s s2⟩
/-! ### how these are reckoned -/
def storV (i : Nat) (d : D) (e : Lo) : Sl → Option Sl → Res Out
  | .sh (.int k), some (.ol ds) => match ixN ds.length k with
    | some j => .ok (.nx (e.set i (.ol (ds.set j d))))
    | none => .bad
  | _, _ => .bad
theorem storV_at {i : Nat} {d : D} {e : Lo} {k : Int} {ds : List D} {j : Nat} (h : ixN ds.length k = some j) : storV i d e (.sh (.int k)) (some (.ol ds)) = .ok (.nx (e.set i (.ol (ds.set j d)))) := by
  show (match ixN ds.length k with | some j => Res.ok (Out.nx (e.set i (.ol (ds.set j d)))) | none => .bad) = _
  rw [h]
theorem ixN_nat {n k : Nat} (h : k < n) : ixN n (k : Int) = some k := by
  unfold ixN
  rw [if_pos (by omega), if_pos (by omega)]
  simp
def storC2 (i : Nat) (d : D) (p : Sl × Lo) : Res Out := storV i d p.2 p.1 p.2[i]?
@[simp] theorem storC2_ev (i : Nat) (d : D) (r : Sl) (e : Lo) : storC2 i d (r, e) = storV i d e r e[i]? := eqq rfl
def storS (i : Nat) (fk : EvF) (d : D) (e : Lo) : Option Sl → Res Out
  | some (.ol _) => (fk e).bind (storC2 i d)
  | _ => .bad
@[simp] theorem storS_ol (i : Nat) (fk : EvF) (d : D) (e : Lo) (ds : List D) : storS i fk d e (some (.ol ds)) = (fk e).bind (storC2 i d) := eqq rfl
def storF (i : Nat) (fk : EvF) : Option (D × Lo) → Res Out
  | some (d, e) => storS i fk d e e[i]?
  | none => .bad
@[simp] theorem storF_some (i : Nat) (fk : EvF) (d : D) (e : Lo) : storF i fk (some (d, e)) = storS i fk d e e[i]? := eqq rfl
def storC1 (i : Nat) (fk : EvF) (p : Sl × Lo) : Res Out := storF i fk (freezeR p.2 p.1)
@[simp] theorem storC1_ev (i : Nat) (fk : EvF) (r : Sl) (e : Lo) : storC1 i fk (r, e) = storF i fk (freezeR e r) := eqq rfl
@[simp] theorem ev_store (i : Nat) (fa fk : EvF) (env : Lo) : fStore i fa fk env = (fa env).bind (storC1 i fk) := by
  show (fa env).bind _ = (fa env).bind _
  congr 1
  funext ⟨r, e1⟩
  show (Res.ofO (freezeR e1 r)).bind _ = storF i fk (freezeR e1 r)
  cases freezeR e1 r with
  | none => rfl
  | some p =>
    obtain ⟨d, e2⟩ := p
    have key2 : ∀ (rk : Sl) (e3 : Lo) (o : Option Sl), (match rk, o with | .sh (.int k), some (.ol ds) => (do let j ← Res.ofO (ixN ds.length k); Res.ok (Out.nx (e3.set i (.ol (ds.set j d))))) | _, _ => Res.bad) = storV i d e3 rk o := by
      intro rk e3 o
      unfold storV
      split
      · rename_i k ds
        cases ixN ds.length k <;> rfl
      · first
        | rfl
        | (split
           · rename_i h _ _; exact absurd rfl (h _ _ rfl)
           · rfl)
    have key : ∀ o : Option Sl, o = e2[i]? → (match o with | some (.ol _) => (do let (rk, e3) ← fk e2; match rk, e3[i]? with | .sh (.int k), some (.ol ds) => (do let j ← Res.ofO (ixN ds.length k); Res.ok (Out.nx (e3.set i (.ol (ds.set j d))))) | _, _ => Res.bad) | _ => Res.bad) = storS i fk d e2 o := by
      intro o ho
      cases o with
      | none => rfl
      | some s =>
        cases s <;> first | rfl | skip
        show (fk e2).bind _ = (fk e2).bind _
        congr 1
        funext ⟨rk, e3⟩
        exact key2 rk e3 _
    exact key _ rfl
end FL

/-! FN: walks over a slot's own list that stays its own -/
namespace FL
open PySem PySem.Spec PyProof.Rows L2
def SemIP (K : PySem.W.Frag) (mg : Str → Option Value) (w : TI) (f : EvI) (P : L2.St → List V → Prop) : Prop :=
  ∀ (σ : L2.St) (H : Hp) (env : Lo) (l : List Item) (ks : List Sl) (ds : List D) (env' : Lo), Hold K mg H σ env l → f env = .ok (ks, ds, env') → ∀ R : It → Hp → Prop,
    (∀ J vs H', HoldA K mg H' σ env' l vs ks → ItOk K mg J ((vs.map some).zip ks) ds → P σ vs → R J H') → w σ H R
theorem sem_lcK {K : PySem.W.Frag} {P : L2.St → List V → Prop} {mg : Str → Option Value} {w : TI} {fi : EvI} {g : TG} {tg : Tgt} {tt : TT} {ft : EvT} {fe : EvF} {own : List Nat} (si : SemIP K mg w fi P) (sg : SemG K mg g tg) (st : SemT K mg tt ft) (ho : ∀ k ∈ tg.slots, k ∈ own) :
    ∀ (σ : L2.St) (H : Hp) (env : Lo) (l : List Item) (r : Sl) (env' : Lo), Hold K mg H σ env l → fLc fi tg ft fe own env = .ok (r, env') → ∀ Q : VK,
      (∀ v H' vs ks ds e1, fi env = .ok (ks, ds, e1) → P σ vs → HoldV K mg H' σ env' ((vs.map some).zip ks ++ l) v r → Q v H') → tLc w g tt (tCan K mg fe) own σ H Q := by
  intro σ H env l r env' h e Q q
  unfold fLc at e
  obtain ⟨⟨ks, ds, e1⟩, ea, e⟩ := Res.bind_ok e
  dsimp only at e
  split at e
  · rename_i hown
    obtain ⟨⟨accF, e2⟩, eb, e⟩ := Res.bind_ok e
    cases e
    refine si σ H env l ks ds e1 h ea _ fun J vs H1 h1 ok hP => fun Dd hD => ?_
    -- the new list
    obtain ⟨G1, os1, rp1⟩ := h1.rep
    have h2 : Hold K mg (upd H1 Dd (.lst [])) σ e1 ((some (.ref Dd), .ol []) :: ((vs.map some).zip ks ++ l)) := ⟨h1.len, by
      have := Rp.newOl (K := K) (mg := mg) rp1 hD (.nil)
      refine Rep.perm ⟨_, _, this⟩ ?_
      refine List.Perm.trans (List.Perm.cons _ ?_) perm_mid
      rw [← List.append_assoc, ← List.append_assoc]
      exact List.perm_append_comm.append_right l⟩
    obtain ⟨sv, h3, back⟩ := h2.aside own hown
    refine ⟨fun i m H' => m + i = ds.length ∧ ∃ env3 acc, Hold K mg H' (L2.wipe σ own) env3 (sv ++ ((some (.ref Dd), .ol acc) :: ((vs.map some).zip ks ++ l))) ∧ compF tg ft fe own (ds.drop i) acc env3 = .ok (accF, e2), ⟨ds.length, rfl, _, [], h3, eb⟩, ?_⟩
    rintro i m H4 ⟨hm, env4, acc, h4, e4⟩
    obtain ⟨G4, os4, rp4⟩ := h4.rep
    obtain ⟨okg, oks⟩ := ok i G4 H4 os4 _ rp4 fun it hi => List.mem_append_right _ (List.mem_append_right _ (List.mem_cons_of_mem _ (List.mem_append_left _ hi)))
    by_cases hi : i < ds.length
    · have hd : ds[i]? = some ds[i] := List.getElem?_eq_getElem hi
      obtain ⟨go, yl⟩ := okg _ hd
      rw [List.drop_eq_getElem_cons hi] at e4
      unfold compF at e4
      obtain ⟨e5, ec, e4⟩ := Res.bind_ok e4
      replace ec := Res.ofO_ok ec
      obtain ⟨⟨b, e6⟩, et, e4⟩ := Res.bind_ok e4
      refine .inr ⟨go, fun H' => ∃ env3 acc, Hold K mg H' (L2.wipe σ own) env3 (sv ++ ((some (.ref Dd), .ol acc) :: ((vs.map some).zip ks ++ l))) ∧ compF tg ft fe own (ds.drop (i + 1)) acc env3 = .ok (accF, e2), fun H' q => ⟨m - 1, by omega, by omega, q⟩, fun x H5 hy => ?_⟩
      obtain ⟨G', gr, dd⟩ := yl x H5 hy
      have h5 : Hold K mg H5 (L2.wipe σ own) env4 ((some x, .sh ds[i]) :: (sv ++ ((some (.ref Dd), .ol acc) :: ((vs.map some).zip ks ++ l)))) := ⟨h4.len, Rep.perm ⟨_, _, (rp4.grow gr).sh dd⟩ perm_mid⟩
      refine sg _ H5 env4 e5 _ x _ h5 ec _ fun σ2 h6 off => ?_
      have hw : L2.wipe σ2 own = L2.wipe σ own := wipe_off off ho
      refine ⟨hw, ?_⟩
      refine st σ2 H5 e5 _ b e6 h6 et _ fun H6 h7 => ?_
      dsimp only at e4
      cases b with
      | false =>
        rw [if_neg Bool.false_ne_true] at e4
        refine iteF ⟨_, acc, ?_, e4⟩
        have := h7.wipe own
        rw [hw] at this
        exact this
      | true =>
        rw [if_pos rfl] at e4
        obtain ⟨⟨r, e7⟩, ef, e4⟩ := Res.bind_ok e4
        obtain ⟨⟨d', e8⟩, eg, e4⟩ := Res.bind_ok e4
        replace eg := Res.ofO_ok eg
        dsimp only at e4
        split at e4
        · rename_i hz
          refine iteT ⟨e6, _, r, e7, h7, ef, fun y H7 h8 => ?_⟩
          have h9 := h8.freeze eg
          -- the list at Dd
          have p1 : ((some y, Sl.sh d') :: (σ2.zip e8 ++ (sv ++ ((some (V.ref Dd), Sl.ol acc) :: ((vs.map some).zip ks ++ l))))).Perm ((some (V.ref Dd), Sl.ol acc) :: ((some y, Sl.sh d') :: (σ2.zip e8 ++ (sv ++ ((vs.map some).zip ks ++ l))))) := by
            refine List.Perm.trans (List.Perm.cons _ ?_) (.swap _ _ _)
            rw [← List.append_assoc, ← List.append_assoc]
            exact perm_mid.symm
          obtain ⟨G8, os8, rp8⟩ := h9.rep
          obtain ⟨os9, rp9⟩ := rp8.perm p1
          obtain ⟨o, ri⟩ := rp9.rl.mem List.mem_cons_self
          obtain ⟨p, ws, ev, _, hp, ha⟩ := ri.ol_inv
          cases ev
          obtain ⟨v', ev, dy⟩ := rp9.shOf (List.mem_cons_of_mem _ List.mem_cons_self)
          cases ev
          refine ⟨ws, hp, sizeL' (by rw [ha.length]; exact hz), wipeE e8 own, acc ++ [d'], ?_, e4⟩
          have rp10 := rp9.mut (s' := .ol (acc ++ [d'])) (o := .lst (ws ++ [y])) ol_own fun H' e => .bx (.ol e (ha.append (.one dy)))
          have h10 : Hold K mg (upd H7 Dd (.lst (ws ++ [y]))) σ2 e8 (sv ++ ((some (V.ref Dd), Sl.ol (acc ++ [d'])) :: ((vs.map some).zip ks ++ l))) := ⟨h9.len, by
            refine (Rep.tail (Rep.perm ⟨_, _, rp10⟩ (.swap _ _ _))).perm ?_
            exact perm_mid.trans (List.Perm.append_left _ perm_mid)⟩
          have := h10.wipe own
          rw [hw] at this
          exact this
        · cases e4
    · rw [List.drop_eq_nil_of_le (by omega)] at e4
      cases e4
      refine .inl ⟨oks (by omega), q _ H4 vs ks ds e1 ea hP ?_⟩
      have hb := back H4 _ _ h4
      refine ⟨hb.len, ?_, fun _ z => by cases z⟩
      have : Rep K mg H4 ((some (V.ref Dd), Sl.ol accF) :: (σ.zip (restoreE e1 own e2) ++ ((vs.map some).zip ks ++ l))) := hb.rep.perm perm_mid.symm
      exact this
  · cases e

def fTakeI (i : Nat) : EvI := fun env => match env[i]? with
  | some (.ol ds) => .ok ([.ol ds], ds, env.set i .no)
  | _ => .bad
theorem semip_take {K : PySem.W.Frag} {mg : Str → Option Value} {i : Nat} : SemIP K mg (iSeq K (tVar i)) (fTakeI i) (fun σ vs => ∃ v, vs = [v] ∧ σ[i]? = some (some v)) := by
  intro σ H env l ks ds env' h e R q
  unfold fTakeI at e
  split at e
  case h_2 => cases e
  rename_i ds' e0
  cases e
  obtain ⟨ov, eσ, rp0⟩ := h.take e0
  obtain ⟨G0, os0, rp⟩ := id rp0
  obtain ⟨o0, ri0⟩ := rp.rl.mem List.mem_cons_self
  obtain ⟨p, ws, rfl, _, hp, ha⟩ := ri0.ol_inv
  refine ⟨.ref p, eσ, .inl ⟨p, rfl, ⟨ws, .of hp⟩, q _ [.ref p] H ⟨by rw [List.length_set]; exact h.len, rp0, rfl, fun k v r e1 e2 => ?_⟩ (itok_list rfl (.inr rfl)) ⟨_, rfl, eσ⟩⟩⟩
  cases k with
  | zero => simp at e1 e2; subst e2; exact fun _ z => by cases z
  | succ k => simp at e1
def fLcB (i : Nat) (tg : Tgt) (ft : EvT) (fe : EvF) (own : List Nat) : EvF := fun env => match env[i]? with
  | some (.ol ds) => do
    let (r, e) ← fLc (fTakeI i) tg ft fe own env
    .ok (r, e.set i (.ol ds))
  | _ => fLc (fIter (fVar i)) tg ft fe own env
theorem fLc_ol {fi : EvI} {tg : Tgt} {ft : EvT} {fe : EvF} {own : List Nat} {env env' : Lo} {r : Sl} (h : fLc fi tg ft fe own env = .ok (r, env')) : ∃ ds, r = .ol ds := by
  unfold fLc at h
  obtain ⟨⟨ks, ds, e1⟩, ea, h⟩ := Res.bind_ok h
  dsimp only at h
  split at h
  · obtain ⟨⟨acc, e2⟩, eb, h⟩ := Res.bind_ok h
    cases h
    exact ⟨_, rfl⟩
  · cases h
theorem sem_iseq {K : PySem.W.Frag} {mg : Str → Option Value} {te : TE} {fa : EvF} (s : SemE K mg te fa) : SemI K mg (iSeq K te) (fIter fa) := by
  intro σ H env l ks ds env' h e R q
  unfold fIter at e
  obtain ⟨⟨r, e1⟩, ea, e⟩ := Res.bind_ok e
  obtain ⟨⟨d, e2⟩, eb, e⟩ := Res.bind_ok e
  replace eb := Res.ofO_ok eb
  refine s σ H env l r e1 h ea _ fun v H1 h1 => ?_
  have h2 := h1.freeze eb
  obtain ⟨G, os, rp⟩ := h2.rep
  obtain ⟨v', ev, dd⟩ := rp.shOf List.mem_cons_self
  cases ev
  cases dd <;> first | (cases e; done) | skip
  case lst a xs ds' hs ha =>
    cases e
    exact .inl ⟨a, rfl, ⟨xs, .of (rp.same _ _ hs)⟩, q _ [_] H1 h2.toA (itok_list rfl (.inl rfl))⟩
  case tup a xs ds' hs ha =>
    cases e
    exact .inr ⟨a, rfl, ⟨xs, .of (rp.same _ _ hs)⟩, q _ [_] H1 h2.toA (itok_tup rfl)⟩
theorem sem_lcB {K : PySem.W.Frag} {mg : Str → Option Value} {i : Nat} {g : TG} {tg : Tgt} {tt : TT} {ft : EvT} {fe : EvF} {own : List Nat} (sg : SemG K mg g tg) (st : SemT K mg tt ft) (ho : ∀ k ∈ tg.slots, k ∈ own) :
    SemE K mg (tLc (iSeq K (tVar i)) g tt (tCan K mg fe) own) (fLcB i tg ft fe own) := by
  intro σ H env l r env' h e Q q
  unfold fLcB at e
  split at e
  · rename_i ds e0
    obtain ⟨⟨r1, e1⟩, ea, e⟩ := Res.bind_ok e
    cases e
    refine sem_lcK semip_take sg st ho σ H env l r e1 h ea Q fun v H' vs ks ds' e2 et hP hv => ?_
    obtain ⟨v0, rfl, eσ⟩ := hP
    unfold fTakeI at et
    rw [e0] at et
    cases et
    obtain ⟨dd, rfl⟩ := fLc_ol ea
    refine q v H' ⟨by rw [List.length_set]; exact hv.len, ?_, fun _ z => by cases z⟩
    have h1 : Rep K mg H' ((some v0, Sl.ol ds) :: (σ.zip e1 ++ ((some v, Sl.ol dd) :: l))) := by
      refine hv.rep.perm ?_
      refine List.Perm.trans (List.Perm.cons _ (perm_mid (A := σ.zip e1) (a := (some v0, Sl.ol ds)) (B := l)).symm) ?_
      exact (List.Perm.swap _ _ _).trans (List.Perm.cons _ perm_mid)
    have h2 := Rep.put h1 hv.len eσ
    exact h2.perm perm_mid.symm
  · exact sem_lc (sem_iseq sem_var) sg st ho σ H env l r env' h e Q q
/-- a loop over a slot's own list -/
def putB (i : Nat) (ds : List D) : Out → Out
  | .nx e => .nx (e.set i (.ol ds))
  | .bk e => .bk (e.set i (.ol ds))
  | .ct e => .ct (e.set i (.ol ds))
  | .rt r e => .rt r (e.set i (.ol ds))
def fForB (i : Nat) (tg : Tgt) (b : EvS) : EvS := fun env => match env[i]? with
  | some (.ol ds) => do
    let o ← loopF tg b ds (env.set i .no)
    .ok (putB i ds o)
  | _ => fFor (fIter (fVar i)) tg b env
theorem PostS.weak {K : PySem.W.Frag} {mg : Str → Option Value} {D : Ends} {i : Nat} {ks : List Nat} {σ : L2.St} {l : List Item} {o : Out} (p : PostS K mg D ks σ l o) : PostS K mg D (i :: ks) σ l o := by
  have w : ∀ {σ' : L2.St}, KeepEq (i :: ks) σ σ' → KeepEq ks σ σ' := fun h k hk => h k (List.mem_cons_of_mem _ hk)
  cases o with
  | nx e => exact fun σ' H' h q => p σ' H' h (w q)
  | bk e => exact fun σ' H' h q => p σ' H' h (w q)
  | ct e => exact fun σ' H' h q => p σ' H' h (w q)
  | rt r e => exact fun v σ' H' h n q => p v σ' H' h n (w q)
section
variable {X : Cx} {ks : List Nat} {tg : Expr} {body : List Stmt} {b : EvS} {pos npos : Pos} {g : TG} {tt : Tgt} {i : Nat} {x : Str}
theorem ss_forB (hp : PassesOwn (model X.prog X.w) X.A X.env X.xe) (hc : X.calm = true) (hN : X.N[i]? = some x) (hv : Vis X.env.scope x) (hg : PG X tg g) (sg : SemG X.K X.mg g tt) (hb : SSs X (i :: ks) body b) (hk : ∀ k ∈ i :: ks, k ∉ tt.slots := by decide)
    (hd : (x == ("__debug__" : Str)) = false := by decide) (hcd : (x == ("__classdict__" : Str)) = false := by decide)
    (hs : ∀ y, foldedSetIterable (.Name x npos) X.env y = pure y := by intro _; rfl) : SS X ks (.For tg (.Name x npos) body [] pos) (fForB i tt b) := by
  obtain ⟨t, p, s⟩ := hb.ex
  refine ⟨_, ps_for hp hc (pi_seq (pe_var hN hv hd hcd)) hg p hs, ?_⟩
  intro σ H env l o h e D post
  unfold fForB at e
  split at e
  · rename_i ds e0
    obtain ⟨o1, ea, e⟩ := Res.bind_ok e
    cases e
    refine semip_take σ H env l [.ol ds] ds (env.set i .no) h (by unfold fTakeI; rw [e0]) _ fun J vs H1 h1 ok hP => ?_
    obtain ⟨v0, rfl, eσ⟩ := hP
    refine sem_loop (l := l) sg s hk ok ⟨h1.len, ?_⟩ ea ?_
    · refine h1.rep.perm ?_
      rw [← List.append_assoc, ← List.append_assoc]
      exact List.perm_append_comm.append_right l
    · have key : ∀ {σ' : L2.St} {H' : Hp} {e' : Lo} {l' : List Item}, Hold X.K X.mg H' σ' e' ((some v0, Sl.ol ds) :: l') → KeepEq (i :: ks) σ σ' → Hold X.K X.mg H' σ' (e'.set i (.ol ds)) l' := by
        intro σ' H' e' l' hh kk
        have eσ' : σ'[i]? = some (some v0) := by rw [kk i List.mem_cons_self]; exact eσ
        exact ⟨by rw [List.length_set]; exact hh.len, Rep.put (hh.rep.perm perm_mid.symm) hh.len eσ'⟩
      have w : ∀ {σ' : L2.St}, KeepEq (i :: ks) σ σ' → KeepEq ks σ σ' := fun h k hk => h k (List.mem_cons_of_mem _ hk)
      cases o1 with
      | nx e1 => exact fun σ' H' h q => post σ' H' (key h q) (w q)
      | bk e1 => exact fun σ' H' h q => post σ' H' (key h q) (w q)
      | ct e1 => exact fun σ' H' h q => post σ' H' (key h q) (w q)
      | rt r e1 =>
        intro v σ' H' hv n q
        have h1 : Hold X.K X.mg H' σ' e1 ((some v0, Sl.ol ds) :: ((some v, r) :: l)) := ⟨hv.len, by
          refine hv.rep.perm ?_
          refine perm_mid.trans (List.Perm.append_left _ ?_)
          exact .swap _ _ _⟩
        have h2 := key h1 q
        exact post v σ' H' ⟨h2.len, h2.rep.perm perm_mid.symm, fun j z => by subst z; cases n⟩ n (w q)
  · unfold fFor at e
    obtain ⟨⟨ksl, ds, e1⟩, ea, e⟩ := Res.bind_ok e
    refine sem_iseq sem_var σ H env l ksl ds e1 h ea _ fun J vs H1 h1 ok => ?_
    refine sem_loop sg s hk ok ⟨h1.len, ?_⟩ e post.weak.more
    refine h1.rep.perm ?_
    rw [← List.append_assoc, ← List.append_assoc]
    exact List.perm_append_comm.append_right l
end
section
variable {X : Cx} {elt tg : Expr} {ifs : List Expr} {scope : Scope} {own : List (Str × Nat)} {pos spos py npos : Pos} {g : TG} {tt : Tgt} {ft : EvT} {fe : EvF} {i j : Nat} {x y : Str} {ks : List Nat}
theorem se_lcB (hc : X.calm = true) (hN : X.N.Nodup) (hi : X.N[j]? = some x) (hv : Vis X.env.scope x) (ok : BlkOk X.N X.env.scope scope own) (sg : SemG X.K X.mg g tt) (ho : ∀ k ∈ tt.slots, k ∈ own.map (·.2))
    (hg : ∀ (s : Shared) (H : Hp) (C : Addr) (cl : List (Str × Addr)) (fp : List Addr), PG (X.blk s H scope (compEnvC scope cl C X.env) fp) tg g) (ht : ∀ (s : Shared) (H : Hp) (C : Addr) (cl : List (Str × Addr)) (fp : List Addr), STs (X.blk s H scope (compEnvC scope cl C X.env) fp) ifs ft)
    (he : ∀ (s : Shared) (H : Hp) (C : Addr) (cl : List (Str × Addr)) (fp : List Addr), SE (X.blk s H scope (compEnvC scope cl C X.env) fp) elt fe) (hd : (x == ("__debug__" : Str)) = false := by decide) (hcd : (x == ("__classdict__" : Str)) = false := by decide)
    (hs : ∀ z, foldedSetIterable (.Name x npos) X.env z = pure z := by intro _; rfl) :
    SE X (.ListComp elt [⟨tg, .Name x npos, ifs, 0⟩] scope pos) (fLcB j tt ft fe (own.map (·.2))) :=
  ⟨_, pe_lc hc hN (pi_seq (pe_var hi hv hd hcd)) ok hg (fun s H C cl fp => (ht s H C cl fp).pts) (fun s H C cl fp => (he s H C cl fp).canon) hs, sem_lcB sg semt_can ho⟩
theorem ss_setLcB (hc : X.calm = true) (hN : X.N.Nodup) (hy : X.N[i]? = some y) (hyl : X.env.scope.names.lookup y = some .local)
    (hsw : swapsWith (.ListComp elt [⟨tg, .Name x npos, ifs, 0⟩] scope pos) (some (.Name y py)) spos.line X.env = pure true) (hi : X.N[j]? = some x) (hv : Vis X.env.scope x) (ok : BlkOk X.N X.env.scope scope own) (sg : SemG X.K X.mg g tt) (ho : ∀ k ∈ tt.slots, k ∈ own.map (·.2))
    (hg : ∀ (s : Shared) (H : Hp) (C : Addr) (cl : List (Str × Addr)) (fp : List Addr), PG (X.blk s H scope (compEnvC scope cl C X.env) fp) tg g) (ht : ∀ (s : Shared) (H : Hp) (C : Addr) (cl : List (Str × Addr)) (fp : List Addr), STs (X.blk s H scope (compEnvC scope cl C X.env) fp) ifs ft)
    (he : ∀ (s : Shared) (H : Hp) (C : Addr) (cl : List (Str × Addr)) (fp : List Addr), SE (X.blk s H scope (compEnvC scope cl C X.env) fp) elt fe) (hk : i ∉ ks := by decide) (hd : (x == ("__debug__" : Str)) = false := by decide) (hcd : (x == ("__classdict__" : Str)) = false := by decide)
    (hs : ∀ z, foldedSetIterable (.Name x npos) X.env z = pure z := by intro _; rfl) :
    SS X ks (.Assign [.Name y py] (.ListComp elt [⟨tg, .Name x npos, ifs, 0⟩] scope pos) spos) (fAsg i (fLcB j tt ft fe (own.map (·.2)))) :=
  ⟨_, ps_setLc hc hN hy hyl hsw (pi_seq (pe_var hi hv hd hcd)) ok hg (fun s H C cl fp => (ht s H C cl fp).pts) (fun s H C cl fp => (he s H C cl fp).canon) hs, sem_asg (sem_lcB sg semt_can ho) hk⟩
end
/-! ### how these are reckoned -/
def putC (i : Nat) (ds : List D) (o : Out) : Res Out := .ok (putB i ds o)
@[simp] theorem putC_ev (i : Nat) (ds : List D) (o : Out) : putC i ds o = .ok (putB i ds o) := eqq rfl
@[simp] theorem putB_nx (i : Nat) (ds : List D) (e : Lo) : putB i ds (.nx e) = .nx (e.set i (.ol ds)) := eqq rfl
@[simp] theorem putB_rt (i : Nat) (ds : List D) (r : Sl) (e : Lo) : putB i ds (.rt r e) = .rt r (e.set i (.ol ds)) := eqq rfl
def forBC (i : Nat) (tg : Tgt) (b : EvS) (env : Lo) : Option Sl → Res Out
  | some (.ol ds) => (loopF tg b ds (env.set i .no)).bind (putC i ds)
  | _ => fFor (fIter (fVar i)) tg b env
@[simp] theorem forBC_ol (i : Nat) (tg : Tgt) (b : EvS) (env : Lo) (ds : List D) : forBC i tg b env (some (.ol ds)) = (loopF tg b ds (env.set i .no)).bind (putC i ds) := eqq rfl
@[simp] theorem forBC_sh (i : Nat) (tg : Tgt) (b : EvS) (env : Lo) (d : D) : forBC i tg b env (some (.sh d)) = fFor (fIter (fVar i)) tg b env := eqq rfl
@[simp] theorem ev_forB (i : Nat) (tg : Tgt) (b : EvS) (env : Lo) : fForB i tg b env = forBC i tg b env env[i]? := by
  have key : ∀ o : Option Sl, (match o with | some (.ol ds) => (do let o ← loopF tg b ds (env.set i .no); Res.ok (putB i ds o)) | _ => fFor (fIter (fVar i)) tg b env) = forBC i tg b env o := by
    intro o
    cases o with
    | none => rfl
    | some s => cases s <;> rfl
  exact key _
def putR (i : Nat) (ds : List D) (p : Sl × Lo) : Res (Sl × Lo) := .ok (p.1, p.2.set i (.ol ds))
@[simp] theorem putR_ev (i : Nat) (ds : List D) (r : Sl) (e : Lo) : putR i ds (r, e) = .ok (r, e.set i (.ol ds)) := eqq rfl
def lcBC (i : Nat) (tg : Tgt) (ft : EvT) (fe : EvF) (own : List Nat) (env : Lo) : Option Sl → Res (Sl × Lo)
  | some (.ol ds) => (lcC tg ft fe own ([.ol ds], ds, env.set i .no)).bind (putR i ds)
  | _ => fLc (fIter (fVar i)) tg ft fe own env
@[simp] theorem lcBC_ol (i : Nat) (tg : Tgt) (ft : EvT) (fe : EvF) (own : List Nat) (env : Lo) (ds : List D) : lcBC i tg ft fe own env (some (.ol ds)) = (lcC tg ft fe own ([.ol ds], ds, env.set i .no)).bind (putR i ds) := eqq rfl
@[simp] theorem lcBC_sh (i : Nat) (tg : Tgt) (ft : EvT) (fe : EvF) (own : List Nat) (env : Lo) (d : D) : lcBC i tg ft fe own env (some (.sh d)) = fLc (fIter (fVar i)) tg ft fe own env := eqq rfl
@[simp] theorem ev_lcB (i : Nat) (tg : Tgt) (ft : EvT) (fe : EvF) (own : List Nat) (env : Lo) : fLcB i tg ft fe own env = lcBC i tg ft fe own env env[i]? := by
  have key : ∀ o : Option Sl, o = env[i]? → (match o with | some (.ol ds) => (do let (r, e) ← fLc (fTakeI i) tg ft fe own env; Res.ok (r, e.set i (.ol ds))) | _ => fLc (fIter (fVar i)) tg ft fe own env) = lcBC i tg ft fe own env o := by
    intro o ho
    cases o with
    | none => rfl
    | some s =>
      cases s <;> first | rfl | skip
      rename_i ds
      show (fLc (fTakeI i) tg ft fe own env).bind _ = _
      have e1 : fTakeI i env = .ok ([.ol ds], ds, env.set i .no) := by unfold fTakeI; rw [← ho]
      rw [ev_lc, e1]
      rfl
  exact key _ rfl
/-! ### a comprehension within a comprehension -/
def relabS (scope sc : Scope) : Scope :=
  { scope with names := scope.names.map fun (n, k) => if (k == .free && sc.kind == .function && sc.names.lookup n == some .cell) then (n, .cell) else (n, k) }
theorem relab_eq (scope : Scope) (env : Env) : relabel scope env = relabS scope env.scope := rfl
theorem blkOk_in {N : List Str} {scope1 scope2 sc0 : Scope} {env : Env} {own : List (Str × Nat)} (he : env.scope = sc0) (h : blkC N (relabS scope1 sc0) scope2 own = true) : BlkOk N (relabel scope1 env) scope2 own := by
  rw [relab_eq, he]
  exact blkOk_by h
end FL

/-! FX: shapes and equality of data, comprehensions that pick -/
namespace FL
open PySem PySem.Spec PyProof.Rows L2
/-- data of at most k levels that may be compared -/
def Lay (k : Nat) (d : D) : Prop := d.canLay0 = true ∧ d.depth ≤ k
theorem Lay.shaped {k : Nat} {d : D} (h : Lay k d) (hk : k ≤ 64 := by decide) : shapedD d = true := by
  have h2 := h.2
  unfold shapedD SeqAt.shaped
  rw [h.1]
  simp
  omega
theorem Lay.int (i : Int) : Lay 0 (.int i) := ⟨rfl, Nat.le_refl _⟩
theorem Lay.mono {k m : Nat} {d : D} (h : Lay k d) (hk : k ≤ m) : Lay m d := ⟨h.1, Nat.le_trans h.2 hk⟩
theorem layAll {k : Nat} : ∀ {ds : List D}, (∀ d ∈ ds, Lay k d) → PyData.canLayAll0 ds = true ∧ PyData.depthAll ds ≤ k
  | [], _ => ⟨rfl, Nat.zero_le _⟩
  | d :: ds, h => by
    have h1 := h d List.mem_cons_self
    have h2 := layAll (k := k) (ds := ds) fun x hx => h x (List.mem_cons_of_mem _ hx)
    refine ⟨?_, ?_⟩
    · show (d.canLay0 && PyData.canLayAll0 ds) = true
      rw [h1.1, h2.1]; rfl
    · show max d.depth (PyData.depthAll ds) ≤ k
      exact Nat.max_le.mpr ⟨h1.2, h2.2⟩
theorem Lay.list {k : Nat} {ds : List D} (h : ∀ d ∈ ds, Lay k d) : Lay (k + 1) (.list ds) := ⟨(layAll h).1, Nat.succ_le_succ (layAll h).2⟩
theorem Lay.tuple {k : Nat} {ds : List D} (h : ∀ d ∈ ds, Lay k d) : Lay (k + 1) (.tuple ds) := ⟨(layAll h).1, Nat.succ_le_succ (layAll h).2⟩
theorem layInts (ns : List Int) : ∀ d ∈ ns.map PyData.int, Lay 0 d := by
  intro d h
  obtain ⟨i, _, rfl⟩ := List.mem_map.mp h
  exact .int i
theorem Lay.refl {k : Nat} {d : D} (h : Lay k d) : PyData.eqv d d = true := SeqAt.eqv_refl d h.1
@[simp] theorem isND_none : isND .none .none = some (.sh (.bool true)) := eqq rfl
@[simp] theorem isND_int (i : Int) : isND (.int i) .none = some (.sh (.bool false)) := eqq rfl
@[simp] theorem isND_list (ds : List D) : isND (.list ds) .none = some (.sh (.bool false)) := eqq rfl
@[simp] theorem isND_tuple (ds : List D) : isND (.tuple ds) .none = some (.sh (.bool false)) := eqq rfl
@[simp] theorem notND_none : notND .none .none = some (.sh (.bool false)) := eqq rfl
@[simp] theorem notND_int (i : Int) : notND (.int i) .none = some (.sh (.bool true)) := eqq rfl
@[simp] theorem notND_list (ds : List D) : notND (.list ds) .none = some (.sh (.bool true)) := eqq rfl
@[simp] theorem notND_tuple (ds : List D) : notND (.tuple ds) .none = some (.sh (.bool true)) := eqq rfl
@[simp] theorem isi_list (T : String) (ds : List D) : isiD T (.list ds) = ("list" == T || (T == "int" && "list" == "bool")) := eqq rfl
@[simp] theorem isi_tuple (T : String) (ds : List D) : isiD T (.tuple ds) = ("tuple" == T || (T == "int" && "tuple" == "bool")) := eqq rfl
@[simp] theorem isi_none (T : String) : isiD T .none = ("NoneType" == T || (T == "int" && "NoneType" == "bool")) := eqq rfl
/-- a comprehension that picks nothing -/
theorem comp_none {tg : Tgt} {ft : EvT} {fe : EvF} {own : List Nat} {E : Lo} : ∀ (ds acc : List D),
    (∀ d ∈ ds, ∃ e1 e2, bindT tg d E = some e1 ∧ ft e1 = .ok (false, e2) ∧ wipeE e2 own = E) → compF tg ft fe own ds acc E = .ok (acc, E)
  | [], acc, _ => rfl
  | d :: ds, acc, h => by
    obtain ⟨e1, e2, q1, q2, q3⟩ := h d List.mem_cons_self
    have ih := comp_none (fe := fe) ds acc fun x hx => h x (List.mem_cons_of_mem _ hx)
    show (Res.ofO (bindT tg d E)).bind _ = _
    rw [q1]
    show (ft e1).bind _ = _
    rw [q2]
    show compF tg ft fe own ds acc (wipeE e2 own) = _
    rw [q3, ih]
@[simp] theorem addD_list (a b : List D) : addD (.list a) (.list b) = if a.length + b.length ≤ 16777216 then some (.ol (a ++ b)) else none := eqq rfl
@[simp] theorem addD_tuple (a b : List D) : addD (.tuple a) (.tuple b) = if a.length + b.length ≤ 16777216 then some (.sh (.tuple (a ++ b))) else none := eqq rfl
theorem sum_ints (ns : List Int) : sumD [.list (ns.map PyData.int)] = some (.sh (.int ns.sum)) := sumD_ints ns
end FL

/-! FD: dicts of one's own, sorted -/
namespace FL
open PySem PySem.Spec PyProof.Rows L2
def keyOf : Sl → Option Key
  | .sh (.int i) => some (.inl i)
  | .sh (.str x) => some (.inr x)
  | _ => none
def datK : Key → D
  | .inl i => .int i
  | .inr x => .str x
def getK (es : List (Key × D)) (k : Key) : Option D := (es.find? fun kv => decide (kv.1 = k)).map (·.2)
def setK (es : List (Key × D)) (k : Key) (d : D) : List (Key × D) :=
  if (es.any fun kv => decide (kv.1 = k)) = true then es.map (fun kv => if kv.1 = k then (kv.1, d) else kv) else es ++ [(k, d)]
section
variable {K : PySem.W.Frag} {mg : Str → Option Value} {G H : Hp}
theorem keyOf_rel {r : Sl} {k : Key} {v : V} {os : List Addr} (e : keyOf r = some k) (h : RI K mg G H (some v) r os) : v = kV k := by
  unfold keyOf at e
  split at e <;> cases e
  · cases h with
    | bx b => cases b with
      | sh d => cases d; rfl
  · cases h with
    | bx b => cases b with
      | sh d => cases d; rfl
theorem dt_key (k : Key) : Dt K G (kV k) (datK k) := by
  cases k
  · exact .int _
  · exact .str _
theorem getK_rel {ks : List (Key × V)} {es : List (Key × D)} (h : DpKV K G ks es) (k : Key) : (∀ d, getK es k = some d → ∃ v, valV ks k = some v ∧ Dt K G v d) ∧ (valV ks k).isSome = (getK es k).isSome := by
  induction h with
  | nil => exact ⟨(fun d e => by simp [getK] at e), rfl⟩
  | @cons k' v' d' ks es hd t ih =>
    by_cases e : k' = k
    · have e1 : valV ((k', v') :: ks) k = some v' := valV_pos e
      have e2 : getK ((k', d') :: es) k = some d' := by simp [getK, List.find?_cons, e]
      rw [e1, e2]
      exact ⟨fun d q => by cases q; exact ⟨_, rfl, hd⟩, rfl⟩
    · have e1 : valV ((k', v') :: ks) k = valV ks k := valV_neg e
      have e2 : getK ((k', d') :: es) k = getK es k := by simp [getK, List.find?_cons, e]
      rw [e1, e2]
      exact ih
theorem any_rel {ks : List (Key × V)} {es : List (Key × D)} (h : DpKV K G ks es) (k : Key) : (ks.any fun kv => decide (kv.1 = k)) = (es.any fun kv => decide (kv.1 = k)) := by
  induction h with
  | nil => rfl
  | cons _ _ ih => rw [List.any_cons, List.any_cons, ih]
theorem DpKV.append {ks ks' : List (Key × V)} {es es' : List (Key × D)} (h : DpKV K G ks es) (h' : DpKV K G ks' es') : DpKV K G (ks ++ ks') (es ++ es') := by
  induction h with
  | nil => exact h'
  | cons a _ ih => exact .cons a ih
theorem DpKV.over {ks : List (Key × V)} {es : List (Key × D)} (h : DpKV K G ks es) (k : Key) {v : V} {d : D} (hv : Dt K G v d) : DpKV K G (ks.map fun kv => if kv.1 = k then (kv.1, v) else kv) (es.map fun kv => if kv.1 = k then (kv.1, d) else kv) := by
  induction h with
  | nil => exact .nil
  | @cons k' _ _ _ _ a _ ih =>
    rw [List.map_cons, List.map_cons]
    by_cases e : k' = k
    · simp only [e, if_true]
      exact .cons hv ih
    · simp only [e, if_false]
      exact .cons a ih
theorem setK_rel {ks : List (Key × V)} {es : List (Key × D)} (h : DpKV K G ks es) (k : Key) {v : V} {d : D} (hv : Dt K G v d) : DpKV K G (putK ks k v) (setK es k d) := by
  unfold putK setK
  rw [any_rel h k]
  split
  · exact h.over k hv
  · exact h.append (.cons hv .nil)
theorem RI.od_inv {es : List (Key × D)} {ov : Option V} {os : List Addr} (h : RI K mg G H ov (.od es) os) : ∃ p ks, ov = some (.ref p) ∧ os = [p] ∧ H p = some (.dK ks) ∧ DpKV K G ks es := by
  cases h with
  | bx b => cases b with
    | od hp ha => exact ⟨_, _, rfl, rfl, hp, ha⟩
end
/-! ### {} -/
def fD0 : EvF := fun env => .ok (.od [], env)
theorem sem_d0 {K : PySem.W.Frag} {mg : Str → Option Value} : SemE K mg tDNewK fD0 := by
  intro σ H env l r env' h e Q q
  cases e
  intro p hp
  obtain ⟨G, os, rp⟩ := h.rep
  exact q _ _ ⟨h.len, ⟨_, _, rp.new hp fun H' e => .bx (.od e .nil)⟩, fun _ z => by cases z⟩
theorem se_d0 {X : Cx} {pos : Pos} : SE X (.Dict [] [] pos) fD0 := ⟨_, pe_dnewK, sem_d0⟩
/-! ### d[k], of a slot's own dict -/
def fDGet (i : Nat) (fk : EvF) : EvF := fun env => match env[i]? with
  | some (.od _) => do
    let (rk, e1) ← fk env
    match keyOf rk, e1[i]? with
    | some k, some (.od es) => do
      let d ← Res.ofO (getK es k)
      .ok (.sh d, e1)
    | _, _ => .bad
  | _ => .bad
theorem od_there {K : PySem.W.Frag} {mg : Str → Option Value} {σ : L2.St} {H : Hp} {env : Lo} {l : List Item} {i : Nat} {es : List (Key × D)} (h : Hold K mg H σ env l) (e : env[i]? = some (.od es)) : ∃ p ks, σ[i]? = some (some (.ref p)) ∧ H p = some (.dK ks) := by
  obtain ⟨ov, eσ, rp⟩ := h.take e
  obtain ⟨G, os, rp⟩ := rp
  obtain ⟨o0, ri0⟩ := rp.rl.mem List.mem_cons_self
  obtain ⟨p, ks, rfl, _, hp, _⟩ := ri0.od_inv
  exact ⟨p, ks, eσ, hp⟩
theorem od_rel {K : PySem.W.Frag} {mg : Str → Option Value} {σ : L2.St} {G H : Hp} {env : Lo} {L : List Item} {os : List Addr} {i : Nat} {p : Addr} {es : List (Key × D)} (rp : Rp K mg G H L os) (hz : ∀ it ∈ σ.zip env, it ∈ L) (eσ : σ[i]? = some (some (.ref p))) (e : env[i]? = some (.od es)) :
    ∃ ks, H p = some (.dK ks) ∧ DpKV K G ks es := by
  obtain ⟨o1, ri⟩ := rp.rl.mem (hz _ (mem_zip eσ e))
  obtain ⟨p', ks, ep, _, hp, hw⟩ := ri.od_inv
  cases ep
  exact ⟨ks, hp, hw⟩
theorem sem_dget {K : PySem.W.Frag} {mg : Str → Option Value} {i : Nat} {tk : TE} {fk : EvF} (hk : SemE K mg tk fk) : SemE K mg (tDGet (tVar i) tk) (fDGet i fk) := by
  intro σ H env l r env' h e Q q
  unfold fDGet at e
  split at e
  case h_2 => cases e
  rename_i es0 e0
  obtain ⟨⟨rk, e1⟩, ek, e⟩ := Res.bind_ok e
  dsimp only at e
  split at e
  case h_2 => cases e
  rename_i k es hkk e4
  obtain ⟨d, ed, e⟩ := Res.bind_ok e
  replace ed := Res.ofO_ok ed
  cases e
  obtain ⟨p, _, eσ, _⟩ := od_there h e0
  refine ⟨.ref p, eσ, ?_⟩
  refine hk σ H env l rk _ h ek _ fun y H2 h3 => ?_
  obtain ⟨G, os, rp⟩ := h3.rep
  obtain ⟨ks, hp, hw⟩ := od_rel rp (fun it hi => List.mem_cons_of_mem _ (List.mem_append_left _ hi)) eσ e4
  obtain ⟨o2, ri2⟩ := rp.rl.mem (ov := some y) (s := rk) List.mem_cons_self
  have ey := keyOf_rel hkk ri2
  obtain ⟨v, ev, dv⟩ := (getK_rel hw k).1 d ed
  have g : DGet H2 p y (some v) := by rw [ey, ← ev]; exact DGet.k hp
  refine ⟨p, v, rfl, g, q v H2 ⟨h3.len, ?_, fun _ z => by cases z⟩⟩
  have rr : Rep K mg H2 ((some v, Sl.sh d) :: ((some y, rk) :: (σ.zip env' ++ l))) := ⟨_, _, rp.sh dv⟩
  exact (rr.perm (.swap _ _ _)).tail
theorem se_dget {X : Cx} {i : Nat} {x : Str} {k : Expr} {fk : EvF} {npos pos : Pos} (hu : X.A.units + 1 < cLine) (hN : X.N[i]? = some x) (hv : Vis X.env.scope x) (hk : SE X k fk) (hd : (x == ("__debug__" : Str)) = false := by decide) (hcd : (x == ("__classdict__" : Str)) = false := by decide) (hs : NoSl k := by intro _ _; rfl) :
    SE X (.Subscript (.Name x npos) k pos) (fDGet i fk) := by
  obtain ⟨t, p, s⟩ := hk.ex
  exact ⟨_, pe_dget hu (pe_var hN hv hd hcd) p hs, sem_dget s⟩
/-! ### k in d, k not in d -/
def fDIn (neg : Bool) (i : Nat) (fk : EvF) : EvF := fun env => do
  let (rk, e1) ← fk env
  match keyOf rk, e1[i]? with
  | some k, some (.od es) => .ok (.sh (.bool (xor neg (getK es k).isSome)), e1)
  | _, _ => .bad
theorem din_core {K : PySem.W.Frag} {mg : Str → Option Value} {neg : Bool} {i : Nat} {tk : TE} {fk : EvF} (hk : SemE K mg tk fk) {σ : L2.St} {H : Hp} {env : Lo} {l : List Item} {r : Sl} {env' : Lo} (h : Hold K mg H σ env l) (e : fDIn neg i fk env = .ok (r, env')) {Q : VK} (q : ∀ v H', HoldV K mg H' σ env' l v r → Q v H') :
    tk σ H fun y H1 => tVar i σ H1 fun x H2 => ∃ a o, x = .ref a ∧ DGet H2 a y o ∧ Q (.bl (xor neg o.isSome)) H2 := by
  unfold fDIn at e
  obtain ⟨⟨rk, e1⟩, ek, e⟩ := Res.bind_ok e
  dsimp only at e
  split at e
  case h_2 => cases e
  rename_i k es hkk e4
  cases e
  refine hk σ H env l rk _ h ek _ fun y H2 h3 => ?_
  obtain ⟨p, _, eσ, _⟩ := od_there h3.drop e4
  obtain ⟨G, os, rp⟩ := h3.rep
  obtain ⟨ks, hp, hw⟩ := od_rel rp (fun it hi => List.mem_cons_of_mem _ (List.mem_append_left _ hi)) eσ e4
  obtain ⟨o2, ri2⟩ := rp.rl.mem (ov := some y) (s := rk) List.mem_cons_self
  have ey := keyOf_rel hkk ri2
  have g : DGet H2 p y (valV ks k) := by rw [ey]; exact DGet.k hp
  refine ⟨.ref p, eσ, p, _, rfl, g, q _ H2 ⟨h3.len, ?_, fun _ z => by cases z⟩⟩
  rw [(getK_rel hw k).2]
  have rr : Rep K mg H2 ((some (.bl (xor neg (getK es k).isSome)), Sl.sh (.bool (xor neg (getK es k).isSome))) :: ((some y, rk) :: (σ.zip env' ++ l))) := ⟨_, _, rp.sh (.bl _)⟩
  exact (rr.perm (.swap _ _ _)).tail
theorem sem_din {K : PySem.W.Frag} {mg : Str → Option Value} {i : Nat} {tk : TE} {fk : EvF} (hk : SemE K mg tk fk) : SemE K mg (tDIn tk (tVar i)) (fDIn false i fk) := by
  intro σ H env l r env' h e Q q
  have := din_core hk h e q
  simp only [Bool.false_xor] at this
  exact this
theorem sem_dnotin {K : PySem.W.Frag} {mg : Str → Option Value} {i : Nat} {tk : TE} {fk : EvF} (hk : SemE K mg tk fk) : SemE K mg (tDNotIn tk (tVar i)) (fDIn true i fk) := by
  intro σ H env l r env' h e Q q
  have := din_core hk h e q
  simp only [Bool.true_xor] at this
  exact this
section
variable {X : Cx} {i : Nat} {x : Str} {k v : Expr} {fk fv : EvF} {npos pos spos : Pos} {ks : List Nat}
theorem se_din (hu : X.A.units + 1 < cLine) (hN : X.N[i]? = some x) (hv : Vis X.env.scope x) (hk : SE X k fk) (hm : behindInMarks .In (.Name x npos) = false := by rfl) (hd : (x == ("__debug__" : Str)) = false := by decide) (hcd : (x == ("__classdict__" : Str)) = false := by decide) :
    SE X (.Compare k [.In] [.Name x npos] pos) (fDIn false i fk) := by
  obtain ⟨t, p, s⟩ := hk.ex
  exact ⟨_, pe_cmp (pc_din hu p (pe_var hN hv hd hcd)) hm, sem_din s⟩
theorem se_dnotin (hu : X.A.units + 1 < cLine) (hN : X.N[i]? = some x) (hv : Vis X.env.scope x) (hk : SE X k fk) (hm : behindInMarks .NotIn (.Name x npos) = false := by rfl) (hd : (x == ("__debug__" : Str)) = false := by decide) (hcd : (x == ("__classdict__" : Str)) = false := by decide) :
    SE X (.Compare k [.NotIn] [.Name x npos] pos) (fDIn true i fk) := by
  obtain ⟨t, p, s⟩ := hk.ex
  exact ⟨_, pe_cmp (pc_dnotin hu p (pe_var hN hv hd hcd)) hm, sem_dnotin s⟩
theorem st_din (hu : X.A.units + 1 < cLine) (hN : X.N[i]? = some x) (hv : Vis X.env.scope x) (hk : SE X k fk) (hm : behindInMarks .In (.Name x npos) = false := by rfl) (hd : (x == ("__debug__" : Str)) = false := by decide) (hcd : (x == ("__classdict__" : Str)) = false := by decide) :
    ST X (.Compare k [.In] [.Name x npos] pos) (fTst (fDIn false i fk)) := by
  obtain ⟨t, p, s⟩ := hk.ex
  exact ⟨_, pt_cmp (pc_din hu p (pe_var hN hv hd hcd)) hm, sem_tst (sem_din s)⟩
theorem st_dnotin (hu : X.A.units + 1 < cLine) (hN : X.N[i]? = some x) (hv : Vis X.env.scope x) (hk : SE X k fk) (hm : behindInMarks .NotIn (.Name x npos) = false := by rfl) (hd : (x == ("__debug__" : Str)) = false := by decide) (hcd : (x == ("__classdict__" : Str)) = false := by decide) :
    ST X (.Compare k [.NotIn] [.Name x npos] pos) (fTst (fDIn true i fk)) := by
  obtain ⟨t, p, s⟩ := hk.ex
  exact ⟨_, pt_cmp (pc_dnotin hu p (pe_var hN hv hd hcd)) hm, sem_tst (sem_dnotin s)⟩
end
/-! ### d[k] = v -/
def fDPut (i : Nat) (fv fk : EvF) : EvS := fun env => do
  let (r, e1) ← fv env
  let (d, e2) ← Res.ofO (freezeR e1 r)
  match e2[i]? with
  | some (.od _) => do
    let (rk, e3) ← fk e2
    match keyOf rk, e3[i]? with
    | some k, some (.od es) => if es.length < 16777216 then .ok (.nx (e3.set i (.od (setK es k d)))) else .bad
    | _, _ => .bad
  | _ => .bad
theorem sem_dput {K : PySem.W.Frag} {mg : Str → Option Value} {ks : List Nat} {i : Nat} {tv tk : TE} {fv fk : EvF} (hv : SemE K mg tv fv) (hk : SemE K mg tk fk) : SemS K mg ks (sDPut (tVar i) tk tv) (fDPut i fv fk) := by
  intro σ H env l o h e D post
  unfold fDPut at e
  obtain ⟨⟨r, e1⟩, ea, e⟩ := Res.bind_ok e
  obtain ⟨⟨d, e2⟩, ef, e⟩ := Res.bind_ok e
  replace ef := Res.ofO_ok ef
  dsimp only at e
  split at e
  case h_2 => cases e
  rename_i es0 e0
  obtain ⟨⟨rk, e3⟩, ek, e⟩ := Res.bind_ok e
  dsimp only at e
  split at e
  case h_2 => cases e
  rename_i k es hkk e4
  split at e
  case isFalse => cases e
  rename_i hz
  cases e
  refine hv σ H env l r e1 h ea _ fun v H1 h1 => ?_
  have h2 := h1.freeze ef
  obtain ⟨p, _, eσ, _⟩ := od_there h2.hold e0
  refine ⟨.ref p, eσ, ?_⟩
  refine hk σ H1 e2 _ _ e3 h2.hold ek _ fun y H2 h3 => ?_
  obtain ⟨ov', eσ', rp⟩ := h3.hold.take e4
  rw [eσ] at eσ'; cases eσ'
  obtain ⟨G, os, rp⟩ := rp
  obtain ⟨o1, ri⟩ := rp.rl.mem List.mem_cons_self
  obtain ⟨p', ks', ep, _, hp, hw⟩ := ri.od_inv
  cases ep
  obtain ⟨v2, q2, dv⟩ := rp.shOf (ov := some v) (d := d) (List.mem_cons_of_mem _ (List.mem_append_right _ (List.mem_cons_of_mem _ List.mem_cons_self)))
  cases q2
  obtain ⟨o2, ri2⟩ := rp.rl.mem (ov := some y) (s := rk) (List.mem_cons_of_mem _ (List.mem_append_right _ List.mem_cons_self))
  have ey := keyOf_rel hkk ri2
  subst ey
  refine ⟨p, _, rfl, DPut.k hp (by rw [hw.length, sizeLine_eq]; omega), ?_⟩
  refine post σ _ ⟨by rw [List.length_set]; exact h3.len, ?_⟩ .refl
  have rp2 := rp.mut (s' := .od (setK es k d)) (o := .dK (putK ks' k v)) od_own fun H' e => .bx (.od e (setK_rel hw k dv))
  have rp4 := Rep.put ⟨_, _, rp2⟩ (by rw [List.length_set]; exact h3.len) eσ
  rw [List.set_set] at rp4
  exact Rep.dropM (M := [_, _]) rp4
theorem ss_dput {X : Cx} {i : Nat} {x : Str} {k v : Expr} {fk fv : EvF} {npos pos spos : Pos} {ks : List Nat} (hu : X.A.units + 1 < cLine) (hN : X.N[i]? = some x) (hv : Vis X.env.scope x) (he : SE X v fv) (hk : SE X k fk) (hd : (x == ("__debug__" : Str)) = false := by decide) (hcd : (x == ("__classdict__" : Str)) = false := by decide)
    (hs : swapsWith v (some (.Subscript (.Name x npos) k spos)) pos.line X.env = pure false := by rfl) : SS X ks (.Assign [.Subscript (.Name x npos) k spos] v pos) (fDPut i fv fk) := by
  obtain ⟨t, p, s⟩ := he.ex
  obtain ⟨t2, p2, s2⟩ := hk.ex
  exact ⟨_, ps_dput hu (pe_var hN hv hd hcd) p2 p hs, sem_dput s s2⟩
/-! ### list(d): its keys -/
def fDKeys (i : Nat) : EvF := fun env => match env[i]? with
  | some (.od es) => .ok (.ol (es.map fun kv => datK kv.1), env)
  | _ => .bad
theorem keys_rel {K : PySem.W.Frag} {G : Hp} {ks : List (Key × V)} {es : List (Key × D)} (h : DpKV K G ks es) : DtAll K G (ks.map fun kv => kV kv.1) (es.map fun kv => datK kv.1) := by
  induction h with
  | nil => exact .nil
  | cons _ _ ih => exact .cons (dt_key _) ih
theorem sem_dkeys {K : PySem.W.Frag} {mg : Str → Option Value} {i : Nat} : SemE K mg (tCB rListD (tCons (tVar i) tNil)) (fDKeys i) := by
  intro σ H env l r env' h e Q q
  unfold fDKeys at e
  split at e
  case h_2 => cases e
  rename_i es e0
  cases e
  obtain ⟨p, _, eσ, _⟩ := od_there h e0
  obtain ⟨G, os, rp⟩ := h.rep
  obtain ⟨ks, hp, hw⟩ := od_rel rp (fun it hi => List.mem_append_left _ hi) eσ e0
  refine ⟨.ref p, eσ, p, ks, rfl, hp, fun a ha => q _ _ ⟨h.len, ?_, fun _ z => by cases z⟩⟩
  exact ⟨_, _, rp.newOl ha (keys_rel hw)⟩
theorem se_dkeys {X : Cx} {i : Nat} {x : Str} {npos pos p : Pos} (hc : X.calm = true) (hm : X.mg "list" = none) (hN : X.N[i]? = some x) (hv : Vis X.env.scope x) (hg : Gl X "list" := by rfl) (hd : (x == ("__debug__" : Str)) = false := by decide) (hcd : (x == ("__classdict__" : Str)) = false := by decide)
    (he : starEach [.Name x npos] X.env = (false, eval (.Name x npos) X.env) :: starEach [] X.env := by rfl) (hpl : (backTo pos (starEach [] X.env)).any (·.1) = false := by rfl) : SE X (.Call (.Name "list" p) [.Name x npos] [] pos) (fDKeys i) :=
  ⟨_, pe_callTy (call_list_dK hc) hg hm bt_list (pa_cons (pe_var hN hv hd hcd) pa_nil) (by decide) (by decide) he hpl, sem_dkeys⟩
/-! ### sorted, of whole numbers -/
def insI (x : Int) : List Int → List Int
  | [] => [x]
  | y :: ys => if x ≤ y then x :: y :: ys else y :: insI x ys
def sortI : List Int → List Int
  | [] => []
  | x :: xs => insI x (sortI xs)
theorem insI_perm (x : Int) : ∀ ys, (insI x ys).Perm (x :: ys)
  | [] => .refl _
  | y :: ys => by
    unfold insI
    split
    · exact .refl _
    · exact ((insI_perm x ys).cons y).trans (.swap _ _ _)
theorem sortI_perm : ∀ xs, (sortI xs).Perm xs
  | [] => .refl _
  | x :: xs => (insI_perm x _).trans ((sortI_perm xs).cons x)
theorem insI_srt (x : Int) : ∀ ys, ys.Pairwise (· ≤ ·) → (insI x ys).Pairwise (· ≤ ·)
  | [], _ => by simp [insI]
  | y :: ys, h => by
    unfold insI
    have h1 := (List.pairwise_cons.mp h).1
    split
    · rename_i hxy
      refine List.Pairwise.cons (fun z hz => ?_) h
      rcases List.mem_cons.mp hz with rfl | hz
      · exact hxy
      · exact Int.le_trans hxy (h1 z hz)
    · refine List.Pairwise.cons (fun z hz => ?_) (insI_srt x ys h.of_cons)
      rcases List.mem_cons.mp ((insI_perm x ys).mem_iff.mp hz) with rfl | hz
      · omega
      · exact h1 z hz
theorem sortI_srt : ∀ xs, (sortI xs).Pairwise (· ≤ ·)
  | [] => .nil
  | x :: xs => insI_srt x _ (sortI_srt xs)
theorem srt_uniq : ∀ {xs ys : List Int}, xs.Pairwise (· ≤ ·) → ys.Pairwise (· ≤ ·) → xs.Perm ys → xs = ys
  | [], ys, _, _, p => (List.Perm.nil_eq p)
  | x :: xs, [], _, _, p => by have := p.length_eq; simp at this
  | x :: xs, y :: ys, h1, h2, p => by
    have a1 := (List.pairwise_cons.mp h1).1
    have a2 := (List.pairwise_cons.mp h2).1
    have e : x = y := by
      have m1 : x ∈ y :: ys := p.mem_iff.mp List.mem_cons_self
      have m2 : y ∈ x :: xs := p.mem_iff.mpr List.mem_cons_self
      rcases List.mem_cons.mp m1 with e | m1
      · exact e
      · rcases List.mem_cons.mp m2 with e | m2
        · exact e.symm
        · have := a1 y m2; have := a2 x m1; omega
    subst e
    rw [srt_uniq h1.of_cons h2.of_cons p.cons_inv]
def sortedD : List D → Option Sl
  | [.list ds] => (intsOf ds).map fun ns => .ol ((sortI ns).map PyData.int)
  | _ => none
theorem sc_sorted {K : PySem.W.Frag} : SemC K (rSortedI K) sortedD := by
  intro G H vs ds s Q sm h e q
  unfold sortedD at e
  split at e
  · rename_i ds'
    obtain ⟨ns, en, rfl⟩ := Option.map_eq_some_iff.mp e
    obtain ⟨v, rfl, d⟩ := h.one
    have ed := intsOf_eq en
    subst ed
    obtain ⟨p, ws, rfl, hp, hv⟩ := d.list sm
    rw [DtAll.of_ints hv] at hp
    refine ⟨p, ns, rfl, .of hp, fun ns' a hpm hs ha => ?_⟩
    have : ns' = sortI ns := srt_uniq hs (sortI_srt ns) (hpm.trans (sortI_perm ns).symm)
    subst this
    exact q _ _ (.newL ha (DtAll.ints _))
  · cases e
theorem bt_sorted : bootBuiltins "sorted" = some (.builtin "sorted") := by decide +kernel
theorem se_sorted {X : Cx} {a : Expr} {fs : EvA} {p pos : Pos} (hm : X.mg "sorted" = none) (ha : SA X [a] fs) (hg : Gl X "sorted" := by rfl) (he : starEach [a] X.env = (false, eval a X.env) :: starEach [] X.env := by rfl) (hpl : (backTo pos (starEach [] X.env)).any (·.1) = false := by rfl) : SE X (.Call (.Name "sorted" p) [a] [] pos) (fCB sortedD fs) :=
  se_cB cr_sortedI sc_sorted hg hm bt_sorted ha (by decide) (by decide) he hpl
/-! ### how these are reckoned -/
@[simp] theorem ev_d0 (env : Lo) : fD0 env = .ok (.od [], env) := eqq rfl
@[simp] theorem keyOf_int (i : Int) : keyOf (.sh (.int i)) = some (.inl i) := eqq rfl
@[simp] theorem keyOf_str (x : Str) : keyOf (.sh (.str x)) = some (.inr x) := eqq rfl
def dgV (e : Lo) : Option D → Res (Sl × Lo)
  | some d => .ok (.sh d, e)
  | none => .bad
@[simp] theorem dgV_some (e : Lo) (d : D) : dgV e (some d) = .ok (.sh d, e) := eqq rfl
def dgK (e : Lo) : Option Key → Option Sl → Res (Sl × Lo)
  | some k, some (.od es) => dgV e (getK es k)
  | _, _ => .bad
@[simp] theorem dgK_od (e : Lo) (k : Key) (es : List (Key × D)) : dgK e (some k) (some (.od es)) = dgV e (getK es k) := eqq rfl
def dgC (i : Nat) (p : Sl × Lo) : Res (Sl × Lo) := dgK p.2 (keyOf p.1) p.2[i]?
@[simp] theorem dgC_ev (i : Nat) (r : Sl) (e : Lo) : dgC i (r, e) = dgK e (keyOf r) e[i]? := eqq rfl
def dgS (i : Nat) (fk : EvF) (env : Lo) : Option Sl → Res (Sl × Lo)
  | some (.od _) => (fk env).bind (dgC i)
  | _ => .bad
@[simp] theorem dgS_od (i : Nat) (fk : EvF) (env : Lo) (es : List (Key × D)) : dgS i fk env (some (.od es)) = (fk env).bind (dgC i) := eqq rfl
@[simp] theorem ev_dget (i : Nat) (fk : EvF) (env : Lo) : fDGet i fk env = dgS i fk env env[i]? := by
  have k2 : ∀ (o : Option Key) (e1 : Lo) (s : Option Sl), (match o, s with | some k, some (.od es) => (do let d ← Res.ofO (getK es k); Res.ok (Sl.sh d, e1)) | _, _ => Res.bad) = dgK e1 o s := by
    intro o e1 s
    cases o with
    | none => rfl
    | some k =>
      cases s with
      | none => rfl
      | some s =>
        cases s <;> first | rfl | skip
        rename_i es
        show (Res.ofO (getK es k)).bind _ = dgV e1 (getK es k)
        cases getK es k <;> rfl
  have key : ∀ o : Option Sl, (match o with | some (.od _) => (do let (rk, e1) ← fk env; match keyOf rk, e1[i]? with | some k, some (.od es) => (do let d ← Res.ofO (getK es k); Res.ok (Sl.sh d, e1)) | _, _ => Res.bad) | _ => Res.bad) = dgS i fk env o := by
    intro o
    cases o with
    | none => rfl
    | some s =>
      cases s <;> first | rfl | skip
      show (fk env).bind _ = (fk env).bind _
      congr 1
      funext ⟨rk, e1⟩
      exact k2 _ _ _
  exact key _
def diK (neg : Bool) (e : Lo) : Option Key → Option Sl → Res (Sl × Lo)
  | some k, some (.od es) => .ok (.sh (.bool (xor neg (getK es k).isSome)), e)
  | _, _ => .bad
@[simp] theorem diK_od (neg : Bool) (e : Lo) (k : Key) (es : List (Key × D)) : diK neg e (some k) (some (.od es)) = .ok (.sh (.bool (xor neg (getK es k).isSome)), e) := eqq rfl
def diC (neg : Bool) (i : Nat) (p : Sl × Lo) : Res (Sl × Lo) := diK neg p.2 (keyOf p.1) p.2[i]?
@[simp] theorem diC_ev (neg : Bool) (i : Nat) (r : Sl) (e : Lo) : diC neg i (r, e) = diK neg e (keyOf r) e[i]? := eqq rfl
theorem diK_eq (neg : Bool) (e1 : Lo) (o : Option Key) (s : Option Sl) : (match o, s with | some k, some (.od es) => Res.ok (Sl.sh (.bool (xor neg (getK es k).isSome)), e1) | _, _ => Res.bad) = diK neg e1 o s := by
  cases o with
  | none => rfl
  | some k =>
    cases s with
    | none => rfl
    | some s => cases s <;> rfl
@[simp] theorem ev_din (neg : Bool) (i : Nat) (fk : EvF) (env : Lo) : fDIn neg i fk env = (fk env).bind (diC neg i) := by
  have e : (fun p : Sl × Lo => (match keyOf p.1, p.2[i]? with | some k, some (.od es) => Res.ok (Sl.sh (.bool (xor neg (getK es k).isSome)), p.2) | _, _ => Res.bad)) = diC neg i := by
    funext p
    exact diK_eq neg p.2 (keyOf p.1) p.2[i]?
  rw [← e]
  rfl
def dpK (i : Nat) (d : D) (e : Lo) : Option Key → Option Sl → Res Out
  | some k, some (.od es) => if es.length < 16777216 then .ok (.nx (e.set i (.od (setK es k d)))) else .bad
  | _, _ => .bad
@[simp] theorem dpK_od (i : Nat) (d : D) (e : Lo) (k : Key) (es : List (Key × D)) : dpK i d e (some k) (some (.od es)) = if es.length < 16777216 then .ok (.nx (e.set i (.od (setK es k d)))) else .bad := eqq rfl
def dpC (i : Nat) (d : D) (p : Sl × Lo) : Res Out := dpK i d p.2 (keyOf p.1) p.2[i]?
@[simp] theorem dpC_ev (i : Nat) (d : D) (r : Sl) (e : Lo) : dpC i d (r, e) = dpK i d e (keyOf r) e[i]? := eqq rfl
def dpS (i : Nat) (fk : EvF) (d : D) (e : Lo) : Option Sl → Res Out
  | some (.od _) => (fk e).bind (dpC i d)
  | _ => .bad
@[simp] theorem dpS_od (i : Nat) (fk : EvF) (d : D) (e : Lo) (es : List (Key × D)) : dpS i fk d e (some (.od es)) = (fk e).bind (dpC i d) := eqq rfl
def dpF (i : Nat) (fk : EvF) : Option (D × Lo) → Res Out
  | some (d, e) => dpS i fk d e e[i]?
  | none => .bad
@[simp] theorem dpF_some (i : Nat) (fk : EvF) (d : D) (e : Lo) : dpF i fk (some (d, e)) = dpS i fk d e e[i]? := eqq rfl
def dpC1 (i : Nat) (fk : EvF) (p : Sl × Lo) : Res Out := dpF i fk (freezeR p.2 p.1)
@[simp] theorem dpC1_ev (i : Nat) (fk : EvF) (r : Sl) (e : Lo) : dpC1 i fk (r, e) = dpF i fk (freezeR e r) := eqq rfl
theorem dpK_eq (i : Nat) (d : D) (o : Option Key) (e3 : Lo) (s : Option Sl) : (match o, s with | some k, some (.od es) => (if es.length < 16777216 then Res.ok (Out.nx (e3.set i (.od (setK es k d)))) else .bad) | _, _ => Res.bad) = dpK i d e3 o s := by
  cases o with
  | none => rfl
  | some k =>
    cases s with
    | none => rfl
    | some s => cases s <;> rfl
theorem dpC_eq (i : Nat) (d : D) : (fun p : Sl × Lo => (match keyOf p.1, p.2[i]? with | some k, some (.od es) => (if es.length < 16777216 then Res.ok (Out.nx (p.2.set i (.od (setK es k d)))) else .bad) | _, _ => Res.bad)) = dpC i d := by
  funext p
  exact dpK_eq i d (keyOf p.1) p.2 p.2[i]?
@[simp] theorem ev_dput (i : Nat) (fv fk : EvF) (env : Lo) : fDPut i fv fk env = (fv env).bind (dpC1 i fk) := by
  have key : ∀ (e2 : Lo) (d : D) (o : Option Sl), (match o with | some (.od _) => (fk e2).bind (fun p : Sl × Lo => (match keyOf p.1, p.2[i]? with | some k, some (.od es) => (if es.length < 16777216 then Res.ok (Out.nx (p.2.set i (.od (setK es k d)))) else .bad) | _, _ => Res.bad)) | _ => Res.bad) = dpS i fk d e2 o := by
    intro e2 d o
    rw [dpC_eq]
    cases o with
    | none => rfl
    | some s => cases s <;> rfl
  show (fv env).bind _ = (fv env).bind _
  refine congrArg _ ?_
  funext ⟨r, e1⟩
  show (Res.ofO (freezeR e1 r)).bind _ = dpF i fk (freezeR e1 r)
  cases freezeR e1 r with
  | none => rfl
  | some p =>
    obtain ⟨d, e2⟩ := p
    exact key e2 d _
def dkS (env : Lo) : Option Sl → Res (Sl × Lo)
  | some (.od es) => .ok (.ol (es.map fun kv => datK kv.1), env)
  | _ => .bad
@[simp] theorem dkS_od (env : Lo) (es : List (Key × D)) : dkS env (some (.od es)) = .ok (.ol (es.map fun kv => datK kv.1), env) := eqq rfl
@[simp] theorem ev_dkeys (i : Nat) (env : Lo) : fDKeys i env = dkS env env[i]? := by
  have key : ∀ o : Option Sl, (match o with | some (.od es) => Res.ok (Sl.ol (es.map fun kv => datK kv.1), env) | _ => Res.bad) = dkS env o := by
    intro o
    cases o with
    | none => rfl
    | some s => cases s <;> rfl
  exact key _
@[simp] theorem sortedD_ints (ns : List Int) : sortedD [.list (ns.map PyData.int)] = some (.ol ((sortI ns).map PyData.int)) := by
  show (intsOf _).map _ = _
  rw [intsOf_map]; rfl
/-! ### while -/
def whC2 (c : EvT) (b : EvS) (n : Nat) : Out → Res Out
  | .nx e => whileF c b n e
  | .ct e => whileF c b n e
  | .bk e => .ok (.nx e)
  | .rt r e => .ok (.rt r e)
@[simp] theorem whC2_nx (c : EvT) (b : EvS) (n : Nat) (e : Lo) : whC2 c b n (.nx e) = whileF c b n e := eqq rfl
@[simp] theorem whC2_ct (c : EvT) (b : EvS) (n : Nat) (e : Lo) : whC2 c b n (.ct e) = whileF c b n e := eqq rfl
@[simp] theorem whC2_bk (c : EvT) (b : EvS) (n : Nat) (e : Lo) : whC2 c b n (.bk e) = .ok (.nx e) := eqq rfl
@[simp] theorem whC2_rt (c : EvT) (b : EvS) (n : Nat) (r : Sl) (e : Lo) : whC2 c b n (.rt r e) = .ok (.rt r e) := eqq rfl
def whC1 (c : EvT) (b : EvS) (n : Nat) : Bool × Lo → Res Out
  | (true, e) => (b e).bind (whC2 c b n)
  | (false, e) => .ok (.nx e)
@[simp] theorem whC1_t (c : EvT) (b : EvS) (n : Nat) (e : Lo) : whC1 c b n (true, e) = (b e).bind (whC2 c b n) := eqq rfl
@[simp] theorem whC1_f (c : EvT) (b : EvS) (n : Nat) (e : Lo) : whC1 c b n (false, e) = .ok (.nx e) := eqq rfl
theorem while_succ (c : EvT) (b : EvS) (n : Nat) (e : Lo) : whileF c b (n + 1) e = (c e).bind (whC1 c b n) := by
  show (c e).bind _ = (c e).bind _
  refine congrArg _ ?_
  funext ⟨k, e1⟩
  cases k with
  | false => rfl
  | true =>
    show (b e1).bind _ = (b e1).bind _
    refine congrArg _ ?_
    funext o
    cases o <;> rfl
@[simp] theorem ev_while (fuel : Lo → Nat) (c : EvT) (b : EvS) (env : Lo) : fWhile fuel c b env = whileF c b (fuel env) env := eqq rfl
/-- a slot's number, as a loop's measure -/
def natS (i : Nat) (e : Lo) : Nat := match e[i]? with
  | some (.sh (.int j)) => j.toNat + 1
  | _ => 0
theorem natS_int {i : Nat} {e : Lo} {j : Int} (h : e[i]? = some (.sh (.int j))) : natS i e = j.toNat + 1 := by
  unfold natS
  rw [h]
end FL

/-! FP: xs.insert(i, y), xs.pop(i) -/
namespace FL
open PySem PySem.Spec PyProof.Rows L2
abbrev rInsert : V → List V → Hp → VK → Prop := fun x vs H Q => ∃ (l : Addr) (xs : List V) (i : Int) (y : V), x = .ref l ∧ vs = [.int i, y] ∧ H l = some (.lst xs) ∧ xs.length < sizeLine ∧ 0 ≤ i ∧ i < 2 ^ 63 ∧
    Q .non (upd H l (.lst (xs.take i.toNat ++ [y] ++ xs.drop i.toNat)))
def insertM (ds : List D) : List D → Option (List D × D)
  | [.int i, y] => if ds.length < 16777216 ∧ 0 ≤ i ∧ i < 2 ^ 63 then some (ds.take i.toNat ++ [y] ++ ds.drop i.toNat, .none) else none
  | _ => none
theorem sm_insert {K : PySem.W.Frag} : SemM rInsert K insertM := by
  intro G H p ws ds vs es ds' y Q sm gp hp ha hv e q
  unfold insertM at e
  split at e
  · split at e
    · rename_i i d hz
      cases e
      cases hv with
      | cons a b =>
        cases b with
        | cons c b =>
          cases b
          cases a
          exact ⟨p, ws, _, _, rfl, rfl, hp, sizeL' (by rw [ha.length]; exact hz.1), hz.2.1, hz.2.2, q _ _ (((ha.take _).append (.one c)).append (ha.drop _)) .non⟩
    · cases e
  · cases e
def popAtM (ds : List D) : List D → Option (List D × D)
  | [.int i] => if 0 ≤ i ∧ i < 2 ^ 63 then (ds[i.toNat]?).map fun d => (ds.eraseIdx i.toNat, d) else none
  | _ => none
theorem sm_popAt {K : PySem.W.Frag} : SemM rPopAt K popAtM := by
  intro G H p ws ds vs es ds' y Q sm gp hp ha hv e q
  unfold popAtM at e
  split at e
  · split at e
    · rename_i i hz
      simp only [Option.map_eq_some_iff] at e
      obtain ⟨d, e1, e2⟩ := e
      cases e2
      cases hv with
      | cons a b =>
        cases b
        cases a
        obtain ⟨v, f1, f2⟩ := ha.get e1
        have hlt : i.toNat < ws.length := by rw [ha.length]; exact (List.getElem?_eq_some_iff.mp e1).1
        refine ⟨p, ws, i, i.toNat, v, rfl, rfl, hp, by omega, hz.2, ?_, f1, q _ _ (ha.eraseIdx _) f2⟩
        have h3 : ¬ i < 0 := by omega
        have h4 : i < (ws.length : Int) := by omega
        simp [seqIndex?, h3, h4, hz.1]
    · cases e
  · cases e
@[simp] theorem mutV_insert (j : Nat) (i : Int) (d : D) (e : Lo) (ds : List D) : mutV j insertM [.int i, d] e (some (.ol ds)) = if ds.length < 16777216 ∧ 0 ≤ i ∧ i < 9223372036854775808 then .ok (.sh .none, e.set j (.ol (ds.take i.toNat ++ [d] ++ ds.drop i.toNat))) else .bad := by
  unfold mutV insertM
  show (match (if ds.length < 16777216 ∧ 0 ≤ i ∧ i < 9223372036854775808 then some (ds.take i.toNat ++ [d] ++ ds.drop i.toNat, PyData.none) else none) with | some (ds', y) => _ | none => _) = _
  split
  · rename_i h
    split at h
    · rename_i hz
      cases h
      rw [if_pos hz]
    · cases h
  · rename_i h
    split at h
    · cases h
    · rename_i hz
      rw [if_neg hz]
theorem mutV_popAt {j : Nat} {i : Int} {e : Lo} {ds : List D} {d : D} (h0 : 0 ≤ i) (h1 : i < 9223372036854775808) (h : ds[i.toNat]? = some d) : mutV j popAtM [.int i] e (some (.ol ds)) = .ok (.sh d, e.set j (.ol (ds.eraseIdx i.toNat))) := by
  refine mutV_ol ?_
  show (if 0 ≤ i ∧ i < 9223372036854775808 then (ds[i.toNat]?).map fun d => (ds.eraseIdx i.toNat, d) else none) = _
  rw [if_pos ⟨h0, h1⟩, h]
  rfl
end FL

/-! FQ: comprehensions over zip of two names, whose lists stay their own -/
namespace FL
open PySem PySem.Spec PyProof.Rows L2
def seqS : Sl → Option (List D)
  | .sh d => seqOf d
  | .ol ds => some ds
  | _ => none
def tpS : Sl → Bool
  | .sh d => isTup d
  | _ => false
theorem seqS_at {K : PySem.W.Frag} {mg : Str → Option Value} {G H : Hp} {L : List Item} {os : List Addr} {v : V} {s : Sl} {xs : List D} (rp : Rp K mg G H L os) (hm : (some v, s) ∈ L) (e : seqS s = some xs) : ∃ (a : Addr) (vs : List V), v = .ref a ∧ sqS K H (tpS s) a vs ∧ DtAll K G vs xs := by
  cases s with
  | sh d =>
    obtain ⟨v', ev, dd⟩ := rp.shOf hm
    cases ev
    cases dd with
    | lst hs ha => cases e; exact ⟨_, _, rfl, .of (rp.same _ _ hs), ha⟩
    | tup hs ha => cases e; exact ⟨_, _, rfl, .of (rp.same _ _ hs), ha⟩
    | non => cases e
    | bl _ => cases e
    | int _ => cases e
    | str _ => cases e
  | ol ds =>
    cases e
    obtain ⟨o, ri⟩ := rp.rl.mem hm
    obtain ⟨p, vs, ev, _, hp, ha⟩ := ri.ol_inv
    cases ev
    exact ⟨p, vs, rfl, .of hp, ha⟩
  | no => cases e
  | od _ => cases e
  | td _ => cases e
  | oi _ _ => cases e
  | vw _ => cases e
  | sc _ => cases e
theorem itok_zipS {K : PySem.W.Frag} {mg : Str → Option Value} {a b : Addr} {s t : Sl} {xs ys : List D} (ea : seqS s = some xs) (eb : seqS t = some ys) :
    ItOk K mg (ItzM K (tpS s) (tpS t) a b) [(some (.ref a), s), (some (.ref b), t)] (zipD xs ys) := by
  intro i G H os L rp hm
  obtain ⟨a', vs, e1, q1, h1⟩ := seqS_at rp (hm (some (.ref a), s) (by simp)) ea
  obtain ⟨b', ws, e2, q2, h2⟩ := seqS_at rp (hm (some (.ref b), t) (by simp)) eb
  cases e1
  cases e2
  have hlen : (zipD xs ys).length = min xs.length ys.length := by simp [zipD]
  constructor
  · intro d hd
    have hi := (List.getElem?_eq_some_iff.mp hd).1
    rw [hlen] at hi
    have ex : xs[i]? = some xs[i] := List.getElem?_eq_getElem (by omega)
    have ey : ys[i]? = some ys[i] := List.getElem?_eq_getElem (by omega)
    have ed : d = .tuple [xs[i], ys[i]] := by
      unfold zipD at hd
      rw [List.getElem?_zipWith, ex, ey] at hd
      cases hd; rfl
    obtain ⟨x, x1, x2⟩ := h1.get ex
    obtain ⟨y, y1, y2⟩ := h2.get ey
    refine ⟨⟨vs, ws, x, y, q1, q2, x1, y1⟩, fun v H' hy => ?_⟩
    obtain ⟨T, x', y', rfl, hT, rfl, f1, f2⟩ := hy
    have := f1 vs q1; rw [x1] at this; cases this
    have := f2 ws q2; rw [y1] at this; cases this
    refine ⟨_, .step .refl hT, ?_⟩
    rw [ed]
    have sG : Same G (upd G T (.tup [x, y])) := sameG (rp.same.free hT)
    exact .tup (upd_same) (.cons (Dt.mono sG _ _ x2) (.cons (Dt.mono sG _ _ y2) .nil))
  · intro hi
    rw [hlen] at hi
    have l1 := h1.length
    have l2 := h2.length
    exact ⟨vs, ws, q1, q2, by omega, by omega, by omega⟩
def zipN (i j : Nat) (env : Lo) (s t : Sl) : Res (List Sl × List D × Lo) := match seqS s, seqS t with
  | some xs, some ys => .ok ([s, t], zipD xs ys, (env.set i .no).set j .no)
  | _, _ => .bad
def fZipN (i j : Nat) : EvI := fun env => match env[i]?, env[j]? with
  | some s, some t => if i = j then .bad else zipN i j env s t
  | _, _ => .bad
section
variable {X : Cx}
theorem semip_zipN {e e2 : Expr} {ti : TI} {elts : List Expr} {kk : Nat} {tpos p pos : Pos} {i j : Nat} {x y : Str} {n1 n2 : Pos} (hg : Gl X "zip") (hm : X.mg "zip" = none) (hx : X.N[i]? = some x) (hvx : Vis X.env.scope x) (hy : X.N[j]? = some y) (hvy : Vis X.env.scope y)
    (hd : (x == ("__debug__" : Str)) = false := by decide) (hcd : (x == ("__classdict__" : Str)) = false := by decide) (hd' : (y == ("__debug__" : Str)) = false := by decide) (hcd' : (y == ("__classdict__" : Str)) = false := by decide)
    (hs2 : starEach [.Name y n2] X.env = (false, eval (.Name y n2) X.env) :: starEach [] X.env := by rfl)
    (hs : starEach [.Name x n1, .Name y n2] X.env = (false, eval (.Name x n1) X.env) :: starEach [.Name y n2] X.env := by rfl) (hpl : (backTo pos (starEach [.Name y n2] X.env)).any (·.1) = false := by rfl) :
    ∃ w, PI X (.Tuple elts kk tpos) (.Call (.Name "zip" p) [.Name x n1, .Name y n2] [] pos) w ∧ SemIP X.K X.mg w (fZipN i j) (fun σ vs => ∃ va vb, vs = [va, vb] ∧ σ[i]? = some (some va) ∧ σ[j]? = some (some vb)) := by
  refine ⟨_, pi_zipM hg hm (pa_cons (pe_var hx hvx hd hcd) (pa_cons (pe_var hy hvy hd' hcd') pa_nil hs2) hs) hs hpl, ?_⟩
  intro σ H env l ks ds env' h e R q
  unfold fZipN at e
  split at e
  case h_2 => cases e
  rename_i s t e0 e1
  split at e
  · cases e
  rename_i hij
  unfold zipN at e
  split at e
  case h_2 => cases e
  rename_i xs ys ex ey
  cases e
  obtain ⟨ov, eσ, rp0⟩ := h.take e0
  have h1 : Hold X.K X.mg H σ (env.set i .no) ((ov, s) :: l) := ⟨by rw [List.length_set]; exact h.len, rp0.perm perm_mid⟩
  have e1' : (env.set i Sl.no)[j]? = some t := by rw [List.getElem?_set_ne hij]; exact e1
  obtain ⟨ow, eτ, rp1⟩ := h1.take e1'
  obtain ⟨G, os, rp⟩ := id rp1
  have m1 : (ov, s) ∈ ((ow, t) :: (σ.zip ((env.set i Sl.no).set j Sl.no) ++ (ov, s) :: l)) := List.mem_cons_of_mem _ (List.mem_append_right _ List.mem_cons_self)
  have sn : s ≠ .no := fun z => by rw [z] at ex; cases ex
  have tn : t ≠ .no := fun z => by rw [z] at ey; cases ey
  obtain ⟨v, rfl⟩ := rp.someOf m1 sn
  obtain ⟨w, rfl⟩ := rp.someOf (ov := ow) (s := t) List.mem_cons_self tn
  obtain ⟨a, vs, rfl, q1, _⟩ := seqS_at rp m1 ex
  obtain ⟨b, ws, rfl, q2, _⟩ := seqS_at rp (v := w) List.mem_cons_self ey
  refine ⟨.ref a, eσ, .ref b, eτ, ?_⟩
  refine ⟨_, _, a, b, vs, ws, rfl, q1, q2, q _ [.ref a, .ref b] H ⟨by rw [List.length_set, List.length_set]; exact h.len, ?_, rfl, fun k v' r' z1 z2 => ?_⟩ (itok_zipS ex ey) ⟨_, _, rfl, eσ, eτ⟩⟩
  · refine rp1.perm ?_
    refine List.Perm.trans (List.Perm.cons _ perm_mid.symm) ?_
    exact .swap _ _ _
  · have nv : ∀ r, (r = s ∨ r = t) → ∀ k, r ≠ .vw k := fun r hr k z => by
      rcases hr with rfl | rfl
      · rw [z] at ex; cases ex
      · rw [z] at ey; cases ey
    have : r' = s ∨ r' = t := by
      cases k with
      | zero => simp at z2; exact .inl z2.symm
      | succ k =>
        cases k with
        | zero => simp at z2; exact .inr z2.symm
        | succ k => simp at z2
    exact fun k z => absurd z (nv r' this k)
end
def fLcZ (i j : Nat) (tg : Tgt) (ft : EvT) (fe : EvF) (own : List Nat) : EvF := fun env => match env[i]?, env[j]? with
  | some s, some t => do
    let (r, e) ← fLc (fZipN i j) tg ft fe own env
    .ok (r, (e.set i s).set j t)
  | _, _ => .bad
theorem sem_lcZ {K : PySem.W.Frag} {mg : Str → Option Value} {w : TI} {i j : Nat} (si : SemIP K mg w (fZipN i j) (fun σ vs => ∃ va vb, vs = [va, vb] ∧ σ[i]? = some (some va) ∧ σ[j]? = some (some vb))) {g : TG} {tg : Tgt} {tt : TT} {ft : EvT} {fe : EvF} {own : List Nat} (sg : SemG K mg g tg) (st : SemT K mg tt ft) (ho : ∀ k ∈ tg.slots, k ∈ own) :
    SemE K mg (tLc w g tt (tCan K mg fe) own) (fLcZ i j tg ft fe own) := by
  intro σ H env l r env' h e Q q
  unfold fLcZ at e
  split at e
  case h_2 => cases e
  rename_i s t e0 e1
  obtain ⟨⟨r1, e3⟩, ea, e⟩ := Res.bind_ok e
  cases e
  refine sem_lcK si sg st ho σ H env l r e3 h ea Q fun v H' vs ks ds' e2 et hP hv => ?_
  obtain ⟨va, vb, rfl, eσ, eτ⟩ := hP
  unfold fZipN at et
  rw [e0, e1] at et
  dsimp only at et
  split at et
  · cases et
  rename_i hij
  unfold zipN at et
  split at et
  case h_2 => cases et
  cases et
  obtain ⟨dd, rfl⟩ := fLc_ol ea
  refine q v H' ⟨by rw [List.length_set, List.length_set]; exact hv.len, ?_, fun _ z => by cases z⟩
  have h0 : Rep K mg H' ((some v, Sl.ol dd) :: (σ.zip e3 ++ ((some va, s) :: ((some vb, t) :: l)))) := hv.rep
  have h1 : Rep K mg H' ((some va, s) :: (σ.zip e3 ++ ((some vb, t) :: ((some v, Sl.ol dd) :: l)))) := by
    refine h0.perm ?_
    refine List.Perm.trans (List.Perm.cons _ perm_mid.symm) ?_
    refine (List.Perm.swap _ _ _).trans (List.Perm.cons _ ?_)
    refine List.Perm.trans perm_mid (List.Perm.append_left _ (.swap _ _ _))
  have h2 := Rep.put h1 hv.len eσ
  have h3 : Rep K mg H' ((some vb, t) :: (σ.zip (e3.set i s) ++ ((some v, Sl.ol dd) :: l))) := h2.perm perm_mid.symm
  have h4 := Rep.put h3 (by rw [List.length_set]; exact hv.len) eτ
  exact h4.perm perm_mid.symm
section
variable {X : Cx} {elt : Expr} {ifs elts : List Expr} {scope : Scope} {own : List (Str × Nat)} {pos spos py npos tpos p n1 n2 : Pos} {g : TG} {tt : Tgt} {ft : EvT} {fe : EvF} {i j k kk : Nat} {x y z : Str} {ks : List Nat}
theorem se_lcZ (hc : X.calm = true) (hN : X.N.Nodup) (hgl : Gl X "zip") (hm : X.mg "zip" = none) (hx : X.N[i]? = some x) (hvx : Vis X.env.scope x) (hy : X.N[j]? = some y) (hvy : Vis X.env.scope y) (ok : BlkOk X.N X.env.scope scope own) (sg : SemG X.K X.mg g tt) (ho : ∀ k ∈ tt.slots, k ∈ own.map (·.2))
    (hg : ∀ (s : Shared) (H : Hp) (C : Addr) (cl : List (Str × Addr)) (fp : List Addr), PG (X.blk s H scope (compEnvC scope cl C X.env) fp) (.Tuple elts kk tpos) g) (ht : ∀ (s : Shared) (H : Hp) (C : Addr) (cl : List (Str × Addr)) (fp : List Addr), STs (X.blk s H scope (compEnvC scope cl C X.env) fp) ifs ft)
    (he : ∀ (s : Shared) (H : Hp) (C : Addr) (cl : List (Str × Addr)) (fp : List Addr), SE (X.blk s H scope (compEnvC scope cl C X.env) fp) elt fe)
    (hd : (x == ("__debug__" : Str)) = false := by decide) (hcd : (x == ("__classdict__" : Str)) = false := by decide) (hd' : (y == ("__debug__" : Str)) = false := by decide) (hcd' : (y == ("__classdict__" : Str)) = false := by decide)
    (hs2 : starEach [.Name y n2] X.env = (false, eval (.Name y n2) X.env) :: starEach [] X.env := by rfl)
    (hs : starEach [.Name x n1, .Name y n2] X.env = (false, eval (.Name x n1) X.env) :: starEach [.Name y n2] X.env := by rfl) (hpl : (backTo pos (starEach [.Name y n2] X.env)).any (·.1) = false := by rfl)
    (hfs : ∀ z, foldedSetIterable (.Call (.Name "zip" p) [.Name x n1, .Name y n2] [] pos) X.env z = pure z := by intro _; rfl) :
    SE X (.ListComp elt [⟨.Tuple elts kk tpos, .Call (.Name "zip" p) [.Name x n1, .Name y n2] [] pos, ifs, 0⟩] scope spos) (fLcZ i j tt ft fe (own.map (·.2))) := by
  obtain ⟨w, pi, si⟩ := semip_zipN (X := X) (e := .Name x n1) (e2 := .Name y n2) (ti := fun _ _ _ => True) (elts := elts) (kk := kk) (tpos := tpos) (p := p) (pos := pos) hgl hm hx hvx hy hvy hd hcd hd' hcd' hs2 hs hpl
  exact ⟨_, pe_lc hc hN pi ok hg (fun s H C cl fp => (ht s H C cl fp).pts) (fun s H C cl fp => (he s H C cl fp).canon) hfs, sem_lcZ si sg semt_can ho⟩
theorem ss_setLcZ (hc : X.calm = true) (hN : X.N.Nodup) (hz : X.N[k]? = some z) (hzl : X.env.scope.names.lookup z = some .local)
    (hsw : swapsWith (.ListComp elt [⟨.Tuple elts kk tpos, .Call (.Name "zip" p) [.Name x n1, .Name y n2] [] pos, ifs, 0⟩] scope spos) (some (.Name z py)) npos.line X.env = pure true) (hgl : Gl X "zip") (hm : X.mg "zip" = none) (hx : X.N[i]? = some x) (hvx : Vis X.env.scope x) (hy : X.N[j]? = some y) (hvy : Vis X.env.scope y) (ok : BlkOk X.N X.env.scope scope own) (sg : SemG X.K X.mg g tt) (ho : ∀ k ∈ tt.slots, k ∈ own.map (·.2))
    (hg : ∀ (s : Shared) (H : Hp) (C : Addr) (cl : List (Str × Addr)) (fp : List Addr), PG (X.blk s H scope (compEnvC scope cl C X.env) fp) (.Tuple elts kk tpos) g) (ht : ∀ (s : Shared) (H : Hp) (C : Addr) (cl : List (Str × Addr)) (fp : List Addr), STs (X.blk s H scope (compEnvC scope cl C X.env) fp) ifs ft)
    (he : ∀ (s : Shared) (H : Hp) (C : Addr) (cl : List (Str × Addr)) (fp : List Addr), SE (X.blk s H scope (compEnvC scope cl C X.env) fp) elt fe) (hk : k ∉ ks := by decide)
    (hd : (x == ("__debug__" : Str)) = false := by decide) (hcd : (x == ("__classdict__" : Str)) = false := by decide) (hd' : (y == ("__debug__" : Str)) = false := by decide) (hcd' : (y == ("__classdict__" : Str)) = false := by decide)
    (hs2 : starEach [.Name y n2] X.env = (false, eval (.Name y n2) X.env) :: starEach [] X.env := by rfl)
    (hs : starEach [.Name x n1, .Name y n2] X.env = (false, eval (.Name x n1) X.env) :: starEach [.Name y n2] X.env := by rfl) (hpl : (backTo pos (starEach [.Name y n2] X.env)).any (·.1) = false := by rfl)
    (hfs : ∀ z, foldedSetIterable (.Call (.Name "zip" p) [.Name x n1, .Name y n2] [] pos) X.env z = pure z := by intro _; rfl) :
    SS X ks (.Assign [.Name z py] (.ListComp elt [⟨.Tuple elts kk tpos, .Call (.Name "zip" p) [.Name x n1, .Name y n2] [] pos, ifs, 0⟩] scope spos) npos) (fAsg k (fLcZ i j tt ft fe (own.map (·.2)))) := by
  obtain ⟨w, pi, si⟩ := semip_zipN (X := X) (e := .Name x n1) (e2 := .Name y n2) (ti := fun _ _ _ => True) (elts := elts) (kk := kk) (tpos := tpos) (p := p) (pos := pos) hgl hm hx hvx hy hvy hd hcd hd' hcd' hs2 hs hpl
  exact ⟨_, ps_setLc hc hN hz hzl hsw pi ok hg (fun s H C cl fp => (ht s H C cl fp).pts) (fun s H C cl fp => (he s H C cl fp).canon) hfs, sem_asg (sem_lcZ si sg semt_can ho) hk⟩
end
/-! ### how these are reckoned -/
@[simp] theorem seqS_sh (d : D) : seqS (.sh d) = seqOf d := eqq rfl
@[simp] theorem seqS_ol (ds : List D) : seqS (.ol ds) = some ds := eqq rfl
def putR2 (i j : Nat) (s t : Sl) (p : Sl × Lo) : Res (Sl × Lo) := .ok (p.1, (p.2.set i s).set j t)
@[simp] theorem putR2_ev (i j : Nat) (s t : Sl) (r : Sl) (e : Lo) : putR2 i j s t (r, e) = .ok (r, (e.set i s).set j t) := eqq rfl
def lcZ2 (i j : Nat) (tg : Tgt) (ft : EvT) (fe : EvF) (own : List Nat) (env : Lo) (s t : Sl) : Option (List D) → Option (List D) → Res (Sl × Lo)
  | some xs, some ys => (lcC tg ft fe own ([s, t], zipD xs ys, (env.set i .no).set j .no)).bind (putR2 i j s t)
  | _, _ => .bad
@[simp] theorem lcZ2_some (i j : Nat) (tg : Tgt) (ft : EvT) (fe : EvF) (own : List Nat) (env : Lo) (s t : Sl) (xs ys : List D) : lcZ2 i j tg ft fe own env s t (some xs) (some ys) = (lcC tg ft fe own ([s, t], zipD xs ys, (env.set i .no).set j .no)).bind (putR2 i j s t) := eqq rfl
def lcZC (i j : Nat) (tg : Tgt) (ft : EvT) (fe : EvF) (own : List Nat) (env : Lo) : Option Sl → Option Sl → Res (Sl × Lo)
  | some s, some t => if i = j then .bad else lcZ2 i j tg ft fe own env s t (seqS s) (seqS t)
  | _, _ => .bad
@[simp] theorem lcZC_some (i j : Nat) (tg : Tgt) (ft : EvT) (fe : EvF) (own : List Nat) (env : Lo) (s t : Sl) : lcZC i j tg ft fe own env (some s) (some t) = if i = j then .bad else lcZ2 i j tg ft fe own env s t (seqS s) (seqS t) := eqq rfl
@[simp] theorem ev_lcZ (i j : Nat) (tg : Tgt) (ft : EvT) (fe : EvF) (own : List Nat) (env : Lo) : fLcZ i j tg ft fe own env = lcZC i j tg ft fe own env env[i]? env[j]? := by
  unfold fLcZ
  split
  · rename_i s t e0 e1
    rw [e0, e1]
    show (fLc (fZipN i j) tg ft fe own env).bind _ = _
    rw [ev_lc]
    unfold fZipN
    rw [e0, e1]
    simp only [lcZC_some]
    by_cases hij : i = j
    · simp [hij]
    · simp only [hij, if_false]
      unfold zipN
      cases seqS s with
      | none => rfl
      | some xs =>
        cases seqS t with
        | none => rfl
        | some ys => rfl
  · rename_i h
    cases e0 : env[i]? with
    | none => rfl
    | some s =>
      cases e1 : env[j]? with
      | none => rfl
      | some t => exact absurd e1 (h s t e0)
end FL

/-! FT: dicts of one's own whose keys are tuples: {k: v}, k in d, d[k] = v, len(d) -/
namespace FL
open PySem PySem.Spec PyProof.Rows L2
def keyD : D → Option Key
  | .int i => some (.inl i)
  | .str x => some (.inr x)
  | _ => none
def keyL : List D → Option (List Key)
  | [] => some []
  | d :: ds => match keyD d, keyL ds with
    | some k, some ks => some (k :: ks)
    | _, _ => none
def keyT : Sl → Option (List Key)
  | .sh (.tuple ds) => keyL ds
  | _ => none
def getT (es : List (List Key × D)) (k : List Key) : Option D := (es.find? fun kv => decide (kv.1 = k)).map (·.2)
def setT (es : List (List Key × D)) (k : List Key) (d : D) : List (List Key × D) :=
  if (es.any fun kv => decide (kv.1 = k)) = true then es.map (fun kv => if kv.1 = k then (kv.1, d) else kv) else es ++ [(k, d)]
section
variable {K : PySem.W.Frag} {mg : Str → Option Value} {G H : Hp}
theorem keyD_rel {d : D} {k : Key} {v : V} (e : keyD d = some k) (h : Dt K G v d) : v = kV k := by
  cases d <;> simp only [keyD] at e <;> cases e <;> cases h <;> rfl
theorem keyL_rel : ∀ {ds : List D} {k : List Key} {vs : List V}, keyL ds = some k → DtAll K G vs ds → vs = k.map kV
  | [], k, vs, e, h => by cases e; cases h; rfl
  | d :: ds, k, vs, e, h => by
    cases h with
    | @cons v vs' _ _ h1 h2 =>
      unfold keyL at e
      cases e1 : keyD d with
      | none => simp [e1] at e
      | some a =>
        cases e2 : keyL ds with
        | none => simp [e1, e2] at e
        | some b =>
          simp only [e1, e2] at e
          cases e
          rw [keyD_rel e1 h1, keyL_rel e2 h2]
          rfl
theorem keyT_rel {r : Sl} {k : List Key} {v : V} {os : List Addr} (e : keyT r = some k) (h : RI K mg G H (some v) r os) : ∃ b, v = .ref b ∧ G b = some (.tup (k.map kV)) := by
  unfold keyT at e
  split at e
  case h_2 => cases e
  cases h with
  | bx b => cases b with
    | sh d => cases d with
      | tup hs ha => exact ⟨_, rfl, by rw [hs, keyL_rel e ha]⟩
theorem getT_rel {ks : List (List Key × V)} {es : List (List Key × D)} (h : DpKT K G ks es) (k : List Key) : (valV ks k).isSome = (getT es k).isSome := by
  induction h with
  | nil => rfl
  | @cons k' v' d' ks es hd t ih =>
    by_cases e : k' = k
    · have e1 : valV ((k', v') :: ks) k = some v' := valV_pos e
      have e2 : getT ((k', d') :: es) k = some d' := by simp [getT, List.find?_cons, e]
      rw [e1, e2]; rfl
    · have e1 : valV ((k', v') :: ks) k = valV ks k := valV_neg e
      have e2 : getT ((k', d') :: es) k = getT es k := by simp [getT, List.find?_cons, e]
      rw [e1, e2]
      exact ih
theorem anyT_rel {ks : List (List Key × V)} {es : List (List Key × D)} (h : DpKT K G ks es) (k : List Key) : (ks.any fun kv => decide (kv.1 = k)) = (es.any fun kv => decide (kv.1 = k)) := by
  induction h with
  | nil => rfl
  | cons _ _ ih => rw [List.any_cons, List.any_cons, ih]
theorem DpKT.append {ks ks' : List (List Key × V)} {es es' : List (List Key × D)} (h : DpKT K G ks es) (h' : DpKT K G ks' es') : DpKT K G (ks ++ ks') (es ++ es') := by
  induction h with
  | nil => exact h'
  | cons a _ ih => exact .cons a ih
theorem DpKT.over {ks : List (List Key × V)} {es : List (List Key × D)} (h : DpKT K G ks es) (k : List Key) {v : V} {d : D} (hv : Dt K G v d) : DpKT K G (ks.map fun kv => if kv.1 = k then (kv.1, v) else kv) (es.map fun kv => if kv.1 = k then (kv.1, d) else kv) := by
  induction h with
  | nil => exact .nil
  | @cons k' _ _ _ _ a _ ih =>
    rw [List.map_cons, List.map_cons]
    by_cases e : k' = k
    · simp only [e, if_true]
      exact .cons hv ih
    · simp only [e, if_false]
      exact .cons a ih
theorem setT_rel {ks : List (List Key × V)} {es : List (List Key × D)} (h : DpKT K G ks es) (k : List Key) {v : V} {d : D} (hv : Dt K G v d) : DpKT K G (putK ks k v) (setT es k d) := by
  unfold putK setT
  rw [anyT_rel h k]
  split
  · exact h.over k hv
  · exact h.append (.cons hv .nil)
theorem RI.td_inv {es : List (List Key × D)} {ov : Option V} {os : List Addr} (h : RI K mg G H ov (.td es) os) : ∃ p ks, ov = some (.ref p) ∧ os = [p] ∧ H p = some (.dT ks) ∧ DpKT K G ks es := by
  cases h with
  | bx b => cases b with
    | td hp ha => exact ⟨_, _, rfl, rfl, hp, ha⟩
end
/-! ### {k: v} -/
def tDispT (trs : List (TE × TE)) : TE := fun σ H Q => ∀ p, H p = none → tPairs trs σ (upd H p (.dT [])) fun ps H2 => H2 p = some (.dT []) ∧ ∃ (k : List Key) (b : Addr) (y : V), ps = [(.ref b, y)] ∧ H2 b = some (.tup (k.map kV)) ∧ Q (.ref p) (upd H2 p (.dT [(k, y)]))
theorem pe_dispT {X : Cx} {pos : Pos} {k v : Expr} {tk tv : TE} (hu : X.A.units + 1 < cLine) (hk : PE X k tk) (hv : PE X v tv) : PE X (.Dict [some k] [v] pos) (tDispT [(tk, tv)]) := by
  refine ⟨fun pins s σ H Q I q => ?_⟩
  have hn := I.hok.fresh (Nat.le_refl s.heap.objs.size)
  have I1 := I.laid (a := s.heap.objs.size) (o := .dT []) (h' := s.heap.push { cls := .type "dict", data := .dict #[] }) (t' := s.toks) (fun _ _ q => Heap.get?_push_of_some _ q) (Nat.le_refl _) (dt_empty s.heap I.big)
  rw [arm_eval_Dict, zip_pairTrees [some k] [v] X.env pos rfl rfl, dictDisplay_pairs (pairTrees [some k] [v] X.env pos) (fun e => by cases e) (by show 1 < 17; decide)]
  refine wpAny_bind (wpAny_standAt (wpAny_bind (wpAny_subDictH (knd := tupleKind (mixKind X.prog X.w)) (Q := fun d s' => wpAny (model X.prog X.w) X.A (pure (Value.ref d)) _ X.xe s') (show X.A.units < cLine by omega) (by show 1 ≤ 15; decide) ?_)))
  refine thn ((pps_cons hk hv pps_nil).run pins _ σ _ _ I1 (q _ hn)) fun ws s2 ⟨ps, H2, I2, rel, e, kk, b, y, ep, eb, q2⟩ => ?_
  subst ep
  obtain ⟨z, hd, xs0, r0, dd⟩ := dt_of I2.hok e
  cases r0
  cases rel with
  | @cons a w as bs h t =>
    cases t
    obtain ⟨w1, w2⟩ := w
    cases (show w1 = Value.ref b from h.1)
    refine ⟨[(kk, b, w2)], ⟨rfl, rfl, key_of I2.hok eb, True.intro⟩, dd, fun h' tk' dd' hs => wpAny_pure ?_⟩
    have es : storedAllH [] [(kk, b, w2)] = [(kk, b, w2)] := by
      show storedH [] kk b w2 = [] ++ [(kk, b, w2)]
      exact storedH_new (xs := []) (k := kk) rfl b w2
    rw [es] at dd'
    obtain ⟨o, es, epp, hq, h2, h3, h4, _, h5⟩ := dd'
    refine ⟨.ref s.heap.objs.size, upd H2 s.heap.objs.size (.dT [(kk, y)]), d_write (ob := .dT [(kk, y)]) I2 (by rw [e]; exact True.intro) hs ⟨o, hq⟩ ⟨?_, hd, _, .cons ⟨rfl, ?_, h.2⟩ .nil, o, es, epp, hq, h2, h3, h4, h5⟩, rfl, q2⟩
    · rw [sizeLine_eq]; show 1 ≤ _; omega
    · rw [upd_ne (ne_of eb e (fun z => nomatch z))]
      exact eb
def fTNew (fk fv : EvF) : EvF := fun env => do
  let (rk, e1) ← fk env
  let (rv, e2) ← fv e1
  match keyT rk, rv with
  | some k, .sh d => .ok (.td [(k, d)], e2)
  | _, _ => .bad
theorem sem_tnew {K : PySem.W.Frag} {mg : Str → Option Value} {tk tv : TE} {fk fv : EvF} (hk : SemE K mg tk fk) (hv : SemE K mg tv fv) : SemE K mg (tDispT [(tk, tv)]) (fTNew fk fv) := by
  intro σ H env l r env' h e Q q
  unfold fTNew at e
  obtain ⟨⟨rk, e1⟩, ek, e⟩ := Res.bind_ok e
  obtain ⟨⟨rv, e2⟩, ev, e⟩ := Res.bind_ok e
  dsimp only at e
  split at e
  case h_2 => cases e
  rename_i k d hkk
  cases e
  intro p hp
  obtain ⟨G, os, rp⟩ := h.rep
  have h0 : Hold K mg (upd H p (.dT [])) σ env ((some (.ref p), .td []) :: l) := by
    have rr : Rep K mg (upd H p (.dT [])) ((some (.ref p), Sl.td []) :: (σ.zip env ++ l)) := ⟨_, _, rp.new hp fun H' e => .bx (.td e .nil)⟩
    exact ⟨h.len, rr.perm List.perm_middle.symm⟩
  refine hk σ _ env _ rk e1 h0 ek _ fun x H1 h1 => ?_
  refine hv σ H1 e1 _ _ _ h1.hold ev _ fun y H2 h2 => ?_
  obtain ⟨G2, os2, rp2⟩ := h2.rep
  obtain ⟨o1, ri1⟩ := rp2.rl.mem (ov := some x) (s := rk) (List.mem_cons_of_mem _ (List.mem_append_right _ List.mem_cons_self))
  obtain ⟨b, rfl, eb⟩ := keyT_rel hkk ri1
  obtain ⟨o2, ri2⟩ := rp2.rl.mem (ov := some (.ref p)) (s := .td []) (List.mem_cons_of_mem _ (List.mem_append_right _ (List.mem_cons_of_mem _ List.mem_cons_self)))
  obtain ⟨p', ks, ep, _, hp', hw⟩ := ri2.td_inv
  cases ep
  cases hw
  obtain ⟨v2, q2, dv⟩ := rp2.shOf (ov := some y) (d := d) List.mem_cons_self
  cases q2
  refine ⟨hp', k, b, y, rfl, rp2.same _ _ eb, ?_⟩
  refine q _ _ ⟨h2.len, ?_, fun _ z => by cases z⟩
  -- the dict comes to the head
  have perm : ((some y, Sl.sh d) :: (σ.zip env' ++ ((some (V.ref b), rk) :: (some (V.ref p), Sl.td []) :: l))).Perm ((some (V.ref p), Sl.td []) :: ((some y, Sl.sh d) :: ((some (V.ref b), rk) :: (σ.zip env' ++ l)))) := by
    have a1 : (σ.zip env' ++ ((some (V.ref b), rk) :: (some (V.ref p), Sl.td []) :: l)).Perm ((some (V.ref p), Sl.td []) :: ((some (V.ref b), rk) :: (σ.zip env' ++ l))) :=
      List.perm_middle.trans ((List.perm_middle.cons _).trans (.swap _ _ _))
    exact (a1.cons _).trans (.swap _ _ _)
  obtain ⟨os3, rp3⟩ := rp2.perm perm
  have dv3 : Dt K G2 y d := dv
  have sm : ∀ {G' : Hp} {os' : List Addr}, Rp K mg G' H2 ((some (V.ref p), Sl.td []) :: ((some y, Sl.sh d) :: ((some (V.ref b), rk) :: (σ.zip env' ++ l)))) os' → Rep K mg (upd H2 p (.dT [(k, y)])) ((some (V.ref p), Sl.td [(k, d)]) :: ((some y, Sl.sh d) :: ((some (V.ref b), rk) :: (σ.zip env' ++ l)))) := fun {G' os'} rp' => by
    obtain ⟨v3, q3, dv'⟩ := rp'.shOf (ov := some y) (d := d) (List.mem_cons_of_mem _ List.mem_cons_self)
    cases q3
    exact ⟨_, _, rp'.mut (s' := .td [(k, d)]) (o := .dT [(k, y)]) td_own fun H' e => .bx (.td e (.cons dv' .nil))⟩
  have r4 := sm rp3
  have : ((some (V.ref p), Sl.td [(k, d)]) :: ((some y, Sl.sh d) :: ((some (V.ref b), rk) :: (σ.zip env' ++ l)))).Perm ((some y, Sl.sh d) :: ((some (V.ref b), rk) :: ((some (V.ref p), Sl.td [(k, d)]) :: (σ.zip env' ++ l)))) := (List.Perm.swap _ _ _).trans ((List.Perm.swap _ _ _).cons _)
  exact (r4.perm this).tail.tail
theorem se_tnew {X : Cx} {k v : Expr} {fk fv : EvF} {pos : Pos} (hu : X.A.units + 1 < cLine) (hk : SE X k fk) (hv : SE X v fv) : SE X (.Dict [some k] [v] pos) (fTNew fk fv) := by
  obtain ⟨t, p, s⟩ := hk.ex
  obtain ⟨t2, p2, s2⟩ := hv.ex
  exact ⟨_, pe_dispT hu p p2, sem_tnew s s2⟩
/-! ### k in d, k not in d -/
theorem td_there {K : PySem.W.Frag} {mg : Str → Option Value} {σ : L2.St} {H : Hp} {env : Lo} {l : List Item} {i : Nat} {es : List (List Key × D)} (h : Hold K mg H σ env l) (e : env[i]? = some (.td es)) : ∃ p ks, σ[i]? = some (some (.ref p)) ∧ H p = some (.dT ks) := by
  obtain ⟨ov, eσ, rp⟩ := h.take e
  obtain ⟨G, os, rp⟩ := rp
  obtain ⟨o0, ri0⟩ := rp.rl.mem List.mem_cons_self
  obtain ⟨p, ks, rfl, _, hp, _⟩ := ri0.td_inv
  exact ⟨p, ks, eσ, hp⟩
theorem td_rel {K : PySem.W.Frag} {mg : Str → Option Value} {σ : L2.St} {G H : Hp} {env : Lo} {L : List Item} {os : List Addr} {i : Nat} {p : Addr} {es : List (List Key × D)} (rp : Rp K mg G H L os) (hz : ∀ it ∈ σ.zip env, it ∈ L) (eσ : σ[i]? = some (some (.ref p))) (e : env[i]? = some (.td es)) :
    ∃ ks, H p = some (.dT ks) ∧ DpKT K G ks es := by
  obtain ⟨o1, ri⟩ := rp.rl.mem (hz _ (mem_zip eσ e))
  obtain ⟨p', ks, ep, _, hp, hw⟩ := ri.td_inv
  cases ep
  exact ⟨ks, hp, hw⟩
def fTIn (neg : Bool) (i : Nat) (fk : EvF) : EvF := fun env => do
  let (rk, e1) ← fk env
  match keyT rk, e1[i]? with
  | some k, some (.td es) => .ok (.sh (.bool (xor neg (getT es k).isSome)), e1)
  | _, _ => .bad
theorem tin_core {K : PySem.W.Frag} {mg : Str → Option Value} {neg : Bool} {i : Nat} {tk : TE} {fk : EvF} (hk : SemE K mg tk fk) {σ : L2.St} {H : Hp} {env : Lo} {l : List Item} {r : Sl} {env' : Lo} (h : Hold K mg H σ env l) (e : fTIn neg i fk env = .ok (r, env')) {Q : VK} (q : ∀ v H', HoldV K mg H' σ env' l v r → Q v H') :
    tk σ H fun y H1 => tVar i σ H1 fun x H2 => ∃ a o, x = .ref a ∧ DGet H2 a y o ∧ Q (.bl (xor neg o.isSome)) H2 := by
  unfold fTIn at e
  obtain ⟨⟨rk, e1⟩, ek, e⟩ := Res.bind_ok e
  dsimp only at e
  split at e
  case h_2 => cases e
  rename_i k es hkk e4
  cases e
  refine hk σ H env l rk _ h ek _ fun y H2 h3 => ?_
  obtain ⟨p, _, eσ, _⟩ := td_there h3.drop e4
  obtain ⟨G, os, rp⟩ := h3.rep
  obtain ⟨ks, hp, hw⟩ := td_rel rp (fun it hi => List.mem_cons_of_mem _ (List.mem_append_left _ hi)) eσ e4
  obtain ⟨o2, ri2⟩ := rp.rl.mem (ov := some y) (s := rk) List.mem_cons_self
  obtain ⟨b, rfl, eb⟩ := keyT_rel hkk ri2
  have g : DGet H2 p (.ref b) (valV ks k) := DGet.t hp (rp.same _ _ eb)
  refine ⟨.ref p, eσ, p, _, rfl, g, q _ H2 ⟨h3.len, ?_, fun _ z => by cases z⟩⟩
  rw [getT_rel hw k]
  have rr : Rep K mg H2 ((some (.bl (xor neg (getT es k).isSome)), Sl.sh (.bool (xor neg (getT es k).isSome))) :: ((some (.ref b), rk) :: (σ.zip env' ++ l))) := ⟨_, _, rp.sh (.bl _)⟩
  exact (rr.perm (.swap _ _ _)).tail
theorem sem_tin {K : PySem.W.Frag} {mg : Str → Option Value} {i : Nat} {tk : TE} {fk : EvF} (hk : SemE K mg tk fk) : SemE K mg (tDIn tk (tVar i)) (fTIn false i fk) := by
  intro σ H env l r env' h e Q q
  have := tin_core hk h e q
  simp only [Bool.false_xor] at this
  exact this
theorem sem_tnotin {K : PySem.W.Frag} {mg : Str → Option Value} {i : Nat} {tk : TE} {fk : EvF} (hk : SemE K mg tk fk) : SemE K mg (tDNotIn tk (tVar i)) (fTIn true i fk) := by
  intro σ H env l r env' h e Q q
  have := tin_core hk h e q
  simp only [Bool.true_xor] at this
  exact this
section
variable {X : Cx} {i : Nat} {x : Str} {k v : Expr} {fk fv : EvF} {npos pos spos : Pos} {ks : List Nat}
theorem st_tin (hu : X.A.units + 1 < cLine) (hN : X.N[i]? = some x) (hv : Vis X.env.scope x) (hk : SE X k fk) (hm : behindInMarks .In (.Name x npos) = false := by rfl) (hd : (x == ("__debug__" : Str)) = false := by decide) (hcd : (x == ("__classdict__" : Str)) = false := by decide) :
    ST X (.Compare k [.In] [.Name x npos] pos) (fTst (fTIn false i fk)) := by
  obtain ⟨t, p, s⟩ := hk.ex
  exact ⟨_, pt_cmp (pc_din hu p (pe_var hN hv hd hcd)) hm, sem_tst (sem_tin s)⟩
theorem st_tnotin (hu : X.A.units + 1 < cLine) (hN : X.N[i]? = some x) (hv : Vis X.env.scope x) (hk : SE X k fk) (hm : behindInMarks .NotIn (.Name x npos) = false := by rfl) (hd : (x == ("__debug__" : Str)) = false := by decide) (hcd : (x == ("__classdict__" : Str)) = false := by decide) :
    ST X (.Compare k [.NotIn] [.Name x npos] pos) (fTst (fTIn true i fk)) := by
  obtain ⟨t, p, s⟩ := hk.ex
  exact ⟨_, pt_cmp (pc_dnotin hu p (pe_var hN hv hd hcd)) hm, sem_tst (sem_tnotin s)⟩
end
/-! ### d[k] = v -/
def fTPut (i : Nat) (fv fk : EvF) : EvS := fun env => do
  let (r, e1) ← fv env
  let (d, e2) ← Res.ofO (freezeR e1 r)
  match e2[i]? with
  | some (.td _) => do
    let (rk, e3) ← fk e2
    match keyT rk, e3[i]? with
    | some k, some (.td es) => if es.length < 16777216 then .ok (.nx (e3.set i (.td (setT es k d)))) else .bad
    | _, _ => .bad
  | _ => .bad
theorem sem_tput {K : PySem.W.Frag} {mg : Str → Option Value} {ks : List Nat} {i : Nat} {tv tk : TE} {fv fk : EvF} (hv : SemE K mg tv fv) (hk : SemE K mg tk fk) : SemS K mg ks (sDPut (tVar i) tk tv) (fTPut i fv fk) := by
  intro σ H env l o h e D post
  unfold fTPut at e
  obtain ⟨⟨r, e1⟩, ea, e⟩ := Res.bind_ok e
  obtain ⟨⟨d, e2⟩, ef, e⟩ := Res.bind_ok e
  replace ef := Res.ofO_ok ef
  dsimp only at e
  split at e
  case h_2 => cases e
  rename_i es0 e0
  obtain ⟨⟨rk, e3⟩, ek, e⟩ := Res.bind_ok e
  dsimp only at e
  split at e
  case h_2 => cases e
  rename_i k es hkk e4
  split at e
  case isFalse => cases e
  rename_i hz
  cases e
  refine hv σ H env l r e1 h ea _ fun v H1 h1 => ?_
  have h2 := h1.freeze ef
  obtain ⟨p, _, eσ, _⟩ := td_there h2.hold e0
  refine ⟨.ref p, eσ, ?_⟩
  refine hk σ H1 e2 _ _ e3 h2.hold ek _ fun y H2 h3 => ?_
  obtain ⟨ov', eσ', rp⟩ := h3.hold.take e4
  rw [eσ] at eσ'; cases eσ'
  obtain ⟨G, os, rp⟩ := rp
  obtain ⟨o1, ri⟩ := rp.rl.mem List.mem_cons_self
  obtain ⟨p', ks', ep, _, hp, hw⟩ := ri.td_inv
  cases ep
  obtain ⟨v2, q2, dv⟩ := rp.shOf (ov := some v) (d := d) (List.mem_cons_of_mem _ (List.mem_append_right _ (List.mem_cons_of_mem _ List.mem_cons_self)))
  cases q2
  obtain ⟨o2, ri2⟩ := rp.rl.mem (ov := some y) (s := rk) (List.mem_cons_of_mem _ (List.mem_append_right _ List.mem_cons_self))
  obtain ⟨b, rfl, eb⟩ := keyT_rel hkk ri2
  refine ⟨p, _, rfl, DPut.t hp (rp.same _ _ eb) (by rw [hw.length, sizeLine_eq]; omega), ?_⟩
  refine post σ _ ⟨by rw [List.length_set]; exact h3.len, ?_⟩ .refl
  have rp2 := rp.mut (s' := .td (setT es k d)) (o := .dT (putK ks' k v)) td_own fun H' e => .bx (.td e (setT_rel hw k dv))
  have rp4 := Rep.put ⟨_, _, rp2⟩ (by rw [List.length_set]; exact h3.len) eσ
  rw [List.set_set] at rp4
  exact Rep.dropM (M := [_, _]) rp4
theorem ss_tput {X : Cx} {i : Nat} {x : Str} {k v : Expr} {fk fv : EvF} {npos pos spos : Pos} {ks : List Nat} (hu : X.A.units + 1 < cLine) (hN : X.N[i]? = some x) (hv : Vis X.env.scope x) (he : SE X v fv) (hk : SE X k fk) (hd : (x == ("__debug__" : Str)) = false := by decide) (hcd : (x == ("__classdict__" : Str)) = false := by decide)
    (hs : swapsWith v (some (.Subscript (.Name x npos) k spos)) pos.line X.env = pure false := by rfl) : SS X ks (.Assign [.Subscript (.Name x npos) k spos] v pos) (fTPut i fv fk) := by
  obtain ⟨t, p, s⟩ := he.ex
  obtain ⟨t2, p2, s2⟩ := hk.ex
  exact ⟨_, ps_dput hu (pe_var hN hv hd hcd) p2 p hs, sem_tput s s2⟩
/-! ### len(d) -/
def fTLen (i : Nat) : EvF := fun env => match env[i]? with
  | some (.td es) => .ok (.sh (.int es.length), env)
  | _ => .bad
theorem sem_tlen {K : PySem.W.Frag} {mg : Str → Option Value} {i : Nat} : SemE K mg (tCB rLenT (tCons (tVar i) tNil)) (fTLen i) := by
  intro σ H env l r env' h e Q q
  unfold fTLen at e
  split at e
  case h_2 => cases e
  rename_i es e0
  cases e
  obtain ⟨p, _, eσ, _⟩ := td_there h e0
  obtain ⟨G, os, rp⟩ := h.rep
  obtain ⟨ks, hp, hw⟩ := td_rel rp (fun it hi => List.mem_append_left _ hi) eσ e0
  refine ⟨.ref p, eσ, p, ks, rfl, hp, ?_⟩
  rw [hw.length]
  refine q _ _ ⟨h.len, ?_, fun _ z => by cases z⟩
  exact ⟨_, _, rp.sh (.int _)⟩
theorem se_tlen {X : Cx} {i : Nat} {x : Str} {npos pos p : Pos} (hm : X.mg "len" = none) (hN : X.N[i]? = some x) (hv : Vis X.env.scope x) (hg : Gl X "len" := by rfl) (hd : (x == ("__debug__" : Str)) = false := by decide) (hcd : (x == ("__classdict__" : Str)) = false := by decide)
    (he : starEach [.Name x npos] X.env = (false, eval (.Name x npos) X.env) :: starEach [] X.env := by rfl) (hpl : (backTo pos (starEach [] X.env)).any (·.1) = false := by rfl) : SE X (.Call (.Name "len" p) [.Name x npos] [] pos) (fTLen i) :=
  ⟨_, pe_callB call_len_dT hg hm bt_len (pa_cons (pe_var hN hv hd hcd) pa_nil) (by decide) (by decide) he hpl, sem_tlen⟩
/-! ### how they are reckoned -/
def tiK (neg : Bool) (e : Lo) : Option (List Key) → Option Sl → Res (Sl × Lo)
  | some k, some (.td es) => .ok (.sh (.bool (xor neg (getT es k).isSome)), e)
  | _, _ => .bad
@[simp] theorem tiK_od (neg : Bool) (e : Lo) (k : List Key) (es : List (List Key × D)) : tiK neg e (some k) (some (.td es)) = .ok (.sh (.bool (xor neg (getT es k).isSome)), e) := eqq rfl
def tiC (neg : Bool) (i : Nat) (p : Sl × Lo) : Res (Sl × Lo) := tiK neg p.2 (keyT p.1) p.2[i]?
@[simp] theorem tiC_ev (neg : Bool) (i : Nat) (r : Sl) (e : Lo) : tiC neg i (r, e) = tiK neg e (keyT r) e[i]? := eqq rfl
theorem tiK_eq (neg : Bool) (e1 : Lo) (o : Option (List Key)) (s : Option Sl) : (match o, s with | some k, some (.td es) => Res.ok (Sl.sh (.bool (xor neg (getT es k).isSome)), e1) | _, _ => Res.bad) = tiK neg e1 o s := by
  cases o with
  | none => rfl
  | some k =>
    cases s with
    | none => rfl
    | some s => cases s <;> rfl
@[simp] theorem ev_tin (neg : Bool) (i : Nat) (fk : EvF) (env : Lo) : fTIn neg i fk env = (fk env).bind (tiC neg i) := by
  have e : (fun p : Sl × Lo => (match keyT p.1, p.2[i]? with | some k, some (.td es) => Res.ok (Sl.sh (.bool (xor neg (getT es k).isSome)), p.2) | _, _ => Res.bad)) = tiC neg i := by
    funext p
    exact tiK_eq neg p.2 (keyT p.1) p.2[i]?
  rw [← e]
  rfl
def tpuK (i : Nat) (d : D) (e : Lo) : Option (List Key) → Option Sl → Res Out
  | some k, some (.td es) => if es.length < 16777216 then .ok (.nx (e.set i (.td (setT es k d)))) else .bad
  | _, _ => .bad
@[simp] theorem tpuK_od (i : Nat) (d : D) (e : Lo) (k : List Key) (es : List (List Key × D)) : tpuK i d e (some k) (some (.td es)) = if es.length < 16777216 then .ok (.nx (e.set i (.td (setT es k d)))) else .bad := eqq rfl
def tpuC (i : Nat) (d : D) (p : Sl × Lo) : Res Out := tpuK i d p.2 (keyT p.1) p.2[i]?
@[simp] theorem tpuC_ev (i : Nat) (d : D) (r : Sl) (e : Lo) : tpuC i d (r, e) = tpuK i d e (keyT r) e[i]? := eqq rfl
def tpuS (i : Nat) (fk : EvF) (d : D) (e : Lo) : Option Sl → Res Out
  | some (.td _) => (fk e).bind (tpuC i d)
  | _ => .bad
@[simp] theorem tpuS_od (i : Nat) (fk : EvF) (d : D) (e : Lo) (es : List (List Key × D)) : tpuS i fk d e (some (.td es)) = (fk e).bind (tpuC i d) := eqq rfl
def tpuF (i : Nat) (fk : EvF) : Option (D × Lo) → Res Out
  | some (d, e) => tpuS i fk d e e[i]?
  | none => .bad
@[simp] theorem tpuF_some (i : Nat) (fk : EvF) (d : D) (e : Lo) : tpuF i fk (some (d, e)) = tpuS i fk d e e[i]? := eqq rfl
def tpuC1 (i : Nat) (fk : EvF) (p : Sl × Lo) : Res Out := tpuF i fk (freezeR p.2 p.1)
@[simp] theorem tpuC1_ev (i : Nat) (fk : EvF) (r : Sl) (e : Lo) : tpuC1 i fk (r, e) = tpuF i fk (freezeR e r) := eqq rfl
theorem tpuK_eq (i : Nat) (d : D) (o : Option (List Key)) (e3 : Lo) (s : Option Sl) : (match o, s with | some k, some (.td es) => (if es.length < 16777216 then Res.ok (Out.nx (e3.set i (.td (setT es k d)))) else .bad) | _, _ => Res.bad) = tpuK i d e3 o s := by
  cases o with
  | none => rfl
  | some k =>
    cases s with
    | none => rfl
    | some s => cases s <;> rfl
theorem tpuC_eq (i : Nat) (d : D) : (fun p : Sl × Lo => (match keyT p.1, p.2[i]? with | some k, some (.td es) => (if es.length < 16777216 then Res.ok (Out.nx (p.2.set i (.td (setT es k d)))) else .bad) | _, _ => Res.bad)) = tpuC i d := by
  funext p
  exact tpuK_eq i d (keyT p.1) p.2 p.2[i]?
@[simp] theorem ev_tput (i : Nat) (fv fk : EvF) (env : Lo) : fTPut i fv fk env = (fv env).bind (tpuC1 i fk) := by
  have key : ∀ (e2 : Lo) (d : D) (o : Option Sl), (match o with | some (.td _) => (fk e2).bind (fun p : Sl × Lo => (match keyT p.1, p.2[i]? with | some k, some (.td es) => (if es.length < 16777216 then Res.ok (Out.nx (p.2.set i (.td (setT es k d)))) else .bad) | _, _ => Res.bad)) | _ => Res.bad) = tpuS i fk d e2 o := by
    intro e2 d o
    rw [tpuC_eq]
    cases o with
    | none => rfl
    | some s => cases s <;> rfl
  show (fv env).bind _ = (fv env).bind _
  refine congrArg _ ?_
  funext ⟨r, e1⟩
  show (Res.ofO (freezeR e1 r)).bind _ = tpuF i fk (freezeR e1 r)
  cases freezeR e1 r with
  | none => rfl
  | some p =>
    obtain ⟨d, e2⟩ := p
    exact key e2 d _
def tnK (e : Lo) (rk : Sl) : Option (List Key) → Sl → Res (Sl × Lo)
  | some k, .sh d => .ok (.td [(k, d)], e)
  | _, _ => .bad
@[simp] theorem tnK_sh (e : Lo) (rk : Sl) (k : List Key) (d : D) : tnK e rk (some k) (.sh d) = .ok (.td [(k, d)], e) := eqq rfl
def tnC2 (rk : Sl) (p : Sl × Lo) : Res (Sl × Lo) := tnK p.2 rk (keyT rk) p.1
@[simp] theorem tnC2_ev (rk r : Sl) (e : Lo) : tnC2 rk (r, e) = tnK e rk (keyT rk) r := eqq rfl
def tnC1 (fv : EvF) (p : Sl × Lo) : Res (Sl × Lo) := (fv p.2).bind (tnC2 p.1)
@[simp] theorem tnC1_ev (fv : EvF) (r : Sl) (e : Lo) : tnC1 fv (r, e) = (fv e).bind (tnC2 r) := eqq rfl
@[simp] theorem ev_tnew (fk fv : EvF) (env : Lo) : fTNew fk fv env = (fk env).bind (tnC1 fv) := by
  show (fk env).bind _ = (fk env).bind _
  refine congrArg _ ?_
  funext ⟨rk, e1⟩
  show (fv e1).bind _ = (fv e1).bind _
  refine congrArg _ ?_
  funext ⟨rv, e2⟩
  show (match keyT rk, rv with | some k, .sh d => Res.ok (Sl.td [(k, d)], e2) | _, _ => Res.bad) = tnK e2 rk (keyT rk) rv
  cases keyT rk with
  | none => rfl
  | some k => cases rv <;> rfl
@[simp] theorem keyT_sh (ds : List D) : keyT (.sh (.tuple ds)) = keyL ds := eqq rfl
theorem keyL_ints : ∀ xs : List Int, keyL (xs.map PyData.int) = some (xs.map fun x => (Sum.inl x : Key))
  | [] => rfl
  | x :: xs => by
    show (match keyD (.int x), keyL (xs.map PyData.int) with | some k, some ks => some (k :: ks) | _, _ => none) = _
    rw [keyL_ints xs]
    rfl
def tlS (env : Lo) : Option Sl → Res (Sl × Lo)
  | some (.td es) => .ok (.sh (.int es.length), env)
  | _ => .bad
@[simp] theorem tlS_td (env : Lo) (es : List (List Key × D)) : tlS env (some (.td es)) = .ok (.sh (.int es.length), env) := eqq rfl
@[simp] theorem ev_tlen (i : Nat) (env : Lo) : fTLen i env = tlS env env[i]? := by
  have key : ∀ o : Option Sl, (match o with | some (.td es) => Res.ok (Sl.sh (.int es.length), env) | _ => Res.bad) = tlS env o := by
    intro o
    cases o with
    | none => rfl
    | some s => cases s <;> rfl
  exact key _
@[simp] theorem asg_td (e : Lo) (d : List (List Key × D)) : asgR e (.td d) = some (.td d, e) := eqq rfl
end FL

set_option exponentiation.threshold 100000
namespace EN
open PySem PySem.Spec PyProof.Rows L2 FL
def e1_bezout : EvF := (fOp1 negD (fVar 7))
def e2_bezout : EvF := (fOp subD (fVar 5) (fOp mulD (fVar 3) (fVar 6)))
def c3_bezout : EvT := (fTst (fOp neD (fOp ixD (fOp ixD (fVar 2) (fC (.int 1))) (fC (.int 0))) (fC (.int 0))))
def b4_bezout : EvS := (fSeq (fAsg 3 (fOp divD (fOp ixD (fOp ixD (fVar 2) (fC (.int 0))) (fC (.int 0))) (fOp ixD (fOp ixD (fVar 2) (fC (.int 1))) (fC (.int 0)))))
    (fSeq (fAsg 4 (fCB tupleD (fCons (fLc (fZip (fCons (fOp ixD (fVar 2) (fC (.int 0))) (fCons (fOp ixD (fVar 2) (fC (.int 1))) fNil))) (.tp [5, 6]) fYes e2_bezout [5, 6]) fNil)))
    (fAsg 2 (fLst (fCons (fOp ixD (fVar 2) (fC (.int 1))) (fCons (fVar 4) fNil))))))
def f_bezout : Fn := runFn 8 2 [0, 1]
    (fSeq (fAsg 2 (fLst (fCons (fTup (fCons (fVar 0) (fCons (fC (.int 1)) (fCons (fC (.int 0)) fNil)))) (fCons (fTup (fCons (fVar 1) (fCons (fC (.int 0)) (fCons (fC (.int 1)) fNil)))) fNil))))
    (fSeq (fWhile (fun _ => 4000000) c3_bezout b4_bezout)
    (fSeq (fIfS (fTst (fOp ltD (fOp ixD (fOp ixD (fVar 2) (fC (.int 0))) (fC (.int 0))) (fC (.int 0))))
    (fRet (fCB tupleD (fCons (fLc (fIter (fOp ixD (fVar 2) (fC (.int 0)))) (.nm 7) fYes e1_bezout [7]) fNil)))
    fNext)
    (fRet (fOp ixD (fVar 2) (fC (.int 0)))))))
def e1_blend : EvF := (fOp addD (fOp mulD (fVar 1) (fVar 4)) (fOp mulD (fVar 3) (fVar 5)))
def f_blend : Fn := runFn 6 4 [0, 1, 2, 3]
    (fRet (fLcZ 0 2 (.tp [4, 5]) fYes e1_blend [4, 5]))
def e1_put_in_square : EvF := (fOp modD (fVar 10) (fVar 2))
def e2_put_in_square : EvF := (fOp modD (fVar 10) (fVar 2))
def b3_put_in_square : EvS := (fIfS (fTst (fOp neD (fOp ixD (fVar 3) (fVar 4)) (fC (.int 0))))
    (fSeq (fAsg 5 (fOp ixD (fVar 0) (fVar 4)))
    (fSeq (fUnp [6, 7, 8] (fCall f_bezout (fCons (fOp ixD (fVar 5) (fVar 4)) (fCons (fOp ixD (fVar 3) (fVar 4)) fNil))))
    (fSeq (fAsg 9 (fCall f_blend (fCons (fVar 5) (fCons (fOp divD (fOp ixD (fVar 3) (fVar 4)) (fVar 6)) (fCons (fVar 3) (fCons (fOp1 negD (fOp divD (fOp ixD (fVar 5) (fVar 4)) (fVar 6))) fNil))))))
    (fSeq (fStore 0 (fLc (fIter (fCall f_blend (fCons (fVar 5) (fCons (fVar 7) (fCons (fVar 3) (fCons (fVar 8) fNil)))))) (.nm 10) fYes e2_put_in_square [10]) (fVar 4))
    (fAsg 3 (fLcB 9 (.nm 10) fYes e1_put_in_square [10]))))))
    fNext)
def e4_put_in_square : EvF := (fOp modD (fVar 10) (fVar 2))
def f_put_in_square : Fn := runFn 11 3 [0, 1, 2]
    (fSeq (fAsg 3 (fLcB 1 (.nm 10) fYes e4_put_in_square [10]))
    (fFor (fRng3 (fCons (fOp subD (fCB lenD (fCons (fVar 0) fNil)) (fC (.int 1))) (fCons (fOp1 negD (fC (.int 1))) (fCons (fOp1 negD (fC (.int 1))) fNil)))) (.nm 4) b3_put_in_square))
def b1_reduced : EvS := (fAsg 3 (fCall f_blend (fCons (fVar 3) (fCons (fC (.int 1)) (fCons (fOp ixD (fVar 1) (fVar 4)) (fCons (fOp1 negD (fOp divD (fOp ixD (fVar 3) (fVar 4)) (fOp ixD (fOp ixD (fVar 1) (fVar 4)) (fVar 4)))) fNil))))))
def b2_reduced : EvS := (fSeq (fAsg 3 (fOp ixD (fVar 0) (fVar 2)))
    (fSeq (fFor (fRng3 (fCons (fOp subD (fVar 2) (fC (.int 1))) (fCons (fOp1 negD (fC (.int 1))) (fCons (fOp1 negD (fC (.int 1))) fNil)))) (.nm 4) b1_reduced)
    (fDrop (fMut 1 appendM (fCons (fCB tupleD (fCons (fVar 3) fNil)) fNil)))))
def f_reduced : Fn := runFn 5 1 [0]
    (fSeq (fAsg 1 (fLst fNil))
    (fSeq (fFor (fRng (fCons (fCB lenD (fCons (fVar 0) fNil)) fNil)) (.nm 2) b2_reduced)
    (fRet (fVar 1))))
def b1_ground : EvS := (fDrop (fCall f_put_in_square (fCons (fVar 3) (fCons (fVar 4) (fCons (fVar 2) fNil)))))
def e2_ground : EvF := (fOp mulD (fVar 2) (fCB intD (fCons (fOp eqD (fVar 6) (fVar 5)) fNil)))
def e3_ground : EvF := (fLc (fRng (fCons (fVar 0) fNil)) (.nm 6) fYes e2_ground [6])
def f_ground : Fn := runFn 7 3 [0, 1, 2]
    (fSeq (fAsg 3 (fLc (fRng (fCons (fVar 0) fNil)) (.nm 5) fYes e3_ground [5]))
    (fSeq (fForB 1 (.nm 4) b1_ground)
    (fRet (fCall f_reduced (fCons (fVar 3) fNil)))))
def f_l_cell_at : Fn := runFn 2 2 [0, 1]
    (fSeq (fIfS (fTst (fOp ltD (fVar 1) (fScLen 0)))
    (fRet (fScIx 0 (fVar 1)))
    fNext)
    (fRet (fC (.int 0))))
def b1_l_stream : EvS := (fSeq (fAsg 3 (fOp modD (fOp addD (fOp addD (fOp addD (fOp mulD (fVar 3) (fVar 3)) (fOp mulD (fC (.int 48271)) (fVar 3))) (fOp mulD (fC (.int 31)) (fVar 5))) (fVar 1)) (fC (.int 2147483647))))
    (fDrop (fMut 4 appendM (fCons (fOp divD (fVar 3) (fC (.int 3))) fNil))))
def f_l_stream : Fn := runFn 6 3 [0, 1, 2]
    (fSeq (fAsg 3 (fOp modD (fOp addD (fOp addD (fOp modD (fVar 0) (fC (.int 2147483629))) (fOp mulD (fC (.int 7919)) (fVar 1))) (fC (.int 13))) (fC (.int 2147483647))))
    (fSeq (fAsg 4 (fLst fNil))
    (fSeq (fFor (fRng (fCons (fVar 2) fNil)) (.nm 5) b1_l_stream)
    (fRet (fVar 4)))))
def t1_l_is_square : EvT := (fOrT (fTst (fOp ltD (fOp ixD (fVar 3) (fVar 5)) (fC (.int 0)))) (fTst (fOp geD (fOp ixD (fVar 3) (fVar 5)) (fOp ixD (fOp ixD (fVar 0) (fVar 5)) (fVar 5)))))
def e2_l_is_square : EvF := (fVar 5)
def t3_l_is_square : EvT := (fTst (fOp neD (fOp ixD (fVar 3) (fVar 5)) (fC (.int 0))))
def e4_l_is_square : EvF := (fVar 5)
def t5_l_is_square : EvT := (fOrT (fNotT (fTst (fIsi "int" (fVar 4)))) (fTst (fIsi "bool" (fVar 4))))
def e6_l_is_square : EvF := (fVar 4)
def b7_l_is_square : EvS := (fSeq (fAsg 3 (fOp ixD (fVar 0) (fVar 2)))
    (fSeq (fIfS (fOrT (fNotT (fTst (fIsi "tuple" (fVar 3)))) (fTst (fOp neD (fCB lenD (fCons (fVar 3) fNil)) (fVar 1))))
    (fRet (fC (.bool false)))
    fNext)
    (fSeq (fIfS (fOrT (fTst (fOp gtD (fCB lenD (fCons (fLcB 3 (.nm 4) t5_l_is_square e6_l_is_square [4]) fNil)) (fC (.int 0)))) (fTst (fOp ltD (fOp ixD (fVar 3) (fVar 2)) (fC (.int 1)))))
    (fRet (fC (.bool false)))
    fNext)
    (fSeq (fIfS (fTst (fOp gtD (fCB lenD (fCons (fLc (fRng (fCons (fOp addD (fVar 2) (fC (.int 1))) (fCons (fVar 1) fNil))) (.nm 5) t3_l_is_square e4_l_is_square [5]) fNil)) (fC (.int 0))))
    (fRet (fC (.bool false)))
    fNext)
    (fIfS (fTst (fOp gtD (fCB lenD (fCons (fLc (fRng (fCons (fVar 2) fNil)) (.nm 5) t1_l_is_square e2_l_is_square [5]) fNil)) (fC (.int 0))))
    (fRet (fC (.bool false)))
    fNext)))))
def f_l_is_square : Fn := runFn 6 2 [0, 1]
    (fSeq (fIfS (fOrT (fNotT (fTst (fIsi "list" (fVar 0)))) (fTst (fOp neD (fCB lenD (fCons (fVar 0) fNil)) (fVar 1))))
    (fRet (fC (.bool false)))
    fNext)
    (fSeq (fFor (fRng (fCons (fVar 1) fNil)) (.nm 2) b7_l_is_square)
    (fRet (fC (.bool true)))))
def e1_l_in_square : EvF := (fOp subD (fVar 5) (fOp mulD (fVar 4) (fVar 6)))
def b2_l_in_square : EvS := (fSeq (fIfS (fTst (fOp neD (fOp modD (fOp ixD (fVar 2) (fVar 3)) (fOp ixD (fOp ixD (fVar 0) (fVar 3)) (fVar 3))) (fC (.int 0))))
    (fRet (fC (.bool false)))
    fNext)
    (fSeq (fAsg 4 (fOp divD (fOp ixD (fVar 2) (fVar 3)) (fOp ixD (fOp ixD (fVar 0) (fVar 3)) (fVar 3))))
    (fAsg 2 (fLc (fZip (fCons (fVar 2) (fCons (fOp ixD (fVar 0) (fVar 3)) fNil))) (.tp [5, 6]) fYes e1_l_in_square [5, 6]))))
def f_l_in_square : Fn := runFn 7 2 [0, 1]
    (fSeq (fAsg 2 (fCB listD (fCons (fVar 1) fNil)))
    (fSeq (fFor (fRng3 (fCons (fOp subD (fCB lenD (fCons (fVar 1) fNil)) (fC (.int 1))) (fCons (fOp1 negD (fC (.int 1))) (fCons (fOp1 negD (fC (.int 1))) fNil)))) (.nm 3) b2_l_in_square)
    (fRet (fC (.bool true)))))
def e1_l_case : EvF := (fOp subD (fOp mulD (fVar 8) (fOp ixD (fLst (fCons (fC (.int 0)) (fCons (fC (.int 2)) (fCons (fC (.int 3)) fNil)))) (fOp modD (fOp divD (fOp ixD (fVar 6) (fC (.int 0))) (fC (.int 9))) (fC (.int 3))))) (fOp mulD (fVar 3) (fOp modD (fVar 8) (fC (.int 2)))))
def e2_l_case : EvF := (fOp modD (fVar 8) (fOp ixD (fLst (fCons (fC (.int 3)) (fCons (fOp mulD (fC (.int 2)) (fVar 3)) (fCons (fOp powD (fC (.int 10)) (fC (.int 9))) fNil)))) (fOp modD (fOp ixD (fVar 6) (fC (.int 0))) (fC (.int 3)))))
def b3_l_case : EvS := (fSeq (fAsg 6 (fCall f_l_stream (fCons (fCall f_l_cell_at (fCons (fVar 0) (fCons (fOp addD (fC (.int 1)) (fVar 5)) fNil))) (fCons (fVar 5) (fCons (fOp addD (fVar 2) (fC (.int 1))) fNil)))))
    (fSeq (fAsg 7 (fLc (fIter (fSlice (fVar 6) (fPart (fC (.int 1))) fNoPart)) (.nm 8) fYes e2_l_case [8]))
    (fSeq (fIfS (fTst (fOp eqD (fOp modD (fOp divD (fOp ixD (fVar 6) (fC (.int 0))) (fC (.int 3))) (fC (.int 3))) (fC (.int 0))))
    (fAsg 7 (fLcB 7 (.nm 8) fYes e1_l_case [8]))
    fNext)
    (fDrop (fMut 4 appendM (fCons (fCB tupleD (fCons (fVar 7) fNil)) fNil))))))
def f_l_case : Fn := runFn 9 1 [0]
    (fSeq (fAsg 1 (fCall f_l_cell_at (fCons (fVar 0) (fCons (fC (.int 0)) fNil))))
    (fSeq (fAsg 2 (fOp addD (fC (.int 1)) (fOp modD (fVar 1) (fC (.int 3)))))
    (fSeq (fAsg 3 (fOp ixD (fLst (fCons (fC (.int 2)) (fCons (fC (.int 3)) (fCons (fC (.int 4)) (fCons (fC (.int 5)) (fCons (fC (.int 6)) (fCons (fC (.int 7)) (fCons (fC (.int 8)) (fCons (fC (.int 9)) fNil))))))))) (fOp modD (fOp divD (fVar 1) (fC (.int 3))) (fC (.int 8)))))
    (fSeq (fIfS (fTst (fOp eqD (fOp modD (fOp divD (fVar 1) (fC (.int 24))) (fC (.int 4))) (fC (.int 1))))
    (fSeq (fAsg 2 (fOp addD (fC (.int 4)) (fOp modD (fOp divD (fVar 1) (fC (.int 96))) (fC (.int 2)))))
    (fAsg 3 (fOp addD (fC (.int 2)) (fOp modD (fOp divD (fVar 1) (fC (.int 192))) (fC (.int 2))))))
    fNext)
    (fSeq (fAsg 4 (fLst fNil))
    (fSeq (fFor (fRng (fCons (fOp modD (fOp divD (fVar 1) (fC (.int 384))) (fC (.int 6))) fNil)) (.nm 5) b3_l_case)
    (fRet (fTup (fCons (fVar 2) (fCons (fVar 3) (fCons (fVar 4) fNil)))))))))))
def e1_l_sums : EvF := (fOp modD (fOp addD (fVar 8) (fVar 9)) (fVar 1))
def b2_l_sums : EvS := (fSeq (fAsg 7 (fCB tupleD (fCons (fLcZ 5 6 (.tp [8, 9]) fYes e1_l_sums [8, 9]) fNil)))
    (fIfS (fTst (fTIn true 3 (fVar 7)))
    (fSeq (fTPut 3 (fC (.bool true)) (fVar 7))
    (fDrop (fMut 4 appendM (fCons (fVar 7) fNil))))
    fNext))
def c3_l_sums : EvT := (fTst (fOp gtD (fCB lenD (fCons (fVar 4) fNil)) (fC (.int 0))))
def b4_l_sums : EvS := (fSeq (fAsg 5 (fMut 4 popM fNil))
    (fForB 2 (.nm 6) b2_l_sums))
def f_l_sums : Fn := runFn 10 3 [0, 1, 2]
    (fSeq (fAsg 3 (fTNew (fCB tupleD (fCons (fOp mulD (fLst (fCons (fC (.int 0)) fNil)) (fVar 0)) fNil)) (fC (.bool true))))
    (fSeq (fAsg 4 (fLst (fCons (fCB tupleD (fCons (fOp mulD (fLst (fCons (fC (.int 0)) fNil)) (fVar 0)) fNil)) fNil)))
    (fSeq (fWhile (fun _ => 4000000) c3_l_sums b4_l_sums)
    (fRet (fTLen 3)))))
def b1_law : EvS := (fIfS (fNotT (fTst (fCall f_l_in_square (fCons (fVar 5) (fCons (fVar 10) fNil)))))
    (fRet (fC (.bool false)))
    fNext)
def b2_law : EvS := (fSeq (fAsg 7 (fOp mulD (fVar 7) (fOp ixD (fOp ixD (fVar 5) (fVar 9)) (fVar 9))))
    (fAsg 8 (fOp mulD (fVar 8) (fVar 2))))
def e3_law : EvF := (fOp mulD (fVar 2) (fCB intD (fCons (fOp eqD (fVar 9) (fVar 12)) fNil)))
def e4_law : EvF := (fCB tupleD (fCons (fLc (fRng (fCons (fVar 1) fNil)) (.nm 9) fYes e3_law [9]) fNil))
def f_law : Fn := runFn 13 1 [0]
    (fSeq (fUnp [1, 2, 3] (fCall f_l_case (fCons (fVar 0) fNil)))
    (fSeq (fAsg 4 (fCB listD (fCons (fVar 3) fNil)))
    (fSeq (fAsg 5 (fCall f_ground (fCons (fVar 1) (fCons (fVar 4) (fCons (fVar 2) fNil)))))
    (fSeq (fIfS (fOrT (fNotT (fTst (fCall f_l_is_square (fCons (fVar 5) (fCons (fVar 1) fNil))))) (fTst (fOp neD (fVar 4) (fVar 3))))
    (fRet (fC (.bool false)))
    fNext)
    (fSeq (fAsg 6 (fLc (fRng (fCons (fVar 1) fNil)) (.nm 12) fYes e4_law [12]))
    (fSeq (fAsg 7 (fC (.int 1)))
    (fSeq (fAsg 8 (fC (.int 1)))
    (fSeq (fFor (fRng (fCons (fVar 1) fNil)) (.nm 9) b2_law)
    (fSeq (fFor (fIter (fOp addD (fVar 3) (fVar 6))) (.nm 10) b1_law)
    (fSeq (fIfS (fTst (fOp neD (fOp mulD (fCall f_l_sums (fCons (fVar 1) (fCons (fVar 2) (fCons (fVar 3) fNil)))) (fVar 7)) (fVar 8)))
    (fRet (fC (.bool false)))
    fNext)
    (fSeq (fAsg 11 (fCB listD (fCons (fVar 5) fNil)))
    (fSeq (fDrop (fMut 5 clearM fNil))
    (fRet (fAndV (fOp eqD (fCall f_ground (fCons (fVar 1) (fCons (fOp1 revD (fVar 3)) (fCons (fVar 2) fNil)))) (fVar 11)) (fOp eqD (fCall f_ground (fCons (fVar 1) (fCons (fLst fNil) (fCons (fVar 2) fNil)))) (fVar 6))))))))))))))))
theorem cell_at (ns : List Int) (k : Int) (hk : 0 ≤ k) : ∃ c : Int, f_l_cell_at [.sc ns, .sh (.int k)] = .ok (.sh (.int c), [.sc ns, .sh (.int k)]) := by
  unfold f_l_cell_at
  rw [run_eq]
  by_cases h : k < (ns.length : Int)
  · have hl : k.toNat < ns.length := by omega
    have e : atI ns k = some ns[k.toNat] := at_int hk (List.getElem?_eq_getElem hl)
    refine ⟨ns[k.toNat], ?_⟩
    simp [h, e, backArgs_eq, List.range_succ]
  · refine ⟨0, ?_⟩
    simp [h, backArgs_eq, List.range_succ]
theorem stream_loop (salt : Int) (h0 : 0 ≤ salt) (h1 : salt ≤ 1000) (a0 a1 a2 a5 : Sl) (n : Nat) (num : Int) (hn : n ≤ 1000) (hm : 0 ≤ num ∧ num < 2147483647) :
    ∃ e' : Lo, loopF (.nm 5) b1_l_stream (rngD 0 n) [a0, .sh (.int salt), a2, .sh (.int num), .ol [], a5] = .ok (.nx e') ∧ ∃ (xs : List Int) (num' : Int) (b5 : Sl), e' = [a0, .sh (.int salt), a2, .sh (.int num'), .ol (xs.map PyData.int), b5] ∧ xs.length = n ∧ ∀ x ∈ xs, 0 ≤ x ∧ x < 715827883 := by
  have := loop_inv (tg := .nm 5) (b := b1_l_stream) (fun i e => ∃ (xs : List Int) (num' : Int) (b5 : Sl), e = [a0, .sh (.int salt), a2, .sh (.int num'), .ol (xs.map PyData.int), b5] ∧ xs.length = i ∧ (0 ≤ num' ∧ num' < 2147483647) ∧ ∀ x ∈ xs, 0 ≤ x ∧ x < 715827883)
    (rngD 0 n) (env := [a0, .sh (.int salt), a2, .sh (.int num), .ol [], a5]) ⟨[], num, a5, rfl, rfl, hm, by simp⟩ ?_
  · obtain ⟨e', q, xs, num', b5, e, hl, _, hx⟩ := this
    refine ⟨e', q, xs, num', b5, e, ?_, hx⟩
    rw [hl]; simp [rngD]
  · intro i d e hd ⟨xs, num', b5, he, hl, hm', hx⟩
    have hi : i < n := by
      have := (List.getElem?_eq_some_iff.mp hd).1
      simpa [rngD] using this
    have hdv : d = .int i := by
      unfold rngD at hd
      rw [List.getElem?_map, List.getElem?_range hi] at hd
      simp at hd
      exact hd.symm
    subst he hdv
    have m1 : mulOk num' num' = true := mulOk_left (by omega) (by omega)
    have m2 : mulOk 48271 num' = true := mulOk_left (by omega) (by omega)
    have m3 : mulOk 31 (i : Int) = true := mulOk_left (by omega) (by omega)
    let num2 := (num' * num' + 48271 * num' + 31 * (i : Int) + salt) % 2147483647
    have hn2 : 0 ≤ num2 ∧ num2 < 2147483647 := ⟨Int.emod_nonneg _ (by omega), Int.emod_lt_of_pos _ (by omega)⟩
    have dv : divOk num2 3 = true := by
      unfold divOk
      rw [PyProof.noPylong_small (by decide)]
      rfl
    refine ⟨_, [a0, .sh (.int salt), a2, .sh (.int num2), .ol ((xs ++ [num2.fdiv 3]).map PyData.int), .sh (.int i)], rfl, .inl ?_, xs ++ [num2.fdiv 3], num2, _, rfl, by simp [hl], hn2, ?_⟩
    · unfold b1_l_stream
      simp [mulD_int m1, mulD_int m2, mulD_int m3, modD_int, divD_int dv, show xs.length < 16777216 by omega, num2]
    · intro x hx'
      rcases List.mem_append.mp hx' with h | h
      · exact hx x h
      · rw [List.mem_singleton] at h
        subst h
        rw [Int.fdiv_eq_ediv_of_nonneg _ (by omega)]
        omega

theorem stream (c salt : Int) (h0 : 0 ≤ salt) (h1 : salt ≤ 1000) (n : Nat) (hn : n ≤ 1000) :
    ∃ xs : List Int, f_l_stream [.sh (.int c), .sh (.int salt), .sh (.int n)] = .ok (.ol (xs.map PyData.int), [.sh (.int c), .sh (.int salt), .sh (.int n)]) ∧ xs.length = n ∧ ∀ x ∈ xs, 0 ≤ x ∧ x < 715827883 := by
  have m1 : mulOk 7919 salt = true := mulOk_left (by omega) (by omega)
  obtain ⟨num, en⟩ : ∃ t : Int, t = (c % 2147483629 + 7919 * salt + 13) % 2147483647 := ⟨_, rfl⟩
  have hm : 0 ≤ num ∧ num < 2147483647 := by rw [en]; exact ⟨Int.emod_nonneg _ (by omega), Int.emod_lt_of_pos _ (by omega)⟩
  obtain ⟨e', q, xs, num', b5, e, hl, hx⟩ := stream_loop salt h0 h1 (.sh (.int c)) .no (.sh (.int n)) .no n num hn hm
  refine ⟨xs, ?_, hl, hx⟩
  unfold f_l_stream
  rw [run_eq]
  subst e
  simp [modD_int, mulD_int m1, show (n : Int) < 4611686018427387904 by omega, show -4611686018427387904 ≤ (n : Int) by omega]
  rw [← en, q]
  simp [backArgs_eq, List.range_succ]
theorem zipD_ints : ∀ xs ys : List Int, zipD (xs.map PyData.int) (ys.map PyData.int) = (List.zip xs ys).map fun p => PyData.tuple [.int p.1, .int p.2]
  | [], _ => rfl
  | _ :: _, [] => rfl
  | x :: xs, y :: ys => by
    have := zipD_ints xs ys
    unfold zipD at this ⊢
    simp [this]
abbrev T (ys : List Int) : D := .tuple (ys.map PyData.int)
abbrev I (ys : List Int) : List D := ys.map PyData.int
abbrev Li (ys : List Int) : D := .list (ys.map PyData.int)
theorem dn_succ (lo : Int) (p : Nat) : dnD lo (p + 1) = .int lo :: dnD (lo - 1) p := by
  unfold dnD
  rw [List.range_succ_eq_map, List.map_cons, List.map_map]
  congr 1
  · simp
  · apply List.map_congr_left
    intro i _
    show PyData.int (lo - ((i + 1 : Nat) : Int)) = PyData.int (lo - 1 - i)
    congr 1
    omega
theorem at_fn {xs : List Int} {p : Nat} (h : p < xs.length) : atI (xs.map PyData.int) (p : Int) = some (.int (fn xs p)) := by
  refine at_nat ?_
  unfold fn
  rw [List.getElem?_map, List.getElem?_eq_getElem h]
  rfl
theorem lay_T (xs : List Int) : Lay 1 (T xs) := .tuple (layInts xs)
theorem lay_lines {α : Type} (xs : List α) (f : α → List Int) : Lay 2 (.list (xs.map fun a => T (f a))) := .list fun d hd => by
  obtain ⟨a, _, rfl⟩ := List.mem_map.mp hd
  exact lay_T (f a)
theorem rng_get' {lo : Int} {n i : Nat} {d : D} (h : (rngD lo n)[i]? = some d) : i < n ∧ d = .int (lo + (i : Int)) := by
  have hi : i < n := by
    have := (List.getElem?_eq_some_iff.mp h).1
    rwa [rng_len] at this
  have h2 : (rngD lo n)[i]? = some (.int (lo + (i : Int))) := by simp [rngD, hi]
  rw [h2] at h
  injection h with h
  exact ⟨hi, h.symm⟩
theorem divD_s {i j : Int} (h0 : 0 < j) (h : j < 1073741824) : divD (.int i) (.int j) = some (.sh (.int (i / j))) := by
  rw [divD_int (divOk_small (by omega) (by omega)), Int.fdiv_eq_ediv_of_nonneg _ (by omega)]
/-- a comprehension that takes the rest of each number -/
theorem mod_comp {e : EvF} {E : Lo} {own : List Nat} {s : Nat} {rest : Int} (xs : List Int) (hl : xs.length ≤ 1000000) (h : ∀ x ∈ xs, ∃ e1, bindT (.nm s) (.int x) E = some e1 ∧ e e1 = .ok (.sh (.int (x % rest)), e1) ∧ wipeE e1 own = E) : compF (.nm s) fYes e own (xs.map PyData.int) [] E = .ok ((xs.map (· % rest)).map PyData.int, E) := by
  have hc := comp_map (tg := .nm s) (ft := fYes) (fe := e) (own := own) (E := E) (fun d => match d with | .int x => .int (x % rest) | d => d) (xs.map PyData.int) [] (by simp; omega) ?_
  · rw [hc, List.nil_append]
    congr 2
    rw [List.map_map, List.map_map]
    rfl
  · intro d hd
    obtain ⟨x, hx, rfl⟩ := List.mem_map.mp hd
    obtain ⟨e1, q1, q2, q3⟩ := h x hx
    exact ⟨e1, _, e1, q1, rfl, q2, e1, rfl, q3⟩
theorem ediv_bd' {k : Nat} {x y : Int} (h : Bd k x) (h0 : 0 < y) : Bd k (x / y) := by
  have : (x / y).natAbs ≤ x.natAbs := Int.natAbs_ediv_le_natAbs x y
  unfold Bd at *
  omega
/-- a comprehension over whole numbers that makes whole numbers -/
theorem comp_ints {tg : Tgt} {fe : EvF} {own : List Nat} {E : Lo} (P : Int → Int → Prop) (xs : List Int) (hl : xs.length ≤ 16777216) (h : ∀ x ∈ xs, ∃ v : Int, P x v ∧ ∃ e1, bindT tg (.int x) E = some e1 ∧ fe e1 = .ok (.sh (.int v), e1) ∧ wipeE e1 own = E) :
    ∃ g : Int → Int, (∀ x ∈ xs, P x (g x)) ∧ compF tg fYes fe own (xs.map PyData.int) [] E = .ok ((xs.map g).map PyData.int, E) := by
  have h' : ∀ x : Int, ∃ v : Int, x ∈ xs → P x v ∧ ∃ e1, bindT tg (.int x) E = some e1 ∧ fe e1 = .ok (.sh (.int v), e1) ∧ wipeE e1 own = E := by
    intro x
    by_cases hx : x ∈ xs
    · obtain ⟨v, hv⟩ := h x hx
      exact ⟨v, fun _ => hv⟩
    · exact ⟨0, fun q => absurd q hx⟩
  obtain ⟨g, hg⟩ := Classical.axiomOfChoice h'
  refine ⟨g, fun x hx => (hg x hx).1, ?_⟩
  have hc := comp_map (tg := tg) (ft := fYes) (fe := fe) (own := own) (E := E) (fun d => match d with | .int x => .int (g x) | d => d) (xs.map PyData.int) [] (by simp; omega) ?_
  · rw [hc, List.nil_append]
    congr 2
    rw [List.map_map, List.map_map]
    rfl
  · intro d hd
    obtain ⟨x, hx, rfl⟩ := List.mem_map.mp hd
    obtain ⟨_, e1, q1, q2, q3⟩ := hg x hx
    exact ⟨e1, _, e1, q1, rfl, q2, e1, rfl, q3⟩
/-- the same over pairs -/
theorem comp_pairs {tg : Tgt} {fe : EvF} {own : List Nat} {E : Lo} (g : Int → Int → Int) (xs ys : List Int) (hl : xs.length ≤ 16777216) (h : ∀ x ∈ xs, ∀ y ∈ ys, ∃ e1, bindT tg (.tuple [.int x, .int y]) E = some e1 ∧ fe e1 = .ok (.sh (.int (g x y)), e1) ∧ wipeE e1 own = E) :
    compF tg fYes fe own (zipD (xs.map PyData.int) (ys.map PyData.int)) [] E = .ok ((List.zipWith g xs ys).map PyData.int, E) := by
  have hc := comp_map (tg := tg) (ft := fYes) (fe := fe) (own := own) (E := E) (fun d => match d with | .tuple [.int a, .int b] => .int (g a b) | d => d) (zipD (xs.map PyData.int) (ys.map PyData.int)) [] (by rw [zipD_ints]; simp; omega) ?_
  · rw [hc, List.nil_append]
    congr 2
    rw [zipD_ints, List.map_map, ← List.map_uncurry_zip_eq_zipWith, List.map_map]
    rfl
  · intro d hd
    rw [zipD_ints] at hd
    obtain ⟨⟨a, b⟩, hp, rfl⟩ := List.mem_map.mp hd
    obtain ⟨e1, q1, q2, q3⟩ := h a (List.of_mem_zip hp).1 b (List.of_mem_zip hp).2
    exact ⟨e1, _, e1, q1, rfl, q2, e1, rfl, q3⟩
/-- a comprehension that picks -/
theorem comp_filter {tg : Tgt} {ft : EvT} {fe : EvF} {own : List Nat} {E : Lo} (p : D → Bool) (g : D → D) : ∀ (ds acc : List D), ds.length + acc.length ≤ 16777216 →
    (∀ d ∈ ds, ∃ e1, bindT tg d E = some e1 ∧ ft e1 = .ok (p d, e1) ∧ (p d = true → fe e1 = .ok (.sh (g d), e1)) ∧ wipeE e1 own = E) → compF tg ft fe own ds acc E = .ok (acc ++ (ds.filter p).map g, E)
  | [], acc, _, _ => by simp [compF]
  | d :: ds, acc, hl, h => by
    obtain ⟨e1, q1, q2, q3, q4⟩ := h d List.mem_cons_self
    rw [List.length_cons] at hl
    by_cases hp : p d = true
    · have ih := comp_filter p g ds (acc ++ [g d]) (by simp; omega) fun x hx => h x (List.mem_cons_of_mem _ hx)
      show (Res.ofO (bindT tg d E)).bind _ = _
      rw [q1]
      show (ft e1).bind _ = _
      rw [q2, hp]
      show (fe e1).bind _ = _
      rw [q3 hp]
      show (if acc.length < 16777216 then compF tg ft fe own ds (acc ++ [g d]) (wipeE e1 own) else .bad) = _
      rw [if_pos (by omega), q4, ih, List.filter_cons_of_pos hp]
      simp
    · have ih := comp_filter p g ds acc (by omega) fun x hx => h x (List.mem_cons_of_mem _ hx)
      have hp : p d = false := by simpa using hp
      show (Res.ofO (bindT tg d E)).bind _ = _
      rw [q1]
      show (ft e1).bind _ = _
      rw [q2, hp]
      show compF tg ft fe own ds acc (wipeE e1 own) = _
      rw [q4, ih, List.filter_cons_of_neg (by rw [hp]; decide)]
/-- a loop that may return early -/
theorem loop_chk {tg : Tgt} {b : EvS} (Iv : Nat → Lo → Prop) (J : Lo → Prop) (r : Sl) (p : Nat → Prop) (ds : List D) {env : Lo} (h0 : Iv 0 env)
    (hs : ∀ i d e, ds[i]? = some d → Iv i e → ∃ e1 e2, bindT tg d e = some e1 ∧ ((p i ∧ b e1 = .ok (.nx e2) ∧ Iv (i + 1) e2) ∨ (¬ p i ∧ b e1 = .ok (.rt r e2) ∧ J e2))) :
    ∃ e', ((∀ i, i < ds.length → p i) ∧ loopF tg b ds env = .ok (.nx e') ∧ Iv ds.length e') ∨ ((¬ ∀ i, i < ds.length → p i) ∧ loopF tg b ds env = .ok (.rt r e') ∧ J e') := by
  have key : ∀ (ds : List D) (k : Nat) (env : Lo), Iv k env → (∀ i d e, ds[i]? = some d → Iv (k + i) e → ∃ e1 e2, bindT tg d e = some e1 ∧ ((p (k + i) ∧ b e1 = .ok (.nx e2) ∧ Iv (k + i + 1) e2) ∨ (¬ p (k + i) ∧ b e1 = .ok (.rt r e2) ∧ J e2))) →
      ∃ e', ((∀ i, i < ds.length → p (k + i)) ∧ loopF tg b ds env = .ok (.nx e') ∧ Iv (k + ds.length) e') ∨ ((¬ ∀ i, i < ds.length → p (k + i)) ∧ loopF tg b ds env = .ok (.rt r e') ∧ J e') := by
    intro ds
    induction ds with
    | nil => intro k env h _; exact ⟨env, .inl ⟨fun i hi => absurd hi (by simp), rfl, h⟩⟩
    | cons d ds ih =>
      intro k env h hs
      obtain ⟨e1, e2, q1, q2⟩ := hs 0 d env rfl h
      have lc : loopF tg b (d :: ds) env = (b e1).bind (loopC2 tg b ds) := by rw [loop_cons, q1]; rfl
      rcases q2 with ⟨pp, q2, q3⟩ | ⟨pp, q2, q3⟩
      · obtain ⟨e', w⟩ := ih (k + 1) e2 q3 fun i d e hd hi => by
          have := hs (i + 1) d e (by simpa using hd) (by rw [show k + (i + 1) = k + 1 + i by omega]; exact hi)
          rw [show k + (i + 1) + 1 = k + 1 + i + 1 by omega, show k + (i + 1) = k + 1 + i by omega] at this
          exact this
        refine ⟨e', ?_⟩
        rw [lc, q2]
        rcases w with ⟨w1, w2, w3⟩ | ⟨w1, w2, w3⟩
        · refine .inl ⟨fun i hi => ?_, w2, by rw [List.length_cons, show k + (ds.length + 1) = k + 1 + ds.length by omega]; exact w3⟩
          match i, hi with
          | 0, _ => exact pp
          | i + 1, hi =>
            rw [show k + (i + 1) = k + 1 + i by omega]
            exact w1 i (by simpa using hi)
        · refine .inr ⟨fun w => w1 fun i hi => ?_, w2, w3⟩
          have := w (i + 1) (by simpa using hi)
          rwa [show k + (i + 1) = k + 1 + i by omega] at this
      · refine ⟨e2, .inr ⟨fun w => pp (w 0 (by simp)), ?_, q3⟩⟩
        rw [lc, q2]
        rfl
  have := key ds 0 env h0 fun i d e hd hi => by simpa using hs i d e hd (by simpa using hi)
  simpa using this
/-! ### the law's case: a small rest and lines -/
structure Case2 (n : Nat) (rest : Int) (lines : List (List Int)) : Prop where
  n1 : 1 ≤ n
  nr : (n ≤ 3 ∧ 2 ≤ rest ∧ rest ≤ 9) ∨ (n ≤ 5 ∧ 2 ≤ rest ∧ rest ≤ 3)
  le : lines.length ≤ 5
  len : ∀ l ∈ lines, l.length = n
  bd : ∀ l ∈ lines, ∀ x ∈ l, Bd 40 x
theorem pickM (x0 rest : Int) (hr : 2 ≤ rest ∧ rest ≤ 9) : ∃ m : Int, atI [PyData.int 3, .int (2 * rest), .int 1000000000] (x0 % 3) = some (.int m) ∧ 0 < m ∧ m ≤ 1000000000 := by
  have h : x0 % 3 = 0 ∨ x0 % 3 = 1 ∨ x0 % 3 = 2 := by omega
  rcases h with h | h | h <;> rw [h]
  · exact ⟨3, rfl, by omega, by omega⟩
  · exact ⟨2 * rest, rfl, by omega, by omega⟩
  · exact ⟨1000000000, rfl, by omega, by omega⟩
theorem pickF (x0 : Int) : ∃ m : Int, atI [PyData.int 0, .int 2, .int 3] (x0 / 9 % 3) = some (.int m) ∧ 0 ≤ m ∧ m ≤ 3 := by
  have h : x0 / 9 % 3 = 0 ∨ x0 / 9 % 3 = 1 ∨ x0 / 9 % 3 = 2 := by omega
  rcases h with h | h | h <;> rw [h]
  · exact ⟨0, rfl, by omega, by omega⟩
  · exact ⟨2, rfl, by omega, by omega⟩
  · exact ⟨3, rfl, by omega, by omega⟩
theorem pickR (c : Int) : ∃ r : Int, atI [PyData.int 2, .int 3, .int 4, .int 5, .int 6, .int 7, .int 8, .int 9] (c / 3 % 8) = some (.int r) ∧ 2 ≤ r ∧ r ≤ 9 := by
  have h : c / 3 % 8 = 0 ∨ c / 3 % 8 = 1 ∨ c / 3 % 8 = 2 ∨ c / 3 % 8 = 3 ∨ c / 3 % 8 = 4 ∨ c / 3 % 8 = 5 ∨ c / 3 % 8 = 6 ∨ c / 3 % 8 = 7 := by omega
  rcases h with h | h | h | h | h | h | h | h <;> rw [h]
  all_goals exact ⟨_, rfl, by omega, by omega⟩
theorem case2_turn (ns : List Int) (n k : Nat) (hn : n ≤ 100) (hk : k ≤ 100) (rest : Int) (hr : 2 ≤ rest ∧ rest ≤ 9) (lines : List (List Int)) (hz : lines.length ≤ 1000) (s1 s6 s7 : Sl) :
    ∃ ys t6 t7, b3_l_case [.sc ns, s1, .sh (.int n), .sh (.int rest), .ol (lines.map T), .sh (.int k), s6, s7, .no] = .ok (.nx [.sc ns, s1, .sh (.int n), .sh (.int rest), .ol ((lines ++ [ys]).map T), .sh (.int k), t6, t7, .no]) ∧ ys.length = n ∧ ∀ y ∈ ys, Bd 40 y := by
  obtain ⟨c, hc⟩ := cell_at ns (1 + (k : Int)) (by omega)
  obtain ⟨xs, hs, xl, xb⟩ := stream c k (by omega) (by omega) (n + 1) (by omega)
  match xs, xl, xb, hs with
  | [], xl, _, _ => simp at xl
  | x0 :: xs, xl, xb, hs =>
    have b0 := xb x0 (by simp)
    have xl : xs.length = n := by simpa using xl
    have g0 : atI (PyData.int x0 :: xs.map PyData.int) 0 = some (.int x0) := at_nat (n := 0) rfl
    have ct : cutG (PyData.int x0 :: xs.map PyData.int) (some 1) none = xs.map PyData.int := cutG_from (PyData.int x0 :: xs.map PyData.int) 1
    simp at hs
    obtain ⟨m, em, m0, m1⟩ := pickM x0 rest hr
    obtain ⟨P, hP⟩ : ∃ P : Int, P = 1000000000 := ⟨_, rfl⟩
    have p9 : powD (.int 10) (.int 9) = some (.sh (.int 1000000000)) := powD_int ⟨by omega, by omega, by decide⟩
    have mr : mulOk 2 rest = true := mulOk_left (by omega) (by omega)
    obtain ⟨g, hg, cc⟩ := comp_ints (tg := .nm 8) (fe := e2_l_case) (own := [8]) (E := [.sc ns, s1, .sh (.int n), .sh (.int rest), .ol (lines.map T), .sh (.int k), .ol (PyData.int x0 :: xs.map PyData.int), s7, .no])
      (fun _ v => 0 ≤ v ∧ v < 1000000000) xs (by omega) (fun x hx => by
        refine ⟨x % m, ⟨Int.emod_nonneg _ (by omega), by have := Int.emod_lt_of_pos x m0; omega⟩, _, rfl, ?_, rfl⟩
        unfold e2_l_case
        simp [g0, modD_int, mulD_int mr, p9, em, modD_int m0])
    have zb : ∀ z ∈ xs.map g, 0 ≤ z ∧ z < 1000000000 := fun z hz' => by
      obtain ⟨x, hx, rfl⟩ := List.mem_map.mp hz'
      exact hg x hx
    have zl : (xs.map g).length = n := by simp [xl]
    generalize xs.map g = zs at *
    have lz : (lines.map T).length < 16777216 := by rw [List.length_map]; omega
    by_cases h : x0 / 3 % 3 = 0
    · obtain ⟨f, ef, f0, f1⟩ := pickF x0
      obtain ⟨g2, hg2, cc2⟩ := comp_ints (tg := .nm 8) (fe := e1_l_case) (own := [8]) (E := [.sc ns, s1, .sh (.int n), .sh (.int rest), .ol (lines.map T), .sh (.int k), .ol (PyData.int x0 :: xs.map PyData.int), .no, .no])
        (fun _ v => Bd 40 v) zs (by omega) (fun z hz' => by
          have b := zb z hz'
          have ma : mulOk z f = true := (Bd.range (k := 30) (m := 1000000000) (by omega) (by omega)).mOk (Bd.range (k := 3) (m := 3) (by omega) (by omega)) (by omega)
          have mb : mulOk rest (z % 2) = true := mulOk_left (by omega) (by omega)
          refine ⟨z * f - rest * (z % 2), ?_, _, rfl, ?_, rfl⟩
          · refine Bd.sub (a := 33) (b := 6) ?_ ?_ (by omega) (by omega)
            · exact (Bd.range (k := 30) (m := 1000000000) (by omega) (by omega)).mul (Bd.range (k := 3) (m := 3) (by omega) (by omega))
            · exact (Bd.range (k := 4) (m := 9) (by omega) (by omega)).mul (Bd.range (k := 2) (m := 2) (by omega) (by omega))
          · unfold e1_l_case
            simp [g0, modD_int, divD_s, ef, mulD_int ma, mulD_int mb])
      refine ⟨zs.map g2, .ol (PyData.int x0 :: xs.map PyData.int), .ol ((zs.map g2).map PyData.int), ?_, by simp [zl], fun y hy => ?_⟩
      rotate_left
      · obtain ⟨z, hz', rfl⟩ := List.mem_map.mp hy
        exact hg2 z hz'
      · have e3 : (lines ++ [zs.map g2]).map T = lines.map T ++ [T (zs.map g2)] := by simp
        rw [e3]
        generalize zs.map g2 = W at *
        unfold b3_l_case
        generalize lines.map T = LD at *
        simp [hc, hs]
        rw [ct, cc]
        simp [g0, modD_int, divD_s, eqD_ok, eqv_int, h]
        rw [cc2]
        simp [T, lz]
    · have h' : (x0 / 3 % 3 == 0) = false := by simpa using h
      refine ⟨zs, .ol (PyData.int x0 :: xs.map PyData.int), .ol (zs.map PyData.int), ?_, zl, fun y hy => ?_⟩
      rotate_left
      · have := zb y hy
        exact Bd.range (m := 1000000000) (by omega) (by omega)
      · have e3 : (lines ++ [zs]).map T = lines.map T ++ [T zs] := by simp
        rw [e3]
        unfold b3_l_case
        generalize lines.map T = LD at *
        simp [hc, hs]
        rw [ct, cc]
        simp [g0, modD_int, divD_s, eqD_ok, eqv_int, h', T, lz]
theorem case2_ok (ns : List Int) : ∃ (n : Nat) (rest : Int) (lines : List (List Int)), f_l_case [.sc ns] = .ok (.sh (.tuple [.int n, .int rest, .list (lines.map T)]), [.sc ns]) ∧ Case2 n rest lines := by
  obtain ⟨c, hc⟩ := cell_at ns 0 (by omega)
  obtain ⟨r0, er0, r01, r02⟩ := pickR c
  obtain ⟨m, hm⟩ : ∃ m : Nat, (m : Int) = c / 384 % 6 := ⟨(c / 384 % 6).toNat, by omega⟩
  have key : ∀ (n : Nat) (rest : Int) (s1 : Sl), n ≤ 5 → 2 ≤ rest ∧ rest ≤ 9 → ∃ (lines : List (List Int)) (s5 s6 s7 : Sl), loopF (.nm 5) b3_l_case (rngD 0 m) [.sc ns, s1, .sh (.int n), .sh (.int rest), .ol [], .no, .no, .no, .no] = .ok (.nx [.sc ns, s1, .sh (.int n), .sh (.int rest), .ol (lines.map T), s5, s6, s7, .no]) ∧ lines.length = m ∧ ∀ l ∈ lines, l.length = n ∧ ∀ x ∈ l, Bd 40 x := by
    intro n rest s1 hn hr
    obtain ⟨e', q, lines, s5, s6, s7, rfl, hl, hx⟩ := loop_inv (tg := .nm 5) (b := b3_l_case) (fun i e => ∃ (lines : List (List Int)) (s5 s6 s7 : Sl), e = [.sc ns, s1, .sh (.int n), .sh (.int rest), .ol (lines.map T), s5, s6, s7, .no] ∧ lines.length = i ∧ ∀ l ∈ lines, l.length = n ∧ ∀ x ∈ l, Bd 40 x) (rngD 0 m)
      (env := [.sc ns, s1, .sh (.int n), .sh (.int rest), .ol [], .no, .no, .no, .no]) ⟨[], .no, .no, .no, rfl, rfl, nofun⟩ (by
        rintro i d _ hd ⟨lines, s5, s6, s7, rfl, hl, hx⟩
        obtain ⟨hi, rfl⟩ := rng_get hd
        obtain ⟨ys, t6, t7, q, yl, yb⟩ := case2_turn ns n i (by omega) (by omega) rest hr lines (by omega) s1 s6 s7
        refine ⟨_, _, rfl, .inl q, lines ++ [ys], .sh (.int i), t6, t7, rfl, by simp [hl], fun l hm => ?_⟩
        rcases List.mem_append.mp hm with hm | hm
        · exact hx l hm
        · rw [List.mem_singleton] at hm
          subst hm
          exact ⟨yl, yb⟩)
    rw [rng_len] at hl
    exact ⟨lines, s5, s6, s7, q, hl, hx⟩
  have h1 : (m : Int) < 4611686018427387904 := by omega
  have h2 : -4611686018427387904 ≤ (m : Int) := by omega
  by_cases h5 : c / 24 % 4 = 1
  · obtain ⟨n, hn⟩ : ∃ n : Nat, (n : Int) = 4 + c / 96 % 2 := ⟨(4 + c / 96 % 2).toNat, by omega⟩
    obtain ⟨rest, hre⟩ : ∃ r : Int, r = 2 + c / 192 % 2 := ⟨_, rfl⟩
    obtain ⟨lines, s5, s6, s7, q, hl, hx⟩ := key n rest (.sh (.int c)) (by omega) (by omega)
    refine ⟨n, rest, lines, ?_, ⟨by omega, .inr ⟨by omega, by omega, by omega⟩, by omega, fun l h => (hx l h).1, fun l h => (hx l h).2⟩⟩
    unfold f_l_case
    rw [run_eq]
    simp [modD_int, hc, divD_s, er0, eqD_ok, eqv_int, h5, ← hn, ← hre, ← hm, h1, h2]
    rw [q]
    simp [backArgs_eq, List.range_succ]
  · obtain ⟨n, hn⟩ : ∃ n : Nat, (n : Int) = 1 + c % 3 := ⟨(1 + c % 3).toNat, by omega⟩
    have h5' : (c / 24 % 4 == 1) = false := by simpa using h5
    obtain ⟨lines, s5, s6, s7, q, hl, hx⟩ := key n r0 (.sh (.int c)) (by omega) ⟨r01, r02⟩
    refine ⟨n, r0, lines, ?_, ⟨by omega, .inl ⟨by omega, r01, r02⟩, by omega, fun l h => (hx l h).1, fun l h => (hx l h).2⟩⟩
    unfold f_l_case
    rw [run_eq]
    simp [modD_int, hc, divD_s, er0, eqD_ok, eqv_int, h5', ← hn, ← hm, h1, h2]
    rw [q]
    simp [backArgs_eq, List.range_succ]
/-! ### bezout -/
theorem bd_abs {x M : Int} {k : Nat} (h : x.natAbs ≤ M) (hM : M < 2 ^ k) : Bd k x := by
  unfold Bd
  have : ((x.natAbs : Nat) : Int) < ((2 ^ k : Nat) : Int) := by
    rw [Int.natCast_pow]
    exact Int.lt_of_le_of_lt h hM
  exact Int.ofNat_lt.mp this
theorem bz_loop {a b : Int} (ha : 0 < a ∧ a ≤ 1000000) (hb : 0 < b ∧ b ≤ 1000000) (a0 a1 : Sl) : ∀ (f : Nat) (r0 s0 t0 r1 s1 t1 : Int) (s3 s4 : Sl), Bz a b r0 s0 t0 r1 s1 t1 → r0 ≤ 1000000 → r1.toNat < f →
    ∃ c m u x y s3' s4', whileF c3_bezout b4_bezout f [a0, a1, .ol [T [r0, s0, t0], T [r1, s1, t1]], s3, s4, .no, .no, .no] = .ok (.nx [a0, a1, .ol [T [c, m, u], T [0, x, y]], s3', s4', .no, .no, .no]) ∧ Bz a b c m u 0 x y
  | 0, _, _, _, _, _, _, _, _, _, _, hf => by omega
  | f + 1, r0, s0, t0, r1, s1, t1, s3, s4, h, hr, hf => by
    rw [while_succ]
    have g0 : atI [T [r0, s0, t0], T [r1, s1, t1]] 0 = some (T [r0, s0, t0]) := rfl
    have g1 : atI [T [r0, s0, t0], T [r1, s1, t1]] 1 = some (T [r1, s1, t1]) := rfl
    have g2 : ∀ x y z : Int, atI [PyData.int x, PyData.int y, PyData.int z] 0 = some (.int x) := fun _ _ _ => rfl
    by_cases h0 : r1 = 0
    · subst h0
      refine ⟨r0, s0, t0, s1, t1, s3, s4, ?_, h⟩
      unfold c3_bezout
      simp only [T, List.map_cons, List.map_nil] at g0 g1 ⊢
      simp [g1, g2, neD_ok, eqv_int]
    · obtain ⟨hs, lt⟩ := h.step ha.1 hb.1 h0
      have p1 := h.p1
      obtain ⟨w1, w2⟩ := bz_size h.p0 h.p1 h.sz
      obtain ⟨w3, w4⟩ := bz_size h.p0 h.p1 h.tz
      have hq := Int.ediv_nonneg (show 0 ≤ r0 by have := h.p0; omega) (show 0 ≤ r1 by omega)
      have hq2 : r0 / r1 ≤ r0 := Int.ediv_le_self _ (by have := h.p0; omega)
      have r1le : r1 ≤ 1000000 := by
        obtain ⟨A0, A1, q0, q1, _, _, e⟩ := h.sz
        obtain ⟨B0, B1, p0, p1', _, _, e'⟩ := h.tz
        have z1 := Int.mul_nonneg q1 (show 0 ≤ r0 by have := h.p0; omega)
        by_cases hA : A0 = 0
        · have z2 := Int.mul_nonneg p1' (show 0 ≤ r0 by have := h.p0; omega)
          by_cases hB : B0 = 0
          · -- both are 0: r0 would be 0
            have e0 := h.e0
            have s00 : s0 = 0 := by obtain ⟨w1', _⟩ := bz_size (M := 0) h.p0 h.p1 ⟨A0, A1, q0, q1, by omega, by assumption, e⟩; omega
            have t00 : t0 = 0 := by obtain ⟨w1', _⟩ := bz_size (M := 0) h.p0 h.p1 ⟨B0, B1, p0, p1', by omega, by assumption, e'⟩; omega
            rw [s00, t00] at e0
            have := h.p0
            simp at e0
            omega
          · have := le_of_mul (A := r1) (r := B0) (B := a) h.p1 (by omega) (by rw [Int.mul_comm]; omega)
            omega
        · have := le_of_mul (A := r1) (r := A0) (B := b) h.p1 (by omega) (by rw [Int.mul_comm]; omega)
          omega
      obtain ⟨q, eq⟩ : ∃ q, q = r0 / r1 := ⟨_, rfl⟩
      rw [← eq] at hs lt hq hq2
      obtain ⟨c, m, u, x, y, s3', s4', ih, hb'⟩ := bz_loop ha hb a0 a1 f r1 s1 t1 (r0 - q * r1) (s0 - q * s1) (t0 - q * t1) (.sh (.int q)) (.sh (T [r0 - q * r1, s0 - q * s1, t0 - q * t1])) hs r1le (by omega)
      refine ⟨c, m, u, x, y, s3', s4', ?_, hb'⟩
      have bq : Bd 20 q := Bd.range (m := 1000000) (by omega) (by omega)
      have cp := comp_pairs (tg := .tp [5, 6]) (fe := e2_bezout) (own := [5, 6]) (E := [a0, a1, .ol [T [r0, s0, t0], T [r1, s1, t1]], .sh (.int q), s4, .no, .no, .no]) (fun x y => x - q * y) [r0, s0, t0] [r1, s1, t1] (by simp) (fun x hx y hy => by
        have by' : Bd 30 y := by
          simp at hy
          rcases hy with rfl | rfl | rfl
          · exact Bd.range (m := 1000000) (by omega) (by omega)
          · exact Bd.range (m := 2000000) (by omega) (by omega)
          · exact Bd.range (m := 2000000) (by omega) (by omega)
        have m1 : mulOk q y = true := bq.mOk by' (by omega)
        refine ⟨_, rfl, ?_, rfl⟩
        unfold e2_bezout
        simp [mulD_int m1])
      have dv : divD (.int r0) (.int r1) = some (.sh (.int q)) := by rw [divD_s (by omega) (by omega), eq]
      have h0' : (r1 == 0) = false := by simpa using h0
      rw [← ih]
      unfold c3_bezout b4_bezout
      simp only [T, List.map_cons, List.map_nil, List.zipWith_cons_cons, List.zipWith_nil_right] at g0 g1 cp ⊢
      simp [g0, g1, g2, neD_ok, eqv_int, h0', dv]
      rw [cp]
      simp [g1]
theorem bezout_ok {a b : Int} (ha : 0 < a ∧ a ≤ 1000000) (hb : 0 < b ∧ b ≤ 1000000) :
    ∃ c m u, f_bezout [.sh (.int a), .sh (.int b)] = .ok (.sh (.tuple [.int c, .int m, .int u]), [.sh (.int a), .sh (.int b)]) ∧ 0 < c ∧ c ∣ a ∧ c ∣ b ∧ m * a + u * b = c ∧ Bd 30 m ∧ Bd 30 u := by
  obtain ⟨c, m, u, x, y, s3, s4, q, h⟩ := bz_loop ha hb (.sh (.int a)) (.sh (.int b)) 4000000 a 1 0 b 0 1 .no .no (Bz.start ha.1 hb.1) ha.2 (by omega)
  obtain ⟨w1, w2⟩ := bz_size h.p0 h.p1 h.sz
  obtain ⟨w3, w4⟩ := bz_size h.p0 h.p1 h.tz
  obtain ⟨d1, d2⟩ := h.dv c (Int.dvd_refl c) (Int.dvd_zero c)
  refine ⟨c, m, u, ?_, h.p0, d1, d2, h.e0, Bd.range (m := 2000000) (by omega) (by omega), Bd.range (m := 2000000) (by omega) (by omega)⟩
  have g0 : atI [T [c, m, u], T [0, x, y]] 0 = some (T [c, m, u]) := rfl
  have g2 : ∀ x y z : Int, atI [PyData.int x, PyData.int y, PyData.int z] 0 = some (.int x) := fun _ _ _ => rfl
  have c0 : ¬ c < 0 := by have := h.p0; omega
  unfold f_bezout
  rw [run_eq]
  simp only [T, List.map_cons, List.map_nil] at q g0 ⊢
  simp
  rw [q]
  simp [g0, g2, ltD, c0, backArgs_eq, List.range_succ]
/-! ### blend -/
/-- a list or a tuple of numbers, in an argument -/
inductive Sq1 (xs : List Int) : Sl → Prop
  | ol : Sq1 xs (.ol (I xs))
  | li : Sq1 xs (.sh (Li xs))
  | tu : Sq1 xs (.sh (T xs))
theorem blend_ok (m k : Int) (xs ys : List Int) {s t : Sl} (hs : Sq1 xs s) (ht : Sq1 ys t) (hm : ∀ x ∈ xs, mulOk m x = true) (hk : ∀ y ∈ ys, mulOk k y = true) (hl : xs.length ≤ 1000) :
    ∃ s0 s2, f_blend [s, .sh (.int m), t, .sh (.int k)] = .ok (.ol (I (List.zipWith (fun x y => m * x + k * y) xs ys)), [s0, .sh (.int m), s2, .sh (.int k)]) ∧ Sq1 xs s0 ∧ Sq1 ys s2 := by
  have hc := comp_pairs (tg := .tp [4, 5]) (fe := e1_blend) (own := [4, 5]) (E := [.no, .sh (.int m), .no, .sh (.int k), .no, .no]) (fun x y => m * x + k * y) xs ys (by omega) (fun x hx y hy => by
    have h1 := hm x hx
    have h2 := hk y hy
    refine ⟨_, rfl, ?_, rfl⟩
    unfold e1_blend
    simp [mulD_int h1, mulD_int h2])
  generalize List.zipWith (fun x y => m * x + k * y) xs ys = zs at *
  refine ⟨s, t, ?_, hs, ht⟩
  have e1 : seqS s = some (I xs) := by cases hs <;> rfl
  have e2 : seqS t = some (I ys) := by cases ht <;> rfl
  have n1 : ∀ e : Lo, moveIn e [s] = ([s], e) := fun e => by cases hs <;> rfl
  unfold f_blend
  rw [run_eq]
  simp [e1, e2]
  rw [hc]
  simp [backArgs_eq, List.range_succ]
/-! ### put_in_square -/
theorem at_row {n : Nat} {R : List (List Int)} {f : List Int → D} {k : Nat} {row : List Int} (h : R[k]? = some row) : atI (R.map f) (k : Int) = some (f row) := at_nat (by rw [List.getElem?_map, h]; rfl)
theorem lr_bd {x rest : Int} (h0 : 0 ≤ x) (h1 : x ≤ rest) (hr : rest ≤ 1000000) : Bd 20 x := Bd.range (m := 1000000) (by omega) (by omega)
theorem all_of_fn {xs : List Int} {P : Int → Prop} (h : ∀ j, P (fn xs j)) : ∀ x ∈ xs, P x := by
  intro x hx
  obtain ⟨i, hi, rfl⟩ := List.mem_iff_getElem.mp hx
  have := h i
  unfold fn at this
  rwa [List.getElem?_eq_getElem hi, Option.getD_some] at this
theorem put_sq_loop {n : Nat} {rest : Int} (hn : n ≤ 100) (hr : 2 ≤ rest ∧ rest ≤ 1000000) {R0 : List (List Int)} {L0 : List Int} (g : Gr n rest R0) (a1 : Sl) : ∀ (p : Nat) (R : List (List Int)) (L : List Int) (s4 s5 s6 s7 s8 s9 : Sl), p ≤ n → Put n rest R0 L0 p R L →
    ∃ R' L' t4 t5 t6 t7 t8 t9, loopF (.nm 4) b3_put_in_square (dnD ((p : Int) - 1) p) [.ol (R.map Li), a1, .sh (.int rest), .ol (I L), s4, s5, s6, s7, s8, s9, .no] = .ok (.nx [.ol (R'.map Li), a1, .sh (.int rest), .ol (I L'), t4, t5, t6, t7, t8, t9, .no]) ∧ Put n rest R0 L0 0 R' L'
  | 0, R, L, s4, s5, s6, s7, s8, s9, _, h => ⟨R, L, s4, s5, s6, s7, s8, s9, rfl, h⟩
  | p + 1, R, L, s4, s5, s6, s7, s8, s9, hp, h => by
    have e1 : (((p + 1 : Nat) : Int) - 1) = (p : Int) := by omega
    rw [dn_succ, e1]
    have gL := at_fn (xs := L) (p := p) (by rw [h.len]; omega)
    by_cases hz : fn L p = 0
    · obtain ⟨R', L', t4, t5, t6, t7, t8, t9, q, hq⟩ := put_sq_loop hn hr g a1 p R L (.sh (.int p)) s5 s6 s7 s8 s9 (by omega) (h.skip hz)
      refine ⟨R', L', t4, t5, t6, t7, t8, t9, ?_, hq⟩
      rw [← q]
      simp
      unfold b3_put_in_square
      simp only [I] at gL ⊢
      generalize R.map Li = RD at *
      simp [gL, hz, neD_ok, eqv_int]
    · obtain ⟨row, hrow, rl, er⟩ := h.tr.rowAt (show p < n by omega)
      have lp := h.ll p
      have rp := h.le p p (by omega)
      have rpos := h.tr.pos p (by omega)
      rw [er] at rp rpos
      obtain ⟨c, m, u, bz, cpos, c1, c2, cb, bm, bu⟩ := bezout_ok (a := fn row p) (b := fn L p) ⟨rpos, by omega⟩ ⟨by omega, by omega⟩
      have cle := Int.le_of_dvd (show 0 < fn L p by omega) c2
      obtain ⟨R', L', t4, t5, t6, t7, t8, t9, q, hq⟩ := put_sq_loop hn hr g a1 p _ _ (.sh (.int p)) (.sh (Li row)) (.sh (.int c)) (.sh (.int m)) (.sh (.int u)) (.ol (I (List.zipWith (fun a b => fn L p / c * a + -(fn row p / c) * b) row L))) (by omega) (h.step g (by omega) hrow hz cpos c1 c2 cb)
      refine ⟨R', L', t4, t5, t6, t7, t8, t9, ?_, hq⟩
      rw [← q]
      have hl : row.length = L.length := by rw [rl, h.len]
      have gR : atI (R.map Li) (p : Int) = some (Li row) := at_row (n := n) hrow
      have gr := at_fn (xs := row) (p := p) (by omega)
      have rb : ∀ x ∈ row, Bd 20 x := all_of_fn fun j => by
        have := h.le p j (by omega)
        rw [er] at this
        exact lr_bd this.1 this.2 hr.2
      have lb : ∀ x ∈ L, Bd 20 x := all_of_fn fun j => lr_bd (h.ll j).1 (by have := h.ll j; omega) hr.2
      obtain ⟨A, eA⟩ : ∃ A, A = fn L p / c := ⟨_, rfl⟩
      obtain ⟨B, eB⟩ : ∃ B, B = fn row p / c := ⟨_, rfl⟩
      have bA : Bd 20 A := by rw [eA]; exact ediv_bd' (lr_bd lp.1 (by omega) hr.2) cpos
      have bB : Bd 20 B := by rw [eB]; exact ediv_bd' (lr_bd (by omega) rp.2 hr.2) cpos
      obtain ⟨s0, s2, bl1, k1, k2⟩ := blend_ok A (-B) row L (.li) (.ol) (fun x hx => bA.mOk (rb x hx) (by omega)) (fun y hy => bB.neg.mOk (lb y hy) (by omega)) (by omega)
      obtain ⟨s0', s2', bl2, k3, k4⟩ := blend_ok m u row L (.li) k2 (fun x hx => bm.mOk (rb x hx) (by omega)) (fun y hy => bu.mOk (lb y hy) (by omega)) (by omega)
      rw [← eA, ← eB]
      have ix : ixN (R.map Li).length (p : Int) = some p := ixN_nat (by rw [List.length_map, h.tr.len]; omega)
      have es : ((R.map Li).set p (Li (stepR rest m u row L))) = (R.set p (stepR rest m u row L)).map Li := by rw [List.map_set]
      have st : ∀ e : Lo, storV 0 (Li (stepR rest m u row L)) e (.sh (.int p)) (some (.ol (R.map Li))) = .ok (.nx (e.set 0 (.ol ((R.set p (stepR rest m u row L)).map Li)))) := fun e => by rw [storV_at ix, es]
      have d1 : divD (.int (fn L p)) (.int c) = some (.sh (.int A)) := by rw [divD_s cpos (by omega), eA]
      have d2 : divD (.int (fn row p)) (.int c) = some (.sh (.int B)) := by rw [divD_s cpos (by omega), eB]
      have hz' : (fn L p == 0) = false := by simpa using hz
      have restp : 0 < rest := by omega
      have mc1 := fun E3 : Sl => mod_comp (e := e2_put_in_square) (own := [10]) (s := 10) (rest := rest) (E := [.ol (R.map Li), a1, .sh (.int rest), E3, .sh (.int p), .sh (Li row), .sh (.int c), .sh (.int m), .sh (.int u), .ol (I (List.zipWith (fun a b => A * a + -B * b) row L)), .no]) (List.zipWith (fun a b => m * a + u * b) row L) (by simp; omega) (fun x _ => by
        refine ⟨_, rfl, ?_, rfl⟩
        unfold e2_put_in_square
        simp [modD_int restp])
      have mc2 := fun (RD : List D) (E3 : Sl) => mod_comp (e := e1_put_in_square) (own := [10]) (s := 10) (rest := rest) (E := [.ol RD, a1, .sh (.int rest), E3, .sh (.int p), .sh (Li row), .sh (.int c), .sh (.int m), .sh (.int u), .no, .no]) (List.zipWith (fun a b => A * a + -B * b) row L) (by simp; omega) (fun x _ => by
        refine ⟨_, rfl, ?_, rfl⟩
        unfold e1_put_in_square
        simp [modD_int restp])
      have z1 : (List.zipWith (fun a b => m * a + u * b) row L).map (· % rest) = stepR rest m u row L := rfl
      have z2 : (List.zipWith (fun a b => A * a + -B * b) row L).map (· % rest) = stepR rest A (-B) row L := rfl
      rw [z1] at mc1
      rw [z2] at mc2
      generalize List.zipWith (fun a b => m * a + u * b) row L = W1 at *
      generalize List.zipWith (fun a b => A * a + -B * b) row L = W2 at *
      generalize stepR rest m u row L = S1 at *
      generalize stepR rest A (-B) row L = S2 at *
      simp
      unfold b3_put_in_square
      simp only [I] at gL gr bl1 bl2 mc1 mc2 ⊢
      generalize (R.set p S1).map Li = RD2 at *
      generalize R.map Li = RD at *
      simp [gL, hz', neD_ok, eqv_int, gR, gr, bz, d1, d2, bl1]
      cases k2 with
      | ol =>
        simp only [I] at bl2
        cases k4 with
        | ol =>
          simp only [I] at bl2
          simp [bl2]
          rw [mc1]
          simp [st]
          rw [mc2]
          simp [es]
        | li =>
          simp [bl2]
          rw [mc1]
          simp [st]
          rw [mc2]
          simp [es]
        | tu =>
          simp [bl2]
          rw [mc1]
          simp [st]
          rw [mc2]
          simp [es]
      | li =>
        simp [bl2]
        rw [mc1]
        simp [st]
        rw [mc2]
        simp [es]
      | tu =>
        simp [bl2]
        rw [mc1]
        simp [st]
        rw [mc2]
        simp [es]
theorem put_sq_ok {n : Nat} {rest : Int} (hn : n ≤ 100) (hr : 2 ≤ rest ∧ rest ≤ 1000000) {lines R : List (List Int)} (g : Gn n rest lines R) (line : List Int) (hl : line.length = n) :
    ∃ R', f_put_in_square [.ol (R.map Li), .sh (T line), .sh (.int rest)] = .ok (.sh .none, [.ol (R'.map Li), .sh (T line), .sh (.int rest)]) ∧ Gn n rest (lines ++ [line]) R' := by
  have restp : 0 < rest := by omega
  obtain ⟨R', L', t4, t5, t6, t7, t8, t9, q, hq⟩ := put_sq_loop hn hr g.gr (.sh (T line)) n R (line.map (· % rest)) .no .no .no .no .no .no (Nat.le_refl _) (Put.start g.gr hl restp)
  refine ⟨R', ?_, g.next hl (L' := []) rfl hq⟩
  have mc := mod_comp (e := e4_put_in_square) (own := [10]) (s := 10) (rest := rest) (E := [.ol (R.map Li), .sh (T line), .sh (.int rest), .no, .no, .no, .no, .no, .no, .no, .no]) line (by omega) (fun x _ => by
    refine ⟨_, rfl, ?_, rfl⟩
    unfold e4_put_in_square
    simp [modD_int restp])
  have rl := g.gr.tr.len
  have lz : ((R.map Li).length : Int) - 1 = (n : Int) - 1 := by rw [List.length_map, rl]
  unfold f_put_in_square
  rw [run_eq]
  simp only [T, I] at q mc ⊢
  generalize R'.map Li = RD2 at *
  generalize R.map Li = RD at *
  generalize line.map (· % rest) = L0 at *
  have h1 : (n : Int) - 1 < 4611686018427387904 := by omega
  have h2 : -4611686018427387904 ≤ (n : Int) - 1 := by omega
  have h3 : ((n : Int) - 1 - -1).toNat = n := by omega
  simp
  rw [mc]
  simp [lz, h1, h2, h3]
  rw [q]
  simp [backArgs_eq, List.range_succ]
/-! ### reduced -/
theorem red_sq_loop {n : Nat} {rest : Int} (hn : n ≤ 100) (hr : rest ≤ 1000000) {F : List (List Int)} {k : Nat} (hk : k < n) {row : List Int} (hF : ∀ i, i < k → ∃ g, F[i]? = some g ∧ g.length = n ∧ 0 < fn g i ∧ ∀ j, i < j → fn g j = 0) (hb : ∀ i j, i < k → 0 ≤ rw' F i j ∧ rw' F i j ≤ rest) (a0 s2 : Sl) :
    ∀ (p : Nat) (cur : List Int) (s3 s4 : Sl), p ≤ k → Sq1 cur s3 → Red n F k row p cur → (∀ x ∈ cur, Bd (20 + 22 * (k - p)) x) →
    ∃ cur' s3' s4', loopF (.nm 4) b1_reduced (dnD ((p : Int) - 1) p) [a0, .ol (F.map T), s2, s3, s4] = .ok (.nx [a0, .ol (F.map T), s2, s3', s4']) ∧ Sq1 cur' s3' ∧ Red n F k row 0 cur'
  | 0, cur, s3, s4, _, hs, h, _ => ⟨cur, s3, s4, rfl, hs, h⟩
  | p + 1, cur, s3, s4, hp, hs, h, hbd => by
    have e1 : (((p + 1 : Nat) : Int) - 1) = (p : Int) := by omega
    rw [dn_succ, e1]
    obtain ⟨f, ef, fl, f0, fz⟩ := hF p (by omega)
    have gc := at_fn (xs := cur) (p := p) (by rw [h.len]; omega)
    have gF : atI (F.map T) (p : Int) = some (T f) := at_row (n := n) ef
    have gf := at_fn (xs := f) (p := p) (by omega)
    have fb : ∀ x ∈ f, Bd 20 x := all_of_fn fun j => by
      have := hb p j (by omega)
      rw [rw_at ef] at this
      exact lr_bd this.1 this.2 hr
    have fle : fn f p ≤ 1000000 := by
      have := hb p p (by omega)
      rw [rw_at ef] at this
      omega
    obtain ⟨q, eq⟩ : ∃ q, q = fn cur p / fn f p := ⟨_, rfl⟩
    have bq : Bd (20 + 22 * (k - (p + 1))) q := by rw [eq]; exact ediv_bd' (fn_bd hbd p) f0
    have dv : divD (.int (fn cur p)) (.int (fn f p)) = some (.sh (.int q)) := by rw [divD_s f0 (by omega), eq]
    obtain ⟨s0, s2', bl, k1, k2⟩ := blend_ok 1 (-q) cur f hs (.tu) (fun x hx => (Bd.lit (k := 1) (by decide)).mOk (hbd x hx) (by omega)) (fun y hy => bq.neg.mOk (fb y hy) (by omega)) (by rw [h.len]; omega)
    have ez : List.zipWith (fun x y => 1 * x + -q * y) cur f = lessF cur f q := by
      unfold lessF
      congr 1
      funext x y
      rw [Int.one_mul, Int.neg_mul, Int.sub_eq_add_neg]
    rw [ez] at bl
    have hstep := h.step hF (by omega) ef
    rw [← eq] at hstep
    have hl : cur.length = f.length := by rw [h.len, fl]
    have bnew : ∀ x ∈ lessF cur f q, Bd (20 + 22 * (k - p)) x := all_of_fn fun j => by
      rw [fn_less _ _ _ hl]
      exact (fn_bd hbd j).sub (bq.mul (fn_bd fb j)) (by omega) (by omega)
    obtain ⟨cur', s3', s4', ih, w1, w2⟩ := red_sq_loop hn hr hk hF hb a0 s2 p (lessF cur f q) (.ol (I (lessF cur f q))) (.sh (.int p)) (by omega) .ol hstep bnew
    refine ⟨cur', s3', s4', ?_, w1, w2⟩
    rw [← ih]
    unfold b1_reduced
    simp only [T, I] at gF bl ⊢
    generalize F.map (fun ys => PyData.tuple (ys.map PyData.int)) = FD at *
    generalize lessF cur f q = W at *
    cases hs with
    | ol => simp [gc, gF, gf, dv, bl]
    | li => simp [gc, gF, gf, dv, bl]
    | tu =>
      simp only [T] at bl
      simp [gc, gF, gf, dv, bl]
theorem reduced_ok {n : Nat} {rest : Int} (hn : n ≤ 100) (hr : 2 ≤ rest ∧ rest ≤ 1000000) {R : List (List Int)} (g : Gr n rest R) :
    ∃ F, f_reduced [.ol (R.map Li)] = .ok (.ol (F.map T), [.ol (R.map Li)]) ∧ Sqr n F ∧ (∀ v, Lt (below R n) v ↔ Lt (below F n) v) ∧ ∀ i j, i < n → 0 ≤ rw' F i j ∧ rw' F i j ≤ rest := by
  have key : ∃ F s2 s3 s4, loopF (.nm 2) b2_reduced (rngD 0 n) [.ol (R.map Li), .ol [], .no, .no, .no] = .ok (.nx [.ol (R.map Li), .ol (F.map T), s2, s3, s4]) ∧ Rdd n R F n ∧ ∀ i j, i < n → 0 ≤ rw' F i j ∧ rw' F i j ≤ rest := by
    obtain ⟨e', q, F, s2, s3, s4, rfl, hF, hb⟩ := loop_inv (tg := .nm 2) (b := b2_reduced) (fun k e => ∃ F s2 s3 s4, e = [.ol (R.map Li), .ol (F.map T), s2, s3, s4] ∧ Rdd n R F k ∧ ∀ i j, i < k → 0 ≤ rw' F i j ∧ rw' F i j ≤ rest) (rngD 0 n)
      (env := [.ol (R.map Li), .ol [], .no, .no, .no]) ⟨[], .no, .no, .no, rfl, ⟨rfl, fun i hi => by omega, fun i j hi => by omega, fun i hi => by omega, fun i hi => by omega⟩, fun i j hi => by omega⟩ (by
        rintro k d _ hd ⟨F, s2, s3, s4, rfl, hF, hb⟩
        obtain ⟨hk, rfl⟩ := rng_get hd
        obtain ⟨row, hrow, rl, er⟩ := g.tr.rowAt hk
        have gR : atI (R.map Li) (k : Int) = some (Li row) := at_row (n := n) hrow
        have rb : ∀ x ∈ row, Bd (20 + 22 * (k - k)) x := all_of_fn fun j => by
          have := g.le k j hk
          rw [er] at this
          exact (lr_bd this.1 this.2 hr.2).mono (by omega)
        have start : Red n F k row k row := ⟨rl, rfl, fun j hj => by rw [← er]; exact g.tr.off k j hk hj, fun j h1 h2 => by omega, Lt.zero.eq fun j => by omega⟩
        obtain ⟨cur, s3', s4', q, w1, w2⟩ := red_sq_loop hn hr.2 hk hF.row hb (.ol (R.map Li)) (.sh (.int k)) k row (.sh (Li row)) s4 (Nat.le_refl _) .li start rb
        have nx := hF.next g.tr hk hrow w2
        have lF : F.length < 16777216 := by rw [hF.len]; omega
        refine ⟨_, [.ol (R.map Li), .ol ((F ++ [cur]).map T), .sh (.int k), s3', s4'], rfl, .inl ?_, F ++ [cur], .sh (.int k), s3', s4', rfl, nx, fun i j hi => ?_⟩
        · have ef : (F ++ [cur]).map T = F.map T ++ [T cur] := by simp
          rw [ef]
          have lF' : (F.map T).length < 16777216 := by rw [List.length_map]; exact lF
          unfold b2_reduced
          generalize R.map Li = RD at *
          generalize F.map T = FD at *
          have h1 : (k : Int) - 1 < 4611686018427387904 := by omega
          have h2 : -4611686018427387904 ≤ (k : Int) - 1 := by omega
          have h3 : ((k : Int) - 1 - -1).toNat = k := by omega
          simp [gR, h1, h2, h3]
          rw [q]
          cases w1 <;> simp [T, lF']
        · rw [rw_app, hF.len]
          by_cases e : i = k
          · rw [if_pos e]
            by_cases e2 : j = k
            · rw [e2, w2.own, ← er]; exact g.le k k hk
            · by_cases h3 : j < k
              · have := w2.red j (Nat.zero_le _) h3
                have := hb j j h3
                omega
              · rw [w2.off j (by omega)]; omega
          · rw [if_neg e]; exact hb i j (by omega))
    rw [rng_len] at hF hb
    exact ⟨F, s2, s3, s4, q, hF, hb⟩
  obtain ⟨F, s2, s3, s4, q, hF, hb⟩ := key
  obtain ⟨d1, d2⟩ := hF.done
  refine ⟨F, ?_, d1, d2, hb⟩
  have lz : ((R.map Li).length : Int) = (n : Int) := by rw [List.length_map, g.tr.len]
  have h1 : (n : Int) < 4611686018427387904 := by omega
  have h2 : -4611686018427387904 ≤ (n : Int) := by omega
  unfold f_reduced
  rw [run_eq]
  generalize R.map Li = RD at *
  simp [lz, h1, h2]
  rw [q]
  simp [backArgs_eq, List.range_succ]
/-! ### ground -/
theorem rests_comp {n : Nat} (hn : n ≤ 100) {rest : Int} (hr : 2 ≤ rest ∧ rest ≤ 1000000) (a1 : Sl) : compF (.nm 5) fYes e3_ground [5] (rngD 0 n) [] [.sh (.int n), a1, .sh (.int rest), .no, .no, .no, .no] = .ok ((rests n rest).map Li, [.sh (.int n), a1, .sh (.int rest), .no, .no, .no, .no]) := by
  have hc := comp_map (tg := .nm 5) (ft := fYes) (fe := e3_ground) (own := [5]) (E := [.sh (.int n), a1, .sh (.int rest), .no, .no, .no, .no]) (fun d => match d with | .int j => Li (restRow n rest j.toNat) | d => d) (rngD 0 n) [] (by rw [rng_len]; simp; omega) (fun d hd => by
    obtain ⟨j, hj0⟩ := List.getElem?_of_mem hd
    obtain ⟨hj, rfl⟩ := rng_get hj0
    have hi := comp_map (tg := .nm 6) (ft := fYes) (fe := e2_ground) (own := [6]) (E := [.sh (.int n), a1, .sh (.int rest), .no, .no, .sh (.int j), .no]) (fun d => match d with | .int k => .int (rest * un j k.toNat) | d => d) (rngD 0 n) [] (by rw [rng_len]; simp; omega) (fun d hd => by
      obtain ⟨k, hk0⟩ := List.getElem?_of_mem hd
      obtain ⟨hk, rfl⟩ := rng_get hk0
      refine ⟨_, .sh (.int (rest * un j k)), [.sh (.int n), a1, .sh (.int rest), .no, .no, .sh (.int j), .sh (.int k)], rfl, rfl, ?_, _, rfl, rfl⟩
      unfold e2_ground
      by_cases e : k = j
      · subst e
        have m1 : mulOk rest 1 = true := mulOk_left (by omega) (by omega)
        simp [eqD_ok, eqv_int, mulD_int m1, un_same]
      · have e2 : ((k : Int) == (j : Int)) = false := by simpa using (by omega : ¬ (k : Int) = j)
        have m1 : mulOk rest 0 = true := mulOk_left (by omega) (by omega)
        simp [eqD_ok, eqv_int, e2, mulD_int m1, un_ne e])
    have ei : (rngD 0 n).map (fun d => match d with | .int k => PyData.int (rest * un j k.toNat) | d => d) = (restRow n rest j).map PyData.int := by
      unfold rngD restRow
      rw [List.map_map, List.map_map]
      apply List.map_congr_left
      intro k _
      show PyData.int (rest * un j (0 + (k : Int)).toNat) = PyData.int (rest * un j k)
      rw [show (0 + (k : Int)).toNat = k by omega]
    rw [ei, List.nil_append] at hi
    refine ⟨_, .ol (I (restRow n rest j)), [.sh (.int n), a1, .sh (.int rest), .no, .no, .sh (.int j), .no], rfl, rfl, ?_, _, rfl, rfl⟩
    unfold e3_ground
    have h1 : (n : Int) < 4611686018427387904 := by omega
    have h2 : -4611686018427387904 ≤ (n : Int) := by omega
    simp [h1, h2]
    rw [hi]
    simp)
  rw [hc, List.nil_append]
  congr 2
  unfold rngD rests
  rw [List.map_map, List.map_map]
  apply List.map_congr_left
  intro j _
  show Li (restRow n rest (0 + (j : Int)).toNat) = Li (restRow n rest j)
  congr 3
  omega
theorem ground_loop {n : Nat} {rest : Int} (hn : n ≤ 100) (hr : 2 ≤ rest ∧ rest ≤ 1000000) (lines : List (List Int)) (hl : ∀ l ∈ lines, l.length = n) (a0 a1 : Sl) :
    ∃ R s4, loopF (.nm 4) b1_ground (lines.map T) [a0, a1, .sh (.int rest), .ol ((rests n rest).map Li), .no, .no, .no] = .ok (.nx [a0, a1, .sh (.int rest), .ol (R.map Li), s4, .no, .no]) ∧ Gn n rest lines R := by
  obtain ⟨e', q, R, s4, rfl, hR⟩ := loop_inv (tg := .nm 4) (b := b1_ground) (fun i e => ∃ R s4, e = [a0, a1, .sh (.int rest), .ol (R.map Li), s4, .no, .no] ∧ Gn n rest (lines.take i) R) (lines.map T)
    (env := [a0, a1, .sh (.int rest), .ol ((rests n rest).map Li), .no, .no, .no]) ⟨rests n rest, .no, rfl, Gn.start (by omega)⟩ (by
      rintro i d _ hd ⟨R, s4, rfl, hR⟩
      have hi : i < lines.length := by
        have := (List.getElem?_eq_some_iff.mp hd).1
        rwa [List.length_map] at this
      rw [List.getElem?_map, List.getElem?_eq_getElem hi] at hd
      cases hd
      obtain ⟨R', q, g'⟩ := put_sq_ok hn hr hR lines[i] (hl _ (List.getElem_mem hi))
      rw [List.take_append_getElem hi] at g'
      refine ⟨_, [a0, a1, .sh (.int rest), .ol (R'.map Li), .sh (T lines[i]), .no, .no], rfl, .inl ?_, R', _, rfl, g'⟩
      unfold b1_ground
      simp only [T] at q ⊢
      generalize R.map Li = RD at *
      simp [q])
  rw [List.length_map, List.take_length] at hR
  exact ⟨R, s4, q, hR⟩
/-- lines, in an argument -/
inductive Sq2 (lines : List (List Int)) : Sl → Prop
  | ol : Sq2 lines (.ol (lines.map T))
  | sh : Sq2 lines (.sh (.list (lines.map T)))
theorem ground_ok {n : Nat} {rest : Int} (hn : n ≤ 100) (hr : 2 ≤ rest ∧ rest ≤ 1000000) (lines : List (List Int)) (hl : ∀ l ∈ lines, l.length = n) {s : Sl} (hs : Sq2 lines s) :
    ∃ F, f_ground [.sh (.int n), s, .sh (.int rest)] = .ok (.ol (F.map T), [.sh (.int n), s, .sh (.int rest)]) ∧ Ground n rest lines F ∧ ∀ i j, i < n → 0 ≤ rw' F i j ∧ rw' F i j ≤ rest := by
  obtain ⟨R, s4, q1, g1⟩ := ground_loop hn hr lines hl (.sh (.int n)) .no
  obtain ⟨R2, s42, q2, g2⟩ := ground_loop hn hr lines hl (.sh (.int n)) (.sh (.list (lines.map T)))
  have h1 : (n : Int) < 4611686018427387904 := by omega
  have h2 : -4611686018427387904 ≤ (n : Int) := by omega
  cases hs with
  | ol =>
    obtain ⟨F, q3, r1, r2, r3⟩ := reduced_ok hn hr g1.gr
    refine ⟨F, ?_, ⟨r1, fun v => (r2 v).symm.trans (g1.iff v)⟩, r3⟩
    have rc := rests_comp hn hr (.ol (lines.map T))
    unfold f_ground
    rw [run_eq]
    generalize lines.map T = LD at *
    simp [h1, h2]
    rw [rc]
    simp
    rw [q1]
    simp [q3, backArgs_eq, List.range_succ]
  | sh =>
    obtain ⟨F, q3, r1, r2, r3⟩ := reduced_ok hn hr g2.gr
    refine ⟨F, ?_, ⟨r1, fun v => (r2 v).symm.trans (g2.iff v)⟩, r3⟩
    have rc := rests_comp hn hr (.sh (.list (lines.map T)))
    unfold f_ground
    rw [run_eq]
    generalize lines.map T = LD at *
    simp [h1, h2]
    rw [rc]
    simp
    rw [q2]
    simp [q3, backArgs_eq, List.range_succ]
/-! ### the law's eye: a square -/
theorem square_eye {n : Nat} {R : List (List Int)} (h : Sqr n R) (hn : n ≤ 100) : f_l_is_square [.ol (R.map T), .sh (.int n)] = .ok (.sh (.bool true), [.ol (R.map T), .sh (.int n)]) := by
  have rl := h.tr.len
  obtain ⟨_, q, s2, s3, rfl⟩ := loop_inv (tg := .nm 2) (b := b7_l_is_square) (fun i e => ∃ s2 s3, e = [.ol (R.map T), .sh (.int n), s2, s3, .no, .no]) (rngD 0 n) (env := [.ol (R.map T), .sh (.int n), .no, .no, .no, .no]) ⟨.no, .no, rfl⟩ (by
    rintro k d _ hd ⟨s2, s3, rfl⟩
    obtain ⟨hk, rfl⟩ := rng_get hd
    obtain ⟨row, hrow, rwl, er⟩ := h.tr.rowAt hk
    have gR : atI (R.map T) (k : Int) = some (T row) := at_row (n := n) hrow
    have gk := at_fn (xs := row) (p := k) (by omega)
    have pos := h.tr.pos k hk
    rw [er] at pos
    have c1 := comp_none (tg := .nm 4) (ft := t5_l_is_square) (fe := e6_l_is_square) (own := [4]) (E := [.ol (R.map T), .sh (.int n), .sh (.int k), .sh (T row), .no, .no]) (row.map PyData.int) [] (fun d hd => by
      obtain ⟨x, _, rfl⟩ := List.mem_map.mp hd
      refine ⟨_, [.ol (R.map T), .sh (.int n), .sh (.int k), .sh (T row), .sh (.int x), .no], rfl, ?_, rfl⟩
      unfold t5_l_is_square
      simp)
    have c2 := comp_none (tg := .nm 5) (ft := t3_l_is_square) (fe := e4_l_is_square) (own := [5]) (E := [.ol (R.map T), .sh (.int n), .sh (.int k), .sh (T row), .no, .no]) (rngD ((k : Int) + 1) (n - (k + 1))) [] (fun d hd => by
      obtain ⟨i, hi0⟩ := List.getElem?_of_mem hd
      obtain ⟨hi, rfl⟩ := rng_get' hi0
      have e1 : (k : Int) + 1 + (i : Int) = ((k + 1 + i : Nat) : Int) := by omega
      have g := at_fn (xs := row) (p := k + 1 + i) (by omega)
      have z := h.tr.off k (k + 1 + i) hk (by omega)
      rw [er] at z
      rw [z] at g
      rw [e1]
      refine ⟨_, [.ol (R.map T), .sh (.int n), .sh (.int k), .sh (T row), .no, .sh (.int ((k + 1 + i : Nat) : Int))], rfl, ?_, rfl⟩
      generalize ((k + 1 + i : Nat) : Int) = J at *
      unfold t3_l_is_square
      simp only [T]
      simp [g, neD_ok, eqv_int])
    have c3 := comp_none (tg := .nm 5) (ft := t1_l_is_square) (fe := e2_l_is_square) (own := [5]) (E := [.ol (R.map T), .sh (.int n), .sh (.int k), .sh (T row), .no, .no]) (rngD 0 k) [] (fun d hd => by
      obtain ⟨i, hi0⟩ := List.getElem?_of_mem hd
      obtain ⟨hi, rfl⟩ := rng_get hi0
      obtain ⟨row2, hrow2, rwl2, er2⟩ := h.tr.rowAt (show i < n by omega)
      have gR2 : atI (R.map T) (i : Int) = some (T row2) := at_row (n := n) hrow2
      have g := at_fn (xs := row) (p := i) (by omega)
      have g2 := at_fn (xs := row2) (p := i) (by omega)
      have rd := h.red k i hk hi
      rw [er, er2] at rd
      have n1 : ¬ fn row i < 0 := by omega
      have n2 : ¬ fn row2 i ≤ fn row i := by omega
      refine ⟨_, [.ol (R.map T), .sh (.int n), .sh (.int k), .sh (T row), .no, .sh (.int i)], rfl, ?_, rfl⟩
      unfold t1_l_is_square
      simp only [T] at gR2 ⊢
      generalize R.map (fun ys => PyData.tuple (ys.map PyData.int)) = RD at *
      simp [g, g2, gR2, ltD, geD, n1, n2])
    refine ⟨_, [.ol (R.map T), .sh (.int n), .sh (.int k), .sh (T row), .no, .no], rfl, .inl ?_, _, _, rfl⟩
    have n3 : ¬ fn row k < 1 := by omega
    have h1 : (n : Int) < 4611686018427387904 := by omega
    have h2 : -4611686018427387904 ≤ (n : Int) := by omega
    have h3 : (k : Int) + 1 < 4611686018427387904 := by omega
    have h4 : -4611686018427387904 ≤ (k : Int) + 1 := by omega
    have h5 : (k : Int) < 4611686018427387904 := by omega
    have h6 : -4611686018427387904 ≤ (k : Int) := by omega
    have h7 : ((n : Int) - ((k : Int) + 1)).toNat = n - (k + 1) := by omega
    unfold b7_l_is_square
    simp only [T] at gR c1 c2 c3 ⊢
    generalize R.map (fun ys => PyData.tuple (ys.map PyData.int)) = RD at *
    simp [gR, rwl, neD_ok, eqv_int]
    rw [c1]
    simp [gtD, ltD, gk, n3, h1, h2, h3, h4, h7]
    rw [c2]
    simp [gtD, h5, h6]
    rw [c3]
    simp [gtD])
  have h1 : (n : Int) < 4611686018427387904 := by omega
  have h2 : -4611686018427387904 ≤ (n : Int) := by omega
  have lz : ((R.map T).length : Int) = (n : Int) := by rw [List.length_map, rl]
  unfold f_l_is_square
  rw [run_eq]
  generalize R.map T = RD at *
  simp [lz, neD_ok, eqv_int, h1, h2]
  rw [q]
  simp [backArgs_eq, List.range_succ]
/-! ### products of the heads -/
/-! ### whole_sum -/
theorem su_range (n : Nat) (f : Nat → Int) : ((List.range n).map f).sum = su n f := by
  induction n with
  | zero => rfl
  | succ n ih => rw [List.range_succ, List.map_append, List.sum_append, ih]; simp [su]
/-- what is told so far: the multiples from a place on, and what is left -/
structure Ws (n : Nat) (R : List (List Int)) (line : List Int) (p : Nat) (left : List Int) (m : Nat → Int) : Prop where
  len : left.length = n
  zero : ∀ j, p ≤ j → fn left j = 0
  sum : ∀ j, fn line j = fn left j + su n fun k => if p ≤ k then m k * rw' R k j else 0
theorem Ws.start {n : Nat} (R : List (List Int)) {line : List Int} (hl : line.length = n) : Ws n R line n line (fun _ => 0) :=
  ⟨hl, fun j hj => fn_out (by omega), fun j => by rw [su_zero fun k hk => by rw [if_neg (by omega)]]; omega⟩
theorem Ws.back {n : Nat} {R : List (List Int)} {line : List Int} {p : Nat} {left : List Int} {m : Nat → Int} (h : Ws n R line p left m) (hv : Lt (below R n) (fn line)) : Lt (below R n) (fn left) := by
  have s : Lt (below R n) fun j => su n fun k => (if p ≤ k then m k else 0) * rw' R k j := su_lt (rw' R) _ fun k hk => .mem ⟨k, hk, rfl⟩
  refine (Lt.add hv (.smul (-1) s)).eq fun j => ?_
  have e : su n (fun k => (if p ≤ k then m k else 0) * rw' R k j) = su n fun k => if p ≤ k then m k * rw' R k j else 0 := su_congr fun k _ => by
    by_cases hk : p ≤ k <;> simp [hk]
  have := h.sum j
  rw [e]
  omega
theorem Ws.stuck {n : Nat} {R : List (List Int)} (hR : Tr n R) {line : List Int} {p : Nat} {left : List Int} {m : Nat → Int} (h : Ws n R line (p + 1) left m) (hp : p < n) (hz : fn left p % rw' R p p ≠ 0) : ¬ Lt (below R n) (fn line) := fun hv => by
  have := hR.lead hp (hR.low (q := p + 1) (by omega) (h.back hv) h.zero)
  exact hz (Int.emod_eq_zero_of_dvd this)
theorem Ws.step {n : Nat} {R : List (List Int)} (hR : Tr n R) {line : List Int} {p : Nat} {left row : List Int} {m : Nat → Int} (h : Ws n R line (p + 1) left m) (hp : p < n) (hr : R[p]? = some row) (hd : fn left p % rw' R p p = 0) : Ws n R line p (lessF left row (fn left p / fn row p)) (fun k => if k = p then fn left p / fn row p else m k) := by
  obtain ⟨row', hr', rl, er⟩ := hR.rowAt hp
  rw [hr] at hr'
  cases hr'
  have hl : left.length = row.length := by rw [h.len, rl]
  have pos := hR.pos p hp
  rw [er] at hd pos
  refine ⟨by rw [lessF_len _ _ _ hl, h.len], fun j hj => ?_, fun j => ?_⟩
  · rw [fn_less _ _ _ hl]
    by_cases e : j = p
    · subst e
      have := Int.ediv_mul_cancel (Int.dvd_of_emod_eq_zero hd)
      omega
    · rw [h.zero j (by omega), ← er, hR.off p j hp (by omega)]; simp
  · rw [fn_less _ _ _ hl, h.sum j]
    have e : su n (fun k => if p ≤ k then (if k = p then fn left p / fn row p else m k) * rw' R k j else 0) = su n (fun k => if p + 1 ≤ k then m k * rw' R k j else 0) + su n (fun k => (fn left p / fn row p * rw' R k j) * un p k) := by
      rw [← su_add]
      refine su_congr fun k hk => ?_
      by_cases e : k = p
      · subst e
        have h3 : ¬ k + 1 ≤ k := by omega
        simp [un_same, h3]
      · by_cases h1 : p ≤ k
        · have h2 : p + 1 ≤ k := by omega
          simp [h1, h2, e, un_ne e]
        · have h2 : ¬ p + 1 ≤ k := by omega
          simp [h1, h2, un_ne e]
    rw [e, su_single_mul n (fun k => fn left p / fn row p * rw' R k j) p hp, er]
    omega
theorem prodL_app (l : List Nat) (d : Nat) : prodL (l ++ [d]) = prodL l * d := by
  induction l with
  | nil => simp [prodL]
  | cons x l ih => show x * prodL (l ++ [d]) = x * prodL l * d; rw [ih, Nat.mul_assoc]
theorem heads_take {n : Nat} (R : List (List Int)) {i : Nat} (h : i < n) : (heads n R).take (i + 1) = (heads n R).take i ++ [(rw' R i i).toNat] := by
  have hl : i < (heads n R).length := by rw [heads_len]; exact h
  rw [← List.take_append_getElem hl]
  congr 2
  have := heads_at (R := R) h
  rwa [List.getElem?_eq_getElem hl, Option.getD_some] at this
theorem prodL_pos : ∀ {l : List Nat}, (∀ d ∈ l, 0 < d) → 0 < prodL l
  | [], _ => Nat.one_pos
  | d :: l, h => Nat.mul_pos (h d List.mem_cons_self) (prodL_pos fun x hx => h x (List.mem_cons_of_mem _ hx))
theorem prodL_bd {M : Nat} : ∀ {l : List Nat}, (∀ d ∈ l, d ≤ M) → prodL l ≤ M ^ l.length
  | [], _ => Nat.le_refl _
  | d :: l, h => by
    rw [List.length_cons, Nat.pow_succ, Nat.mul_comm]
    exact Nat.mul_le_mul (h d List.mem_cons_self) (prodL_bd fun x hx => h x (List.mem_cons_of_mem _ hx))
/-! ### the law's look whether a line is a whole sum -/
theorem in_loop {n : Nat} {rest : Int} (hn : n ≤ 100) (hr : 2 ≤ rest ∧ rest ≤ 1000000) {R : List (List Int)} (hR : Tr n R) (hle : ∀ i j, i < n → 0 ≤ rw' R i j ∧ rw' R i j ≤ rest) {line : List Int} (hv : Lt (below R n) (fn line)) (a1 : Sl) (b : Nat) (hb : b + 30 * n ≤ 800000) :
    ∀ (p : Nat) (left : List Int) (m : Nat → Int) (s3 s4 : Sl), p ≤ n → Ws n R line p left m → (∀ x ∈ left, Bd (b + 30 * (n - p)) x) →
    ∃ s2 s3' s4', loopF (.nm 3) b2_l_in_square (dnD ((p : Int) - 1) p) [.ol (R.map T), a1, .ol (I left), s3, s4, .no, .no] = .ok (.nx [.ol (R.map T), a1, s2, s3', s4', .no, .no])
  | 0, left, m, s3, s4, _, _, _ => ⟨.ol (I left), s3, s4, rfl⟩
  | p + 1, left, m, s3, s4, hp, h, hbd => by
    have e1 : (((p + 1 : Nat) : Int) - 1) = (p : Int) := by omega
    rw [dn_succ, e1]
    obtain ⟨row, hrow, rl, er⟩ := hR.rowAt (show p < n by omega)
    have gR : atI (R.map T) (p : Int) = some (T row) := at_row (n := n) hrow
    have gl := at_fn (xs := left) (p := p) (by rw [h.len]; omega)
    have gr := at_fn (xs := row) (p := p) (by omega)
    have pos := hR.pos p (by omega)
    have le := hle p p (by omega)
    have h1 : fn left p % rw' R p p = 0 := Classical.byContradiction fun hc => h.stuck hR (by omega) hc hv
    rw [er] at pos le
    obtain ⟨q, eq⟩ : ∃ q, q = fn left p / fn row p := ⟨_, rfl⟩
    have hs := h.step hR (by omega) hrow h1
    rw [← eq] at hs
    rw [er] at h1
    have bq : Bd (b + 30 * (n - (p + 1))) q := by rw [eq]; exact ediv_bd' (fn_bd hbd p) pos
    have rb : ∀ x ∈ row, Bd 20 x := all_of_fn fun j => by
      have := hle p j (by omega)
      rw [er] at this
      exact lr_bd this.1 this.2 hr.2
    have hl : left.length = row.length := by rw [h.len, rl]
    have bnew : ∀ x ∈ lessF left row q, Bd (b + 30 * (n - p)) x := all_of_fn fun j => by
      rw [fn_less _ _ _ hl]
      exact (fn_bd hbd j).sub (bq.mul (fn_bd rb j)) (by omega) (by omega)
    obtain ⟨s2, s3', s4', ih⟩ := in_loop hn hr hR hle hv a1 b hb p (lessF left row q) _ (.sh (.int p)) (.sh (.int q)) (by omega) hs bnew
    refine ⟨s2, s3', s4', ?_⟩
    rw [← ih]
    have dv : divOk (fn left p) (fn row p) = true := by
      have : Bd 20 (fn row p) := lr_bd (by omega) le.2 hr.2
      exact divOk_small (by unfold Bd at this; omega) (by omega)
    have dq : (fn left p).fdiv (fn row p) = q := by rw [Int.fdiv_eq_ediv_of_nonneg _ (by omega), eq]
    have cp := comp_pairs (tg := .tp [5, 6]) (fe := e1_l_in_square) (own := [5, 6]) (E := [.ol (R.map T), a1, .sh (.list (I left)), .sh (.int p), .sh (.int q), .no, .no])
      (fun x y => x - q * y) left row (by rw [h.len]; omega) (fun x hx y hy => by
        have m1 : mulOk q y = true := bq.mOk (rb y hy) (by omega)
        refine ⟨_, rfl, ?_, rfl⟩
        unfold e1_l_in_square
        simp [mulD_int m1])
    rw [show List.zipWith (fun x y => x - q * y) left row = lessF left row q from rfl] at cp
    simp only [I, T] at gR cp ⊢
    generalize R.map (fun ys => PyData.tuple (ys.map PyData.int)) = RD at *
    generalize fn left p = lp at *
    generalize fn row p = rp at *
    have st : b2_l_in_square [.ol RD, a1, .ol (left.map PyData.int), .sh (.int p), s4, .no, .no] = .ok (.nx [.ol RD, a1, .ol ((lessF left row q).map PyData.int), .sh (.int p), .sh (.int q), .no, .no]) := by
      unfold b2_l_in_square
      simp [gR, gl, gr, modD_int pos, h1, neD_ok, eqv_int, divD_int dv, dq]
      rw [cp]
      simp
    show loopF (.nm 3) b2_l_in_square (PyData.int p :: _) _ = _
    simp [loopF, st]
theorem in_square_ok {n : Nat} {rest : Int} (hn : n ≤ 100) (hr : 2 ≤ rest ∧ rest ≤ 1000000) {R : List (List Int)} (hR : Tr n R) (hle : ∀ i j, i < n → 0 ≤ rw' R i j ∧ rw' R i j ≤ rest) {line : List Int} (hl : line.length = n) (hv : Lt (below R n) (fn line)) {b : Nat} (hlb : ∀ x ∈ line, Bd b x) (hb : b + 30 * n ≤ 800000) :
    f_l_in_square [.ol (R.map T), .sh (T line)] = .ok (.sh (.bool true), [.ol (R.map T), .sh (T line)]) := by
  obtain ⟨s2, s3, s4, q⟩ := in_loop hn hr hR hle hv (.sh (T line)) b hb n line _ .no .no (Nat.le_refl n) (Ws.start R hl) (fun x hx => (hlb x hx).mono (by omega))
  have e1 : ((n : Int) - 1 + 1).toNat = n := by omega
  have h1 : (n : Int) - 1 < 4611686018427387904 := by omega
  have h2 : -4611686018427387904 ≤ (n : Int) - 1 := by omega
  have ln : ((line.map PyData.int).length : Int) = (n : Int) := by simp [hl]
  unfold f_l_in_square
  rw [run_eq]
  simp only [I, T] at q ⊢
  generalize R.map (fun ys => PyData.tuple (ys.map PyData.int)) = RD at *
  generalize line.map PyData.int = LD at *
  simp [ln, e1, h1, h2]
  rw [q]
  simp [backArgs_eq, List.range_succ]
/-! ### what comes by adding, walked -/
def kOf (m : List Int) : List Key := m.map fun x => (Sum.inl x : Key)
theorem kOf_inj : ∀ {a b : List Int}, kOf a = kOf b → a = b
  | [], [], _ => rfl
  | [], _ :: _, h => by cases h
  | _ :: _, [], h => by cases h
  | x :: a, y :: b, h => by
    have h' : (Sum.inl x : Key) :: kOf a = (Sum.inl y : Key) :: kOf b := h
    injection h' with h1 h2
    injection h1 with h1
    rw [h1, kOf_inj h2]
abbrev ent (m : List Int) : List Key × D := (kOf m, .bool true)
theorem getT_ent (v : List Int) : ∀ M : List (List Int), (FL.getT (M.map ent) (kOf v)).isSome = decide (v ∈ M)
  | [] => rfl
  | m :: M => by
    have ih := getT_ent v M
    by_cases e : m = v
    · subst e
      have : FL.getT ((m :: M).map ent) (kOf m) = some (.bool true) := by simp [FL.getT, List.find?_cons]
      rw [this]; simp
    · have e1 : FL.getT ((m :: M).map ent) (kOf v) = FL.getT (M.map ent) (kOf v) := by
        have ne : ¬ kOf m = kOf v := fun q => e (kOf_inj q)
        simp [FL.getT, List.find?_cons, ne]
      rw [e1, ih]
      have : (v ∈ m :: M) ↔ v ∈ M := ⟨fun h => (List.mem_cons.mp h).resolve_left fun q => e q.symm, List.mem_cons_of_mem _⟩
      simp only [this]
theorem setT_ent (v : List Int) (M : List (List Int)) (h : v ∉ M) : FL.setT (M.map ent) (kOf v) (.bool true) = (M ++ [v]).map ent := by
  have e : ((M.map ent).any fun kv => decide (kv.1 = kOf v)) = false := by
    rw [List.any_eq_false]
    intro kv hkv
    obtain ⟨m, hm, rfl⟩ := List.mem_map.mp hkv
    have : ¬ kOf m = kOf v := fun q => h (by rw [← kOf_inj q]; exact hm)
    simpa using this
  unfold FL.setT
  rw [e]
  simp
theorem sums_turn {n : Nat} (hn : n ≤ 100) {rest : Int} (hr : 2 ≤ rest ∧ rest ≤ 9) {lines : List (List Int)} (hl : ∀ l ∈ lines, l.length = n) {M W : List (List Int)} {one l : List Int} {ls : List (List Int)} (h : Mid n rest lines one (l :: ls) M W) (hin : l ∈ lines) (hM : M.length ≤ 100000) (hW : W.length ≤ 100000) (a0 a2 s7 : Sl) :
    ∃ M' W' t7, b2_l_sums [a0, .sh (.int rest), a2, .td (M.map ent), .ol (W.map T), .sh (T one), .sh (T l), s7, .no, .no] = .ok (.nx [a0, .sh (.int rest), a2, .td (M'.map ent), .ol (W'.map T), .sh (T one), .sh (T l), t7, .no, .no]) ∧ Mid n rest lines one ls M' W' ∧ W'.length + M.length = M'.length + W.length := by
  have ol := ((mem_box (by omega)).mp (h.box one h.here)).1
  have ll := hl l hin
  obtain ⟨o, ho⟩ : ∃ o, o = addM rest one l := ⟨_, rfl⟩
  have cp := comp_pairs (tg := .tp [8, 9]) (fe := e1_l_sums) (own := [8, 9]) (E := [a0, .sh (.int rest), a2, .td (M.map ent), .ol (W.map T), .no, .no, s7, .no, .no])
    (fun x y => (x + y) % rest) one l (by omega) (fun x hx y hy => by
      refine ⟨_, rfl, ?_, rfl⟩
      unfold e1_l_sums
      simp [modD_int (show 0 < rest by omega)])
  rw [show List.zipWith (fun x y => (x + y) % rest) one l = o from ho.symm] at cp
  have ko : keyL (o.map PyData.int) = some (kOf o) := keyL_ints o
  have g := getT_ent o M
  have lM : (M.map ent).length < 16777216 := by rw [List.length_map]; omega
  have lW : (W.map T).length < 16777216 := by rw [List.length_map]; omega
  by_cases hm : o ∈ M
  · have g' : (FL.getT (M.map ent) (kOf o)).isSome = true := by rw [g]; simpa using hm
    refine ⟨M, W, .sh (T o), ?_, h.old (by rw [← ho]; exact hm), Nat.add_comm _ _⟩
    unfold b2_l_sums
    simp only [T] at cp ⊢
    generalize M.map ent = MD at *
    generalize W.map (fun ys => PyData.tuple (ys.map PyData.int)) = WD at *
    simp
    rw [cp]
    simp [ko, g']
  · have g' : (FL.getT (M.map ent) (kOf o)).isSome = false := by rw [g]; simpa using hm
    have st := setT_ent o M hm
    refine ⟨M ++ [o], W ++ [o], .sh (T o), ?_, by rw [ho]; exact h.new (by omega) hl hin (by rw [← ho]; exact hm), by simp; omega⟩
    have ew : (W ++ [o]).map T = W.map T ++ [T o] := by simp
    rw [ew]
    unfold b2_l_sums
    simp only [T] at cp lW ⊢
    generalize M.map ent = MD at *
    generalize (M ++ [o]).map ent = MD2 at *
    generalize W.map (fun ys => PyData.tuple (ys.map PyData.int)) = WD at *
    simp
    rw [cp]
    simp [ko, g', lM, st, lW]
theorem sums_while {n : Nat} (hn : n ≤ 100) {rest : Int} (hr : 2 ≤ rest ∧ rest ≤ 9) {lines : List (List Int)} (hl : ∀ l ∈ lines, l.length = n) (hB : prodL (List.replicate n rest.toNat) ≤ 1000) (a0 : Sl) :
    ∀ (f k : Nat) (M W : List (List Int)) (s5 s6 s7 : Sl), Met n rest lines M W → W.length + k = M.length → 1000 < f + k → ∃ M' t5 t6 t7,
      whileF c3_l_sums b4_l_sums f [a0, .sh (.int rest), .sh (.list (lines.map T)), .td (M.map ent), .ol (W.map T), s5, s6, s7, .no, .no] = .ok (.nx [a0, .sh (.int rest), .sh (.list (lines.map T)), .td (M'.map ent), .ol [], t5, t6, t7, .no, .no]) ∧ Met n rest lines M' [] := by
  intro f
  induction f with
  | zero =>
    intro k M W s5 s6 s7 h hk hf
    have := h.le
    omega
  | succ f ih =>
    intro k M W s5 s6 s7 h hk hf
    have hle := h.le
    rcases List.eq_nil_or_concat W with hw | ⟨W0, one, hw⟩
    · subst hw
      refine ⟨M, s5, s6, s7, ?_, h⟩
      rw [while_succ]
      unfold c3_l_sums
      simp [gtD]
    · subst hw
      rw [List.concat_eq_append] at *
      have hp := h.pop
      -- each line is added
      obtain ⟨_, q, M1, W1, t6, t7, rfl, hm, hc⟩ := loop_inv (tg := .nm 6) (b := b2_l_sums) (fun i e => ∃ M1 W1 t6 t7, e = [a0, .sh (.int rest), .sh (.list (lines.map T)), .td (M1.map ent), .ol (W1.map T), .sh (T one), t6, t7, .no, .no] ∧ Mid n rest lines one (lines.drop i) M1 W1 ∧ W1.length + M.length = M1.length + W0.length) (lines.map T)
        (env := [a0, .sh (.int rest), .sh (.list (lines.map T)), .td (M.map ent), .ol (W0.map T), .sh (T one), s6, s7, .no, .no]) ⟨M, W0, s6, s7, rfl, by simpa using hp, by omega⟩ (by
          rintro i d _ hd ⟨M1, W1, t6, t7, rfl, hm, hc⟩
          have hi := (List.getElem?_eq_some_iff.mp hd).1
          rw [List.length_map] at hi
          rw [List.getElem?_map, List.getElem?_eq_getElem hi] at hd
          cases hd
          have ed : lines.drop i = lines[i] :: lines.drop (i + 1) := List.drop_eq_getElem_cons hi
          rw [ed] at hm
          have l1 : M1.length ≤ 1000 := by
            have : M1.length ≤ (boxL (List.replicate n rest.toNat)).length := card_inj (fun x => x) M1 _ hm.nd hm.box (fun _ _ _ _ e => e)
            rw [boxL_len] at this
            omega
          rw [List.length_append, List.length_singleton] at hk
          obtain ⟨M2, W2, u7, q, hm2, hc2⟩ := sums_turn hn hr hl hm (List.getElem_mem hi) (by omega) (by omega) a0 (.sh (.list (lines.map T))) t7
          exact ⟨_, _, rfl, .inl q, M2, W2, .sh (T lines[i]), u7, rfl, hm2, by omega⟩)
      rw [List.length_map, List.drop_length] at hm
      rw [List.length_append, List.length_singleton] at hk
      obtain ⟨M', u5, u6, u7, qi, hM⟩ := ih (k + 1) M1 W1 (.sh (T one)) t6 t7 hm.done' (by omega) (by omega)
      refine ⟨M', u5, u6, u7, ?_, hM⟩
      rw [← qi, while_succ]
      have ew : (W0 ++ [one]).map T = W0.map T ++ [T one] := by simp
      have lt : 0 < (W0.map T ++ [T one]).length := by simp
      have pp : ∀ e : Lo, mutV 4 popM [] e (some (.ol (W0.map T ++ [T one]))) = .ok (.sh (T one), e.set 4 (.ol (W0.map T))) := fun e => mutV_ol (by
        show ((W0.map T ++ [T one])[(W0.map T ++ [T one]).length - 1]?).map _ = _
        simp)
      rw [ew]
      have st : b4_l_sums [a0, .sh (.int rest), .sh (.list (lines.map T)), .td (M.map ent), .ol (W0.map T ++ [T one]), s5, s6, s7, .no, .no] = .ok (.nx [a0, .sh (.int rest), .sh (.list (lines.map T)), .td (M1.map ent), .ol (W1.map T), .sh (T one), t6, t7, .no, .no]) := by
        unfold b4_l_sums
        generalize W0.map T ++ [T one] = WW at *
        generalize W0.map T = WD at *
        generalize W1.map T = WD1 at *
        generalize M.map ent = MD at *
        generalize M1.map ent = MD1 at *
        generalize lines.map T = LD at *
        simp [pp]
        rw [q]
      generalize W0.map T ++ [T one] = WW at *
      generalize W0.map T = WD at *
      generalize W1.map T = WD1 at *
      generalize M.map ent = MD at *
      generalize M1.map ent = MD1 at *
      generalize lines.map T = LD at *
      generalize b4_l_sums = bb at *
      have c3 : c3_l_sums [a0, .sh (.int rest), .sh (.list LD), .td MD, .ol WW, s5, s6, s7, .no, .no] = .ok (true, [a0, .sh (.int rest), .sh (.list LD), .td MD, .ol WW, s5, s6, s7, .no, .no]) := by
        unfold c3_l_sums
        simp [gtD, lt]
      generalize c3_l_sums = cc at *
      simp [c3, st]
theorem sums_ok {n : Nat} {rest : Int} {lines R : List (List Int)} (C : Case2 n rest lines) (g : Ground n rest lines R) : ∃ N : Nat, N ≤ 1000 ∧ N * prodL (heads n R) = prodL (List.replicate n rest.toNat) ∧
    f_l_sums [.sh (.int n), .sh (.int rest), .sh (.list (lines.map T))] = .ok (.sh (.int N), [.sh (.int n), .sh (.int rest), .sh (.list (lines.map T))]) := by
  have n1 := C.n1
  have nr := C.nr
  have hB : prodL (List.replicate n rest.toNat) ≤ 1000 := by
    rcases nr with h | h
    · have := prodL_bd (M := 9) (l := List.replicate n rest.toNat) fun d hd => by rw [List.eq_of_mem_replicate hd]; omega
      rw [List.length_replicate] at this
      have := Nat.pow_le_pow_right (n := 9) (by decide) h.1
      omega
    · have := prodL_bd (M := 3) (l := List.replicate n rest.toNat) fun d hd => by rw [List.eq_of_mem_replicate hd]; omega
      rw [List.length_replicate] at this
      have := Nat.pow_le_pow_right (n := 3) (by decide) h.1
      omega
  have hr9 : 2 ≤ rest ∧ rest ≤ 9 := by omega
  obtain ⟨M, t5, t6, t7, q, hM⟩ := sums_while (n := n) (by omega) hr9 C.len hB (.sh (.int n)) 4000000 0 [List.replicate n 0] [List.replicate n 0] .no .no .no (Met.start (by omega) lines) rfl (by omega)
  refine ⟨M.length, Nat.le_trans hM.le hB, hM.count (by omega) C.len g, ?_⟩
  have er : (List.replicate n 0).map PyData.int = List.replicate n (PyData.int 0) := by simp
  have mr : mulD (.list [PyData.int 0]) (.int n) = some (.ol (List.replicate n (PyData.int 0))) := by
    rw [mulD_rep ⟨by omega, by omega, by simp; omega⟩, Int.toNat_natCast, List.flatten_replicate_singleton]
  have ko : keyL (List.replicate n (PyData.int 0)) = some (kOf (List.replicate n 0)) := by rw [← er]; exact keyL_ints _
  have lm : (M.map ent).length = M.length := List.length_map ..
  have e1 : [List.replicate n (0 : Int)].map ent = [(kOf (List.replicate n 0), .bool true)] := rfl
  have e2 : [List.replicate n (0 : Int)].map T = [.tuple (List.replicate n (PyData.int 0))] := by rw [← er]; rfl
  rw [e1, e2] at q
  unfold f_l_sums
  rw [run_eq]
  generalize lines.map T = LD at *
  generalize kOf (List.replicate n 0) = kz at *
  generalize List.replicate n (PyData.int 0) = zs at *
  simp [mr, ko]
  rw [q]
  simp [backArgs_eq, List.range_succ]
theorem rests_sqr {n : Nat} {r : Int} (hr : 0 < r) : Sqr n (rests n r) := by
  refine ⟨(Gn.start hr).gr.tr, fun k j hk hj => ?_⟩
  rw [rw_rests hk, rw_rests (by omega), fn_restRow hk, fn_restRow (by omega), un_ne (by omega), un_same]
  omega
theorem unitsT_comp {n : Nat} (hn : n ≤ 100) {rest : Int} (hr : 2 ≤ rest ∧ rest ≤ 1000000) (a0 a3 a4 a5 a6 a7 a8 a9 a10 a11 : Sl) : compF (.nm 12) fYes e4_law [12] (rngD 0 n) [] [a0, .sh (.int n), .sh (.int rest), a3, a4, a5, a6, a7, a8, a9, a10, a11, .no] = .ok ((rests n rest).map T, [a0, .sh (.int n), .sh (.int rest), a3, a4, a5, a6, a7, a8, a9, a10, a11, .no]) := by
  have hc := comp_map (tg := .nm 12) (ft := fYes) (fe := e4_law) (own := [12]) (E := [a0, .sh (.int n), .sh (.int rest), a3, a4, a5, a6, a7, a8, a9, a10, a11, .no]) (fun d => match d with | .int j => T (restRow n rest j.toNat) | d => d) (rngD 0 n) [] (by rw [rng_len]; simp; omega) (fun d hd => by
    obtain ⟨j, hj0⟩ := List.getElem?_of_mem hd
    obtain ⟨hj, rfl⟩ := rng_get hj0
    have hi := comp_map (tg := .nm 9) (ft := fYes) (fe := e3_law) (own := [9]) (E := [a0, .sh (.int n), .sh (.int rest), a3, a4, a5, a6, a7, a8, .no, a10, a11, .sh (.int j)]) (fun d => match d with | .int k => .int (rest * un j k.toNat) | d => d) (rngD 0 n) [] (by rw [rng_len]; simp; omega) (fun d hd => by
      obtain ⟨k, hk0⟩ := List.getElem?_of_mem hd
      obtain ⟨hk, rfl⟩ := rng_get hk0
      refine ⟨_, .sh (.int (rest * un j k)), [a0, .sh (.int n), .sh (.int rest), a3, a4, a5, a6, a7, a8, .sh (.int k), a10, a11, .sh (.int j)], rfl, rfl, ?_, _, rfl, rfl⟩
      unfold e3_law
      by_cases e : k = j
      · subst e
        have m1 : mulOk rest 1 = true := mulOk_left (by omega) (by omega)
        simp [eqD_ok, eqv_int, mulD_int m1, un_same]
      · have e2 : ((k : Int) == (j : Int)) = false := by simpa using (by omega : ¬ (k : Int) = j)
        have m1 : mulOk rest 0 = true := mulOk_left (by omega) (by omega)
        simp [eqD_ok, eqv_int, e2, mulD_int m1, un_ne e])
    have ei : (rngD 0 n).map (fun d => match d with | .int k => PyData.int (rest * un j k.toNat) | d => d) = (restRow n rest j).map PyData.int := by
      unfold rngD restRow
      rw [List.map_map, List.map_map]
      apply List.map_congr_left
      intro k _
      show PyData.int (rest * un j (0 + (k : Int)).toNat) = PyData.int (rest * un j k)
      rw [show (0 + (k : Int)).toNat = k by omega]
    rw [ei, List.nil_append] at hi
    refine ⟨_, .sh (T (restRow n rest j)), [a0, .sh (.int n), .sh (.int rest), a3, a4, a5, a6, a7, a8, a9, a10, a11, .sh (.int j)], rfl, rfl, ?_, _, rfl, rfl⟩
    unfold e4_law
    have h1 : (n : Int) < 4611686018427387904 := by omega
    have h2 : -4611686018427387904 ≤ (n : Int) := by omega
    simp [h1, h2]
    rw [hi]
    simp)
  rw [hc, List.nil_append]
  congr 2
  unfold rngD rests
  rw [List.map_map, List.map_map]
  apply List.map_congr_left
  intro j _
  show T (restRow n rest (0 + (j : Int)).toNat) = T (restRow n rest j)
  congr 3
  omega
theorem in_all {n : Nat} {rest : Int} (hn : n ≤ 7) (hr : 2 ≤ rest ∧ rest ≤ 1000000) {R : List (List Int)} (hR : Tr n R) (hle : ∀ i j, i < n → 0 ≤ rw' R i j ∧ rw' R i j ≤ rest) (all : List (List Int)) (h : ∀ l ∈ all, l.length = n ∧ (∀ x ∈ l, Bd 400 x) ∧ Lt (below R n) (fn l)) (a0 a1 a2 a3 a4 a6 a7 a8 a9 a11 a12 : Sl) :
    ∃ s10, loopF (.nm 10) b1_law (all.map T) [a0, a1, a2, a3, a4, .ol (R.map T), a6, a7, a8, a9, .no, a11, a12] = .ok (.nx [a0, a1, a2, a3, a4, .ol (R.map T), a6, a7, a8, a9, s10, a11, a12]) := by
  obtain ⟨_, q, s10, rfl⟩ := loop_inv (tg := .nm 10) (b := b1_law) (fun _ e => ∃ s10, e = [a0, a1, a2, a3, a4, .ol (R.map T), a6, a7, a8, a9, s10, a11, a12]) (all.map T) (env := [a0, a1, a2, a3, a4, .ol (R.map T), a6, a7, a8, a9, .no, a11, a12]) ⟨.no, rfl⟩ (by
    rintro i d _ hd ⟨s10, rfl⟩
    obtain ⟨l, hm, rfl⟩ := List.mem_map.mp (List.mem_of_getElem? hd)
    obtain ⟨l1, l2, l3⟩ := h l hm
    have io := in_square_ok (by omega) hr hR hle l1 l3 l2 (by omega)
    refine ⟨_, [a0, a1, a2, a3, a4, .ol (R.map T), a6, a7, a8, a9, .sh (T l), a11, a12], rfl, .inl ?_, _, rfl⟩
    unfold b1_law
    simp only [T] at io ⊢
    generalize R.map (fun ys => PyData.tuple (ys.map PyData.int)) = RD at *
    simp [io])
  exact ⟨s10, q⟩
theorem both_loop {n : Nat} (hn : n ≤ 7) {rest : Int} (hr : 2 ≤ rest ∧ rest ≤ 1000000) {R : List (List Int)} (hR : Tr n R) (hle : ∀ i j, i < n → 0 ≤ rw' R i j ∧ rw' R i j ≤ rest) (a0 a1 a3 a4 a6 a10 a11 a12 : Sl) :
    ∃ s9, loopF (.nm 9) b2_law (rngD 0 n) [a0, a1, .sh (.int rest), a3, a4, .ol (R.map T), a6, .sh (.int 1), .sh (.int 1), .no, a10, a11, a12] = .ok (.nx [a0, a1, .sh (.int rest), a3, a4, .ol (R.map T), a6, .sh (.int (prodL (heads n R) : Nat)), .sh (.int (prodL (List.replicate n rest.toNat) : Nat)), s9, a10, a11, a12]) := by
  have bd : ∀ i, i ≤ n → Bd (20 * i + 1) ((prodL ((heads n R).take i) : Nat) : Int) := fun i hi => by
    have := prodL_bd (M := 2 ^ 20) (l := (heads n R).take i) fun d hd => by
      have hd := List.mem_of_mem_take hd
      unfold heads at hd
      obtain ⟨k, hk, rfl⟩ := List.mem_map.mp hd
      have := hle k k (List.mem_range.mp hk)
      omega
    rw [List.length_take, heads_len, Nat.min_eq_left hi, ← Nat.pow_mul] at this
    unfold Bd
    rw [Nat.pow_succ]
    have p := Nat.two_pow_pos (20 * i)
    omega
  have bw : ∀ i, Bd (20 * i + 1) ((prodL (List.replicate i rest.toNat) : Nat) : Int) := fun i => by
    have := prodL_bd (M := 2 ^ 20) (l := List.replicate i rest.toNat) fun d hd => by
      rw [List.eq_of_mem_replicate hd]; omega
    rw [List.length_replicate, ← Nat.pow_mul] at this
    unfold Bd
    rw [Nat.pow_succ]
    have p := Nat.two_pow_pos (20 * i)
    omega
  obtain ⟨_, q, s9, rfl⟩ := loop_inv (tg := .nm 9) (b := b2_law) (fun i e => ∃ s9, e = [a0, a1, .sh (.int rest), a3, a4, .ol (R.map T), a6, .sh (.int (prodL ((heads n R).take i) : Nat)), .sh (.int (prodL (List.replicate i rest.toNat) : Nat)), s9, a10, a11, a12]) (rngD 0 n) (env := [a0, a1, .sh (.int rest), a3, a4, .ol (R.map T), a6, .sh (.int 1), .sh (.int 1), .no, a10, a11, a12]) ⟨.no, rfl⟩ (by
    rintro k d _ hd ⟨s9, rfl⟩
    obtain ⟨hk, rfl⟩ := rng_get hd
    obtain ⟨row, hrow, rwl, er⟩ := hR.rowAt hk
    have gR : atI (R.map T) (k : Int) = some (T row) := at_row (n := n) hrow
    have gk := at_fn (xs := row) (p := k) (by omega)
    have le := hle k k hk
    rw [er] at le
    have e1 : ((prodL ((heads n R).take (k + 1)) : Nat) : Int) = ((prodL ((heads n R).take k) : Nat) : Int) * fn row k := by
      rw [heads_take R hk, prodL_app, Int.natCast_mul, er]
      congr 1
      omega
    have e2 : ((prodL (List.replicate (k + 1) rest.toNat) : Nat) : Int) = ((prodL (List.replicate k rest.toNat) : Nat) : Int) * rest := by
      rw [List.replicate_succ', prodL_app, Int.natCast_mul]
      congr 1
      omega
    rw [e1, e2]
    have m1 : mulOk ((prodL ((heads n R).take k) : Nat) : Int) (fn row k) = true := (bd k (by omega)).mOk (lr_bd le.1 le.2 hr.2) (by omega)
    have m2 : mulOk ((prodL (List.replicate k rest.toNat) : Nat) : Int) rest = true := (bw k).mOk (Bd.range (k := 20) (m := 1000000) (by omega) (by omega)) (by omega)
    refine ⟨_, [a0, a1, .sh (.int rest), a3, a4, .ol (R.map T), a6, .sh (.int (((prodL ((heads n R).take k) : Nat) : Int) * fn row k)), .sh (.int (((prodL (List.replicate k rest.toNat) : Nat) : Int) * rest)), .sh (.int k), a10, a11, a12], rfl, .inl ?_, _, rfl⟩
    generalize ((prodL ((heads n R).take k) : Nat) : Int) = P at *
    generalize ((prodL (List.replicate k rest.toNat) : Nat) : Int) = P2 at *
    unfold b2_law
    simp only [T] at gR ⊢
    generalize R.map (fun ys => PyData.tuple (ys.map PyData.int)) = RD at *
    simp [gR, gk, mulD_int m1, mulD_int m2])
  rw [rng_len, List.take_of_length_le (by rw [heads_len]; exact Nat.le_refl _)] at q
  exact ⟨s9, q⟩
theorem law_true (ns : List Int) (_ : ns.length ≤ 63) : ∃ as, f_law [.sc ns] = .ok (.sh (.bool true), as) := by
  obtain ⟨n, rest, lines, hl, C⟩ := case2_ok ns
  have n1 := C.n1
  have nr := C.nr
  have n7 : n ≤ 7 := by omega
  have r2 : 2 ≤ rest ∧ rest ≤ 1000000 := by omega
  have restp : 0 < rest := by omega
  have lle := C.le
  obtain ⟨R, g1, gR, leR⟩ := ground_ok (n := n) (rest := rest) (by omega) r2 lines C.len (s := .ol (lines.map T)) .ol
  obtain ⟨R2, g2, gR2, _⟩ := ground_ok (n := n) (rest := rest) (by omega) r2 lines.reverse (fun l h => C.len l (List.mem_reverse.mp h)) (s := .ol (lines.reverse.map T)) .ol
  obtain ⟨R3, g3, gR3, _⟩ := ground_ok (n := n) (rest := rest) (by omega) r2 [] (by simp) (s := .ol (([] : List (List Int)).map T)) .ol
  have e2 : R2 = R := gR2.one gR (fun l h => .mem (.inl ⟨l, List.mem_reverse.mp h, rfl⟩)) fun l h => .mem (.inl ⟨l, List.mem_reverse.mpr h, rfl⟩)
  have e3 : R3 = rests n rest := gR3.one (⟨rests_sqr restp, (Gn.start restp).iff⟩ : Ground n rest [] (rests n rest)) (by simp) (by simp)
  rw [e2] at g2
  rw [e3] at g3
  have rstR : ∀ j, j < n → Lt (below R n) fun i => rest * un j i := fun j hj => (gR.iff _).mpr (.mem (.inr ⟨j, hj, rfl⟩))
  have eyeR := square_eye gR.sq (by omega)
  have tR := gR.sq.tr
  have uc := unitsT_comp (n := n) (by omega) r2 (.sc ns) (.sh (.list (lines.map T))) (.ol (lines.map T)) (.ol (R.map T)) .no .no .no .no .no .no
  obtain ⟨s9, q1⟩ := both_loop n7 r2 tR leR (.sc ns) (.sh (.int n)) (.sh (.list (lines.map T))) (.ol (lines.map T)) (.ol ((rests n rest).map T)) .no .no .no
  obtain ⟨s10, q2⟩ := in_all n7 r2 tR leR (lines ++ rests n rest) (fun l h => by
    rcases List.mem_append.mp h with h | h
    · exact ⟨C.len l h, fun x hx => (C.bd l h x hx).mono (by omega), (gR.iff _).mpr (.mem (.inl ⟨l, h, rfl⟩))⟩
    · obtain ⟨j, hj, rfl⟩ := List.mem_map.mp h
      have hj := List.mem_range.mp hj
      refine ⟨restRow_len n rest j, fun x hx => ?_, (rstR j hj).eq fun i => fn_restRow hj i⟩
      obtain ⟨k, _, rfl⟩ := List.mem_map.mp hx
      have b : Bd 20 rest := Bd.range (m := 1000000) (by omega) (by omega)
      by_cases e : k = j
      · rw [e, un_same, Int.mul_one]; exact b.mono (by omega)
      · rw [un_ne e, Int.mul_zero]; exact Bd.zero) (.sc ns) (.sh (.int n)) (.sh (.int rest)) (.sh (.list (lines.map T))) (.ol (lines.map T)) (.ol ((rests n rest).map T)) (.sh (.int (prodL (heads n R) : Nat))) (.sh (.int (prodL (List.replicate n rest.toNat) : Nat))) s9 .no .no
  obtain ⟨N, hN, hc, sq⟩ := sums_ok C gR
  have bH : Bd 141 ((prodL (heads n R) : Nat) : Int) := by
    have := prodL_bd (M := 2 ^ 20) (l := heads n R) fun d hd => by
      unfold heads at hd
      obtain ⟨k, hk, rfl⟩ := List.mem_map.mp hd
      have := leR k k (List.mem_range.mp hk)
      omega
    rw [heads_len, ← Nat.pow_mul] at this
    have p := Nat.pow_le_pow_right (n := 2) (by decide) (show 20 * n ≤ 140 by omega)
    unfold Bd
    have p2 : 2 ^ 140 < 2 ^ 141 := by decide
    show prodL (heads n R) < 2 ^ 141
    omega
  have m1 : mulOk (N : Int) ((prodL (heads n R) : Nat) : Int) = true := (Bd.range (k := 20) (m := 1000) (by omega) (by omega)).mOk bH (by omega)
  have pe : (N : Int) * ((prodL (heads n R) : Nat) : Int) = ((prodL (List.replicate n rest.toNat) : Nat) : Int) := by rw [← Int.natCast_mul, hc]
  have h1 : (n : Int) < 4611686018427387904 := by omega
  have h2 : -4611686018427387904 ≤ (n : Int) := by omega
  have ad : addD (.list (lines.map T)) (.list ((rests n rest).map T)) = some (.ol ((lines ++ rests n rest).map T)) := by
    rw [addD_list, if_pos (by simp [rests]; omega), List.map_append]
  have yL : shapedD (.list (lines.map T)) = true := (lay_lines lines fun a => a).shaped
  have zL : PyData.eqv (.list (lines.map T)) (.list (lines.map T)) = true := (lay_lines lines fun a => a).refl
  have yR : shapedD (.list (R.map T)) = true := (lay_lines R fun a => a).shaped
  have zR : PyData.eqv (.list (R.map T)) (.list (R.map T)) = true := (lay_lines R fun a => a).refl
  have yU : shapedD (.list ((rests n rest).map T)) = true := (lay_lines (rests n rest) fun a => a).shaped
  have zU : PyData.eqv (.list ((rests n rest).map T)) (.list ((rests n rest).map T)) = true := (lay_lines (rests n rest) fun a => a).refl
  have er : lines.reverse.map T = (lines.map T).reverse := by rw [List.map_reverse]
  rw [er] at g2
  rw [List.map_nil] at g3
  refine ⟨[.sc ns], ?_⟩
  unfold f_law
  rw [run_eq]
  generalize (lines ++ rests n rest).map T = AD at *
  generalize (rests n rest).map T = UD at *
  generalize lines.map T = LD at *
  generalize R.map T = RD at *
  generalize ((prodL (heads n R) : Nat) : Int) = P1 at *
  generalize ((prodL (List.replicate n rest.toNat) : Nat) : Int) = P2 at *
  simp [hl, g1, eyeR, neD_ok, yL, zL, h1, h2]
  rw [uc]
  simp [h1, h2]
  rw [q1]
  simp [ad]
  rw [q2]
  simp [sq, mulD_int m1, pe, neD_ok, eqv_int, g2, g3, eqD_ok, yR, zR, yU, zU, backArgs_eq, List.range_succ]

def topS (i : Nat) : Stmt := PySem.Challenge.pw_evennotes_k07_whole_small_grounds.main.body.getD i (.Pass ⟨0, 0, 0, 0⟩)
structure Zs (mg : Str → Option Value) : Prop where
  tuple : mg "tuple" = none
  zip : mg "zip" = none
  range : mg "range" = none
  len : mg "len" = none
  int : mg "int" = none
  isinstance : mg "isinstance" = none
  bool : mg "bool" = none
  list : mg "list" = none
  reversed : mg "reversed" = none
abbrev s_bezout : Stmt := topS 1
abbrev N_bezout : List Str := ["one", "other", "rows", "many", "left", "a", "b", "number"]
theorem sc_bezout : FnScope ["one", "other", "rows", "many", "left", "a", "b", "number"] ["one", "other"] (defScope s_bezout) := ⟨rfl, rfl, rfl, by decide +kernel, rfl, by decide +kernel, by decide +kernel⟩
abbrev s_blend : Stmt := topS 2
abbrev N_blend : List Str := ["one", "many", "other", "much", "a", "b"]
theorem sc_blend : FnScope ["one", "many", "other", "much", "a", "b"] ["one", "many", "other", "much"] (defScope s_blend) := ⟨rfl, rfl, rfl, by decide +kernel, rfl, by decide +kernel, by decide +kernel⟩
abbrev s_put_in_square : Stmt := topS 3
abbrev N_put_in_square : List Str := ["rows", "line", "rest", "left", "place", "row", "common", "many", "much", "other", "number"]
theorem sc_put_in_square : FnScope ["rows", "line", "rest", "left", "place", "row", "common", "many", "much", "other", "number"] ["rows", "line", "rest"] (defScope s_put_in_square) := ⟨rfl, rfl, rfl, by decide +kernel, rfl, by decide +kernel, by decide +kernel⟩
abbrev s_reduced : Stmt := topS 4
abbrev N_reduced : List Str := ["rows", "found", "place", "row", "lower"]
theorem sc_reduced : FnScope ["rows", "found", "place", "row", "lower"] ["rows"] (defScope s_reduced) := ⟨rfl, rfl, rfl, by decide +kernel, rfl, by decide +kernel, by decide +kernel⟩
abbrev s_ground : Stmt := topS 5
abbrev N_ground : List Str := ["long", "lines", "rest", "rows", "line", "at", "place"]
theorem sc_ground : FnScope ["long", "lines", "rest", "rows", "line", "at", "place"] ["long", "lines", "rest"] (defScope s_ground) := ⟨rfl, rfl, rfl, by decide +kernel, rfl, by decide +kernel, by decide +kernel⟩
abbrev s_l_cell_at : Stmt := topS 7
abbrev N_l_cell_at : List Str := ["_law_script", "_law_k"]
theorem sc_l_cell_at : FnScope ["_law_script", "_law_k"] ["_law_script", "_law_k"] (defScope s_l_cell_at) := ⟨rfl, rfl, rfl, by decide +kernel, rfl, by decide +kernel, by decide +kernel⟩
abbrev s_l_stream : Stmt := topS 8
abbrev N_l_stream : List Str := ["_law_cell", "_law_salt", "_law_many", "_law_number", "_law_found", "_law_k"]
theorem sc_l_stream : FnScope ["_law_cell", "_law_salt", "_law_many", "_law_number", "_law_found", "_law_k"] ["_law_cell", "_law_salt", "_law_many"] (defScope s_l_stream) := ⟨rfl, rfl, rfl, by decide +kernel, rfl, by decide +kernel, by decide +kernel⟩
abbrev s_l_is_square : Stmt := topS 9
abbrev N_l_is_square : List Str := ["_law_found", "_law_long", "_law_k", "_law_line", "_law_x", "_law_place"]
theorem sc_l_is_square : FnScope ["_law_found", "_law_long", "_law_k", "_law_line", "_law_x", "_law_place"] ["_law_found", "_law_long"] (defScope s_l_is_square) := ⟨rfl, rfl, rfl, by decide +kernel, rfl, by decide +kernel, by decide +kernel⟩
abbrev s_l_in_square : Stmt := topS 10
abbrev N_l_in_square : List Str := ["_law_square", "_law_line", "_law_left", "_law_place", "_law_many", "_law_x", "_law_y"]
theorem sc_l_in_square : FnScope ["_law_square", "_law_line", "_law_left", "_law_place", "_law_many", "_law_x", "_law_y"] ["_law_square", "_law_line"] (defScope s_l_in_square) := ⟨rfl, rfl, rfl, by decide +kernel, rfl, by decide +kernel, by decide +kernel⟩
abbrev s_l_case : Stmt := topS 11
abbrev N_l_case : List Str := ["_law_script", "_law_first", "_law_long", "_law_rest", "_law_lines", "_law_k", "_law_xs", "_law_line", "_law_x"]
theorem sc_l_case : FnScope ["_law_script", "_law_first", "_law_long", "_law_rest", "_law_lines", "_law_k", "_law_xs", "_law_line", "_law_x"] ["_law_script"] (defScope s_l_case) := ⟨rfl, rfl, rfl, by decide +kernel, rfl, by decide +kernel, by decide +kernel⟩
abbrev s_l_sums : Stmt := topS 12
abbrev N_l_sums : List Str := ["_law_long", "_law_rest", "_law_lines", "_law_met", "_law_waiting", "_law_one", "_law_line", "_law_other", "_law_x", "_law_y"]
theorem sc_l_sums : FnScope ["_law_long", "_law_rest", "_law_lines", "_law_met", "_law_waiting", "_law_one", "_law_line", "_law_other", "_law_x", "_law_y"] ["_law_long", "_law_rest", "_law_lines"] (defScope s_l_sums) := ⟨rfl, rfl, rfl, by decide +kernel, rfl, by decide +kernel, by decide +kernel⟩
abbrev s_law : Stmt := topS 13
abbrev N_law : List Str := ["_law_script", "_law_long", "_law_rest", "_law_lines", "_law_handed", "_law_found", "_law_units", "_law_heads", "_law_whole", "_law_k", "_law_line", "_law_kept", "_law_place"]
theorem sc_law : FnScope ["_law_script", "_law_long", "_law_rest", "_law_lines", "_law_handed", "_law_found", "_law_units", "_law_heads", "_law_whole", "_law_k", "_law_line", "_law_kept", "_law_place"] ["_law_script"] (defScope s_law) := ⟨rfl, rfl, rfl, by decide +kernel, rfl, by decide +kernel, by decide +kernel⟩
section
variable {P : Program} {w : World} {K : PySem.W.Frag} {mg : Str → Option Value} {base : Heap}
theorem ok_bezout {f : Addr} {fd : FuncData} (F : Fun K "bezout" "bezout" s_bezout f fd) (Z : Zs mg)  : FnOk P w K mg base CX0 1 f fd ["one", "other"] (spF K mg 2 f_bezout) :=
  have nd := sc_bezout.nd
  fn_ok F sc_bezout (by decide) fun cdv A outer s H E hr =>
    (ss_cons (ss_set (i := 2) nd rfl (.inl rfl) (se_lst (sa_cons (se_tup (sa_cons (se_v 0) (sa_cons se_int (sa_cons se_int sa_nil)))) (sa_cons (se_tup (sa_cons (se_v 1) (sa_cons se_int (sa_cons se_int sa_nil)))) sa_nil))))
    (ss_cons (ss_while (fun _ => 4000000) PassesOwn.never (st_cmp (op_neD hr.units) so_ne (se_ix (se_ix (se_v 2) se_int) se_int) se_int (nomark _))
    (ss_cons (ss_set (i := 3) nd rfl (.inr rfl) (se_div (se_ix (se_ix (se_v 2) se_int) se_int) (se_ix (se_ix (se_v 2) se_int) se_int)))
    (ss_cons (ss_set (i := 4) nd rfl (.inl rfl) (se_ttuple Z.tuple (sa_cons (se_lc (own := [("a", 5), ("b", 6)]) rfl nd (si_zip (by rfl) Z.zip (sa_cons (se_ix (se_v 2) se_int) (sa_cons (se_ix (se_v 2) se_int) sa_nil))) (by exact blkOk_by (N := N_bezout) (sc := defScope s_bezout) (own := [("a", 5), ("b", 6)]) (by decide +kernel)) (semg_tp (is := [5, 6])) (by decide) (fun _ _ _ _ _ => (pg_tup rfl (pgs_cons (pg_name (i := 5) nd rfl (by first | exact .inl rfl | exact .inr rfl)) (pgs_cons (pg_name (i := 6) nd rfl (by first | exact .inl rfl | exact .inr rfl)) pgs_nil)))) (fun _ _ _ _ _ => sts_nil) (fun _ _ _ _ _ => (se_sub (se_v 5) (se_mul (se_v 3) (se_v 6))))) sa_nil)))
    (ss_one (ss_set (i := 2) nd rfl (.inl rfl) (se_lst (sa_cons (se_ix (se_v 2) se_int) (sa_cons (se_v 4) sa_nil))))))))
    (ss_cons (ss_if (st_cmp op_lt so_cmp (se_ix (se_ix (se_v 2) se_int) se_int) se_int (nomark _))
    (ss_one (ss_ret (se_ttuple Z.tuple (sa_cons (se_lc (own := [("number", 7)]) rfl nd (si_val (se_ix (se_v 2) se_int)) (by exact blkOk_by (N := N_bezout) (sc := defScope s_bezout) (own := [("number", 7)]) (by decide +kernel)) semg_nm (by decide) (fun _ _ _ _ _ => (pg_name (i := 7) nd rfl (by first | exact .inl rfl | exact .inr rfl))) (fun _ _ _ _ _ => sts_nil) (fun _ _ _ _ _ => (se_neg (se_v 7)))) sa_nil))))
    ss_nil)
    (ss_one (ss_ret (se_ix (se_v 2) se_int))))))
theorem ok_blend {f : Addr} {fd : FuncData} (F : Fun K "blend" "blend" s_blend f fd) (Z : Zs mg)  : FnOk P w K mg base CX0 1 f fd ["one", "many", "other", "much"] (spF K mg 4 f_blend) :=
  have nd := sc_blend.nd
  fn_ok F sc_blend (by decide) fun cdv A outer s H E hr =>
    (ss_one (ss_ret (se_lcZ (own := [("a", 4), ("b", 5)]) rfl nd (by rfl) Z.zip (i := 0) (j := 2) rfl (by first | exact Or.inl rfl | exact Or.inr (Or.inl rfl) | exact Or.inr (Or.inr rfl)) rfl (by first | exact Or.inl rfl | exact Or.inr (Or.inl rfl) | exact Or.inr (Or.inr rfl)) (by exact blkOk_by (N := N_blend) (sc := defScope s_blend) (own := [("a", 4), ("b", 5)]) (by decide +kernel)) (semg_tp (is := [4, 5])) (by decide) (fun _ _ _ _ _ => (pg_tup rfl (pgs_cons (pg_name (i := 4) nd rfl (by first | exact .inl rfl | exact .inr rfl)) (pgs_cons (pg_name (i := 5) nd rfl (by first | exact .inl rfl | exact .inr rfl)) pgs_nil)))) (fun _ _ _ _ _ => sts_nil) (fun _ _ _ _ _ => (se_add (se_mul (se_v 1) (se_v 4)) (se_mul (se_v 3) (se_v 5)))))))
theorem ok_put_in_square {f : Addr} {fd : FuncData} (F : Fun K "put_in_square" "put_in_square" s_put_in_square f fd) (Z : Zs mg) (C_blend : FnF P w K mg base "blend" 4 1 f_blend) (C_bezout : FnF P w K mg base "bezout" 2 1 f_bezout) : FnOk P w K mg base CX0 2 f fd ["rows", "line", "rest"] (spF K mg 3 f_put_in_square) :=
  have nd := sc_put_in_square.nd
  fn_ok F sc_put_in_square (by decide) fun cdv A outer s H E hr =>
    (ss_cons (ss_setLcB (own := [("number", 10)]) (i := 3) rfl nd rfl rfl (sw_true rfl rfl rfl (by decide +kernel)) (j := 1) rfl (by first | exact Or.inl rfl | exact Or.inr (Or.inl rfl) | exact Or.inr (Or.inr rfl)) (by exact blkOk_by (N := N_put_in_square) (sc := defScope s_put_in_square) (own := [("number", 10)]) (by decide +kernel)) semg_nm (by decide) (fun _ _ _ _ _ => (pg_name (i := 10) nd rfl (by first | exact .inl rfl | exact .inr rfl))) (fun _ _ _ _ _ => sts_nil) (fun _ _ _ _ _ => (se_mod (se_v 10) (se_v 2))))
    (ss_one (ss_for PassesOwn.never rfl (si_rng3 (by rfl) Z.range (sa_cons (se_sub (se_len Z.len (sa_cons (se_v 0) sa_nil)) se_int) (sa_cons (se_neg se_int) (sa_cons (se_neg se_int) sa_nil)))) (pg_name (i := 4) nd rfl (.inl rfl)) semg_nm
    (ss_one (ss_if (st_cmp (op_neD hr.units) so_ne (se_ix (se_v 3) (se_v 4)) se_int (nomark _))
    (ss_cons (ss_set (i := 5) nd rfl (.inl rfl) (se_ix (se_v 0) (se_v 4)))
    (ss_cons (ss_unp (is := [6, 7, 8]) (se_call C_bezout (hr.mono (by decide)) (by rfl) (sa_cons (se_ix (se_v 5) (se_v 4)) (sa_cons (se_ix (se_v 3) (se_v 4)) sa_nil)) (ar_cons (ar_cons ar_nil))) (pg_tup rfl (pgs_cons (pg_name (i := 6) nd rfl (.inl rfl)) (pgs_cons (pg_name (i := 7) nd rfl (.inl rfl)) (pgs_cons (pg_name (i := 8) nd rfl (.inl rfl)) pgs_nil)))) (semg_tp (is := [6, 7, 8])))
    (ss_cons (ss_set (i := 9) nd rfl (.inl rfl) (se_call C_blend (hr.mono (by decide)) (by rfl) (sa_cons (se_v 5) (sa_cons (se_div (se_ix (se_v 3) (se_v 4)) (se_v 6)) (sa_cons (se_v 3) (sa_cons (se_neg (se_div (se_ix (se_v 5) (se_v 4)) (se_v 6))) sa_nil)))) (ar_cons (ar_cons (ar_cons (ar_cons ar_nil))))))
    (ss_cons (ss_store (i := 0) rfl (by first | exact Or.inl rfl | exact Or.inr (Or.inl rfl) | exact Or.inr (Or.inr rfl)) (se_lc (own := [("number", 10)]) rfl nd (si_val (se_call C_blend (hr.mono (by decide)) (by rfl) (sa_cons (se_v 5) (sa_cons (se_v 7) (sa_cons (se_v 3) (sa_cons (se_v 8) sa_nil)))) (ar_cons (ar_cons (ar_cons (ar_cons ar_nil)))))) (by exact blkOk_by (N := N_put_in_square) (sc := defScope s_put_in_square) (own := [("number", 10)]) (by decide +kernel)) semg_nm (by decide) (fun _ _ _ _ _ => (pg_name (i := 10) nd rfl (by first | exact .inl rfl | exact .inr rfl))) (fun _ _ _ _ _ => sts_nil) (fun _ _ _ _ _ => (se_mod (se_v 10) (se_v 2)))) (se_v 4))
    (ss_one (ss_setLcB (own := [("number", 10)]) (i := 3) rfl nd rfl rfl (sw_true rfl rfl rfl (by decide +kernel)) (j := 9) rfl (by first | exact Or.inl rfl | exact Or.inr (Or.inl rfl) | exact Or.inr (Or.inr rfl)) (by exact blkOk_by (N := N_put_in_square) (sc := defScope s_put_in_square) (own := [("number", 10)]) (by decide +kernel)) semg_nm (by decide) (fun _ _ _ _ _ => (pg_name (i := 10) nd rfl (by first | exact .inl rfl | exact .inr rfl))) (fun _ _ _ _ _ => sts_nil) (fun _ _ _ _ _ => (se_mod (se_v 10) (se_v 2)))))))))
    ss_nil)))))
theorem ok_reduced {f : Addr} {fd : FuncData} (F : Fun K "reduced" "reduced" s_reduced f fd) (Z : Zs mg) (C_blend : FnF P w K mg base "blend" 4 1 f_blend) : FnOk P w K mg base CX0 2 f fd ["rows"] (spF K mg 1 f_reduced) :=
  have nd := sc_reduced.nd
  fn_ok F sc_reduced (by decide) fun cdv A outer s H E hr =>
    (ss_cons (ss_set (i := 1) nd rfl (.inl rfl) (se_lst sa_nil))
    (ss_cons (ss_for PassesOwn.never rfl (si_rng1 (by rfl) Z.range (sa_cons (se_len Z.len (sa_cons (se_v 0) sa_nil)) sa_nil)) (pg_name (i := 2) nd rfl (.inl rfl)) semg_nm
    (ss_cons (ss_set (i := 3) nd rfl (.inl rfl) (se_ix (se_v 0) (se_v 2)))
    (ss_cons (ss_for PassesOwn.never rfl (si_rng3 (by rfl) Z.range (sa_cons (se_sub (se_v 2) se_int) (sa_cons (se_neg se_int) (sa_cons (se_neg se_int) sa_nil)))) (pg_name (i := 4) nd rfl (.inl rfl)) semg_nm
    (ss_one (ss_set (i := 3) nd rfl (.inl rfl) (se_call C_blend (hr.mono (by decide)) (by rfl) (sa_cons (se_v 3) (sa_cons se_int (sa_cons (se_ix (se_v 1) (se_v 4)) (sa_cons (se_neg (se_div (se_ix (se_v 3) (se_v 4)) (se_ix (se_ix (se_v 1) (se_v 4)) (se_v 4)))) sa_nil)))) (ar_cons (ar_cons (ar_cons (ar_cons ar_nil))))))))
    (ss_one (ss_expr (se_mut (i := 1) PySem.F.slot_list_append PySem.F.type_list_append mt_append sm_append rfl (by first | exact Or.inl rfl | exact Or.inr (Or.inl rfl) | exact Or.inr (Or.inr rfl)) (sa_cons (se_ttuple Z.tuple (sa_cons (se_v 3) sa_nil)) sa_nil)))))))
    (ss_one (ss_ret (se_v 1)))))
theorem ok_ground {f : Addr} {fd : FuncData} (F : Fun K "ground" "ground" s_ground f fd) (Z : Zs mg) (C_reduced : FnF P w K mg base "reduced" 1 2 f_reduced) (C_put_in_square : FnF P w K mg base "put_in_square" 3 2 f_put_in_square) : FnOk P w K mg base CX0 3 f fd ["long", "lines", "rest"] (spF K mg 3 f_ground) :=
  have nd := sc_ground.nd
  fn_ok F sc_ground (by decide) fun cdv A outer s H E hr =>
    (ss_cons (ss_setLc (own := [("at", 5)]) (i := 3) rfl nd rfl rfl (sw_true rfl rfl rfl (by decide +kernel)) (si_rng1 (by rfl) Z.range (sa_cons (se_v 0) sa_nil)) (by exact blkOk_by (N := N_ground) (sc := defScope s_ground) (own := [("at", 5)]) (by decide +kernel)) semg_nm (by decide) (fun _ _ _ _ _ => (pg_name (i := 5) nd rfl (by first | exact .inl rfl | exact .inr rfl))) (fun _ _ _ _ _ => sts_nil) (fun _ _ _ _ _ => (se_lc (own := [("place", 6)]) rfl nd (si_rng1 (by rfl) Z.range (sa_cons (se_v 0) sa_nil)) (by refine blkOk_in (N := N_ground) (sc0 := defScope s_ground) (own := [("place", 6)]) rfl ?_; decide +kernel) semg_nm (by decide) (fun _ _ _ _ _ => (pg_name (i := 6) nd rfl (by first | exact .inl rfl | exact .inr rfl))) (fun _ _ _ _ _ => sts_nil) (fun _ _ _ _ _ => (se_mul (se_v 2) (se_tint Z.int (sa_cons (se_cmp (op_eqD hr.units) so_eq (se_v 6) (se_v 5) (nomark _)) sa_nil)))))))
    (ss_cons (ss_forB (i := 1) PassesOwn.never rfl rfl (by first | exact Or.inl rfl | exact Or.inr (Or.inl rfl) | exact Or.inr (Or.inr rfl)) (pg_name (i := 4) nd rfl (.inl rfl)) semg_nm
    (ss_one (ss_expr (se_call C_put_in_square (hr.mono (by decide)) (by rfl) (sa_cons (se_v 3) (sa_cons (se_v 4) (sa_cons (se_v 2) sa_nil))) (ar_cons (ar_cons (ar_cons ar_nil)))))))
    (ss_one (ss_ret (se_call C_reduced (hr.mono (by decide)) (by rfl) (sa_cons (se_v 3) sa_nil) (ar_cons ar_nil))))))
theorem ok_l_cell_at {f : Addr} {fd : FuncData} (F : Fun K "_law_cell_at" "_law_cell_at" s_l_cell_at f fd) (Z : Zs mg)  : FnOk P w K mg base CX0 1 f fd ["_law_script", "_law_k"] (spF K mg 2 f_l_cell_at) :=
  have nd := sc_l_cell_at.nd
  fn_ok F sc_l_cell_at (by decide) fun cdv A outer s H E hr =>
    (ss_cons (ss_if (st_cmp op_lt so_cmp (se_v 1) (se_scLen (i := 0) (by rfl) Z.len rfl (by first | exact Or.inl rfl | exact Or.inr (Or.inl rfl) | exact Or.inr (Or.inr rfl))) (nomark _))
    (ss_one (ss_ret (se_scIx (i := 0) rfl (by first | exact Or.inl rfl | exact Or.inr (Or.inl rfl) | exact Or.inr (Or.inr rfl)) (se_v 1))))
    ss_nil)
    (ss_one (ss_ret se_int)))
theorem ok_l_stream {f : Addr} {fd : FuncData} (F : Fun K "_law_stream" "_law_stream" s_l_stream f fd) (Z : Zs mg)  : FnOk P w K mg base CX0 1 f fd ["_law_cell", "_law_salt", "_law_many"] (spF K mg 3 f_l_stream) :=
  have nd := sc_l_stream.nd
  fn_ok F sc_l_stream (by decide) fun cdv A outer s H E hr =>
    (ss_cons (ss_set (i := 3) nd rfl (.inl rfl) (se_mod (se_add (se_add (se_mod (se_v 0) se_int) (se_mul se_int (se_v 1))) se_int) se_int))
    (ss_cons (ss_set (i := 4) nd rfl (.inl rfl) (se_lst sa_nil))
    (ss_cons (ss_for PassesOwn.never rfl (si_rng1 (by rfl) Z.range (sa_cons (se_v 2) sa_nil)) (pg_name (i := 5) nd rfl (.inl rfl)) semg_nm
    (ss_cons (ss_set (i := 3) nd rfl (.inl rfl) (se_mod (se_add (se_add (se_add (se_mul (se_v 3) (se_v 3)) (se_mul se_int (se_v 3))) (se_mul se_int (se_v 5))) (se_v 1)) se_int))
    (ss_one (ss_expr (se_mut (i := 4) PySem.F.slot_list_append PySem.F.type_list_append mt_append sm_append rfl (by first | exact Or.inl rfl | exact Or.inr (Or.inl rfl) | exact Or.inr (Or.inr rfl)) (sa_cons (se_div (se_v 3) se_int) sa_nil))))))
    (ss_one (ss_ret (se_v 4))))))
theorem ok_l_is_square {f : Addr} {fd : FuncData} (F : Fun K "_law_is_square" "_law_is_square" s_l_is_square f fd) (Z : Zs mg)  : FnOk P w K mg base CX0 1 f fd ["_law_found", "_law_long"] (spF K mg 2 f_l_is_square) :=
  have nd := sc_l_is_square.nd
  fn_ok F sc_l_is_square (by decide) fun cdv A outer s H E hr =>
    (ss_cons (ss_if (st_of (sw_or (st_not (st_val (se_isi (T := "list") (by decide) Z.isinstance Z.list bt_list (se_v 0)))) (sw_or1 (st_cmp (op_neD hr.units) so_ne (se_len Z.len (sa_cons (se_v 0) sa_nil)) (se_v 1) (nomark _)))))
    (ss_one (ss_ret se_bl))
    ss_nil)
    (ss_cons (ss_for PassesOwn.never rfl (si_rng1 (by rfl) Z.range (sa_cons (se_v 1) sa_nil)) (pg_name (i := 2) nd rfl (.inl rfl)) semg_nm
    (ss_cons (ss_set (i := 3) nd rfl (.inr rfl) (se_ix (se_v 0) (se_v 2)))
    (ss_cons (ss_if (st_of (sw_or (st_not (st_val (se_isi (T := "tuple") (by decide) Z.isinstance Z.tuple bt_tuple (se_v 3)))) (sw_or1 (st_cmp (op_neD hr.units) so_ne (se_len Z.len (sa_cons (se_v 3) sa_nil)) (se_v 1) (nomark _)))))
    (ss_one (ss_ret se_bl))
    ss_nil)
    (ss_cons (ss_if (st_of (sw_or (st_cmp op_gt so_cmp (se_len Z.len (sa_cons (se_lcB (own := [("_law_x", 4)]) rfl nd (j := 3) rfl (by first | exact Or.inl rfl | exact Or.inr (Or.inl rfl) | exact Or.inr (Or.inr rfl)) (by exact blkOk_by (N := N_l_is_square) (sc := defScope s_l_is_square) (own := [("_law_x", 4)]) (by decide +kernel)) semg_nm (by decide) (fun _ _ _ _ _ => (pg_name (i := 4) nd rfl (by first | exact .inl rfl | exact .inr rfl))) (fun _ _ _ _ _ => (sts_one (st_of (sw_or (st_not (st_val (se_isi (T := "int") (by decide) Z.isinstance Z.int bt_int (se_v 4)))) (sw_or1 (st_val (se_isi (T := "bool") (by decide) Z.isinstance Z.bool bt_bool (se_v 4)))))))) (fun _ _ _ _ _ => (se_v 4))) sa_nil)) se_int (nomark _)) (sw_or1 (st_cmp op_lt so_cmp (se_ix (se_v 3) (se_v 2)) se_int (nomark _)))))
    (ss_one (ss_ret se_bl))
    ss_nil)
    (ss_cons (ss_if (st_cmp op_gt so_cmp (se_len Z.len (sa_cons (se_lc (own := [("_law_place", 5)]) rfl nd (si_rng2 (by rfl) Z.range (sa_cons (se_add (se_v 2) se_int) (sa_cons (se_v 1) sa_nil))) (by exact blkOk_by (N := N_l_is_square) (sc := defScope s_l_is_square) (own := [("_law_place", 5)]) (by decide +kernel)) semg_nm (by decide) (fun _ _ _ _ _ => (pg_name (i := 5) nd rfl (by first | exact .inl rfl | exact .inr rfl))) (fun _ _ _ _ _ => (sts_one (st_cmp (op_neD hr.units) so_ne (se_ix (se_v 3) (se_v 5)) se_int (nomark _)))) (fun _ _ _ _ _ => (se_v 5))) sa_nil)) se_int (nomark _))
    (ss_one (ss_ret se_bl))
    ss_nil)
    (ss_one (ss_if (st_cmp op_gt so_cmp (se_len Z.len (sa_cons (se_lc (own := [("_law_place", 5)]) rfl nd (si_rng1 (by rfl) Z.range (sa_cons (se_v 2) sa_nil)) (by exact blkOk_by (N := N_l_is_square) (sc := defScope s_l_is_square) (own := [("_law_place", 5)]) (by decide +kernel)) semg_nm (by decide) (fun _ _ _ _ _ => (pg_name (i := 5) nd rfl (by first | exact .inl rfl | exact .inr rfl))) (fun _ _ _ _ _ => (sts_one (st_of (sw_or (st_cmp op_lt so_cmp (se_ix (se_v 3) (se_v 5)) se_int (nomark _)) (sw_or1 (st_cmp op_ge so_cmp (se_ix (se_v 3) (se_v 5)) (se_ix (se_ix (se_v 0) (se_v 5)) (se_v 5)) (nomark _))))))) (fun _ _ _ _ _ => (se_v 5))) sa_nil)) se_int (nomark _))
    (ss_one (ss_ret se_bl))
    ss_nil)))))))
    (ss_one (ss_ret se_bl))))
theorem ok_l_in_square {f : Addr} {fd : FuncData} (F : Fun K "_law_in_square" "_law_in_square" s_l_in_square f fd) (Z : Zs mg)  : FnOk P w K mg base CX0 1 f fd ["_law_square", "_law_line"] (spF K mg 2 f_l_in_square) :=
  have nd := sc_l_in_square.nd
  fn_ok F sc_l_in_square (by decide) fun cdv A outer s H E hr =>
    (ss_cons (ss_set (i := 2) nd rfl (.inl rfl) (se_tlist Z.list (sa_cons (se_v 1) sa_nil)))
    (ss_cons (ss_for PassesOwn.never rfl (si_rng3 (by rfl) Z.range (sa_cons (se_sub (se_len Z.len (sa_cons (se_v 1) sa_nil)) se_int) (sa_cons (se_neg se_int) (sa_cons (se_neg se_int) sa_nil)))) (pg_name (i := 3) nd rfl (.inl rfl)) semg_nm
    (ss_cons (ss_if (st_cmp (op_neD hr.units) so_ne (se_mod (se_ix (se_v 2) (se_v 3)) (se_ix (se_ix (se_v 0) (se_v 3)) (se_v 3))) se_int (nomark _))
    (ss_one (ss_ret se_bl))
    ss_nil)
    (ss_cons (ss_set (i := 4) nd rfl (.inr rfl) (se_div (se_ix (se_v 2) (se_v 3)) (se_ix (se_ix (se_v 0) (se_v 3)) (se_v 3))))
    (ss_one (ss_setLc (own := [("_law_x", 5), ("_law_y", 6)]) (i := 2) rfl nd rfl rfl (sw_true rfl rfl rfl (by decide +kernel)) (si_zip (by rfl) Z.zip (sa_cons (se_v 2) (sa_cons (se_ix (se_v 0) (se_v 3)) sa_nil))) (by exact blkOk_by (N := N_l_in_square) (sc := defScope s_l_in_square) (own := [("_law_x", 5), ("_law_y", 6)]) (by decide +kernel)) (semg_tp (is := [5, 6])) (by decide) (fun _ _ _ _ _ => (pg_tup rfl (pgs_cons (pg_name (i := 5) nd rfl (by first | exact .inl rfl | exact .inr rfl)) (pgs_cons (pg_name (i := 6) nd rfl (by first | exact .inl rfl | exact .inr rfl)) pgs_nil)))) (fun _ _ _ _ _ => sts_nil) (fun _ _ _ _ _ => (se_sub (se_v 5) (se_mul (se_v 4) (se_v 6)))))))))
    (ss_one (ss_ret se_bl))))
theorem ok_l_case {f : Addr} {fd : FuncData} (F : Fun K "_law_case" "_law_case" s_l_case f fd) (Z : Zs mg) (C_l_stream : FnF P w K mg base "_law_stream" 3 1 f_l_stream) (C_l_cell_at : FnF P w K mg base "_law_cell_at" 2 1 f_l_cell_at) : FnOk P w K mg base CX0 2 f fd ["_law_script"] (spF K mg 1 f_l_case) :=
  have nd := sc_l_case.nd
  fn_ok F sc_l_case (by decide) fun cdv A outer s H E hr =>
    (ss_cons (ss_set (i := 1) nd rfl (.inl rfl) (se_call C_l_cell_at (hr.mono (by decide)) (by rfl) (sa_cons (se_v 0) (sa_cons se_int sa_nil)) (ar_cons (ar_cons ar_nil))))
    (ss_cons (ss_set (i := 2) nd rfl (.inl rfl) (se_add se_int (se_mod (se_v 1) se_int)))
    (ss_cons (ss_set (i := 3) nd rfl (.inr rfl) (se_ix (se_lst (sa_cons se_int (sa_cons se_int (sa_cons se_int (sa_cons se_int (sa_cons se_int (sa_cons se_int (sa_cons se_int (sa_cons se_int sa_nil))))))))) (se_mod (se_div (se_v 1) se_int) se_int)))
    (ss_cons (ss_if (st_cmp (op_eqD hr.units) so_eq (se_mod (se_div (se_v 1) se_int) se_int) se_int (nomark _))
    (ss_cons (ss_set (i := 2) nd rfl (.inl rfl) (se_add se_int (se_mod (se_div (se_v 1) se_int) se_int)))
    (ss_one (ss_set (i := 3) nd rfl (.inr rfl) (se_add se_int (se_mod (se_div (se_v 1) se_int) se_int)))))
    ss_nil)
    (ss_cons (ss_set (i := 4) nd rfl (.inl rfl) (se_lst sa_nil))
    (ss_cons (ss_for PassesOwn.never rfl (si_rng1 (by rfl) Z.range (sa_cons (se_mod (se_div (se_v 1) se_int) se_int) sa_nil)) (pg_name (i := 5) nd rfl (.inl rfl)) semg_nm
    (ss_cons (ss_set (i := 6) nd rfl (.inr rfl) (se_call C_l_stream (hr.mono (by decide)) (by rfl) (sa_cons (se_call C_l_cell_at (hr.mono (by decide)) (by rfl) (sa_cons (se_v 0) (sa_cons (se_add se_int (se_v 5)) sa_nil)) (ar_cons (ar_cons ar_nil))) (sa_cons (se_v 5) (sa_cons (se_add (se_v 2) se_int) sa_nil))) (ar_cons (ar_cons (ar_cons ar_nil)))))
    (ss_cons (ss_setLc (own := [("_law_x", 8)]) (i := 7) rfl nd rfl rfl (sw_true rfl rfl rfl (by decide +kernel)) (si_val (se_slice (se_v 6) (so_some se_int) so_none)) (by exact blkOk_by (N := N_l_case) (sc := defScope s_l_case) (own := [("_law_x", 8)]) (by decide +kernel)) semg_nm (by decide) (fun _ _ _ _ _ => (pg_name (i := 8) nd rfl (by first | exact .inl rfl | exact .inr rfl))) (fun _ _ _ _ _ => sts_nil) (fun _ _ _ _ _ => (se_mod (se_v 8) (se_ix (se_lst (sa_cons se_int (sa_cons (se_mul se_int (se_v 3)) (sa_cons (se_pow se_int se_int) sa_nil)))) (se_mod (se_ix (se_v 6) se_int) se_int)))))
    (ss_cons (ss_if (st_cmp (op_eqD hr.units) so_eq (se_mod (se_div (se_ix (se_v 6) se_int) se_int) se_int) se_int (nomark _))
    (ss_one (ss_setLcB (own := [("_law_x", 8)]) (i := 7) rfl nd rfl rfl (sw_true rfl rfl rfl (by decide +kernel)) (j := 7) rfl (by first | exact Or.inl rfl | exact Or.inr (Or.inl rfl) | exact Or.inr (Or.inr rfl)) (by exact blkOk_by (N := N_l_case) (sc := defScope s_l_case) (own := [("_law_x", 8)]) (by decide +kernel)) semg_nm (by decide) (fun _ _ _ _ _ => (pg_name (i := 8) nd rfl (by first | exact .inl rfl | exact .inr rfl))) (fun _ _ _ _ _ => sts_nil) (fun _ _ _ _ _ => (se_sub (se_mul (se_v 8) (se_ix (se_lst (sa_cons se_int (sa_cons se_int (sa_cons se_int sa_nil)))) (se_mod (se_div (se_ix (se_v 6) se_int) se_int) se_int))) (se_mul (se_v 3) (se_mod (se_v 8) se_int))))))
    ss_nil)
    (ss_one (ss_expr (se_mut (i := 4) PySem.F.slot_list_append PySem.F.type_list_append mt_append sm_append rfl (by first | exact Or.inl rfl | exact Or.inr (Or.inl rfl) | exact Or.inr (Or.inr rfl)) (sa_cons (se_ttuple Z.tuple (sa_cons (se_v 7) sa_nil)) sa_nil))))))))
    (ss_one (ss_ret (se_tup (sa_cons (se_v 2) (sa_cons (se_v 3) (sa_cons (se_v 4) sa_nil))))))))))))
theorem ok_l_sums {f : Addr} {fd : FuncData} (F : Fun K "_law_sums" "_law_sums" s_l_sums f fd) (Z : Zs mg)  : FnOk P w K mg base CX0 1 f fd ["_law_long", "_law_rest", "_law_lines"] (spF K mg 3 f_l_sums) :=
  have nd := sc_l_sums.nd
  fn_ok F sc_l_sums (by decide) fun cdv A outer s H E hr =>
    (ss_cons (ss_set (i := 3) nd rfl (.inl rfl) (se_tnew (hu_of hr) (se_ttuple Z.tuple (sa_cons (se_mul (se_lst (sa_cons se_int sa_nil)) (se_v 0)) sa_nil)) se_bl))
    (ss_cons (ss_set (i := 4) nd rfl (.inl rfl) (se_lst (sa_cons (se_ttuple Z.tuple (sa_cons (se_mul (se_lst (sa_cons se_int sa_nil)) (se_v 0)) sa_nil)) sa_nil)))
    (ss_cons (ss_while (fun _ => 4000000) PassesOwn.never (st_cmp op_gt so_cmp (se_len Z.len (sa_cons (se_v 4) sa_nil)) se_int (nomark _))
    (ss_cons (ss_set (i := 5) nd rfl (.inl rfl) (se_mut0 (i := 4) PySem.F.slot_list_pop PySem.F.type_list_pop mt_pop sm_pop rfl (by first | exact Or.inl rfl | exact Or.inr (Or.inl rfl) | exact Or.inr (Or.inr rfl))))
    (ss_one (ss_forB (i := 2) PassesOwn.never rfl rfl (by first | exact Or.inl rfl | exact Or.inr (Or.inl rfl) | exact Or.inr (Or.inr rfl)) (pg_name (i := 6) nd rfl (.inl rfl)) semg_nm
    (ss_cons (ss_set (i := 7) nd rfl (.inl rfl) (se_ttuple Z.tuple (sa_cons (se_lcZ (own := [("_law_x", 8), ("_law_y", 9)]) rfl nd (by rfl) Z.zip (i := 5) (j := 6) rfl (by first | exact Or.inl rfl | exact Or.inr (Or.inl rfl) | exact Or.inr (Or.inr rfl)) rfl (by first | exact Or.inl rfl | exact Or.inr (Or.inl rfl) | exact Or.inr (Or.inr rfl)) (by exact blkOk_by (N := N_l_sums) (sc := defScope s_l_sums) (own := [("_law_x", 8), ("_law_y", 9)]) (by decide +kernel)) (semg_tp (is := [8, 9])) (by decide) (fun _ _ _ _ _ => (pg_tup rfl (pgs_cons (pg_name (i := 8) nd rfl (by first | exact .inl rfl | exact .inr rfl)) (pgs_cons (pg_name (i := 9) nd rfl (by first | exact .inl rfl | exact .inr rfl)) pgs_nil)))) (fun _ _ _ _ _ => sts_nil) (fun _ _ _ _ _ => (se_mod (se_add (se_v 8) (se_v 9)) (se_v 1)))) sa_nil)))
    (ss_one (ss_if (st_tnotin (i := 3) (hu_of hr) rfl (by first | exact Or.inl rfl | exact Or.inr (Or.inl rfl) | exact Or.inr (Or.inr rfl)) (se_v 7))
    (ss_cons (ss_tput (i := 3) (hu_of hr) rfl (by first | exact Or.inl rfl | exact Or.inr (Or.inl rfl) | exact Or.inr (Or.inr rfl)) se_bl (se_v 7))
    (ss_one (ss_expr (se_mut (i := 4) PySem.F.slot_list_append PySem.F.type_list_append mt_append sm_append rfl (by first | exact Or.inl rfl | exact Or.inr (Or.inl rfl) | exact Or.inr (Or.inr rfl)) (sa_cons (se_v 7) sa_nil)))))
    ss_nil)))))))
    (ss_one (ss_ret (se_tlen (i := 3) Z.len rfl (by first | exact Or.inl rfl | exact Or.inr (Or.inl rfl) | exact Or.inr (Or.inr rfl))))))))
theorem ok_law {f : Addr} {fd : FuncData} (F : Fun K "law" "law" s_law f fd) (Z : Zs mg) (C_ground : FnF P w K mg base "ground" 3 3 f_ground) (C_l_sums : FnF P w K mg base "_law_sums" 3 1 f_l_sums) (C_l_in_square : FnF P w K mg base "_law_in_square" 2 1 f_l_in_square) (C_l_is_square : FnF P w K mg base "_law_is_square" 2 1 f_l_is_square) (C_l_case : FnF P w K mg base "_law_case" 1 2 f_l_case) : FnOk P w K mg base CX0 4 f fd ["_law_script"] (spF K mg 1 f_law) :=
  have nd := sc_law.nd
  fn_ok F sc_law (by decide) fun cdv A outer s H E hr =>
    (ss_cons (ss_unp (is := [1, 2, 3]) (se_call C_l_case (hr.mono (by decide)) (by rfl) (sa_cons (se_v 0) sa_nil) (ar_cons ar_nil)) (pg_tup rfl (pgs_cons (pg_name (i := 1) nd rfl (.inr rfl)) (pgs_cons (pg_name (i := 2) nd rfl (.inr rfl)) (pgs_cons (pg_name (i := 3) nd rfl (.inl rfl)) pgs_nil)))) (semg_tp (is := [1, 2, 3])))
    (ss_cons (ss_set (i := 4) nd rfl (.inl rfl) (se_tlist Z.list (sa_cons (se_v 3) sa_nil)))
    (ss_cons (ss_set (i := 5) nd rfl (.inl rfl) (se_call C_ground (hr.mono (by decide)) (by rfl) (sa_cons (se_v 1) (sa_cons (se_v 4) (sa_cons (se_v 2) sa_nil))) (ar_cons (ar_cons (ar_cons ar_nil)))))
    (ss_cons (ss_if (st_of (sw_or (st_not (st_val (se_call C_l_is_square (hr.mono (by decide)) (by rfl) (sa_cons (se_v 5) (sa_cons (se_v 1) sa_nil)) (ar_cons (ar_cons ar_nil))))) (sw_or1 (st_cmp (op_neD hr.units) so_ne (se_v 4) (se_v 3) (nomark _)))))
    (ss_one (ss_ret se_bl))
    ss_nil)
    (ss_cons (ss_setLc (own := [("_law_place", 12)]) (i := 6) rfl nd rfl rfl (sw_true rfl rfl rfl (by decide +kernel)) (si_rng1 (by rfl) Z.range (sa_cons (se_v 1) sa_nil)) (by exact blkOk_by (N := N_law) (sc := defScope s_law) (own := [("_law_place", 12)]) (by decide +kernel)) semg_nm (by decide) (fun _ _ _ _ _ => (pg_name (i := 12) nd rfl (by first | exact .inl rfl | exact .inr rfl))) (fun _ _ _ _ _ => sts_nil) (fun _ _ _ _ _ => (se_ttuple Z.tuple (sa_cons (se_lc (own := [("_law_k", 9)]) rfl nd (si_rng1 (by rfl) Z.range (sa_cons (se_v 1) sa_nil)) (by refine blkOk_in (N := N_law) (sc0 := defScope s_law) (own := [("_law_k", 9)]) rfl ?_; decide +kernel) semg_nm (by decide) (fun _ _ _ _ _ => (pg_name (i := 9) nd rfl (by first | exact .inl rfl | exact .inr rfl))) (fun _ _ _ _ _ => sts_nil) (fun _ _ _ _ _ => (se_mul (se_v 2) (se_tint Z.int (sa_cons (se_cmp (op_eqD hr.units) so_eq (se_v 9) (se_v 12) (nomark _)) sa_nil))))) sa_nil))))
    (ss_cons (ss_set (i := 7) nd rfl (.inl rfl) se_int)
    (ss_cons (ss_set (i := 8) nd rfl (.inl rfl) se_int)
    (ss_cons (ss_for PassesOwn.never rfl (si_rng1 (by rfl) Z.range (sa_cons (se_v 1) sa_nil)) (pg_name (i := 9) nd rfl (.inl rfl)) semg_nm
    (ss_cons (ss_set (i := 7) nd rfl (.inl rfl) (se_mul (se_v 7) (se_ix (se_ix (se_v 5) (se_v 9)) (se_v 9))))
    (ss_one (ss_set (i := 8) nd rfl (.inl rfl) (se_mul (se_v 8) (se_v 2))))))
    (ss_cons (ss_for PassesOwn.never rfl (si_val (se_add (se_v 3) (se_v 6))) (pg_name (i := 10) nd rfl (.inl rfl)) semg_nm
    (ss_one (ss_if (st_not (st_val (se_call C_l_in_square (hr.mono (by decide)) (by rfl) (sa_cons (se_v 5) (sa_cons (se_v 10) sa_nil)) (ar_cons (ar_cons ar_nil)))))
    (ss_one (ss_ret se_bl))
    ss_nil)))
    (ss_cons (ss_if (st_cmp (op_neD hr.units) so_ne (se_mul (se_call C_l_sums (hr.mono (by decide)) (by rfl) (sa_cons (se_v 1) (sa_cons (se_v 2) (sa_cons (se_v 3) sa_nil))) (ar_cons (ar_cons (ar_cons ar_nil)))) (se_v 7)) (se_v 8) (nomark _))
    (ss_one (ss_ret se_bl))
    ss_nil)
    (ss_cons (ss_set (i := 11) nd rfl (.inl rfl) (se_tlist Z.list (sa_cons (se_v 5) sa_nil)))
    (ss_cons (ss_expr (se_mut0 (i := 5) PySem.F.slot_list_clear PySem.F.type_list_clear mt_clear sm_clear rfl (by first | exact Or.inl rfl | exact Or.inr (Or.inl rfl) | exact Or.inr (Or.inr rfl))))
    (ss_one (ss_ret (se_and (se_cmp (op_eqD hr.units) so_eq (se_call C_ground (hr.mono (by decide)) (by rfl) (sa_cons (se_v 1) (sa_cons (se_lrev rfl (by rfl) Z.list (by rfl) Z.reversed (se_v 3)) (sa_cons (se_v 2) sa_nil))) (ar_cons (ar_cons (ar_cons ar_nil)))) (se_v 11) (nomark _)) (se_one (se_cmp (op_eqD hr.units) so_eq (se_call C_ground (hr.mono (by decide)) (by rfl) (sa_cons (se_v 1) (sa_cons (se_lst sa_nil) (sa_cons (se_v 2) sa_nil))) (ar_cons (ar_cons (ar_cons ar_nil)))) (se_v 6) (nomark _))))))))))))))))))
end

theorem all_mk {l : PySem.W.OpenLaw} {w : World} {K : PySem.W.Frag} {h : Heap} {mg : Str → Option Value} {fa : Addr} {f0 f1 f2 f3 f4 f5 f6 f7 f8 f9 f10 f11 : Addr} {od0 an0 od1 an1 od2 an2 od3 an3 od4 an4 od5 an5 od6 an6 od7 an7 od8 an8 od9 an9 od10 an10 od11 an11 : Option Addr} {sl0 sl1 sl2 sl3 sl4 sl5 sl6 sl7 sl8 sl9 sl10 sl11 : Array (Option Value)} {oc0 kV0 dc0 pm0 cd0 ct0 oc1 kV1 dc1 pm1 cd1 ct1 oc2 kV2 dc2 pm2 cd2 ct2 oc3 kV3 dc3 pm3 cd3 ct3 oc4 kV4 dc4 pm4 cd4 ct4 oc5 kV5 dc5 pm5 cd5 ct5 oc6 kV6 dc6 pm6 cd6 ct6 oc7 kV7 dc7 pm7 cd7 ct7 oc8 kV8 dc8 pm8 cd8 ct8 oc9 kV9 dc9 pm9 cd9 ct9 oc10 kV10 dc10 pm10 cd10 ct10 oc11 kV11 dc11 pm11 cd11 ct11 : Value} (X : K.In h) (G : h.Ns mainGlobals mg) (hfa : mg "law" = some (.ref fa))
    (a0 : PySem.W.nsIn K mainGlobals "bezout" = some (some (.ref f0))) (l0 : K.lookup f0 = some ⟨oc0, od0, .func (PySem.W.fnOf "bezout" "bezout" (defArgs s_bezout) (defBody s_bezout) (defScope s_bezout) .none kV0 dc0 pm0 an0 cd0 ct0), sl0⟩) (c0 : PySem.W.codeIn K cd0 "bezout" = true) (k0 : PySem.W.keepIn K (.ref f0) = true)
    (a1 : PySem.W.nsIn K mainGlobals "blend" = some (some (.ref f1))) (l1 : K.lookup f1 = some ⟨oc1, od1, .func (PySem.W.fnOf "blend" "blend" (defArgs s_blend) (defBody s_blend) (defScope s_blend) .none kV1 dc1 pm1 an1 cd1 ct1), sl1⟩) (c1 : PySem.W.codeIn K cd1 "blend" = true) (k1 : PySem.W.keepIn K (.ref f1) = true)
    (a2 : PySem.W.nsIn K mainGlobals "put_in_square" = some (some (.ref f2))) (l2 : K.lookup f2 = some ⟨oc2, od2, .func (PySem.W.fnOf "put_in_square" "put_in_square" (defArgs s_put_in_square) (defBody s_put_in_square) (defScope s_put_in_square) .none kV2 dc2 pm2 an2 cd2 ct2), sl2⟩) (c2 : PySem.W.codeIn K cd2 "put_in_square" = true) (k2 : PySem.W.keepIn K (.ref f2) = true)
    (a3 : PySem.W.nsIn K mainGlobals "reduced" = some (some (.ref f3))) (l3 : K.lookup f3 = some ⟨oc3, od3, .func (PySem.W.fnOf "reduced" "reduced" (defArgs s_reduced) (defBody s_reduced) (defScope s_reduced) .none kV3 dc3 pm3 an3 cd3 ct3), sl3⟩) (c3 : PySem.W.codeIn K cd3 "reduced" = true) (k3 : PySem.W.keepIn K (.ref f3) = true)
    (a4 : PySem.W.nsIn K mainGlobals "ground" = some (some (.ref f4))) (l4 : K.lookup f4 = some ⟨oc4, od4, .func (PySem.W.fnOf "ground" "ground" (defArgs s_ground) (defBody s_ground) (defScope s_ground) .none kV4 dc4 pm4 an4 cd4 ct4), sl4⟩) (c4 : PySem.W.codeIn K cd4 "ground" = true) (k4 : PySem.W.keepIn K (.ref f4) = true)
    (a5 : PySem.W.nsIn K mainGlobals "_law_cell_at" = some (some (.ref f5))) (l5 : K.lookup f5 = some ⟨oc5, od5, .func (PySem.W.fnOf "_law_cell_at" "_law_cell_at" (defArgs s_l_cell_at) (defBody s_l_cell_at) (defScope s_l_cell_at) .none kV5 dc5 pm5 an5 cd5 ct5), sl5⟩) (c5 : PySem.W.codeIn K cd5 "_law_cell_at" = true) (k5 : PySem.W.keepIn K (.ref f5) = true)
    (a6 : PySem.W.nsIn K mainGlobals "_law_stream" = some (some (.ref f6))) (l6 : K.lookup f6 = some ⟨oc6, od6, .func (PySem.W.fnOf "_law_stream" "_law_stream" (defArgs s_l_stream) (defBody s_l_stream) (defScope s_l_stream) .none kV6 dc6 pm6 an6 cd6 ct6), sl6⟩) (c6 : PySem.W.codeIn K cd6 "_law_stream" = true) (k6 : PySem.W.keepIn K (.ref f6) = true)
    (a7 : PySem.W.nsIn K mainGlobals "_law_is_square" = some (some (.ref f7))) (l7 : K.lookup f7 = some ⟨oc7, od7, .func (PySem.W.fnOf "_law_is_square" "_law_is_square" (defArgs s_l_is_square) (defBody s_l_is_square) (defScope s_l_is_square) .none kV7 dc7 pm7 an7 cd7 ct7), sl7⟩) (c7 : PySem.W.codeIn K cd7 "_law_is_square" = true) (k7 : PySem.W.keepIn K (.ref f7) = true)
    (a8 : PySem.W.nsIn K mainGlobals "_law_in_square" = some (some (.ref f8))) (l8 : K.lookup f8 = some ⟨oc8, od8, .func (PySem.W.fnOf "_law_in_square" "_law_in_square" (defArgs s_l_in_square) (defBody s_l_in_square) (defScope s_l_in_square) .none kV8 dc8 pm8 an8 cd8 ct8), sl8⟩) (c8 : PySem.W.codeIn K cd8 "_law_in_square" = true) (k8 : PySem.W.keepIn K (.ref f8) = true)
    (a9 : PySem.W.nsIn K mainGlobals "_law_case" = some (some (.ref f9))) (l9 : K.lookup f9 = some ⟨oc9, od9, .func (PySem.W.fnOf "_law_case" "_law_case" (defArgs s_l_case) (defBody s_l_case) (defScope s_l_case) .none kV9 dc9 pm9 an9 cd9 ct9), sl9⟩) (c9 : PySem.W.codeIn K cd9 "_law_case" = true) (k9 : PySem.W.keepIn K (.ref f9) = true)
    (a10 : PySem.W.nsIn K mainGlobals "_law_sums" = some (some (.ref f10))) (l10 : K.lookup f10 = some ⟨oc10, od10, .func (PySem.W.fnOf "_law_sums" "_law_sums" (defArgs s_l_sums) (defBody s_l_sums) (defScope s_l_sums) .none kV10 dc10 pm10 an10 cd10 ct10), sl10⟩) (c10 : PySem.W.codeIn K cd10 "_law_sums" = true) (k10 : PySem.W.keepIn K (.ref f10) = true)
    (a11 : PySem.W.nsIn K mainGlobals "law" = some (some (.ref f11))) (l11 : K.lookup f11 = some ⟨oc11, od11, .func (PySem.W.fnOf "law" "law" (defArgs s_law) (defBody s_law) (defScope s_law) .none kV11 dc11 pm11 an11 cd11 ct11), sl11⟩) (c11 : PySem.W.codeIn K cd11 "law" = true) (k11 : PySem.W.keepIn K (.ref f11) = true)
    (z0 : PySem.W.nsIn K mainGlobals "tuple" = some none)
    (z1 : PySem.W.nsIn K mainGlobals "zip" = some none)
    (z2 : PySem.W.nsIn K mainGlobals "range" = some none)
    (z3 : PySem.W.nsIn K mainGlobals "len" = some none)
    (z4 : PySem.W.nsIn K mainGlobals "int" = some none)
    (z5 : PySem.W.nsIn K mainGlobals "isinstance" = some none)
    (z6 : PySem.W.nsIn K mainGlobals "bool" = some none)
    (z7 : PySem.W.nsIn K mainGlobals "list" = some none)
    (z8 : PySem.W.nsIn K mainGlobals "reversed" = some none) :
    ∃ fd : FuncData, (∀ (s : Shared) (v : Value), BindsTo s fd ⟨[v], []⟩ [("_law_script", v)]) ∧ ∀ base : Heap, K.In base → base.Ns mainGlobals mg → FnOk l.prog w K mg base CX0 4 fa fd ["_law_script"] (spLaw K) := by
  have e := hfa.symm.trans (PySem.W.mg_of X G a11)
  cases e
  have Z : Zs mg := ⟨PySem.W.mg_none_of X G z0, PySem.W.mg_none_of X G z1, PySem.W.mg_none_of X G z2, PySem.W.mg_none_of X G z3, PySem.W.mg_none_of X G z4, PySem.W.mg_none_of X G z5, PySem.W.mg_none_of X G z6, PySem.W.mg_none_of X G z7, PySem.W.mg_none_of X G z8⟩
  have F0 := fun_mk (st := s_bezout) l0 c0 k0
  have b0 := F0.binds (ps := ["one", "other"]) fun _ _ _ _ _ _ us hl => match us, hl with | [_, _], _ => rfl
  have F1 := fun_mk (st := s_blend) l1 c1 k1
  have b1 := F1.binds (ps := ["one", "many", "other", "much"]) fun _ _ _ _ _ _ us hl => match us, hl with | [_, _, _, _], _ => rfl
  have F2 := fun_mk (st := s_put_in_square) l2 c2 k2
  have b2 := F2.binds (ps := ["rows", "line", "rest"]) fun _ _ _ _ _ _ us hl => match us, hl with | [_, _, _], _ => rfl
  have F3 := fun_mk (st := s_reduced) l3 c3 k3
  have b3 := F3.binds (ps := ["rows"]) fun _ _ _ _ _ _ us hl => match us, hl with | [_], _ => rfl
  have F4 := fun_mk (st := s_ground) l4 c4 k4
  have b4 := F4.binds (ps := ["long", "lines", "rest"]) fun _ _ _ _ _ _ us hl => match us, hl with | [_, _, _], _ => rfl
  have F5 := fun_mk (st := s_l_cell_at) l5 c5 k5
  have b5 := F5.binds (ps := ["_law_script", "_law_k"]) fun _ _ _ _ _ _ us hl => match us, hl with | [_, _], _ => rfl
  have F6 := fun_mk (st := s_l_stream) l6 c6 k6
  have b6 := F6.binds (ps := ["_law_cell", "_law_salt", "_law_many"]) fun _ _ _ _ _ _ us hl => match us, hl with | [_, _, _], _ => rfl
  have F7 := fun_mk (st := s_l_is_square) l7 c7 k7
  have b7 := F7.binds (ps := ["_law_found", "_law_long"]) fun _ _ _ _ _ _ us hl => match us, hl with | [_, _], _ => rfl
  have F8 := fun_mk (st := s_l_in_square) l8 c8 k8
  have b8 := F8.binds (ps := ["_law_square", "_law_line"]) fun _ _ _ _ _ _ us hl => match us, hl with | [_, _], _ => rfl
  have F9 := fun_mk (st := s_l_case) l9 c9 k9
  have b9 := F9.binds (ps := ["_law_script"]) fun _ _ _ _ _ _ us hl => match us, hl with | [_], _ => rfl
  have F10 := fun_mk (st := s_l_sums) l10 c10 k10
  have b10 := F10.binds (ps := ["_law_long", "_law_rest", "_law_lines"]) fun _ _ _ _ _ _ us hl => match us, hl with | [_, _, _], _ => rfl
  have F11 := fun_mk (st := s_law) l11 c11 k11
  refine ⟨PySem.W.fnOf "law" "law" (defArgs s_law) (defBody s_law) (defScope s_law) .none kV11 dc11 pm11 an11 cd11 ct11, fun s v => .of_eq rfl, fun base _ _ => ?_⟩
  have C_bezout : FnF l.prog w K mg base "bezout" 2 1 f_bezout := fnF_mk F0 (PySem.W.mg_of X G a0) b0 (ok_bezout F0 Z )
  have C_blend : FnF l.prog w K mg base "blend" 4 1 f_blend := fnF_mk F1 (PySem.W.mg_of X G a1) b1 (ok_blend F1 Z )
  have C_put_in_square : FnF l.prog w K mg base "put_in_square" 3 2 f_put_in_square := fnF_mk F2 (PySem.W.mg_of X G a2) b2 (ok_put_in_square F2 Z C_blend C_bezout)
  have C_reduced : FnF l.prog w K mg base "reduced" 1 2 f_reduced := fnF_mk F3 (PySem.W.mg_of X G a3) b3 (ok_reduced F3 Z C_blend)
  have C_ground : FnF l.prog w K mg base "ground" 3 3 f_ground := fnF_mk F4 (PySem.W.mg_of X G a4) b4 (ok_ground F4 Z C_reduced C_put_in_square)
  have C_l_cell_at : FnF l.prog w K mg base "_law_cell_at" 2 1 f_l_cell_at := fnF_mk F5 (PySem.W.mg_of X G a5) b5 (ok_l_cell_at F5 Z )
  have C_l_stream : FnF l.prog w K mg base "_law_stream" 3 1 f_l_stream := fnF_mk F6 (PySem.W.mg_of X G a6) b6 (ok_l_stream F6 Z )
  have C_l_is_square : FnF l.prog w K mg base "_law_is_square" 2 1 f_l_is_square := fnF_mk F7 (PySem.W.mg_of X G a7) b7 (ok_l_is_square F7 Z )
  have C_l_in_square : FnF l.prog w K mg base "_law_in_square" 2 1 f_l_in_square := fnF_mk F8 (PySem.W.mg_of X G a8) b8 (ok_l_in_square F8 Z )
  have C_l_case : FnF l.prog w K mg base "_law_case" 1 2 f_l_case := fnF_mk F9 (PySem.W.mg_of X G a9) b9 (ok_l_case F9 Z C_l_stream C_l_cell_at)
  have C_l_sums : FnF l.prog w K mg base "_law_sums" 3 1 f_l_sums := fnF_mk F10 (PySem.W.mg_of X G a10) b10 (ok_l_sums F10 Z )
  exact law_imp (ok_law F11 Z C_ground C_l_sums C_l_in_square C_l_is_square C_l_case) law_true

end EN
open PySem PySem.W PyProof.Rows
set_option maxRecDepth 100000 in
set_option maxHeartbeats 0 in
theorem PySem.Challenge.cw_evennotes_k07_whole_small_grounds_holds : PySem.Challenge.rw_evennotes_k07_whole_small_grounds.Holds := by
  w_on; o_law; k_head; (case hw => w_witness2)
  k_fill
  refine L2.walk_of (l := PySem.Challenge.rw_evennotes_k07_whole_small_grounds) (n := 63) (k := 4) (x := "_law_script") (CX := fun _ => L2.CX0) (sp := fun w => FL.spLaw _) rfl (by decide) rfl ⟨rfl, by decide, by decide⟩ (fun w h Y => PySem.W.kIn_of Y) ?F (fun _ _ a ns hl _ hS => ⟨a, ns, rfl, hS, hl, fun _ => rfl⟩) (fun _ _ _ _ _ h => h)
  case F =>
    intro w mg fa h KX G hmg
    refine' EN.all_mk KX G hmg ?a0 ?l0 ?c0 ?k0 ?a1 ?l1 ?c1 ?k1 ?a2 ?l2 ?c2 ?k2 ?a3 ?l3 ?c3 ?k3 ?a4 ?l4 ?c4 ?k4 ?a5 ?l5 ?c5 ?k5 ?a6 ?l6 ?c6 ?k6 ?a7 ?l7 ?c7 ?k7 ?a8 ?l8 ?c8 ?k8 ?a9 ?l9 ?c9 ?k9 ?a10 ?l10 ?c10 ?k10 ?a11 ?l11 ?c11 ?k11 ?z0 ?z1 ?z2 ?z3 ?z4 ?z5 ?z6 ?z7 ?z8
    (case a0 => k_is)
    (case l0 => k_is)
    (case c0 => k_is)
    (case k0 => k_is)
    (case a1 => k_is)
    (case l1 => k_is)
    (case c1 => k_is)
    (case k1 => k_is)
    (case a2 => k_is)
    (case l2 => k_is)
    (case c2 => k_is)
    (case k2 => k_is)
    (case a3 => k_is)
    (case l3 => k_is)
    (case c3 => k_is)
    (case k3 => k_is)
    (case a4 => k_is)
    (case l4 => k_is)
    (case c4 => k_is)
    (case k4 => k_is)
    (case a5 => k_is)
    (case l5 => k_is)
    (case c5 => k_is)
    (case k5 => k_is)
    (case a6 => k_is)
    (case l6 => k_is)
    (case c6 => k_is)
    (case k6 => k_is)
    (case a7 => k_is)
    (case l7 => k_is)
    (case c7 => k_is)
    (case k7 => k_is)
    (case a8 => k_is)
    (case l8 => k_is)
    (case c8 => k_is)
    (case k8 => k_is)
    (case a9 => k_is)
    (case l9 => k_is)
    (case c9 => k_is)
    (case k9 => k_is)
    (case a10 => k_is)
    (case l10 => k_is)
    (case c10 => k_is)
    (case k10 => k_is)
    (case a11 => k_is)
    (case l11 => k_is)
    (case c11 => k_is)
    (case k11 => k_is)
    (case z0 => k_is)
    (case z1 => k_is)
    (case z2 => k_is)
    (case z3 => k_is)
    (case z4 => k_is)
    (case z5 => k_is)
    (case z6 => k_is)
    (case z7 => k_is)
    (case z8 => k_is)
#print axioms PySem.Challenge.cw_evennotes_k07_whole_small_grounds_holds

